import Derived.Test.YtfllllgehgablaaGreatDoorXsFF
/- What holds in all worlds that events lead to: plain laws over the pure definitions, no program in sight. The conditions stand in each. -/
set_option linter.all false
set_option maxRecDepth 100000
namespace Go.VK
def kH {h:Int}(v:Int)(h0:0<=h/\h<2147483647):∃q,hstep h v=h*1000003+v+13-2147483647*q/\(0<=hstep h v/\hstep h v<2147483647):=by
 obtain⟨h0,h1⟩:=h0
 have hm:=vV (p:=v) (q:=2147483647) (by decide)
 have hv:gK v 2147483647=v%2147483647:=cH (by decide)
 have e:hstep h v=(h*1000003+v+13)%2147483647:=by
  unfold hstep
  rw[aI (n:=h*1000003) (by omega) (by omega),aI (n:=h*1000003+gK v 2147483647) (by omega) (by omega),aI (by omega) (by omega),cp (by omega),hv]
  omega
 rw[e]
 refine⟨(h*1000003+v+13)/2147483647,?_,jl _ (by decide),io _ (by decide)⟩
 have:=Int.emod_add_mul_ediv (h*1000003+v+13) 2147483647
 omega
def bFm (k a b:Int):∃q,bJ k [a,b]=k*1000009000027000028+a*1000006000009+b*1000003+11000145000724001630001411-2147483647*q:=by
 simp only[bJ,tY,cR,fY,cW,cA,bn,dc,ic]
 obtain⟨q0,e0,r0⟩:=kH k (h:=11) ⟨by decide,by decide⟩
 generalize hstep 11 k=y0 at*
 obtain⟨q1,e1,r1⟩:=kH a (h:=y0) r0
 generalize hstep y0 a=y1 at*
 obtain⟨q2,e2,r2⟩:=kH b (h:=y1) r1
 generalize hstep y1 b=y2 at*
 obtain⟨q3,e3,r3⟩:=kH k (h:=y2) r2
 generalize hstep y2 k=y3 at*
 exact⟨q0*1000009000027000027+q1*1000006000009+q2*1000003+q3*1,by omega⟩
def bFn (k a b c:Int):∃q,bJ k [a,b,c]=k*1000012000054000108000082+a*1000009000027000027+b*1000006000009+c*1000003+11000178001159003802006301004246-2147483647*q:=by
 simp only[bJ,tY,cR,fY,cW,cA,bn,dc,ic]
 obtain⟨q0,e0,r0⟩:=kH k (h:=11) ⟨by decide,by decide⟩
 generalize hstep 11 k=y0 at*
 obtain⟨q1,e1,r1⟩:=kH a (h:=y0) r0
 generalize hstep y0 a=y1 at*
 obtain⟨q2,e2,r2⟩:=kH b (h:=y1) r1
 generalize hstep y1 b=y2 at*
 obtain⟨q3,e3,r3⟩:=kH c (h:=y2) r2
 generalize hstep y2 c=y3 at*
 obtain⟨q4,e4,r4⟩:=kH k (h:=y3) r3
 generalize hstep y3 k=y4 at*
 exact⟨q0*1000012000054000108000081+q1*1000009000027000027+q2*1000006000009+q3*1000003+q4*1,by omega⟩
def bFo (k a b c d:Int):∃q,bJ k [a,b,c,d]=k*1000015000090000270000405000244+a*1000012000054000108000081+b*1000009000027000027+c*1000006000009+d*1000003+11000211001693007279017707023149012751-2147483647*q:=by
 simp only[bJ,tY,cR,fY,cW,cA,bn,dc,ic]
 obtain⟨q0,e0,r0⟩:=kH k (h:=11) ⟨by decide,by decide⟩
 generalize hstep 11 k=y0 at*
 obtain⟨q1,e1,r1⟩:=kH a (h:=y0) r0
 generalize hstep y0 a=y1 at*
 obtain⟨q2,e2,r2⟩:=kH b (h:=y1) r1
 generalize hstep y1 b=y2 at*
 obtain⟨q3,e3,r3⟩:=kH c (h:=y2) r2
 generalize hstep y2 c=y3 at*
 obtain⟨q4,e4,r4⟩:=kH d (h:=y3) r3
 generalize hstep y3 d=y4 at*
 obtain⟨q5,e5,r5⟩:=kH k (h:=y4) r4
 generalize hstep y4 k=y5 at*
 exact⟨q0*1000015000090000270000405000243+q1*1000012000054000108000081+q2*1000009000027000027+q3*1000006000009+q4*1000003+q5*1,by omega⟩
def Qn (n:Int):∃e,iI n=n+e/\0<=e/\e<=1:=by
 unfold iI
 by_cases h:n=0
 ·subst h;exact⟨1,rfl,by decide,by decide⟩
 ·rw[cM.2 h];exact⟨0,by simp,by decide,by decide⟩
def bFp (s i:Int):(aL s i).Seed=iI (bJ s [151,277,i]):=by
 unfold aL aT;simp only[cA,bn]
def bFq (s:D.aAI):fP s=iI (bJ s.Seed [151,181]):=by
 unfold fP aT;simp only[cA,bn]
def aZq (s:D.aAI)(n:ByteArray)(i:Int):eO s n i=iI (bJ s.Seed [151,179,bT n,i]):=by
 unfold eO aT;simp only[cA,bn]
def aUu (s i k:Int):∃e q,(aL s i).Seed-(aL s k).Seed=(i-k)*1000003+e+2147483647*q/\-1<=e/\e<=1:=by
 have hi:(aL s i).Seed=iI (bJ s [151,277,i]):=bFp s i
 have hk:(aL s k).Seed=iI (bJ s [151,277,k]):=bFp s k
 obtain⟨e1,a1,a2,a3⟩:=Qn (bJ s [151,277,i])
 obtain⟨e2,b1,b2,b3⟩:=Qn (bJ s [151,277,k])
 obtain⟨q1,c1⟩:=bFn s 151 277 i
 obtain⟨q2,c2⟩:=bFn s 151 277 k
 rw[hi,hk,a1,b1,c1,c2]
 exact⟨e1-e2,q2-q1,by omega,by omega,by omega⟩
def dfs:List Int:=[-5,-4,-3,-2,-1,0,1,2,3,4,5]
def bBu:List Int:=[-1,0,1]
def aZr {d:Int}(h1: -5<=d)(h2:d<=5):d∈dfs:=by simp only[dfs,ba,et,or_false];omega
def I9 {d:Int}(h1: -1<=d)(h2:d<=1):d∈bBu:=by simp only[bBu,ba,et,or_false];omega
def bIh:(dfs.all λd=>d==0||bBu.all λe=>bBu.all λz=> !((d*1000003+e)*1000009000027000028-z)%2147483647==0)=true:=by kernel_rfl
def bBv {s i k:Int}(hi:0<=i/\i<6)(hk:0<=k/\k<6)(h:i≠k):fP (aL s i)≠fP (aL s k):=by
 intro he
 obtain⟨e,q,d1,d2,d3⟩:=aUu s i k
 have h1:fP (aL s i)=iI (bJ (aL s i).Seed [151,181]):=bFq _
 have h2:fP (aL s k)=iI (bJ (aL s k).Seed [151,181]):=bFq _
 obtain⟨e1,a1,a2,a3⟩:=Qn (bJ (aL s i).Seed [151,181])
 obtain⟨e2,b1,b2,b3⟩:=Qn (bJ (aL s k).Seed [151,181])
 obtain⟨q1,c1⟩:=bFm (aL s i).Seed 151 181
 obtain⟨q2,c2⟩:=bFm (aL s k).Seed 151 181
 rw[h1,h2,a1,b1,c1,c2] at he
 have hz:(((i-k)*1000003+e)*1000009000027000028-(e2-e1))%2147483647=0:=by
  clear h1 h2 a1 b1 c1 c2
  generalize(aL s i).Seed=x at*
  generalize(aL s k).Seed=y at*
  omega
 have:=cG.1 bIh (i-k) (aZr (by omega) (by omega))
 rw[cM.2 (show i-k≠0 by omega),cL] at this
 have:=cG.1 (cG.1 this e (I9 d2 d3)) (e2-e1) (I9 (by omega) (by omega))
 rw[hz] at this;cases this
def hs1:Int:=1464438180
def bPv:bT (aA 0)=1941999745:=by kernel_rfl
def bPw:bT (aA 1)=1464438180:=by kernel_rfl
def bFr:(dfs.all λd=>[0,477561565,-477561565].all λ(g:Int)=>(d==0&&g==0)||bBu.all λe=>bBu.all λz=> !((d*1000003+e)*1000015000090000270000405000244+g*1000006000009+d*1000003-z)%2147483647==0)=true:=by kernel_rfl
def aUv {s i k j l:Int}(hi:0<=i/\i<6)(hk:0<=k/\k<6)(hj:j=0\/j=1)(hl:l=0\/l=1)(h:i≠k\/j≠l):eO (aL s i) (aA j) i≠eO (aL s k) (aA l) k:=by
 intro he
 obtain⟨e,q,d1,d2,d3⟩:=aUu s i k
 have h1:eO (aL s i) (aA j) i=iI (bJ (aL s i).Seed [151,179,bT (aA j),i]):=aZq _ _ _
 have h2:eO (aL s k) (aA l) k=iI (bJ (aL s k).Seed [151,179,bT (aA l),k]):=aZq _ _ _
 obtain⟨e1,a1,a2,a3⟩:=Qn (bJ (aL s i).Seed [151,179,bT (aA j),i])
 obtain⟨e2,b1,b2,b3⟩:=Qn (bJ (aL s k).Seed [151,179,bT (aA l),k])
 obtain⟨q1,c1⟩:=bFo (aL s i).Seed 151 179 (bT (aA j)) i
 obtain⟨q2,c2⟩:=bFo (aL s k).Seed 151 179 (bT (aA l)) k
 rw[h1,h2,a1,b1,c1,c2] at he
 obtain⟨g,hg,hg2⟩:∃g,bT (aA j)-bT (aA l)=g/\(g∈[0,477561565,(-477561565:Int)]/\(j≠l->g≠0)):=by
  rcases hj with rfl|rfl<;>rcases hl with rfl|rfl<;>simp only[bPv,bPw]
  ·exact⟨0,by decide,by decide,by decide⟩
  ·exact⟨477561565,by decide,by decide,by decide⟩
  ·exact⟨-477561565,by decide,by decide,by decide⟩
  ·exact⟨0,by decide,by decide,by decide⟩
 have hz:(((i-k)*1000003+e)*1000015000090000270000405000244+g*1000006000009+(i-k)*1000003-(e2-e1))%2147483647=0:=by
  clear h1 h2 a1 b1 c1 c2
  generalize(aL s i).Seed=x at*
  generalize(aL s k).Seed=y at*
  generalize bT (aA j)=x1 at*
  generalize bT (aA l)=y1 at*
  clear hg2 hj hl h
  omega
 have:=cG.1 (cG.1 bFr (i-k) (aZr (by omega) (by omega))) g hg2.1
 rw[show(i-k==0&&g==0)=false by
  rcases h with h|h
  ·rw[cM.2 (show i-k≠0 by omega)];rfl
  ·rw[cM.2 (hg2.2 h),dp],cL] at this
 have:=cG.1 (cG.1 this e (I9 d2 d3)) (e2-e1) (I9 (by omega) (by omega))
 rw[hz] at this;cases this
def bBw {n:Int}(h:0<=n/\n<2147483647):bG (iI n)=true:=by
 unfold iI bG bI
 by_cases h0:n=0
 ·subst h0;rfl
 ·rw[cM.2 h0,ab,ao (show 1<=n by omega),ao (show n<=2147483646 by omega)];rfl
def gW (s:Int)(l:List Int):bG (aT s l)=true:=bBw (kF _ _)
def aIt {k:Int}(h:bG k=true):1<=k/\k<=2147483646:=jS h
def bJ0 {k:Int}(h:bG k=true):cB k=k*48271%2147483647:=by
 have:=aIt h
 unfold cB
 rw[h,bf,ab,aI (by omega) (by omega),cp (by omega)]
def aZs {k:Int}(h:bG k=true):bG (cB k)=true:=by
 have:=aIt h
 rw[bJ0 h]
 have:k*48271%2147483647≠0:=by omega
 unfold bG bI
 rw[ao (show 1<=k*48271%2147483647 by omega),ao (show k*48271%2147483647<=2147483646 by omega)];rfl
def Cn {k:Int}(h:bG k=true):eP (cB k)=k:=by
 have:=aIt h
 unfold eP
 rw[aZs h,bf,ab,bJ0 h]
 omega
def aZt {a b:Int}(ha:bG a=true)(hb:bG b=true)(h:cB a=cB b):a=b:=by
 rw[<-Cn ha,h,Cn hb]
def aXi {s i k j l:Int}(hi:0<=i/\i<6)(hk:0<=k/\k<6)(hj:j=0\/j=1)(hl:l=0\/l=1)(h:i≠k\/j≠l):dM (aL s i) (aA j) i≠dM (aL s k) (aA l) k:=
 λhe=>aUv hi hk hj hl h (aZt (gW _ _) (gW _ _) he)
def bBx {s i k:Int}(hi:0<=i/\i<6)(hk:0<=k/\k<6)(h:i≠k):aY (aL s i)≠aY (aL s k):=
 λhe=>bBv hi hk h (aZt (gW _ _) (gW _ _) he)
end Go.VK

set_option maxRecDepth 100000
namespace Go.VK
def aA2 {α:Type}{p:Nat->α->Bool}:∀{l:List α} {i:Nat},(∀k (h:k<l.length),p (i+k) l[k]=false)->gL p i l=false
 |[],i,_=>rfl
 |x::l,i,h=>by
  have h0:=h 0 (by simp)
  have ih:=aA2 (p:=p) (l:=l) (i:=i+1) (λk hk=>by
   have:=h (k+1) (by simpa using hk)
   rw[show i+1+k=i+(k+1) by omega];simpa using this)
  simp only[gL,ee,gA] at h0 ⊢
  rw[h0,ih];rfl
def aRx {α:Type}{p:Nat->α->Bool}:∀{l:List α} {i:Nat},gL p i l=false->∀k (h:k<l.length),p (i+k) l[k]=false
 |x::l,i,h,0,_=>by simp only[gL,cn] at h;simpa using h.1
 |x::l,i,h,k+1,hk=>by
  simp only[gL,cn] at h
  have:=aRx h.2 k (by simpa using hk)
  rw[show i+(k+1)=i+1+k by omega];simpa using this
def Ma (seed j:Int)(k:Nat):Int:=dM (aL seed (k:Int)) (aA j) (k:Int)
def J2 (seed j:Int)(l:List D.aAK):Prop:=∀k (h:k<l.length),l[k].Handle=(k:Int)/\l[k].Public=Ma seed j k/\0<=l[k].Counter/\l[k].Counter<=1000000
def iL {x a b:Int}(h1:a<=x)(h2:x<=b):bI x a b=true:=by unfold bI;rw[ao h1,ao h2];rfl
def bIi {seed j l:Int}{i k:Nat}(hi:i<6)(hk:k<6)(hj:j=0\/j=1)(hl:l=0\/l=1)(h:i≠k\/j≠l):Ma seed j i≠Ma seed l k:=
 aXi (by omega) (by omega) hj hl (by omega)
def bBy (seed j:Int)(k:Nat):eP (Ma seed j k)=eO (aL seed (k:Int)) (aA j) (k:Int):=by
 unfold Ma dM
 exact Cn (by unfold eO;exact gW _ _)
def aXj {seed j m:Int}{l:List D.aAK}(hj:j=0\/j=1)(h:J2 seed j l)(hl:l.length<=6)(hm:1<=m/\m<=3):aZ ⟨1,m,l⟩=true:=by
 have ha:gL (rU ⟨1,m,l⟩) 0 l=false:=aA2 λk hk=>by
  obtain⟨h1,h2,h3,h4⟩:=h k hk
  have hp:=aIt (gW (aL seed (k:Int)).Seed [179,bT (aA j),(k:Int)])
  unfold rU
  rw[ca,h1,iL (by omega) (by omega),h2,bBy,cM.2 (show eO (aL seed (k:Int)) (aA j) (k:Int)≠0 by unfold eO;omega),iL h3 h4]
  have e1:(decide (0<k)&&decide ((l.getD (k-1) default).Handle>=(k:Int)))=false:=by
   by_cases hk0:0<k
   ·have hk1:k-1<l.length:=by omega
    have:=(h (k-1) hk1).1
    rw[List.getD,ac hk1,cE,this,au (show ¬((k-1:Nat):Int)>=(k:Int) by omega),dp]
   ·rw[au hk0,eL]
  have e2:((l.take k).any λq=>q.Public==Ma seed j k)=false:=by
   rw[List.any_eq_false]
   intro q hq
   obtain⟨i,hi,rfl⟩:=dt.1 hq
   rw[bz] at hi
   rw[gp,(h i (by omega)).2.1]
   simp only[cI]
   exact bIi (by omega) (by omega) hj hj (.inl (by omega))
  show(!true||((decide (0<k)&&decide ((l.getD (k-1) default).Handle>=(k:Int)))||(false|| !true))||(l.take k).any λq=>q.Public==Ma seed j k)=false
  rw[e1,e2];rfl
 unfold aZ
 show(bI 1 0 1000000&&bI m 1 3&&decide (l.length<=8)&& !gL (rU ⟨1,m,l⟩) 0 l)=true
 rw[ha,iL hm.1 hm.2,ao (show l.length<=8 by omega)];rfl
structure SiteIn (seed j:Int) (n:Nat) (s:D.Site):Prop where
 name:s.Name=aA j
 book:dW s.Book=true
 key:bG s.Book.Seed=true
 acc:∃l,s.Accounts=[⟨1,3,l⟩]/\J2 seed j l/\l.length=n
def aA3 {j:Int}(hj:j=0\/j=1):(fE (aA j)&&decide (2<=(bF (aA j)).length))=true:=by
 rcases hj with rfl|rfl<;>kernel_rfl
def SiteIn.ok {seed j:Int}{n:Nat}{s:D.Site}(hj:j=0\/j=1)(hn:n<=6)(h:SiteIn seed j n s):dE s=true:=by
 obtain⟨h1,h2,h3,l,h4,h5,h6⟩:=h
 unfold dE jC
 rw[h1,aA3 hj,h3,h2,h4]
 show(true&&true&&decide (1<=8)&&true&& !(Gb [⟨1,3,l⟩] 0 ⟨1,3,l⟩||false))=true
 unfold Gb
 rw[aXj hj h5 (by omega) ⟨by decide,by decide⟩];rfl
def SiteIn.find {seed j:Int}{n:Nat}{s:D.Site}(h:SiteIn seed j n s):aC s 1=0:=by
 obtain⟨_,_,_,l,h4,_⟩:=h
 unfold aC;rw[h4];rfl
def aPy {α:Type}{p:α->Bool}:∀{l:List α},(∀c∈l,p c=true)->l.takeWhile p=l
 |[],_=>rfl
 |x::l,h=>by rw[dh,h x (by simp),cH rfl,aPy (λc hc=>h c (by simp[hc]))]
def bFs {l:List D.aAK}{p:Int}(h:∀k (h:k<l.length),l[k].Handle=(k:Int)):aEr l (l.length:Int) p=l++[⟨(l.length:Int),p,0,false⟩]:=by
 have:Vs (l.length:Int) l=l.length:=by
  unfold Vs
  rw[aPy]
  intro c hc
  obtain⟨i,hi,rfl⟩:=dt.1 hc
  rw[h i hi];exact ao (by omega)
 unfold aEr
 rw[this,eS,dz,cW]
def J2.snoc {seed j:Int}{l:List D.aAK}(h:J2 seed j l):J2 seed j (l++[⟨(l.length:Int),Ma seed j l.length,0,false⟩]):=by
 intro k hk
 by_cases hk1:k<l.length
 ·rw[jy hk1];exact h k hk1
 ·have:k=l.length:=by simp at hk;omega
  subst this
  simp
def SiteIn.reg {seed j:Int}{n:Nat}{s:D.Site}(hj:j=0\/j=1)(hn:n<6)(h:SiteIn seed j n s):
  (eG s 1 (n:Int) (Ma seed j n)).2=true/\SiteIn seed j (n+1) (eG s 1 (n:Int) (Ma seed j n)).1:=by
 have hok:=h.ok hj (by omega)
 have hf:=h.find
 obtain⟨h1,h2,h3,l,h4,h5,h6⟩:=h
 subst h6
 have ha:(s.Accounts.getD (aC s 1).toNat default)=⟨1,3,l⟩:=by rw[hf,h4];rfl
 have hi:=bFs (p:=Ma seed j l.length) (λk hk=>(h5 k hk).1)
 have hs:=h5.snoc
 have e1:=aXj (m:=3) hj h5 (by omega) ⟨by decide,by decide⟩
 have e2:=aXj (m:=3) hj hs (by simp;omega) ⟨by decide,by decide⟩
 have hadd:gY ⟨1,3,l⟩ (l.length:Int) (Ma seed j l.length)=(⟨1,3,l++[⟨(l.length:Int),Ma seed j l.length,0,false⟩]⟩,true):=by
  unfold gY
  rw[e1]
  show(bif !true|| !aZ ⟨1,3,aEr l (l.length:Int) (Ma seed j l.length)⟩ then _ else _)=_
  rw[hi,e2];rfl
 unfold eG
 rw[hok,hf,show decide ((0:Int)<0)=false from rfl,<-hf,ha,hadd,hf,h4]
 exact⟨rfl,h1,h2,h3,_,rfl,hs,by simp⟩
def aXk {seed j:Int}(hj:j=0\/j=1):SiteIn seed j 0 (kQ (eZ (aA j) (aT seed [281,j])) 1 3).1:=by
 have hk:=gW seed [281,j]
 generalize aT seed [281,j]=q at*
 have hn:eZ (aA j) q=⟨aA j,[],⟨q,0,[]⟩,[]⟩:=by
  unfold eZ jC
  rw[aA3 hj,hk];rfl
 have hb:dW ⟨q,0,[]⟩=true:=rfl
 have hin:SiteIn seed j 0 (nG ⟨aA j,[],⟨q,0,[]⟩,[]⟩ 1 3):=
  ⟨rfl,hb,hk,[],rfl,λk hk=>by simp at hk,rfl⟩
 have h0:dE ⟨aA j,[],⟨q,0,[]⟩,[]⟩=true:=by
  unfold dE jC
  rw[aA3 hj,hk];rfl
 unfold kQ
 rw[hn,h0,hin.ok hj (by omega)]
 exact hin
def aIu {seed j:Int}(hj:j=0\/j=1):∀(m i:Nat) (s:D.Site),SiteIn seed j i s->i+m<=6->
  SiteIn seed j (i+m) (rX (aA j) i ((List.range' i m).map λ(k:Nat)=>bM (aL seed (k:Int))) s)
 |0,i,s,h,_=>h
 |m+1,i,s,h,hm=>by
  have:=aIu hj m (i+1) _ (h.reg hj (by omega)).2 (by omega)
  rw[show i+1+m=i+(m+1) by omega] at this
  exact this
def aD8 {seed j:Int}(hj:j=0\/j=1){n:Nat}(hn:n<=6):SiteIn seed j n (Lv seed (dB seed n) j):=by
 have:=aIu hj n 0 _ (aXk (seed:=seed) hj) (by omega)
 rw[ca,<-List.range_eq_range'] at this
 exact this
end Go.VK

set_option maxRecDepth 100000
namespace Go.VK
def aUw {α:Type}{r:α->α->Prop}(ht:∀a b c,r a b->r b c->r a c):∀{l:List α},(∀k (h:k+1<l.length),r l[k] l[k+1])->l.Pairwise r
 |[],_=> .nil
 |[x],_=>eV r x
 |x::y::l,h=>by
  have ih:=aUw (r:=r) ht (l:=y::l) (λk hk=>by have:=h (k+1) (by simpa using hk);simpa using this)
  refine cr.2 ⟨λz hz=> ?_,ih⟩
  have h0:r x y:=by simpa using h 0 (by simp)
  rcases ba.1 hz with rfl|hz
  ·exact h0
  ·exact ht _ _ _ h0 ((cr.1 ih).1 z hz)
structure BookIn (b:D.aAD):Prop where
 next:0<=b.Next/\b.Next<=1000000
 len:b.Open.length<=16
 ord:b.Open.Pairwise (λa c=>a.Id<c.Id)
 all:∀c∈b.Open,(0<=c.Id/\c.Id<b.Next)/\(0<=c.aAH/\c.aAH<=1000005)/\(0<=c.Until/\c.Until<=1000005)
def BookIn.ok {b:D.aAD}(h:BookIn b):dW b=true:=by
 obtain⟨h1,h2,h3,h4⟩:=h
 have ha:gL (gD b) 0 b.Open=false:=aA2 λk hk=>by
  obtain⟨a1,a2,a3⟩:=h4 b.Open[k] (cN hk)
  unfold gD
  rw[ca,aI (by omega) (by omega),iL (by omega) (by omega),iL a2.1 a2.2,iL a3.1 a3.2]
  have e1:(decide (0<k)&&decide ((b.Open.getD (k-1) default).Id>=b.Open[k].Id))=false:=by
   by_cases hk0:0<k
   ·have hk1:k-1<b.Open.length:=by omega
    have:=dm.1 h3 (k-1) k hk1 hk (by omega)
    rw[List.getD,ac hk1,cE,au (show ¬b.Open[k-1].Id>=b.Open[k].Id by omega),dp]
   ·rw[au hk0,eL]
  rw[e1];rfl
 unfold dW
 rw[ha,iL h1.1 h1.2,ao h2];rfl
def aGv {b:D.aAD}(h:dW b=true):BookIn b:=by
 unfold dW at h
 simp only[aa,bp,cz] at h
 obtain⟨⟨h1,h2⟩,h3⟩:=h
 have h1:=jS h1
 have hg:∀k (hk:k<b.Open.length),((0<=b.Open[k].Id/\b.Open[k].Id<b.Next)/\(0<=b.Open[k].aAH/\b.Open[k].aAH<=1000005)/\(0<=b.Open[k].Until/\b.Open[k].Until<=1000005))/\(0<k->(b.Open.getD (k-1) default).Id<b.Open[k].Id):=λk hk=>by
  have:=aRx h3 k hk
  unfold gD at this
  rw[ca,aI (by omega) (by omega)] at this
  simp only[cn,eh,Bool.and_eq_false_iff,di] at this
  obtain⟨a1,a2,a3,a4⟩:=this
  have a1:=jS a1
  have a3:=jS a3
  have a4:=jS a4
  exact⟨⟨⟨a1.1,by omega⟩,⟨a3.1,a3.2⟩,a4.1,a4.2⟩,λh0=>by rcases a2 with a2|a2<;>omega⟩
 refine⟨⟨h1.1,h1.2⟩,h2,aUw (r:=λa c:D.aAM=>a.Id<c.Id) (λa b c h1 h2=>Int.lt_trans h1 h2) (λk hk=> ?_),λc hc=> ?_⟩
 ·have:=(hg (k+1) hk).2 (by omega)
  rw[Nat.add_sub_cancel,List.getD,ac (show k<b.Open.length by omega),cE] at this
  exact this
 ·obtain⟨i,hi,rfl⟩:=dt.1 hc
  exact(hg i hi).1
def bFt {b:D.aAD}(h:BookIn b)(a n:Int):BookIn (iT b a n).1/\(iT b a n).1.Seed=b.Seed/\b.Next<=(iT b a n).1.Next/\(iT b a n).1.Next<=b.Next+1:=by
 unfold iT
 rw[h.ok]
 by_cases hn:b.Next=1000000
 ·have e:∀{x y:D.aAD×D.aAM×Bool},(bif true&&(!(b.Next==1000000)&&(bI a 0 1000000&&bI n 0 1000000)) then x else y)=y:=by
   intro x y;rw[hn];rfl
  rw[e];exact⟨h,rfl,du _,by show b.Next<=_;omega⟩
 ·rw[cM.2 hn]
  cases hr:bI a 0 1000000&&bI n 0 1000000 with
  |false=>exact⟨h,rfl,du _,by show b.Next<=_;omega⟩
  |true=>
   rw[aa] at hr
   have r1:=jS hr.1
   have r2:=jS hr.2
   obtain⟨h1,h2,h3,h4⟩:=h
   have hw:IntKind.i64.wrap (b.Next+1)=b.Next+1:=aI (by omega) (by omega)
   have hw2:IntKind.i64.wrap (n+5)=n+5:=aI (by omega) (by omega)
   have key:∀l:List D.aAM,l.length<=15->l.Pairwise (λa c=>a.Id<c.Id)->(∀c∈l,c∈b.Open)->BookIn ⟨b.Seed,IntKind.i64.wrap (b.Next+1),l++[aGr b a n]⟩:=λl hl ho hm=>by
    rw[hw]
    refine⟨⟨show 0<=b.Next+1 by omega,show b.Next+1<=1000000 by omega⟩,by simp;omega,?_,λc hc=> ?_⟩
    ·show(l++[aGr b a n]).Pairwise _
     refine List.pairwise_append.2 ⟨ho,eV _ _,λx hx y hy=> ?_⟩
     rw[cy.1 hy]
     exact(h4 x (hm x hx)).1.2
    ·rcases bw.1 hc with hc|hc
     ·obtain⟨q1,q2,q3⟩:=h4 c (hm c hc)
      exact⟨⟨q1.1,show c.Id<b.Next+1 by omega⟩,q2,q3⟩
     ·rw[cy.1 hc]
      refine⟨⟨h1.1,show b.Next<b.Next+1 by omega⟩,⟨show 0<=a by omega,show a<=1000005 by omega⟩,?_⟩
      show 0<=IntKind.i64.wrap (n+5)/\IntKind.i64.wrap (n+5)<=1000005
      rw[hw2];omega
   simp only[dv,da,ae]
   cases hd:decide ((b.Open.length:Int)>=16) with
   |true=>
    refine⟨key _ (by simp only[ae,ck];omega) ?_ (λc hc=>dl hc),by first|rfl|trivial,by first|(rw[hw];omega)|(simp only[hw];omega),by first|(rw[hw];omega)|(simp only[hw];omega)⟩
    exact h3.sublist (List.drop_sublist _ _)
   |false=>
    have:=of_decide_eq_false hd
    exact⟨key _ (by simp only[ab];omega) h3 (λc hc=>hc),by first|rfl|trivial,by first|(rw[hw];omega)|(simp only[hw];omega),by first|(rw[hw];omega)|(simp only[hw];omega)⟩
def bIj {b:D.aAD}(h:BookIn b)(c a n:Int):BookIn (sM b c a n).1/\(sM b c a n).1.Seed=b.Seed:=by
 unfold sM
 rw[h.ok]
 cases decide (dH b c<0) with
 |true=>exact⟨h,rfl⟩
 |false=>
  obtain⟨h1,h2,h3,h4⟩:=h
  have hsub:(b.Open.take (dH b c).toNat++b.Open.drop ((dH b c).toNat+1)).Sublist b.Open:=by
   conv=>rhs;rw[<-cF (dH b c).toNat b.Open]
   refine List.Sublist.append (List.Sublist.refl _) ?_
   rw[<-jt];exact List.drop_sublist _ _
  exact⟨⟨h1,bq hsub.length_le h2,h3.sublist hsub,λc hc=>h4 c (hsub.subset hc)⟩,rfl⟩
def SiteIn.aBJ {seed j:Int}{n:Nat}{s:D.Site}(h:SiteIn seed j n s){b:D.aAD}(hb:BookIn b)(hs:b.Seed=s.Book.Seed):SiteIn seed j n {s with Book:=b}:=
 ⟨h.name,hb.ok,by show bG b.Seed=true;rw[hs];exact h.key,h.acc⟩
def SiteIn.begin {seed j:Int}{n:Nat}{s:D.Site}(h:SiteIn seed j n s)(i t:Int):SiteIn seed j n (rH s i t).1:=by
 unfold rH
 cases dE s&&(!decide (aC s i<0)&&(iT s.Book i t).2.2) with
 |false=>exact h
 |true=>
  have:=bFt (aGv h.book) i t
  exact h.aBJ this.1 this.2.1
def J2.set {seed j:Int}{l:List D.aAK}(h:J2 seed j l){k:Nat}(hk:k<l.length){c:D.aAK}(h1:c.Handle=l[k].Handle)(h2:c.Public=l[k].Public)(h3:0<=c.Counter/\c.Counter<=1000000):J2 seed j (l.set k c):=by
 intro i hi
 rw[fX]
 rw[ax] at hi
 split
 ·rename_i e;subst e
  have:=h k hk
  exact⟨h1.trans this.1,h2.trans this.2.1,h3⟩
 ·exact h i hi
end Go.VK

set_option maxRecDepth 100000
namespace Go.VK
def aIv {α:Type}{p:α->Bool}:∀{l:List α} {i:Nat},decide (iG p i l<0)=false->∃k,∃h:k<l.length,iG p i l=((i+k:Nat):Int)/\p l[k]=true
 |[],i,h=>by simp[iG] at h
 |x::l,i,h=>by
  unfold iG at h ⊢
  cases hp:p x with
  |true=>exact⟨0,by simp,by simp,by simpa using hp⟩
  |false=>
   rw[hp,ab] at h
   obtain⟨k,hk,e1,e2⟩:=aIv h
   exact⟨k+1,by simpa using hk,by rw[ab,e1];congr 1;omega,by simpa using e2⟩
def J2.use {seed j:Int}{l:List D.aAK}(h:J2 seed j l)(x:D.aAL)(z:ByteArray)(c:Int)(hx:0<=x.Counter/\x.Counter<=1000000):
  ∃l',(mW ⟨1,3,l⟩ x z c).1=⟨1,3,l'⟩/\J2 seed j l'/\l'.length=l.length/\∀k (h1:k<l.length) (h2:k<l'.length),l[k].Cut=true->l'[k].Cut=true:=by
 unfold mW
 cases hb: !aZ ⟨1,3,l⟩||(decide (aU ⟨1,3,l⟩ x.Handle<0)||(fH ⟨1,3,l⟩ (aU ⟨1,3,l⟩ x.Handle)).Cut) with
 |true=>exact⟨l,rfl,h,rfl,λk h1 h2 e=>e⟩
 |false=>
  simp only[cn] at hb
  obtain⟨k,hk,e1,e2⟩:=aIv (l:=l) hb.2.1
  have ef:aU ⟨1,3,l⟩ x.Handle=(k:Int):=e1.trans (by simp)
  have ec:fH ⟨1,3,l⟩ (k:Int)=l[k]:=by unfold fH;simp[List.getD,ac hk]
  rw[ef,ec,ab,cm]
  have hset:∀c:D.aAK,c.Handle=l[k].Handle->c.Public=l[k].Public->0<=c.Counter/\c.Counter<=1000000->(l[k].Cut=true->c.Cut=true)->
    ∃l',(D.aAH.mk 1 3 (l.set k c))=⟨1,3,l'⟩/\J2 seed j l'/\l'.length=l.length/\∀i (h1:i<l.length) (h2:i<l'.length),l[i].Cut=true->l'[i].Cut=true:=λc c1 c2 c3 c4=>
   ⟨_,rfl,h.set hk c1 c2 c3,ax,λi h1 h2 e=>by
    rw[fX]
    split
    ·rename_i q;subst q;exact c4 e
    ·exact e⟩
  cases kP l[k].Public x z c l[k].Counter==0 with
  |true=>exact hset _ rfl rfl hx (λe=>e)
  |false=>
   cases kP l[k].Public x z c l[k].Counter==4 with
   |true=>exact hset _ rfl rfl (h k hk).2.2 (λ_=>rfl)
   |false=>exact⟨l,rfl,h,rfl,λk h1 h2 e=>e⟩
def SiteIn.aBT {seed j:Int}{n:Nat}{s:D.Site}(h:SiteIn seed j n s){l:List D.aAK}(hl:J2 seed j l)(hn:l.length=n)(g:List Int)(b:D.aAD)(hb:BookIn b)(hs:b.Seed=s.Book.Seed):SiteIn seed j n {s with Book:=b,Accounts:=[⟨1,3,l⟩],Logins:=g}:=
 ⟨h.name,hb.ok,by show bG b.Seed=true;rw[hs];exact h.key,l,rfl,hl,hn⟩
def SiteIn.finish {seed j:Int}{n:Nat}{s:D.Site}(h:SiteIn seed j n s)(c t:Int)(x:D.aAL)(hx:0<=x.Counter/\x.Counter<=1000000):SiteIn seed j n (rW s 1 c t x).1:=by
 have hf:=h.find
 have hk:=bIj (aGv h.book) c 1 t
 unfold rW
 rw[hf]
 cases !dE s||decide ((0:Int)<0) with
 |true=>exact h
 |false=>
  simp only[ab]
  cases !(sM s.Book c 1 t).2 with
  |true=>exact h.aBJ hk.1 hk.2
  |false=>
   simp only[ab]
   cases !zB (fM s 0) 3 with
   |true=>exact h.aBJ hk.1 hk.2
   |false=>
    obtain⟨l,e,hl,hn⟩:=h.acc
    have ea:fM s 0=⟨1,3,l⟩:=by unfold fM;rw[e];rfl
    obtain⟨l',q1,q2,q3,_⟩:=hl.use x s.Name (jE s.Book c) hx
    simp only[ab,ea,q1]
    rw[show s.Accounts.set (0:Int).toNat ⟨1,3,l'⟩=[⟨1,3,l'⟩] by rw[e];rfl]
    cases !((mW ⟨1,3,l⟩ x s.Name (jE s.Book c)).2==0) with
    |true=>exact h.aBT q2 (q3.trans hn) s.Logins _ hk.1 hk.2
    |false=>exact h.aBT q2 (q3.trans hn) (s.Logins++[1]) _ hk.1 hk.2
def bFu (s:D.aAI)(z:ByteArray)(i:Int)(m:List Int):(fI s z i m).1.Seed=s.Seed/\(fI s z i m).1.Vendor=s.Vendor/\(fI s z i m).1.Serial=s.Serial/\((fI s z i m).2.2=true->(fI s z i m).1.Counter=s.Counter+1/\0<=s.Counter/\s.Counter<1000000)/\((fI s z i m).2.2=false->(fI s z i m).1=s):=by
 unfold fI
 cases hb:sN s&& !(s.Counter==1000000) with
 |false=>exact⟨rfl,rfl,rfl,λh=>(by cases h),λ_=>rfl⟩
 |true=>
  simp only[aa,cz,cM] at hb
  have hs:=hb.1
  unfold sN at hs
  simp only[aa] at hs
  have hc:=jS hs.2.2.2
  refine⟨rfl,rfl,rfl,⟨λ_=> ?_,λh=>by cases h⟩⟩
  have:IntKind.i64.wrap (s.Counter+1)=s.Counter+1:=aI (by omega) (by omega)
  exact⟨this,by omega,by have:=hb.2;omega⟩
def aUx (s:D.aAI)(o:D.aAN)(z:ByteArray)(i c:Int)(p:Bool):(jF s o z i c p).1.Seed=s.Seed/\(jF s o z i c p).1.Vendor=s.Vendor/\(jF s o z i c p).1.Serial=s.Serial/\(0<=s.Counter/\s.Counter<=1000000->(0<=(jF s o z i c p).1.Counter/\(jF s o z i c p).1.Counter<=1000000)/\(0<=(jF s o z i c p).2.1.Counter/\(jF s o z i c p).2.1.Counter<=1000000)):=by
 obtain⟨h1,h2,h3,h4,h5⟩:=bFu s z i (dA (aA0 s o z i c p))
 unfold jF
 cases hb:rV o z&&(fI s z i (dA (aA0 s o z i c p))).2.2 with
 |false=>exact⟨rfl,rfl,rfl,λh=>⟨h,du 0,show(0:Int)<=1000000 by decide⟩⟩
 |true=>
  rw[aa] at hb
  obtain⟨q1,q2,q3⟩:=h4 hb.2
  refine⟨h1,h2,h3,λh=>⟨?_,?_⟩⟩
  ·show 0<=(fI s z i (dA (aA0 s o z i c p))).1.Counter/\(fI s z i (dA (aA0 s o z i c p))).1.Counter<=1000000
   omega
  ·show 0<=(fI s z i (dA (aA0 s o z i c p))).1.Counter/\(fI s z i (dA (aA0 s o z i c p))).1.Counter<=1000000
   omega
end Go.VK

set_option maxRecDepth 100000
namespace Go.VK
structure StIn (seed:Int) (k:Nat) (s:D.aAI):Prop where
 ven:s.Vendor=1
 ser:s.Serial=(k:Int)
 key:s.Seed=(aL seed (k:Int)).Seed
 cnt:0<=s.Counter/\s.Counter<=1000000
structure WIn (m:Nat) (w:D.World):Prop where
 seed:bG w.Seed=true
 now:0<=w.Now/\w.Now<=999900
 dlen:1<=w.Devices.length/\w.Devices.length<=6
 slen:w.Stolen.length=w.Devices.length
 dev:∀k (h:k<w.Devices.length),StIn w.Seed k w.Devices[k].Store
 two:w.Sites.length=2
 mle:m<=6
 site:∀j (h:j<w.Sites.length),SiteIn w.Seed (j:Int) m w.Sites[j]
 mail:dV w.Mail=true
 log:bC w.aAB.Log=true
def WIn.ok {m:Nat}{w:D.World}(h:WIn m w):aV w=true:=by
 have hs:gL kN 0 w.Sites=false:=aA2 λk hk=>by
  have h2:=h.two
  have:=h.site k hk
  unfold kN
  rw[this.ok (by omega) h.mle,this.name,ca];simp
 unfold aV
 have h2:=h.two
 have h3:=h.slen
 have h4:=h.dlen
 rw[hs,h.log,h.mail,h.seed,iL h.now.1 h.now.2,iL (by omega) (by omega),h3,h2];simp
def WIn.upd {m:Nat}{w v:D.World}(h:WIn m w)(h1:v.Seed=w.Seed)(h2:v.Now=w.Now)(h3:v.Devices.length=w.Devices.length)(h4:v.Stolen.length=w.Stolen.length)
  (h5:∀k (h:k<v.Devices.length),StIn w.Seed k v.Devices[k].Store) (h6:v.Sites.length=2) (h7:∀j (h:j<v.Sites.length),SiteIn w.Seed (j:Int) m v.Sites[j]) (h8:dV v.Mail=true) (h9:bC v.aAB.Log=true):WIn m v where
 seed:=by rw[h1];exact h.seed
 now:=by rw[h2];exact h.now
 dlen:=by rw[h3];exact h.dlen
 slen:=by rw[h3,h4];exact h.slen
 dev:=by rw[h1];exact h5
 two:=h6
 mle:=h.mle
 site:=by rw[h1];exact h7
 mail:=h8
 log:=h9
def WIn.aBO {m:Nat}{w:D.World}(h:WIn m w){i:Nat}{x:D.Device}(hi:i<w.Devices.length)(hx:StIn w.Seed i x.Store):∀k (h:k<(w.Devices.set i x).length),StIn w.Seed k (w.Devices.set i x)[k].Store:=λk hk=>by
 rw[fX]
 rw[ax] at hk
 split
 ·rename_i e;subst e;exact hx
 ·exact h.dev k hk
def WIn.aCX {m:Nat}{w:D.World}(h:WIn m w){i:Nat}{x:D.Site}(hi:i<2)(hx:SiteIn w.Seed (i:Int) m x):∀k (h:k<(w.Sites.set i x).length),SiteIn w.Seed (k:Int) m (w.Sites.set i x)[k]:=λk hk=>by
 rw[fX]
 rw[ax] at hk
 split
 ·rename_i e;subst e;exact hx
 ·exact h.site k hk
def Mc {w:D.World}{d:Int}(h:aN w d=true):0<=d/\d.toNat<w.Devices.length/\aO w d=w.Devices.getD d.toNat default:=by
 simp only[aN,aa,bp] at h
 exact⟨h.1,by omega,rfl⟩
def J3 {w:D.World}{d:Int}(h:aN w d=true):∃h:d.toNat<w.Devices.length,aO w d=w.Devices[d.toNat]:=by
 obtain⟨h1,h2,h3⟩:=Mc h
 exact⟨h2,by rw[h3];simp[List.getD,ac h2]⟩
def WIn.aBZ {m:Nat}{w:D.World}(h:WIn m w){d:Int}(hd:aN w d=true):StIn w.Seed d.toNat (aO w d).Store:=by
 obtain⟨h1,h2⟩:=J3 hd
 rw[h2];exact h.dev _ h1
def bBz {m:D.aAJ}(h:dV m=true)(k a t:Int):dV (uD m k a t).1=true:=by
 unfold uD
 cases hb: !dV m|| !dV ⟨Ha (m.Notices++[⟨k,a,t,false⟩])⟩ with
 |true=>exact h
 |false=>simp only[cn,eh] at hb;exact hb.2
def WIn.tell {m:Nat}{w:D.World}(h:WIn m w)(k:Int):WIn m (Ls w k):=
 h.upd rfl rfl rfl rfl h.dev h.two h.site (bBz h.mail _ _ _) h.log
def StIn.make {seed:Int}{k:Nat}{s:D.aAI}(h:StIn seed k s)(o:D.aAN)(z:ByteArray)(i c:Int)(p:Bool):StIn seed k (jF s o z i c p).1:=by
 obtain⟨h1,h2,h3,h4⟩:=aUx s o z i c p
 exact⟨h2.trans h.ven,h3.trans h.ser,h1.trans h.key,(h4 h.cnt).1⟩
def WIn.visit {m:Nat}{w:D.World}(h:WIn m w)(d j:Int)(o:D.aAN):WIn m (kW w d j o).1:=by
 unfold kW
 cases ht:eD w d j with
 |false=>exact h
 |true=>
  have ht2:=ht
  simp only[eD,aa] at ht2
  have h2:=h.two
  have hq:=ht2.2.2
  simp only[wH,aa,bp] at hq
  have hj:j.toNat<w.Sites.length:=by omega
  have es:mX w j=w.Sites[j.toNat]:=by unfold mX;simp[List.getD,ac hj]
  have hs:=h.site _ hj
  rw[<-es,show((j.toNat:Nat):Int)=j by omega] at hs
  have hst:=h.aBZ ht2.2.1
  have hm:=aUx (aO w d).Store o (aA j) d (sO w j).2.2.1 true
  have hb:SiteIn w.Seed j m (sO w j).1:=hs.begin 1 w.Now
  have hfin:SiteIn w.Seed j m (aEs w d j o).1:=hb.finish _ _ _ (hm.2.2.2 hst.cnt).2
  have hw:WIn m (bBo w d j o):=by
   obtain⟨hd0,hd1,_⟩:=Mc ht2.2.1
   refine h.upd rfl rfl (ax ..) rfl (h.aBO hd1 (hst.make o (aA j) d (sO w j).2.2.1 true)) (by show(w.Sites.set _ _).length=2;rw[ax,h2]) (h.aCX (by omega) (by rw[show((j.toNat:Nat):Int)=j by omega];exact hfin)) h.mail h.log
  simp only[bf,ab]
  cases !(sO w j).2.2.2 with
  |true=>exact h
  |false=>
   cases !((aEs w d j o).2.1==0) with
   |true=>exact hw
   |false=>exact hw.tell 1
def WIn.sync {m:Nat}{w:D.World}(h:WIn m w)(d b:Int):WIn m (aH w d b).1:=by
 unfold aH
 cases hb:aV w&&aN w d with
 |false=>exact h
 |true=>
  rw[aa] at hb
  obtain⟨hd0,hd1,_⟩:=Mc hb.2
  refine h.upd rfl rfl (ax ..) rfl (h.aBO hd1 ?_) h.two h.site h.mail h.log
  have hst:=h.aBZ hb.2
  unfold bO
  cases eQ (aO w d) w.aAB.Log w.aAB.Boxes (bN w.aAB b).1==0<;>exact hst
def WIn.aDH {m:Nat}{w:D.World}(h:WIn m w)(d:Int)(n:ByteArray)(a:Int)(r:Bool):WIn m (oW w d n a r).1:=by
 unfold oW
 cases hb:aV w&&aN w d with
 |false=>exact h
 |true=>
  rw[aa] at hb
  obtain⟨hd0,hd1,_⟩:=Mc hb.2
  have hst:=h.aBZ hb.2
  simp only[ae]
  cases(cO (aO w d) n a r).2 with
  |false=>exact h
  |true=>
   refine h.upd rfl rfl (ax ..) rfl (h.aBO hd1 ?_) h.two h.site h.mail h.log
   unfold cO
   cases(oV (aO w d) n a r).2<;>exact hst
def aD9 (d:D.Device):(dD d).1.Store=d.Store:=by
 unfold dD
 cases(lG d.Key d.Epoch (IntKind.i64.wrap (d.Version+1)) d.aAF).2<;>rfl
def WIn.up {m:Nat}{w:D.World}(h:WIn m w){d:Int}(hd:aN w d=true):WIn m (Ud w d).1:=by
 unfold Ud
 cases(dD (aO w d)).2.2&&(cK w.aAB (dD (aO w d)).2.1).2 with
 |false=>exact h
 |true=>
  obtain⟨hd0,hd1,_⟩:=Mc hd
  refine h.upd rfl rfl (ax ..) rfl (h.aBO hd1 (by rw[aD9];exact h.aBZ hd)) h.two h.site h.mail ?_
  show bC (cK w.aAB (dD (aO w d)).2.1).1.Log=true
  rw[(nL _ _).2];exact h.log
def WIn.push {m:Nat}{w:D.World}(h:WIn m w)(d:Int):WIn m (fG w d).1:=by
 unfold fG
 cases hb:(aH w d 0).2==0&&(Ud (aH w d 0).1 d).2 with
 |false=>exact h
 |true=>
  rw[aa] at hb
  have h0:=jP hb.1
  exact(h.sync d 0).up (by
   have:=h0.1.2
   simp only[aN,aa,bp] at this ⊢
   rw[h0.2.2.1];exact this)
end Go.VK

set_option maxRecDepth 100000
namespace Go.VK
def gU (w:D.World)(d b:Int):(aH w d b).1.Seed=w.Seed/\(aH w d b).1.Now=w.Now/\(aH w d b).1.Devices.length=w.Devices.length/\(aH w d b).1.Sites=w.Sites/\(aH w d b).1.Stolen=w.Stolen/\(aH w d b).1.aAB=w.aAB:=by
 unfold aH
 cases aV w&&aN w d with
 |false=>exact⟨rfl,rfl,rfl,rfl,rfl,rfl⟩
 |true=>exact⟨rfl,rfl,ax ..,rfl,rfl,rfl⟩
def aRy (w:D.World)(d:Int):(Ud w d).1.Seed=w.Seed/\(Ud w d).1.Now=w.Now/\(Ud w d).1.Devices.length=w.Devices.length/\(Ud w d).1.Sites=w.Sites/\(Ud w d).1.Stolen=w.Stolen/\(Ud w d).1.aAB.Log=w.aAB.Log:=by
 unfold Ud
 cases(dD (aO w d)).2.2&&(cK w.aAB (dD (aO w d)).2.1).2 with
 |false=>exact⟨rfl,rfl,rfl,rfl,rfl,rfl⟩
 |true=>exact⟨rfl,rfl,ax ..,rfl,rfl,(nL _ _).2⟩
def Qo (w:D.World)(d:Int):(fG w d).1.Seed=w.Seed/\(fG w d).1.Now=w.Now/\(fG w d).1.Devices.length=w.Devices.length/\(fG w d).1.Sites=w.Sites/\(fG w d).1.Stolen=w.Stolen/\(fG w d).1.aAB.Log=w.aAB.Log:=by
 unfold fG
 cases(aH w d 0).2==0&&(Ud (aH w d 0).1 d).2 with
 |false=>exact⟨rfl,rfl,rfl,rfl,rfl,rfl⟩
 |true=>
  obtain⟨a1,a2,a3,a4,a5,a6⟩:=gU w d 0
  obtain⟨b1,b2,b3,b4,b5,b6⟩:=aRy (aH w d 0).1 d
  exact⟨b1.trans a1,b2.trans a2,b3.trans a3,b4.trans a4,b5.trans a5,b6.trans (by rw[a6])⟩
def Vw (w:D.World)(b k p:Int)(key:List D.aAC->Int):(iA w b k p key).1.Seed=w.Seed/\(iA w b k p key).1.Now=w.Now/\(iA w b k p key).1.Devices=w.Devices/\(iA w b k p key).1.Sites=w.Sites/\(iA w b k p key).1.Stolen=w.Stolen/\(iA w b k p key).1.Mail=w.Mail/\(bC w.aAB.Log=true->bC (iA w b k p key).1.aAB.Log=true):=by
 unfold iA
 simp only[]
 generalize dQ w.aAB.Log k p (aO w b).Store=l
 generalize bD l.1 (key l.1) (IntKind.i64.wrap (1000+IntKind.i64.wrap (10*(l.1.length:Int))))=e
 cases l.2&&(e.2&&(jK w.aAB l.1 e.1).2) with
 |false=>exact⟨rfl,rfl,rfl,rfl,rfl,rfl,λh=>h⟩
 |true=>
  refine⟨rfl,rfl,rfl,rfl,rfl,rfl,λh=> ?_⟩
  show bC (jK w.aAB l.1 e.1).1.Log=true
  unfold jK
  cases hl:bC l.1 with
  |false=>exact h
  |true=>
   cases !bZ l.1 w.aAB.Log|| !gF e.1 l.1 with
   |true=>exact h
   |false=>exact hl
def WIn.aCN {m:Nat}{w:D.World}(h:WIn m w)(b k p:Int)(key:List D.aAC->Int):WIn m (iA w b k p key).1:=by
 obtain⟨a1,a2,a3,a4,a5,a6,a7⟩:=Vw w b k p key
 exact h.upd a1 a2 (by rw[a3]) (by rw[a5]) (by rw[a3];exact h.dev) (by rw[a4];exact h.two) (by rw[a4];exact h.site) (by rw[a6];exact h.mail) (a7 h.log)
def aPz {seed:Int}{m:Nat}(hm:m<6):∀(l:List D.Site) (j:Nat),j+l.length<=2->(∀i (h:i<l.length),SiteIn seed ((j+i:Nat):Int) m l[i])->
  (fK (aL seed (m:Int)) (m:Int) j l).2=true/\(fK (aL seed (m:Int)) (m:Int) j l).1.length=l.length/\∀i (h:i<(fK (aL seed (m:Int)) (m:Int) j l).1.length),SiteIn seed ((j+i:Nat):Int) (m+1) (fK (aL seed (m:Int)) (m:Int) j l).1[i]
 |[],j,_,_=>⟨rfl,rfl,λi h=>by simp[fK] at h⟩
 |s::l,j,hj,h=>by
  have h0:SiteIn seed (j:Int) m s:=h 0 (by simp)
  simp only[av] at hj
  obtain⟨r1,r2⟩:=h0.reg (by omega) hm
  obtain⟨i1,i2,i3⟩:=aPz hm l (j+1) (by omega) (λi hi=>by
   have:=h (i+1) (by simpa using hi)
   rw[show j+1+i=j+(i+1) by omega];simpa using this)
  have e:dM (aL seed (m:Int)) (aA (j:Int)) (m:Int)=Ma seed (j:Int) m:=by unfold Ma;rfl
  have hu:fK (aL seed (m:Int)) (m:Int) j (s::l)=((eG s 1 (m:Int) (Ma seed (j:Int) m)).1::(fK (aL seed (m:Int)) (m:Int) (j+1) l).1,true):=by
   rw[fK,e,r1,i1];rfl
  rw[hu]
  refine⟨rfl,by simp[i2],λi hi=> ?_⟩
  cases i with
  |zero=>simpa using r2
  |succ i=>
   simp only[av] at hi
   have:=i3 i (by omega)
   rw[show j+1+i=j+(i+1) by omega] at this
   simpa using this
def Gh (d:D.Device)(n:ByteArray)(h:Int)(r:Bool):(cO d n h r).1.Store=d.Store:=by
 unfold cO;cases(oV d n h r).2<;>rfl
def aIw (d:D.Device)(h:Int)(r:Bool):(mK d h r).Store=d.Store:=by
 unfold mK;rw[Gh,Gh]
def aA4 {w v:D.World}{d:Int}(h:aN w d=true)(e:v.Devices.length=w.Devices.length):aN v d=true:=by
 simp only[aN,aa,bp] at h ⊢
 rw[e];exact h
def WIn.app {m:Nat}{w:D.World}(h:WIn m w)(hl:w.Devices.length<6):WIn m (appW w (bM (aL w.Seed (w.Devices.length:Int)))) where
 seed:=h.seed
 now:=h.now
 dlen:=by unfold appW;simp only[aw,av,bo];have:=h.dlen;omega
 slen:=by unfold appW;simp only[aw,av,bo,h.slen]
 dev:=λk hk=>by
  have hk':k<(w.Devices++[bM (aL w.Seed (w.Devices.length:Int))]).length:=hk
  show StIn w.Seed k ((w.Devices++[bM (aL w.Seed (w.Devices.length:Int))])[k]'hk').Store
  rw[List.getElem_append]
  split
  ·rename_i hk1;exact h.dev k hk1
  ·simp only[aw,av,bo] at hk'
   have e:k=w.Devices.length:=by omega
   subst e
   simp only[fj,gA]
   exact⟨rfl,rfl,rfl,du 0,show(0:Int)<=1000000 by decide⟩
 two:=h.two
 mle:=h.mle
 site:=h.site
 mail:=h.mail
 log:=h.log
def WIn.aCY {w:D.World}(h:WIn w.Devices.length w){b:Int}(hn:w.Devices.length<6)(k2:aN w b=true):WIn (w.Devices.length+1) (jD w b)/\(jD w b).Seed=w.Seed/\(jD w b).Devices.length=w.Devices.length:=by
 obtain⟨s1,s2,s3,s4,s5,s6⟩:=gU w b 0
 have h0:=h.sync b 0
 have h1:WIn w.Devices.length (add1 w b).1:=h0.aCN _ _ _ _
 obtain⟨a1,a2,a3,a4,a5,a6,a7⟩:=Vw (aH w b 0).1 b 1 (aY (aL w.Seed (w.Devices.length:Int))) (λ_=>(aO (aH w b 0).1 b).Key)
 have e1:(add1 w b).1.Seed=w.Seed:=a1.trans s1
 have e3:(add1 w b).1.Devices.length=w.Devices.length:=by show(iA _ _ _ _ _).1.Devices.length=_;rw[a3,s3]
 obtain⟨r1,r2,r3⟩:=aPz (seed:=w.Seed) hn (add1 w b).1.Sites 0 (by rw[h1.two];omega) (λi hi=>by
  have:=h1.site i hi
  rw[e1] at this;rw[ca];exact this)
 have hd:aN (add1 w b).1 b=true:=aA4 k2 e3
 obtain⟨d0,d1,_⟩:=Mc hd
 refine⟨{
  seed:=by show bG (add1 w b).1.Seed=true;exact h1.seed
  now:=h1.now
  dlen:=by show 1<=((add1 w b).1.Devices.set _ _).length/\((add1 w b).1.Devices.set _ _).length<=6;rw[ax];exact h1.dlen
  slen:=by show(add1 w b).1.Stolen.length=((add1 w b).1.Devices.set _ _).length;rw[ax];exact h1.slen
  dev:=h1.aBO d1 (by rw[aIw];exact h1.aBZ hd)
  two:=by show(aIj w b).1.length=2;exact r2.trans h1.two
  mle:=by omega
  site:=λj hj=>by
   have:=r3 j hj
   rw[ca] at this
   show SiteIn (add1 w b).1.Seed (j:Int) _ _
   rw[e1];exact this
  mail:=h1.mail
  log:=h1.log},e1,?_⟩
 show((add1 w b).1.Devices.set _ _).length=_
 rw[ax,e3]
def WIn.add {w:D.World}(h:WIn w.Devices.length w)(b:Int):WIn (iB w b).1.Devices.length (iB w b).1/\(iB w b).1.Seed=w.Seed:=by
 unfold iB
 cases hok:H6 w b with
 |false=>exact⟨h,rfl⟩
 |true=>
  unfold H6 at hok
  simp only[aa,cz,di] at hok
  obtain⟨⟨k1,k2,k3,k4⟩,k5,k6,k7,k8,k9⟩:=hok
  have hn:w.Devices.length<6:=by omega
  obtain⟨h2,e1,e4⟩:=h.aCY hn k2
  have h3:WIn (w.Devices.length+1) (nN w b).1:=h2.push b
  obtain⟨p1,p2,p3,p4,p5,p6⟩:=Qo (jD w b) b
  have p1:(nN w b).1.Seed=w.Seed:=p1.trans e1
  have p3:(nN w b).1.Devices.length=w.Devices.length:=p3.trans e4
  have h4:=h3.app (by omega)
  rw[p1,p3] at h4
  have h5:WIn (w.Devices.length+1) (yP w b).1:=h4.sync _ _
  obtain⟨q1,q2,q3,q4,q5,q6⟩:=gU (appW (nN w b).1 (bM (aL w.Seed (w.Devices.length:Int)))) (w.Devices.length:Int) 0
  have e5:(Ls (yP w b).1 2).Devices.length=w.Devices.length+1:=by
   show(yP w b).1.Devices.length=_
   refine q3.trans ?_
   unfold appW;simp only[aw,av,bo,p3]
  have h6:=h5.tell 2
  simp only[ae]
  rw[e5]
  exact⟨h6,q1.trans p1⟩
end Go.VK

set_option maxRecDepth 100000
namespace Go.VK
def bFv {k:Int}(h:bG k=true)(l:List Int):gB (cB k) l (yZ k l)=true:=by
 have:=aIt h
 unfold gB
 rw[Cn h,bne,cM.2 (show k≠0 by omega)];simp
def bFw {l:List D.aAC}{e:D.aAC}(h:l=[]\/bC l=true)(hs:lD l e=true)(hl:l.length<40):bC (l++[e])=true:=by
 have ha:gL (λi x=> !lD ((l++[e]).take i) x) 0 (l++[e])=false:=aA2 λk hk=>by
  rw[ca]
  by_cases hk1:k<l.length
  ·rw[jy hk1,List.take_append_of_le_length (by omega)]
   rcases h with h|h
   ·subst h;simp at hk1
   ·unfold bC at h
    rw[aa,cz] at h
    have:=aRx h.2 k hk1
    rw[ca] at this;exact this
  ·have e1:k=l.length:=by simp at hk;omega
   subst e1
   simp[hs]
 unfold bC
 rw[aa,cz]
 exact⟨iL (by simp;omega) (by simp;omega),ha⟩
def bFx (l:List D.aAC)(e:D.aAC):aD (l++[e])=iQ (aD l) e:=by
 unfold aD;rw[gq];rfl
def aXl (l:List D.aAC)(e:D.aAC):aJ (l++[e])=bif e.Kind==2 then IntKind.i64.wrap (aJ l+1) else aJ l:=by
 unfold aJ;rw[gq];rfl
def aRz (l:List D.aAC)(e:D.aAC)(p:Int):iJ (l++[e]) p=(iJ l p||(e.Kind==2&&e.Device==p)):=by
 unfold iJ;rw[jk];simp
def tN (seed:Int)(k:Nat):Int:=aY (aL seed (k:Int))
def aZu {seed:Int}{i k:Nat}(hi:i<6)(hk:k<6)(h:i≠k):tN seed i≠tN seed k:=bBx (by omega) (by omega) (by omega)
def Vx (s:D.aAI):bG (fP s)=true:=by unfold fP;exact gW _ _
def J4 {l:List Int}{x:Int}:gM l x=true↔x∈l:=by
 unfold gM;rw[gx]
 constructor
 ·rintro⟨y,hy,e⟩;rw[<-eq_of_beq e];exact hy
 ·exact λh=>⟨x,h,dx x⟩
structure NewLog (seed:Int) (n:Nat) (l:List D.aAC):Prop where
 len:l.length=n
 devs:aD l=(List.range n).map (tN seed)
 rem:∀p,iJ l p=false
 ep:aJ l=0
 ok:n=0\/bC l=true
def Co (seed:Int):∀n,n<=6->NewLog seed n (aS seed n)
 |0,_=>⟨rfl,rfl,λ_=>rfl,rfl, .inl rfl⟩
 |n+1,hn=>by
  obtain⟨h1,h2,h3,h4,h5⟩:=Co seed n (by omega)
  have hnot:gM (aD (aS seed n)) (tN seed n)=false:=by
   rw[fS,Ne,J4,h2]
   intro hm
   obtain⟨i,hi,e⟩:=cg.1 hm
   have hi:=jp.1 hi
   exact aZu (by omega) (by omega) (by omega) e
  have hst:lD (aS seed n) (bBj (aS seed n) 1 (tN seed n) (aL seed 0))=true:=by
   unfold lD
   have v:gB (aY (aL seed 0)) [bY (aW3 (aS seed n) 1 (tN seed n) (aL seed 0))] (oZ (aL seed 0) [bY (aW3 (aS seed n) 1 (tN seed n) (aL seed 0))])=true:=by
    unfold oZ aY;exact bFv (Vx _) _
   show(((aS seed n).length:Int)==((aS seed n).length:Int)&&(fQ (aS seed n)==fQ (aS seed n)&&((gM (aD (aS seed n)) (aY (aL seed 0))||(((aS seed n).length:Int)==0&&aY (aL seed 0)==tN seed n))&&(gB (aY (aL seed 0)) [bY (aW3 (aS seed n) 1 (tN seed n) (aL seed 0))] (oZ (aL seed 0) [bY (aW3 (aS seed n) 1 (tN seed n) (aL seed 0))])&&
    (!iJ (aS seed n) (tN seed n)&&(true&&(!gM (aD (aS seed n)) (tN seed n)&&decide (((aD (aS seed n)).length:Int)<6))))))))=true
   rw[v,h3,hnot,h2,h1]
   have hby:(gM ((List.range n).map (tN seed)) (aY (aL seed 0))||((n:Int)==0&&aY (aL seed 0)==tN seed n))=true:=by
    cases n with
    |zero=>simp[tN]
    |succ n=>
     rw[show gM ((List.range (n+1)).map (tN seed)) (aY (aL seed 0))=true from J4.2 (cg.2 ⟨0,by simp,rfl⟩)];rfl
   rw[hby]
   simp;omega
  have hl:=bFw (l:=aS seed n) (by
   rcases h5 with h5|h5
   ·subst h5;exact .inl rfl
   ·exact .inr h5) hst (by omega)
  have e:aS seed (n+1)=aS seed n++[bBj (aS seed n) 1 (tN seed n) (aL seed 0)]:=by
   show(dQ (aS seed n) 1 (aY (aL seed (n:Int))) (aL seed 0)).1=_
   unfold dQ
   have hq:(decide (((aS seed n).length:Int)>0)&& !bC (aS seed n))=false:=by
    rcases h5 with h5|h5
    ·subst h5;rfl
    ·rw[h5];simp
   rw[hq,show aY (aL seed (n:Int))=tN seed n from rfl,hl];rfl
  rw[e]
  refine⟨by simp[h1],?_,λp=> ?_,?_, .inr hl⟩
  ·rw[bFx,gO,cT,<-h2]
   unfold iQ
   have hc:(aD (aS seed n)).contains (tN seed n)=false:=by
    rw[fS] at hnot ⊢
    intro hc;exact hnot (J4.2 (by simpa using hc))
   show(bif (1:Int)==1 then(bif (aD (aS seed n)).contains (tN seed n) then _ else _) else _)=_
   rw[hc];rfl
  ·rw[aRz,h3];rfl
  ·rw[aXl,h4];rfl
end Go.VK

set_option maxRecDepth 100000
namespace Go.VK
def aP0 {e:Int}{d:List Int}(hd:d.length<=200):∀(l:List Int) (i:Nat),(∀p∈l,bG p=true)->1<=e+(i:Int)->e+(i:Int)+(l.length:Int)<=2147483646->
  (dZ e d i l).2=true/\(dZ e d i l).1.length=l.length/\(dZ e d i l).1.map (·.To)=l/\∀k (h:k<(dZ e d i l).1.length) (h2:k<l.length),(dZ e d i l).1[k]=fT l[k] (e+((i+k:Nat):Int)) d
 |[],i,_,_,_=>⟨rfl,rfl,rfl,λk h _=>by simp[dZ] at h⟩
 |p::l,i,hp,h1,h2=>by
  simp only[av] at h2
  obtain⟨i1,i2,i3,i4⟩:=aP0 (e:=e) hd l (i+1) (λq hq=>hp q (by simp[hq])) (by push_cast;omega) (by push_cast at h2 ⊢;omega)
  have hk:=hp p (by simp)
  have hq:=aIt hk
  have hw:IntKind.i64.wrap (e+(i:Int))=e+(i:Int):=aI (by omega) (by push_cast at h2;omega)
  have hpr:eP p≠0:=by
   unfold eP
   rw[hk,bf,ab]
   omega
  have hb:dY p (IntKind.i64.wrap (e+(i:Int))) d=(fT p (e+(i:Int)) d,true):=by
   unfold dY
   rw[hw,cM.2 hpr,show bG (e+(i:Int))=true from iL (by omega) (by push_cast at h2;omega),au (show ¬(d.length:Int)>200 by omega)];rfl
  have hu:dZ e d i (p::l)=(fT p (e+(i:Int)) d::(dZ e d (i+1) l).1,true):=by
   rw[dZ,hb,i1];rfl
  rw[hu]
  refine⟨rfl,by simp[i2],?_,λk hk1 hk2=> ?_⟩
  ·simp only[bm,i3];rfl
  ·cases k with
   |zero=>rfl
   |succ k=>
    simp only[av] at hk1 hk2
    have:=i4 k (by omega) (by omega)
    simp only[eI]
    rw[this];congr 1;push_cast;omega
def bFy {l:List D.Box}{p:Int}:∀(n:Int),0<=n->n+(l.length:Int)<=1000000->l.foldl (λn b=>bif b.To==p then IntKind.i64.wrap (n+1) else n) n=n+((l.filter λb=>b.To==p).length:Int):=by
 induction l with
 |nil=>intro n _ _;simp
 |cons b l ih=>
  intro n h0 h1
  simp only[av] at h1
  push_cast at h1
  rw[dc,je]
  cases hb:b.To==p with
  |true=>
   rw[ae,aI (by omega) (by omega),cH rfl,ih (n+1) (by omega) (by omega),av]
   push_cast;omega
  |false=>
   rw[ab,cX (by simp),ih n h0 (by omega)]
def bB0 {l:List D.Box}(h:(l.map (·.To)).Nodup){p:Int}(hp:p∈l.map (·.To)):(l.filter λb=>b.To==p).length=1:=by
 induction l with
 |nil=>simp at hp
 |cons b l ih=>
  simp only[bm,cu,ba] at h hp
  rw[je]
  by_cases hb:b.To=p
  ·have hn:(l.filter λb=>b.To==p)=[]:=by
    rw[List.filter_eq_nil_iff]
    intro c hc he
    exact h.1 (cg.2 ⟨c,hc,by rw[hb];exact eq_of_beq he⟩)
   rw[cI.2 hb,cH rfl,hn];rfl
  ·have hp2:p∈l.map (·.To):=by
    rcases hp with hp|hp
    ·exact absurd hp.symm hb
    ·exact hp
   rw[cM.2 hb,cX (by simp)]
   exact ih h.2 hp2
def bB1 {log:List D.aAC}{bx:D.aAE}(h1:bx.Epoch=aJ log)(h2:bx.Boxes.map (·.To)=aD log)(h3:(aD log).Nodup)(h4:(aD log).length<=1000):gF bx log=true:=by
 have hl:bx.Boxes.length=(aD log).length:=by rw[<-h2,bl]
 unfold gF
 rw[h1,hl,dx,dx,dw,da,cG]
 intro p hp
 unfold pE
 rw[bFy 0 (by omega) (by omega),bB0 (by rw[h2];exact h3) (by rw[h2];exact hp)];rfl
def aZv (a b:Int):(gN [a,b]).length<=12:=by
 have h1:=G7 a
 have h2:=G7 b
 unfold gN
 simp only[bm,ex,cR,fY,cW,aw];omega
def aP1 {log:List D.aAC}{key eph:Int}(h1:bC log=true)(h2:bG key=true)(h3:∀p∈aD log,bG p=true)(h4:(aD log).length<=1000)(h5:1<=eph/\eph<=1000000):
  (bD log key eph).2=true/\(bD log key eph).1.Epoch=aJ log/\(bD log key eph).1.Boxes.map (·.To)=aD log/\∀k (h:k<(bD log key eph).1.Boxes.length) (h2:k<(aD log).length),(bD log key eph).1.Boxes[k]=fT (aD log)[k] (eph+(k:Int)) (gN [aJ log,key]):=by
 have hd:=aZv (aJ log) key
 obtain⟨s1,s2,s3,s4⟩:=aP0 (e:=eph) (d:=gN [aJ log,key]) (by omega) (aD log) 0 h3 (by omega) (by omega)
 have e:bD log key eph=(⟨aJ log,(dZ eph (gN [aJ log,key]) 0 (aD log)).1⟩,true):=by
  unfold bD
  rw[h1,h2,s1];rfl
 rw[e]
 refine⟨rfl,rfl,s3,λk hk hk2=> ?_⟩
 have:=s4 k hk hk2
 rw[ca] at this;exact this
end Go.VK

set_option maxRecDepth 100000
namespace Go.VK
def aUy (seed:Int)(k:Nat):bG (tN seed k)=true:=by
 unfold tN aY;exact aZs (Vx _)
def aUz {seed:Int}{n:Nat}(hn:n<=6):((List.range n).map (tN seed)).Nodup:=by
 rw[jo,gm]
 refine(List.pairwise_lt_range).imp_of_mem ?_
 intro a b ha hb hab
 have ha:=jp.1 ha
 have hb:=jp.1 hb
 exact aZu (by omega) (by omega) (by omega)
def Vy {seed:Int}{n:Nat}(h0:1<=n)(hn:n<=6):gF (eT seed n) (aS seed n)=true/\bC (aS seed n)=true/\(eT seed n).Epoch=0:=by
 obtain⟨h1,h2,h3,h4,h5⟩:=Co seed n hn
 have hl:bC (aS seed n)=true:=h5.resolve_left (by omega)
 have hlen:(aD (aS seed n)).length<=1000:=by rw[h2,bl,fN];omega
 obtain⟨m1,m2,m3,m4⟩:=aP1 (key:=bL seed 0) (eph:=1000) hl (by unfold bL;exact gW _ _) (λp hp=>by
  rw[h2] at hp
  obtain⟨i,_,rfl⟩:=cg.1 hp
  exact aUy _ _) hlen ⟨by decide,by decide⟩
 refine⟨bB1 m2 m3 (by rw[h2];exact aUz hn) hlen,hl,?_⟩
 unfold eT;rw[m2,h4]
def aU0 {seed:Int}{n:Nat}(h0:1<=n)(hn:n<=6):(gT seed n).Log=aS seed n:=by
 obtain⟨h1,h2,_⟩:=Vy (seed:=seed) h0 hn
 unfold gT
 rw[(nL _ _).2]
 unfold dF
 rw[h1,h2];rfl
def Md (d:D.Device)(l:List D.aAC)(k:Int):(lW d l k).1.Store=d.Store:=by
 unfold lW
 cases !bC l||(!bZ l d.Log||(decide (aJ l<d.Epoch)|| !bG k))<;>rfl
def aMn (d:D.Device)(l:List D.aAC)(b:D.aAE)(s:D.aAA):(bO d l b s).1.Store=d.Store:=by
 unfold bO
 cases eQ d l b s==0<;>rfl
def Vz (nm:ByteArray):∀(i:Nat) (d:D.Device),(Cm nm i d).Store=d.Store
 |0,d=>rfl
 |i+1,d=>by
  show(cO (Cm nm i d) nm (i:Int) false).1.Store=_
  rw[Gh,Vz nm i d]
def bB2 {seed:Int}{n:Nat}(h0:1<=n):(iF seed n).length=n/\∀k (h:k<(iF seed n).length),(iF seed n)[k].Store=aL seed (k:Int):=by
 have hl:(iF seed n).length=n:=by
  unfold iF dB
  simp only[av,bl,ck,fN];omega
 refine⟨hl,λk hk=> ?_⟩
 cases k with
 |zero=>
  show(nwW seed n).1.Store=_
  unfold nwW
  rw[aD9]
  unfold jR sP
  rw[Vz,Vz,Md];rfl
 |succ k=>
  have hk2:k<(((dB seed n).drop 1).map (Gg seed n)).length:=by
   have:(iF seed n).length=(((dB seed n).drop 1).map (Gg seed n)).length+1:=rfl
   omega
  show((((dB seed n).drop 1).map (Gg seed n))[k]'hk2).Store=_
  rw[fm]
  unfold Gg sP
  rw[aMn,Md,List.getElem_drop]
  unfold dB
  rw[fm,List.getElem_range]
  unfold bM
  rw[show((1+k:Nat):Int)=((k+1:Nat):Int) by omega]
def aU1 {n k t pin seed:Int}(h:aEu n k t pin seed=true):WIn n.toNat (fA n k t pin seed)/\(fA n k t pin seed).Devices.length=n.toNat/\(fA n k t pin seed).Seed=seed:=by
 have hb:=h
 unfold aEu at hb
 simp only[aa] at hb
 obtain⟨b1,b2,b3,b4,b5⟩:=hb
 have r:=jS b1
 unfold fA
 rw[h,ae]
 obtain⟨d1,d2⟩:=bB2 (seed:=seed) (n:=n.toNat) (by omega)
 have hlog:=aU0 (seed:=seed) (n:=n.toNat) (by omega) (by omega)
 have hok:=(Vy (seed:=seed) (n:=n.toNat) (by omega) (by omega)).2.1
 refine⟨{seed:=b5,now:=⟨du 0,show(0:Int)<=999900 by decide⟩,dlen:= ?_,slen:= ?_,dev:= ?_,two:=rfl,mle:=by omega,site:= ?_,mail:=rfl,log:= ?_},d1,rfl⟩
 ·show 1<=(iF seed n.toNat).length/\(iF seed n.toNat).length<=6;omega
 ·show(List.replicate n.toNat false).length=(iF seed n.toNat).length;rw[fe,d1]
 ·intro j hj
  show StIn seed j ((iF seed n.toNat)[j]'hj).Store
  rw[d2 j hj]
  exact⟨rfl,rfl,rfl,du 0,show(0:Int)<=1000000 by decide⟩
 ·intro j hj
  show SiteIn seed (j:Int) n.toNat ((wO (dB seed n.toNat) seed)[j]'hj)
  match j,hj with
  |0,_=>exact aD8 (.inl rfl) (by omega)
  |1,_=>exact aD8 (.inr rfl) (by omega)
  |j+2,hj=>have:j+2<2:=hj;omega
 ·show bC (gT seed n.toNat).Log=true
  rw[hlog];exact hok
end Go.VK

set_option maxRecDepth 100000
namespace Go.VK
def SiteIn.cut {seed j:Int}{n:Nat}{s:D.Site}(h:SiteIn seed j n s)(t:Int):SiteIn seed j n (jQ t s):=by
 have hf:=h.find
 obtain⟨l,e,hl,hn⟩:=h.acc
 have ea:fM s 0=⟨1,3,l⟩:=by unfold fM;rw[e];rfl
 unfold jQ
 rw[hf,show decide ((0:Int)>=0)=true from rfl,ae,ea,show(0:Int).toNat=0 from rfl,e]
 have key:∃l',(nD ⟨1,3,l⟩ t).1=⟨1,3,l'⟩/\J2 seed j l'/\l'.length=l.length:=by
  unfold nD
  cases hb: !aZ ⟨1,3,l⟩||(decide (aU ⟨1,3,l⟩ t<0)||(fH ⟨1,3,l⟩ (aU ⟨1,3,l⟩ t)).Cut) with
  |true=>exact⟨l,rfl,hl,rfl⟩
  |false=>
   simp only[cn] at hb
   obtain⟨k,hk,e1,e2⟩:=aIv (l:=l) hb.2.1
   have ef:aU ⟨1,3,l⟩ t=(k:Int):=e1.trans (by simp)
   have ec:fH ⟨1,3,l⟩ (k:Int)=l[k]:=by unfold fH;simp[List.getD,ac hk]
   rw[ef,ec,ab,cm]
   exact⟨_,rfl,hl.set hk rfl rfl (hl k hk).2.2,ax⟩
 obtain⟨l',q1,q2,q3⟩:=key
 rw[q1]
 have:=h.aBT q2 (q3.trans hn) s.Logins s.Book (aGv h.book) rfl
 exact this
def bFz {α β:Type}{P:Nat->β->Prop}{f:α->β}{l:List α}(h:∀j (hj:j<l.length),P j (f l[j])):∀j (hj:j<(l.map f).length),P j (l.map f)[j]:=λj hj=>by
 rw[fm];exact h j (by simpa using hj)
def WIn.cut {m:Nat}{w:D.World}(h:WIn m w)(b t:Int):WIn m (iC w b t).1/\(iC w b t).1.Seed=w.Seed/\(iC w b t).1.Devices.length=w.Devices.length:=by
 unfold iC
 cases hq:(aH w b 0).2==0&&(!dU w b&&(!(b==t)&&kG w t)) with
 |false=>exact⟨h,rfl,rfl⟩
 |true=>
  simp only[aa] at hq
  have h0:=(jP hq.1).1
  simp only[ae]
  unfold pF
  cases(lX w b t).2&&((H9 w b t).2&&(I4 w b t).2) with
  |false=>exact⟨h,rfl,rfl⟩
  |true=>
   obtain⟨s1,s2,s3,s4,s5,s6⟩:=gU w b 0
   have hO:WIn m (gZ w b):=h.sync b 0
   have h1:WIn m (lX w b t).1:=hO.aCN _ _ _ _
   obtain⟨a1,a2,a3,a4,a5,a6,a7⟩:=Vw (gZ w b) b 2 (aY (aO w t).Store) (mM (aO (gZ w b) b).Store)
   have e1:(lX w b t).1.Devices=(gZ w b).Devices:=a3
   have hd:aN (lX w b t).1 b=true:=aA4 h0.2 (by rw[e1];exact s3)
   obtain⟨d0,d1,_⟩:=Mc hd
   have hst:StIn (lX w b t).1.Seed b.toNat (mK (H9 w b t).1 t true).Store:=by
    rw[aIw]
    unfold H9
    rw[Md]
    have:=h1.aBZ hd
    have e2:aO (lX w b t).1 b=aO (gZ w b) b:=by unfold aO;rw[e1]
    rw[e2] at this;exact this
   have hW:WIn m (I1 w b t):=by
    refine h1.upd rfl rfl (ax ..) rfl (h1.aBO d1 hst) (by show((lX w b t).1.Sites.map (jQ t)).length=2;rw[bl];exact h1.two) (bFz (P:=λj s=>SiteIn (lX w b t).1.Seed ((j:Nat):Int) m s) λj hj=>(h1.site j hj).cut t) h1.mail h1.log
   have hdW:aN (I1 w b t) b=true:=aA4 hd (ax ..)
   have h3:WIn m (I4 w b t).1:=hW.up hdW
   obtain⟨u1,u2,u3,u4,u5,u6⟩:=aRy (I1 w b t) b
   refine⟨h3.tell 4,?_,?_⟩
   ·show(I4 w b t).1.Seed=w.Seed
    exact u1.trans (a1.trans s1)
   ·show(I4 w b t).1.Devices.length=w.Devices.length
    refine u3.trans ?_
    show((lX w b t).1.Devices.set _ _).length=_
    rw[ax,e1];exact s3
def WIn.aDK {m:Nat}{w:D.World}(h:WIn m w)(d:Int):WIn m (mY w d).1/\(mY w d).1.Seed=w.Seed/\(mY w d).1.Devices.length=w.Devices.length:=by
 unfold mY
 cases eD w d 0&& !dU w d with
 |false=>exact⟨h,rfl,rfl⟩
 |true=>exact⟨h.upd rfl rfl rfl (ax ..) h.dev h.two h.site h.mail h.log,rfl,rfl⟩
def bB3 {b:D.aAD}(h:BookIn b)(now:Int):BookIn (aGu b now)/\(aGu b now).Seed=b.Seed:=by
 unfold aGu
 rw[h.ok]
 have hs:(b.Open.filter λc=>decide (c.Until>=now)).Sublist b.Open:=List.filter_sublist
 exact⟨⟨h.next,bq hs.length_le h.len,h.ord.sublist hs,λc hc=>h.all c (hs.subset hc)⟩,rfl⟩
def WIn.tick {m:Nat}{w:D.World}(h:WIn m w):WIn m (aUt w).1/\(aUt w).1.Seed=w.Seed/\(aUt w).1.Devices.length=w.Devices.length:=by
 unfold aUt
 cases hw:aV (aIr w) with
 |false=>exact⟨h,rfl,rfl⟩
 |true=>
  refine⟨?_,rfl,rfl⟩
  have hn:0<=(aIr w).Now/\(aIr w).Now<=999900:=by
   unfold aV at hw
   simp only[aa] at hw
   have:=jS hw.1.1.1.1.1.1.1
   exact⟨by omega,by omega⟩
  exact {
   seed:=h.seed
   now:=hn
   dlen:=h.dlen
   slen:=h.slen
   dev:=h.dev
   two:=by show(w.Sites.map _).length=2;rw[bl];exact h.two
   mle:=h.mle
   site:=bFz (P:=λj s=>SiteIn w.Seed ((j:Nat):Int) m s) λj hj=>by
    have hs:=h.site j hj
    have he:=bB3 (aGv hs.book) (aIr w).Now
    exact hs.aBJ he.1 he.2
   mail:=h.mail
   log:=h.log}
def aXm (w:D.World)(d j:Int)(o:D.aAN):(kW w d j o).1.Seed=w.Seed/\(kW w d j o).1.Devices.length=w.Devices.length:=by
 unfold kW
 cases !eD w d j with
 |true=>exact⟨rfl,rfl⟩
 |false=>
  cases !(sO w j).2.2.2 with
  |true=>exact⟨rfl,rfl⟩
  |false=>
   cases !((aEs w d j o).2.1==0) with
   |true=>exact⟨rfl,ax ..⟩
   |false=>exact⟨rfl,ax ..⟩
def bB4 (w:D.World)(d:Int)(n:ByteArray)(a:Int)(r:Bool):(oW w d n a r).1.Seed=w.Seed/\(oW w d n a r).1.Devices.length=w.Devices.length:=by
 unfold oW
 cases aV w&&aN w d with
 |false=>exact⟨rfl,rfl⟩
 |true=>
  cases(cO (aO w d) n a r).2 with
  |false=>exact⟨rfl,rfl⟩
  |true=>exact⟨rfl,ax ..⟩
end Go.VK

set_option maxRecDepth 100000
namespace Go.VK
def J5 {α:Type}[Inhabited α]{f:α->Nat}{K:Nat}{x:α}:∀{l:List α} {i:Nat},i<l.length->f x<=f (l.getD i default)+K->((l.set i x).map f).sum<=(l.map f).sum+K
 |y::l,0,_,h=>by
  simp only[List.getD,gv,cE] at h
  simp only[List.set_cons_zero,bm,df];omega
 |y::l,i+1,hi,h=>by
  have:=J5 (f:=f) (l:=l) (i:=i) (x:=x) (K:=K) (by simpa using hi) (by simpa[List.getD] using h)
  simp only[gj,bm,df];omega
def Cq {w:D.World}{d:Int}(hd:aN w d=true){x:D.Device}{K:Nat}(hx:x.sz<=(aO w d).sz+K):({w with Devices:=w.Devices.set d.toNat x}:D.World).sz<=w.sz+K:=by
 obtain⟨h0,h1,h2⟩:=Mc hd
 have:=J5 (f:=D.Device.sz) (K:=K) h1 (by rw[<-h2];exact hx)
 simp only[D.World.sz,ax] at this ⊢;omega
def aXn {w:D.World}{j:Nat}(hj:j<w.Sites.length){x:D.Site}{K:Nat}(hx:x.sz<=(w.Sites.getD j default).sz+K):({w with Sites:=w.Sites.set j x}:D.World).sz<=w.sz+K:=by
 have:=J5 (f:=D.Site.sz) (K:=K) hj hx
 simp only[D.World.sz,ax] at this ⊢;omega
def WIn.aCG {m:Nat}{w:D.World}(h:WIn m w):w.aAB.Log.length<=40:=by
 have:=h.log
 unfold bC at this
 rw[aa] at this
 have:=jS this.1
 omega
def aU2 {m:Nat}{w:D.World}(h:WIn m w)(d b:Int):(aH w d b).1.sz<=w.sz+60:=by
 have hl:=h.aCG
 unfold aH
 cases hb:aV w&&aN w d with
 |false=>simp only[ab];omega
 |true=>
  rw[aa] at hb
  simp only[ae]
  have:=aIi (aO w d) w.aAB.Log w.aAB.Boxes (bN w.aAB b).1
  exact Cq hb.2 (by omega)
def bF0 (w:D.World)(d:Int)(n:ByteArray)(a:Int)(r:Bool):(oW w d n a r).1.sz<=w.sz+1:=by
 unfold oW
 cases hb:aV w&&aN w d with
 |false=>simp only[ab];omega
 |true=>
  rw[aa] at hb
  simp only[ae]
  cases(cO (aO w d) n a r).2 with
  |false=>simp only[ab];omega
  |true=>exact Cq hb.2 (Ci _ _ _ _)
def bF1 {m:Nat}{w:D.World}(h:WIn m w)(d:Int):(fG w d).1.sz<=w.sz+561:=by
 have hl:=h.aCG
 cases hp:(fG w d).2 with
 |true=>have:=(aGp hp).2;omega
 |false=>
  have e:(fG w d).1=w:=by
   unfold fG at hp ⊢
   cases hc:(aH w d 0).2==0&&(Ud (aH w d 0).1 d).2 with
   |true=>rw[hc] at hp;cases hp
   |false=>rfl
  rw[e];omega
def add_add {w:D.World}(h:WIn w.Devices.length w)(b:Int):(iB w b).1.sz<=w.sz+2500:=by
 have hl:=h.aCG
 unfold iB
 cases hok:H6 w b with
 |false=>simp only[ab];omega
 |true=>
  unfold H6 at hok
  simp only[aa,cz,di] at hok
  obtain⟨⟨k1,k2,k3,k4⟩,k5,k6,k7,k8,k9⟩:=hok
  obtain⟨s1,s2,s3,s4,s5,s6⟩:=gU w b 0
  have a0:=aU2 h b 0
  have h0:=h.sync b 0
  have h1:WIn w.Devices.length (add1 w b).1:=h0.aCN _ _ _ _
  obtain⟨z1,z2,z3,z4⟩:=H5 (aH w b 0).1 b 1 (aY (aL w.Seed (w.Devices.length:Int))) (λ_=>(aO (aH w b 0).1 b).Key)
  rw[s6] at z1 z2
  have z1:(add1 w b).1.sz<=(aH w b 0).1.sz+14*(w.aAB.Log.length+1):=z1
  have z2:(add1 w b).1.aAB.Log.length<=w.aAB.Log.length+1:=z2
  have hd:aN (add1 w b).1 b=true:=aA4 k2 (by show(iA _ _ _ _ _).1.Devices.length=_;rw[z3,s3])
  obtain⟨r1,r2⟩:=aAz (st:=aL w.Seed (w.Devices.length:Int)) (n:=(w.Devices.length:Int)) (j:=0) (l:=(add1 w b).1.Sites)
  have e2:=h1.two
  have hw2:(jD w b).sz<=(add1 w b).1.sz+4:=by
   have q:=Cq (w:=(add1 w b).1) hd (x:=mK (aO (add1 w b).1 b) (w.Devices.length:Int) false) (K:=2) (aGq _ _ _)
   unfold jD aIj
   simp only[D.World.sz] at q ⊢
   omega
  have p1:=(aGp (w:=jD w b) (d:=b) k8).2
  have p1:(nN w b).1.sz<=(jD w b).sz+(jD w b).aAB.Log.length+521:=p1
  have pl:=(aGp (w:=jD w b) (d:=b) k8).1
  have pl:(nN w b).1.aAB.Log=(jD w b).aAB.Log:=pl
  have e3:(jD w b).aAB.Log.length=(add1 w b).1.aAB.Log.length:=rfl
  have ap:=H7 (nN w b).1 (bM (aL w.Seed (w.Devices.length:Int)))
  have nd:(bM (aL w.Seed (w.Devices.length:Int))).sz=0:=rfl
  have f1:=(jP (w:=appW (nN w b).1 (bM (aL w.Seed (w.Devices.length:Int)))) k9).2.2.2
  have f1:(yP w b).1.sz<=(appW (nN w b).1 (bM (aL w.Seed (w.Devices.length:Int)))).sz+(nN w b).1.aAB.Log.length+20:=f1
  have tl:=aRp (yP w b).1 2
  simp only[ae]
  rw[pl,e3] at f1
  omega
def bIk {m:Nat}{w:D.World}(h:WIn m w)(b t:Int):(iC w b t).1.sz<=w.sz+2500:=by
 have hl:=h.aCG
 unfold iC
 cases hq:(aH w b 0).2==0&&(!dU w b&&(!(b==t)&&kG w t)) with
 |false=>simp only[ab];omega
 |true=>
  simp only[aa] at hq
  obtain⟨q1,q2,q3,q4⟩:=jP hq.1
  simp only[ae]
  unfold pF
  cases(lX w b t).2&&((H9 w b t).2&&(I4 w b t).2) with
  |false=>simp only[ab];omega
  |true=>
   obtain⟨z1,z2,z3,z4⟩:=H5 (gZ w b) b 2 (aY (aO w t).Store) (mM (aO (gZ w b) b).Store)
   have e0:(gZ w b).aAB.Log=w.aAB.Log:=by show(aH w b 0).1.aAB.Log=_;rw[q2]
   rw[e0] at z1 z2
   have z1:(lX w b t).1.sz<=(gZ w b).sz+14*(w.aAB.Log.length+1):=z1
   have z3:(lX w b t).1.Devices=(gZ w b).Devices:=z3
   have q4:(gZ w b).sz<=w.sz+w.aAB.Log.length+20:=q4
   have hd:aN (lX w b t).1 b=true:=aA4 q1.2 (by rw[z3];exact q3)
   have hL:(H8 w b t).length<=w.aAB.Log.length+1:=by
    unfold H8
    have:=nM (gZ w b).aAB.Log 2 (aY (aO w t).Store) (aO (gZ w b) b).Store
    rw[e0] at this ⊢;exact this
   have hdev:aO (lX w b t).1 b=aO (gZ w b) b:=by unfold aO;rw[z3]
   have hx:(mK (H9 w b t).1 t true).sz<=(aO (lX w b t).1 b).sz+(w.aAB.Log.length+3):=by
    have x1:=aGq (H9 w b t).1 t true
    have x2:=aIk (aO (gZ w b) b) (H8 w b t) (mM (aO (gZ w b) b).Store (H8 w b t))
    have x2:(H9 w b t).1.sz<=(aO (gZ w b) b).sz+(H8 w b t).length:=x2
    rw[hdev];omega
   have hW:(I1 w b t).sz<=(lX w b t).1.sz+(w.aAB.Log.length+3):=by
    have q:=Cq (w:=(lX w b t).1) hd hx
    have c:=aUp t (lX w b t).1.Sites
    unfold I1
    simp only[D.World.sz,bl] at q ⊢
    omega
   have hdW:aN (I1 w b t) b=true:=aA4 hd (ax ..)
   have u:=(bJs (w:=I1 w b t) hdW).2.2
   have u:(I4 w b t).1.sz<=(I1 w b t).sz+501:=u
   have tl:=aRp (I4 w b t).1 4
   simp only[ae]
   omega
end Go.VK

set_option maxRecDepth 100000
namespace Go.VK
structure Kept (w v:D.World):Prop where
 wi:WIn v.Devices.length v
 seed:v.Seed=w.Seed
 sz:v.sz<=w.sz+3000
def Kept.of {w v:D.World}(h:WIn w.Devices.length v/\v.Seed=w.Seed/\v.Devices.length=w.Devices.length)(hz:v.sz<=w.sz+3000):Kept w v:=⟨by rw[h.2.2];exact h.1,h.2.1,hz⟩
def bB5 (s:D.Site)(c t:Int)(x:D.aAL)(h:aC s 1=0)(h0:0<s.Accounts.length):(rW s 1 c t x).1.sz<=s.sz+1:=by
 have hb:(sM s.Book c 1 t).1.Open.length<=s.Book.Open.length:=by
  unfold sM
  cases !dW s.Book||decide (dH s.Book c<0) with
  |true=>exact aj _
  |false=>simp only[ab,aw,bz,ck];omega
 have hu:∀a x z q,(mW a x z q).1.sz=a.sz:=λa x z q=>by
  unfold mW
  cases !aZ a||(decide (aU a x.Handle<0)||(fH a (aU a x.Handle)).Cut) with
  |true=>rfl
  |false=>
   simp only[ab,D.aAH.sz]
   cases kP (fH a (aU a x.Handle)).Public x z q (fH a (aU a x.Handle)).Counter==0<;>cases kP (fH a (aU a x.Handle)).Public x z q (fH a (aU a x.Handle)).Counter==4<;>simp
 have hs:=J5 (f:=D.aAH.sz) (K:=0) (l:=s.Accounts) (i:=0) (x:=(mW (fM s 0) x s.Name (jE s.Book c)).1) h0 (by rw[hu];exact aj _)
 unfold rW
 rw[h]
 cases !dE s||decide ((0:Int)<0) with
 |true=>exact eo _
 |false=>
  simp only[ab]
  cases !(sM s.Book c 1 t).2 with
  |true=>simp only[ae,D.Site.sz];omega
  |false=>
   simp only[ab]
   cases !zB (fM s 0) 3 with
   |true=>simp only[ae,D.Site.sz];omega
   |false=>
    simp only[ab]
    cases !((mW (fM s 0) x s.Name (jE s.Book c)).2==0) with
    |true=>simp only[ae,D.Site.sz,show(0:Int).toNat=0 from rfl,ax];omega
    |false=>simp only[ab,D.Site.sz,show(0:Int).toNat=0 from rfl,ax,aw,av,bo];omega
def bB6 (s:D.Site)(i n:Int):(rH s i n).1.sz<=s.sz+1:=by
 unfold rH
 cases dE s&&(!decide (aC s i<0)&&(iT s.Book i n).2.2) with
 |false=>exact eo _
 |true=>
  have hb:(iT s.Book i n).1.Open.length<=s.Book.Open.length+1:=by
   unfold iT
   cases dW s.Book&&(!(s.Book.Next==1000000)&&(bI i 0 1000000&&bI n 0 1000000)) with
   |false=>simp only[ab];omega
   |true=>
    simp only[ae]
    cases decide ((s.Book.Open.length:Int)>=16) with
    |true=>simp only[ae,aw,ck,av,bo];omega
    |false=>simp only[ab,aw,av,bo];omega
  simp only[ae,D.Site.sz];omega
def bB7 {m:Nat}{w:D.World}(h:WIn m w)(d j:Int)(o:D.aAN):(kW w d j o).1.sz<=w.sz+3:=by
 unfold kW
 cases ht:eD w d j with
 |false=>simp only[dv,ae];omega
 |true=>
  have ht2:=ht
  simp only[eD,aa] at ht2
  have h2:=h.two
  have hq:=ht2.2.2
  simp only[wH,aa,bp] at hq
  have hj:j.toNat<w.Sites.length:=by omega
  have es:mX w j=w.Sites[j.toNat]:=by unfold mX;simp[List.getD,ac hj]
  have hs:=h.site _ hj
  rw[<-es,show((j.toNat:Nat):Int)=j by omega] at hs
  have hb:SiteIn w.Seed j m (sO w j).1:=hs.begin 1 w.Now
  have z1:(sO w j).1.sz<=(mX w j).sz+1:=bB6 _ _ _
  obtain⟨l,ea,_⟩:=hb.acc
  have z2:(aEs w d j o).1.sz<=(sO w j).1.sz+1:=bB5 _ _ _ _ hb.find (by rw[ea];simp)
  have hw:(bBo w d j o).sz<=w.sz+2:=by
   have q1:=Cq (w:=w) ht2.2.1 (x:={aO w d with Store:=(aMl w d j o).1}) (K:=0) (aj _)
   have q2:=aXn (w:=w) hj (x:=(aEs w d j o).1) (K:=2) (by show _<=(mX w j).sz+2;omega)
   unfold bBo
   simp only[D.World.sz] at q1 q2 ⊢
   omega
  simp only[bf,ab]
  cases !(sO w j).2.2.2 with
  |true=>simp only[ae];omega
  |false=>
   simp only[ab]
   cases !((aEs w d j o).2.1==0) with
   |true=>simp only[ae];omega
   |false=>have:=aRp (bBo w d j o) 1;simp only[ab];omega
def aXo {w:D.World}(h:WIn w.Devices.length w)(d j:Int)(o:D.aAN):Kept w (kW w d j o).1:=by
 obtain⟨k1,k2⟩:=aXm w d j o
 have:=bB7 h d j o
 exact .of ⟨h.visit d j o,k1,k2⟩ (by omega)
def Kept.refl {w:D.World}(h:WIn w.Devices.length w):Kept w w:=⟨h,rfl,db _ _⟩
def bF2 {w:D.World}(h:WIn w.Devices.length w)(b:Bool)(d j:Int)(o:D.aAN):Kept w (bif b then Gd w d j o else(w,1)).1:=by
 cases b with
 |true=>exact aXo h d j o
 |false=>exact .refl h
end Go.VK

set_option maxRecDepth 100000
namespace Go.VK
def aA5 {b:List Int}{p:Nat}{h:Int}{t:List Int}(e:b.drop p=h::t):p<b.length/\b.getD p 0=h/\b.drop (p+1)=t:=by
 have hp:p<b.length:=by
  have:=congrArg List.length e
  rw[ck,av] at this;omega
 rw[co hp] at e
 injection e with e1 e2
 exact⟨hp,by simp[List.getD,ac hp,e1],e2⟩
def split_mul (r P:Int):r*P=r/128*(P*128)+r%128*P:=by
 have h:128*(r/128)+r%128=r:=Int.mul_ediv_add_emod r 128
 conv=>lhs;rw[<-h]
 rw[Int.add_mul,iv 128,Int.mul_assoc,iv 128 P]
def aZw {b y:List Int}{p:Nat}:∀(k i:Nat) (n r:Int),b.drop (p+i)=uvE k r++y->0<=r->r<128^(k+1)->(0<i->r≠0)->0<=n->n+r*128^i<=1000000000000->
  uvG b p (k+1) i n=(n+r*128^i,((p+i+(uvE k r).length:Nat):Int),true)
 |0,i,n,r,hd,h0,h1,hi,hn,hm=>by
  obtain⟨d1,d2,d3⟩:=aA5 (show b.drop (p+i)=r::y from hd)
  have hr:r<128:=by simpa using h1
  unfold uvG
  rw[cH d1,d2,ao hr,ae,show r%128=r by omega,au (show ¬n+r*128^i>1000000000000 by omega),gb]
  have:(decide (0<i)&&r==0)=false:=by
   by_cases hz:0<i
   ·rw[cM.2 (hi hz),dp]
   ·rw[au hz,eL]
  rw[this];rfl
 |k+1,i,n,r,hd,h0,h1,hi,hn,hm=>by
  have hp:(0:Int)<=128^i:=Int.pow_nonneg (by decide)
  have hs:=split_mul r (128^i)
  have hpow:(128:Int)^(i+1)=128^i*128:=e8 ..
  unfold uvE at hd ⊢
  by_cases hb:r>127
  ·rw[ao hb,ae] at hd ⊢
   obtain⟨d1,d2,d3⟩:=aA5 (show b.drop (p+i)=(r%128+128)::(uvE k (r/128)++y) from hd)
   have hq:(r/128)<128^(k+1):=by
    have:(128:Int)^(k+1+1)=128^(k+1)*128:=e8 ..
    omega
   have hx:0<=r%128*128^i:=ju (by omega) hp
   have ih:=aZw k (i+1) (n+r%128*128^i) (r/128) (by rw[show p+(i+1)=p+i+1 by omega];exact d3) (by omega) hq (λ_=>by omega) (by omega) (by rw[hpow];omega)
   rw[uvG,cH d1,d2,au (show ¬r%128+128<128 by omega),ab,show(r%128+128)%128=r%128 by omega,ih,hpow]
   simp only[av,cU,and_true]
   constructor
   ·omega
   ·congr 1;omega
  ·rw[au hb,ab] at hd ⊢
   obtain⟨d1,d2,d3⟩:=aA5 (show b.drop (p+i)=r::y from hd)
   unfold uvG
   rw[cH d1,d2,ao (show r<128 by omega),ae,show r%128=r by omega,au (show ¬n+r*128^i>1000000000000 by omega),gb]
   have:(decide (0<i)&&r==0)=false:=by
    by_cases hz:0<i
    ·rw[cM.2 (hi hz),dp]
    ·rw[au hz,eL]
   rw[this];rfl
def aZx {x y:List Int}{n:Int}(h:0<=n/\n<=1000000000000):vF (x++(enc1 n++y)) (x.length:Int)=(n,((x.length+(enc1 n).length:Nat):Int),true):=by
 have e:=aGo h
 unfold vF
 rw[cX (by omega),cm,e]
 have hp:(128:Int)^(5+1)=4398046511104:=by decide
 have:=aZw (b:=x++(uvE 5 n++y)) (y:=y) (p:=x.length) 5 0 0 n (by simp) h.1 (by omega) (λh=>by omega) (by decide) (by simp;omega)
 rw[this];simp
def aIx:∀(t x y s:List Int),aMk t->jB (x++(gN t++y)) t.length (x.length:Int) s=(s++t,((x.length+(gN t).length:Nat):Int),true)
 |[],x,y,s,_=>by simp[jB,gN]
 |n::t,x,y,s,h=>by
  have hn:=h n (by simp)
  have hu:=aZx (x:=x) (y:=gN t++y) hn
  rw[rF,ce]
  show jB _ (t.length+1) _ _=_
  rw[jB,hu]
  simp only[ae]
  have ih:=aIx t (x++enc1 n) y (s++[n]) (λv hv=>h v (by simp[hv]))
  rw[aw,ce] at ih
  rw[ih]
  simp[ga]
def aIy:∀l:List D.Entry,kC (iR l)=l/\jO (iR l)=true
 |[]=>⟨rfl,rfl⟩
 |e::l=>by
  obtain⟨h1,h2⟩:=aIy l
  have hf:iR (e::l)=aUh e++iR l:=by simp[iR]
  rw[hf]
  obtain⟨s,h,v,d⟩:=e
  cases d with
  |true=>exact⟨by show(⟨s,h,v,(1:Int)==1⟩:D.Entry)::kC (iR l)=_;rw[h1];rfl,by show(decide ((1:Int)<=1)&&jO (iR l))=true;rw[h2];rfl⟩
  |false=>exact⟨by show(⟨s,h,v,(0:Int)==1⟩:D.Entry)::kC (iR l)=_;rw[h1];rfl,by show(decide ((0:Int)<=1)&&jO (iR l))=true;rw[h2];rfl⟩
def bB8 {b:D.aAF}(h:aP b=true):∀e∈b.Entries,(0<=e.Site/\e.Site<=2147483646)/\(0<=e.Handle/\e.Handle<=1000000)/\(1<=e.Version/\e.Version<=1000000):=λe he=>by
 unfold aP at h
 rw[aa,cz] at h
 obtain⟨i,hi,rfl⟩:=dt.1 he
 have:=aRx h.2 i hi
 unfold aH9 at this
 simp only[cn,eh] at this
 have h1:=jS this.1
 have h2:=jS this.2.1
 have h3:=jS this.2.2.1
 exact⟨⟨h1.1,by omega⟩,⟨h2.1,by omega⟩,⟨h3.1,by omega⟩⟩
def bIl {b:D.aAF}(h:aP b=true):aMk (qF b):=λv hv=>by
 have hl:=nJ h
 unfold qF at hv
 rcases bw.1 hv with hv|hv
 ·rw[cy.1 hv];omega
 ·unfold iR at hv
  obtain⟨e,he,hv⟩:=List.mem_flatMap.1 hv
  obtain⟨h1,h2,h3⟩:=bB8 h e he
  unfold aUh at hv
  simp only[ba,et,or_false] at hv
  rcases hv with rfl|rfl|rfl|rfl
  ·omega
  ·omega
  ·omega
  ·cases e.Deleted<;>simp
def bB9 {b:D.aAF}(h:aP b=true):wJ (oC b)=(b,true):=by
 have hl:=nJ h
 have hv:=bIl h
 have he:oC b=enc1 (b.Entries.length:Int)++gN (iR b.Entries):=by
  unfold oC qF
  rw[h,ae];rfl
 have hu:vF (oC b) 0=((b.Entries.length:Int),(((enc1 (b.Entries.length:Int)).length:Nat):Int),true):=by
  have:=aZx (x:=[]) (y:=gN (iR b.Entries)) (n:=(b.Entries.length:Int)) (by omega)
  rw[bn,<-he] at this
  simpa using this
 have hd:=aIx (iR b.Entries) (enc1 (b.Entries.length:Int)) [] [] (λv hv'=>hv v (by unfold qF;simp[hv']))
 rw[cW,<-he,vP,bn] at hd
 have hend:(((enc1 (b.Entries.length:Int)).length+(gN (iR b.Entries)).length:Nat):Int)=((oC b).length:Int):=by rw[he,aw]
 obtain⟨e1,e2⟩:=aIy b.Entries
 unfold wJ
 rw[hu,show(4*(b.Entries.length:Int)).toNat=4*b.Entries.length by omega,hd,au (show ¬(b.Entries.length:Int)>20 by omega)]
 unfold aUj
 simp only[hend,e1,e2]
 rw[h];simp
def aGw {α β:Type}{y:Nat->α->β}:∀{l:List α} {i k:Nat} (h:k<l.length) (h2:k<(Iu (λi x=>[y i x]) i l).length),(Iu (λi x=>[y i x]) i l)[k]=y (i+k) l[k]
 |x::l,i,0,_,_=>rfl
 |x::l,i,k+1,h,h2=>by
  have:=aGw (y:=y) (l:=l) (i:=i+1) (k:=k) (by simpa using h) (by rw[oU];simpa using h)
  rw[show i+1+k=i+(k+1) by omega] at this
  exact this
def aU3 {k:Int}{d:List Int}(h:∀z∈d,0<=z/\z<=255):Iy k (jV k d)=d:=by
 apply List.ext_getElem
 ·unfold Iy jV;rw[oU,oU]
 ·intro i h1 h2
  have h3:i<(jV k d).length:=by unfold jV;rw[oU];exact h2
  have e1:(Iy k (jV k d))[i]=aH5 k (0+i) (jV k d)[i]:=aGw h3 h1
  have e2:(jV k d)[i]=aRo k (0+i) d[i]:=aGw h2 h3
  rw[e1,e2]
  have hz:=h d[i] (cN h2)
  unfold aH5 aRo
  generalize bJ k [((0+i:Nat):Int)]=q
  rw[IntKind.wrap_u8,IntKind.wrap_u8]
  omega
def bCa {k e v:Int}{b:D.aAF}(hk:bG k=true)(he:0<=e/\e<=1000000)(hv:0<=v/\v<=1000000)(hb:aP b=true):eU k (oD k e v b)=(b,true):=by
 have hm:(oD k e v b).MAC=gH k (oD k e v b):=by simp only[oD,gH]
 unfold eU
 rw[hm,cC,hk,show(oD k e v b).Epoch=e from rfl,show(oD k e v b).Version=v from rfl,iL he.1 he.2,iL hv.1 hv.2]
 show wJ (Iy (jU k e v) (jV (jU k e v) (oC b)))=(b,true)
 rw[aU3 (Lr (aIh b)),bB9 hb]
def bF3 {p e:Int}{d:List Int}(hp:bG p=true)(he:bG e=true)(hl:d.length<=200)(hd:∀z∈d,0<=z/\z<=255):dX p (fT (cB p) e d)=(d,true):=by
 have e1:(fT (cB p) e d).To=cB p:=rfl
 have e2:(fT (cB p) e d).Ephemeral=e:=rfl
 have e3:(fT (cB p) e d).Data=jV (fD p e) d:=by unfold fT;rw[Cn hp]
 have e4:(fT (cB p) e d).MAC=Lg (fD p e) (fT (cB p) e d):=by unfold fT Lg;rw[Cn hp]
 unfold dX
 rw[e2,e1,e4,hp,he,e3,wK,cC,cC,au (show ¬(d.length:Int)>200 by omega),aU3 hd];rfl
def aXp {p:Int}{b:D.Box}(h:b.To≠cB p):(dX p b).2=false:=by
 unfold dX
 rw[bne,cM.2 h]
 cases bG p<;>rfl
def aIz {p:Int}{d:List Int}(hp:bG p=true)(hl:d.length<=200)(hd:∀z∈d,0<=z/\z<=255):∀{bs:List D.Box} {k:Nat} (hk:k<bs.length),(∀j (hj:j<bs.length),j<k->bs[j].To≠cB p)->(∃e,bG e=true/\bs[k]=fT (cB p) e d)->eY bs p=(d,true)
 |b::bs,0,_,_,⟨e,he,hb⟩=>by
  have hb:b=fT (cB p) e d:=hb
  rw[eY,hb,bF3 hp he hl hd];rfl
 |b::bs,k+1,hk,hn,⟨e,he,hb⟩=>by
  have h0:b.To≠cB p:=hn 0 (by simp) (by omega)
  rw[eY,aXp h0,ab]
  exact aIz hp hl hd (by simpa using hk) (λj hj hjk=>hn (j+1) (by simpa using hj) (by omega)) ⟨e,he,hb⟩
end Go.VK

set_option maxRecDepth 100000
namespace Go.VK
structure BoxIn (log:List D.aAC) (bx:D.aAE) (key:Int):Prop where
 ep:bx.Epoch=aJ log
 to:bx.Boxes.map (·.To)=aD log
 nd:(aD log).Nodup
 kok:bG key=true
 box:∀k (h:k<bx.Boxes.length),∃e,bG e=true/\bx.Boxes[k]=fT bx.Boxes[k].To e (gN [aJ log,key])
 eps:0<=aJ log/\aJ log<=40
def bMc {k:Int}(h:bG k=true):0<=k/\k<=1000000000000:=by have:=aIt h;omega
def aR0 {log:List D.aAC}{bx:D.aAE}{key:Int}(h:BoxIn log bx key){s:D.aAI}(hs:aY s∈aD log):bB s bx=(key,true):=by
 obtain⟨h1,h2,h3,h4,h5,h6⟩:=h
 rw[<-h2] at hs h3
 obtain⟨k,hk,e⟩:=dt.1 hs
 have hk2:k<bx.Boxes.length:=by simpa using hk
 have e:bx.Boxes[k].To=cB (fP s):=by
  rw[fm] at e;rw[e];rfl
 have hd:(gN [aJ log,key]).length<=12:=aZv _ _
 have hf:eY bx.Boxes (fP s)=(gN [aJ log,key],true):=by
  refine aIz (Vx s) (by omega) (Vr _) hk2 (λj hj hjk he=> ?_) ?_
  ·have:=dm.1 h3 j k (by simpa using hj) (by simpa using hk2) hjk
   rw[fm,fm] at this
   exact this (by rw[he,e])
  ·obtain⟨q,hq,hb⟩:=h5 k hk2
   rw[e] at hb
   exact⟨q,hq,hb⟩
 have hdec:gQ (gN [aJ log,key]) 0 2=([aJ log,key],((gN [aJ log,key]).length:Int),true):=by
  have:=aIx [aJ log,key] [] [] [] (λv hv=>by
   simp only[ba,et,or_false] at hv
   rcases hv with rfl|rfl
   ·omega
   ·exact bMc h4)
  simp only[bn,cW,bo,ca] at this
  unfold gQ
  rw[show bI 2 0 100=true from rfl,iL (by omega) (by omega)]
  exact this
 unfold bB Ga
 rw[hf,hdec]
 show(bif !true||(!true||(((gN [aJ log,key]).length:Int) !=((gN [aJ log,key]).length:Int)||(aJ log !=bx.Epoch|| !bG key))) then(0,false) else(key,true))=(key,true)
 rw[cC,h1,cC,h4];rfl
def aU4 (log:List D.aAC):bZ log []=true:=by
 unfold bZ;simp[gL]
def bF4 {seed:Int}{n:Nat}(h0:1<=n)(hn:n<=6):BoxIn (aS seed n) (eT seed n) (bL seed 0):=by
 obtain⟨h1,h2,h3,h4,h5⟩:=Co seed n hn
 have hl:bC (aS seed n)=true:=h5.resolve_left (by omega)
 have hlen:(aD (aS seed n)).length<=1000:=by rw[h2,bl,fN];omega
 have hk:bG (bL seed 0)=true:=by unfold bL;exact gW _ _
 obtain⟨m1,m2,m3,m4⟩:=aP1 (key:=bL seed 0) (eph:=1000) hl hk (λp hp=>by
  rw[h2] at hp
  obtain⟨i,_,rfl⟩:=cg.1 hp
  exact aUy _ _) hlen ⟨by decide,by decide⟩
 have hnd:(aD (aS seed n)).Nodup:=by rw[h2];exact aUz hn
 refine⟨m2,m3,hnd,hk,λk hk'=> ?_,by rw[h4];exact⟨by decide,by decide⟩⟩
 have hlb:(eT seed n).Boxes.length=(aD (aS seed n)).length:=by
  have:=congrArg List.length m3
  rw[bl] at this;exact this
 have hk2:k<(aD (aS seed n)).length:=by omega
 have hb:=m4 k hk' hk2
 have hto:(eT seed n).Boxes[k].To=(aD (aS seed n))[k]:=by
  show(bD (aS seed n) (bL seed 0) 1000).1.Boxes[k].To=_
  rw[hb];rfl
 refine⟨1000+(k:Int),iL (by omega) (by omega),?_⟩
 rw[hto];exact hb
end Go.VK

set_option maxRecDepth 100000
namespace Go.VK
def nwB:Nat->D.aAF
 |1=>⟨[⟨1464438180,0,1,false⟩,⟨1941999745,0,1,false⟩]⟩
 |2=>⟨[⟨1464438180,0,1,false⟩,⟨1464438180,1,1,false⟩,⟨1941999745,0,1,false⟩,⟨1941999745,1,1,false⟩]⟩
 |3=>⟨[⟨1464438180,0,1,false⟩,⟨1464438180,1,1,false⟩,⟨1464438180,2,1,false⟩,⟨1941999745,0,1,false⟩,⟨1941999745,1,1,false⟩,⟨1941999745,2,1,false⟩]⟩
 |_=>⟨[]⟩
def aU5 (seed:Int)(n k:Nat)(v:Int)(b:D.aAF):D.Device:=⟨aL seed (k:Int),aS seed n,bL seed 0,0,v,b⟩
def bMd {seed:Int}{n:Nat}(h0:1<=n)(hn:n<=6)(k:Nat):sP seed n (bM (aL seed (k:Int)))=aU5 seed n k 0 ⟨[]⟩:=by
 obtain⟨h1,h2,h3,h4,h5⟩:=Co seed n hn
 have hl:bC (aS seed n)=true:=h5.resolve_left (by omega)
 have hk:bG (bL seed 0)=true:=by unfold bL;exact gW _ _
 unfold sP lW bM
 rw[hl,aU4,hk,h4];rfl
def bNu {n:Nat}(h:n=1\/n=2\/n=3)(s:D.aAI)(l:List D.aAC)(k e v:Int):Cm (aA 1) n (Cm (aA 0) n ⟨s,l,k,e,v,⟨[]⟩⟩)=⟨s,l,k,e,v,nwB n⟩:=by
 rcases h with rfl|rfl|rfl<;>kernel_rfl
def bMe {n:Nat}(h:n=1\/n=2\/n=3):aP (nwB n)=true/\gG ⟨[]⟩ (nwB n)=(nwB n,true)/\gG (nwB n) (nwB n)=(nwB n,true):=by
 rcases h with rfl|rfl|rfl<;>exact⟨by kernel_rfl,by kernel_rfl,by kernel_rfl⟩
def bCb {seed:Int}{n:Nat}(h:n=1\/n=2\/n=3):jR seed n=aU5 seed n 0 0 (nwB n):=by
 unfold jR
 rw[show(0:Int)=((0:Nat):Int) from rfl,bMd (by omega) (by omega)]
 exact bNu h _ _ _ _ _
def bNv {seed:Int}{n:Nat}(h:n=1\/n=2\/n=3):nwW seed n=(aU5 seed n 0 1 (nwB n),oD (bL seed 0) 0 1 (nwB n),true):=by
 have hk:bG (bL seed 0)=true:=by unfold bL;exact gW _ _
 unfold nwW
 rw[bCb h]
 unfold dD lG aU5
 simp only[]
 rw[show IntKind.i64.wrap (0+1)=1 from by decide,hk,(bMe h).1];rfl
def aP2 {seed:Int}{n:Nat}(h:n=1\/n=2\/n=3):gT seed n=⟨aS seed n,eT seed n,[oD (bL seed 0) 0 1 (nwB n)]⟩:=by
 obtain⟨h1,h2,_⟩:=Vy (seed:=seed) (n:=n) (by omega) (by omega)
 have h4:=(Co seed n (by omega)).ep
 have e:dF (aS seed n) (eT seed n)=(⟨aS seed n,eT seed n,[]⟩,true):=by
  unfold dF;rw[h1,h2];rfl
 unfold gT
 rw[e,bNv h]
 show(cK ⟨aS seed n,eT seed n,[]⟩ (oD (bL seed 0) 0 1 (nwB n))).1=_
 unfold cK
 rw[show(oD (bL seed 0) 0 1 (nwB n)).Epoch=0 from rfl,h4];rfl
end Go.VK

set_option maxRecDepth 100000
namespace Go.VK
def bF5 (w:D.World)(d:Int):(mY w d).1.sz=w.sz:=by
 unfold mY
 cases eD w d 0&& !dU w d with
 |false=>rfl
 |true=>simp only[ae,D.World.sz,ax]
structure KeptH (w v:D.World):Prop where
 kept:Kept w v
 hosts:v.Hosts.length<=w.Hosts.length
def KeptH.of {w v:D.World}(h:Kept w v)(e:v.Hosts=w.Hosts):KeptH w v:=⟨h,by rw[e];exact aj _⟩
end Go.VK

set_option maxRecDepth 100000
namespace Go.VK
def same (s h:Int)(e:D.Entry):Bool:=e.Site==s&&e.Handle==h
def lk (l:List D.Entry)(s h:Int):Option D.Entry:=l.find? (same s h)
def bF6:Option D.Entry->Option D.Entry->Option D.Entry
 |none,y=>y
 |some e,none=>some e
 |some e,some x=>some (nZ e x)
def same_iff {s h:Int}{e:D.Entry}:same s h e=true↔e.Site=s/\e.Handle=h:=by simp[same]
def aP3 (e:D.Entry):same e.Site e.Handle e=true:=same_iff.2 ⟨rfl,rfl⟩
def Qp {a b:D.Entry}(h:dI a b=true):¬(a.Site=b.Site/\a.Handle=b.Handle):=by rw[vN] at h;omega
def oI:∀(n:Nat) {a b:List D.Entry} {e:D.Entry},a.length+b.length<=n->e∈bS a b->e∈a\/e∈b
 |_,[],b,e,_,h=>by rw[gV] at h;exact .inr h
 |_,a::xs,[],e,_,h=>by rw[dN] at h;exact .inl h
 |0,a::xs,b::bs,e,h,_=>by simp at h
 |n+1,a::xs,b::bs,e,hn,h=>by
  simp only[av] at hn
  rw[rE] at h
  cases h1:dI a b with
  |true=>
   rw[h1,ae] at h
   rcases ba.1 h with rfl|h
   ·exact .inl (de ..)
   ·rcases oI n (by simp only[av];omega) h with h|h
    ·exact .inl (cY _ h)
    ·exact .inr h
  |false=>
   rw[h1,ab] at h
   cases h2:dI b a with
   |true=>
    rw[h2,ae] at h
    rcases ba.1 h with rfl|h
    ·exact .inr (de ..)
    ·rcases oI n (by simp only[av];omega) h with h|h
     ·exact .inl h
     ·exact .inr (cY _ h)
   |false=>
    rw[h2,ab] at h
    rcases ba.1 h with rfl|h
    ·rcases aZe a b with e|e
     ·rw[e];exact .inl (de ..)
     ·rw[e];exact .inr (de ..)
    ·rcases oI n (by omega) h with h|h
     ·exact .inl (cY _ h)
     ·exact .inr (cY _ h)
def Qq:∀(n:Nat) {a b:List D.Entry},a.length+b.length<=n->srt a->srt b->srt (bS a b)
 |_,[],b,_,_,h=>by rw[gV];exact h
 |_,a::xs,[],_,h,_=>by rw[dN];exact h
 |0,a::xs,b::bs,h,_,_=>by simp at h
 |n+1,a::xs,b::bs,hn,ha,hb=>by
  simp only[av] at hn
  obtain⟨a1,a2⟩:=cr.1 ha
  obtain⟨b1,b2⟩:=cr.1 hb
  rw[rE]
  cases h1:dI a b with
  |true=>
   rw[ae]
   refine cr.2 ⟨λy hy=> ?_,Qq n (by simp only[av];omega) a2 hb⟩
   rcases oI _ (aj _) hy with hy|hy
   ·exact a1 y hy
   ·rcases ba.1 hy with rfl|hy
    ·exact h1
    ·exact lT h1 (b1 y hy)
  |false=>
   rw[ab]
   cases h2:dI b a with
   |true=>
    rw[ae]
    refine cr.2 ⟨λy hy=> ?_,Qq n (by simp only[av];omega) ha b2⟩
    rcases oI _ (aj _) hy with hy|hy
    ·rcases ba.1 hy with rfl|hy
     ·exact h2
     ·exact lT h2 (a1 y hy)
    ·exact b1 y hy
   |false=>
    rw[ab]
    have hk:=wI h1 h2
    have hp:=F9 hk
    refine cr.2 ⟨λy hy=> ?_,Qq n (by omega) a2 b2⟩
    rw[Ch hp]
    rcases oI _ (aj _) hy with hy|hy
    ·rw[<-Ch hk];exact a1 y hy
    ·exact b1 y hy
def zD (a:D.Entry)(l:List D.Entry)(s h:Int):lk (a::l) s h=bif same s h a then some a else lk l s h:=by
 unfold lk;rw[List.find?_cons];cases same s h a<;>rfl
def aR1 {l:List D.Entry}{s h:Int}(hl:∀e∈l,same s h e=false):lk l s h=none:=by
 unfold lk;rw[List.find?_eq_none];intro x hx;rw[hl x hx];exact eK
def aI0 {l:List D.Entry}{s h:Int}{e:D.Entry}(hl:lk l s h=some e):e∈l/\e.Site=s/\e.Handle=h:=by
 unfold lk at hl
 exact⟨List.mem_of_find?_eq_some hl,same_iff.1 (List.find?_some hl)⟩
def bIm {a:D.Entry}{l:List D.Entry}(hs:srt (a::l)){s h:Int}(ha:same s h a=true):∀e∈l,same s h e=false:=λe he=>by
 have:=Qp ((cr.1 hs).1 e he)
 rw[fS,Ne,same_iff]
 have h2:=same_iff.1 ha
 exact λq=>this ⟨h2.1.trans q.1.symm,h2.2.trans q.2.symm⟩
def bJ1 {l:List D.Entry}(hs:srt l){e:D.Entry}(he:e∈l):lk l e.Site e.Handle=some e:=by
 induction l with
 |nil=>simp at he
 |cons a l ih=>
  rw[zD]
  rcases ba.1 he with rfl|he
  ·rw[aP3];rfl
  ·cases hq:same e.Site e.Handle a with
   |true=>have:=bIm hs hq e he;rw[aP3] at this;cases this
   |false=>exact ih (cr.1 hs).2 he
def bCc {a b:D.Entry}(hk:a.Site=b.Site/\a.Handle=b.Handle)(s h:Int):same s h (nZ a b)=same s h b:=by
 have:=F9 hk
 unfold same;rw[this.1,this.2]
def J6:∀(n:Nat) {a b:List D.Entry},a.length+b.length<=n->srt a->srt b->∀s h,lk (bS a b) s h=bF6 (lk a s h) (lk b s h)
 |_,[],b,_,_,_,s,h=>by rw[gV];rfl
 |_,a::xs,[],_,_,_,s,h=>by
  rw[dN]
  show _=bF6 (lk (a::xs) s h) none
  cases lk (a::xs) s h<;>rfl
 |0,a::xs,b::bs,h,_,_,_,_=>by simp at h
 |n+1,a::xs,b::bs,hn,ha,hb,s,h=>by
  simp only[av] at hn
  obtain⟨a1,a2⟩:=cr.1 ha
  obtain⟨b1,b2⟩:=cr.1 hb
  rw[rE]
  cases h1:dI a b with
  |true=>
   rw[ae,zD,zD a xs,J6 n (by simp only[av];omega) a2 hb]
   cases hq:same s h a with
   |false=>rfl
   |true=>
    have hno:lk (b::bs) s h=none:=aR1 λe he=>by
     have he:dI a e=true:=by
      rcases ba.1 he with rfl|he
      ·exact h1
      ·exact lT h1 (b1 e he)
     have:=Qp he
     have h2:=same_iff.1 hq
     rw[fS,Ne,same_iff]
     exact λq=>this ⟨h2.1.trans q.1.symm,h2.2.trans q.2.symm⟩
    rw[hno];rfl
  |false=>
   rw[ab]
   cases h2:dI b a with
   |true=>
    rw[ae,zD,zD b bs,J6 n (by simp only[av];omega) ha b2]
    cases hq:same s h b with
    |false=>rfl
    |true=>
     have hno:lk (a::xs) s h=none:=aR1 λe he=>by
      have he:dI b e=true:=by
       rcases ba.1 he with rfl|he
       ·exact h2
       ·exact lT h2 (a1 e he)
      have:=Qp he
      have h2:=same_iff.1 hq
      rw[fS,Ne,same_iff]
      exact λq=>this ⟨h2.1.trans q.1.symm,h2.2.trans q.2.symm⟩
     rw[hno];rfl
   |false=>
    have hk:=wI h1 h2
    rw[ab,zD,zD a xs,zD b bs,J6 n (by omega) a2 b2,bCc hk]
    have:same s h a=same s h b:=by unfold same;rw[hk.1,hk.2]
    rw[this]
    cases same s h b<;>rfl
def lkM {a b:List D.Entry}(ha:srt a)(hb:srt b)(s h:Int):lk (bS a b) s h=bF6 (lk a s h) (lk b s h):=J6 _ (aj _) ha hb s h
def bPx {a b:List D.Entry}(ha:srt a)(hb:srt b):srt (bS a b):=Qq _ (aj _) ha hb
def rk (e:D.Entry):Int:=2*e.Version+(bif e.Deleted then 1 else 0)
def bNw {x e:D.Entry}(hk:x.Site=e.Site/\x.Handle=e.Handle)(h:rk x=rk e):x=e:=by
 obtain⟨s,hh,v,d⟩:=x
 obtain⟨s2,h2,v2,d2⟩:=e
 simp only[rk] at h hk
 obtain⟨rfl,rfl⟩:=hk
 cases d<;>cases d2<;>simp at h ⊢<;>omega
def aU6 {x e:D.Entry}:mV x e=true↔rk e<rk x\/(rk e=rk x/\x.Deleted=true):=by
 unfold mV rk
 simp only[cq,aa,bp,cI]
 cases x.Deleted<;>cases e.Deleted<;>simp only[ae,ab,Bool.false_eq_true,and_false,and_true,or_false]<;>omega
def bIn {e x:D.Entry}(hk:x.Site=e.Site/\x.Handle=e.Handle):nZ e x=if rk e<rk x then x else e:=by
 unfold nZ
 by_cases h:rk e<rk x
 ·rw[cH h,aU6.2 (.inl h)];rfl
 ·rw[cX h]
  cases hn:mV x e with
  |false=>rfl
  |true=>
   rcases aU6.1 hn with q|q
   ·exact absurd q h
   ·exact bNw hk q.1.symm
def Sub (a b:List D.Entry):Prop:=∀e∈a,∃x∈b,x.Site=e.Site/\x.Handle=e.Handle/\rk e<=rk x
def Sub.refl (a:List D.Entry):Sub a a:=λe he=>⟨e,he,rfl,rfl,du _⟩
def Sub.trans {a b c:List D.Entry}(h:Sub a b)(k:Sub b c):Sub a c:=λe he=>by
 obtain⟨x,hx,x1,x2,x3⟩:=h e he
 obtain⟨y,hy,y1,y2,y3⟩:=k x hx
 exact⟨y,hy,y1.trans x1,y2.trans x2,e9 x3 y3⟩
def Sub.nil (b:List D.Entry):Sub [] b:=λe he=>by simp at he
def Sub.left {a b:List D.Entry}(ha:srt a)(hb:srt b):Sub a (bS a b):=λe he=>by
 have h1:=lkM ha hb e.Site e.Handle
 rw[bJ1 ha he] at h1
 cases hq:lk b e.Site e.Handle with
 |none=>
  rw[hq] at h1
  exact⟨e,(aI0 h1).1,rfl,rfl,du _⟩
 |some x=>
  rw[hq] at h1
  obtain⟨m1,m2,m3⟩:=aI0 h1
  obtain⟨_,q2,q3⟩:=aI0 hq
  refine⟨_,m1,m2,m3,?_⟩
  rw[bIn ⟨q2,q3⟩]
  split<;>omega
def bF8 {α:Type}[BEq α][LawfulBEq α]:∀{l S:List α},l.Nodup->(∀x∈l,x∈S)->l.length<=S.length
 |[],S,_,_=>by simp
 |x::l,S,hn,hs=>by
  obtain⟨h1,h2⟩:=cu.1 hn
  have hx:=hs x (de ..)
  have:=bF8 (l:=l) (S:=S.erase x) h2 λy hy=>by
   have hne:y≠x:=λe=>h1 (e▸hy)
   exact(List.mem_erase_of_ne hne).2 (hs y (cY _ hy))
  rw[List.length_erase_of_mem hx] at this
  have:0<S.length:=List.length_pos_of_mem hx
  simp only[av];omega
structure KeyS (S:List (Int×Int)):Prop where
 len:S.length<=20
 rg:∀p∈S,(0<=p.1/\p.1<=2147483646)/\(0<=p.2/\p.2<=1000000)
structure BunIn (S:List (Int×Int)) (V:Int) (b:List D.Entry):Prop where
 st:srt b
 key:∀e∈b,(e.Site,e.Handle)∈S
 ver:∀e∈b,1<=e.Version/\e.Version<=V
def BunIn.mono {S:List (Int×Int)}{V W:Int}{b:List D.Entry}(h:BunIn S V b)(hv:V<=W):BunIn S W b:=⟨h.st,h.key,λe he=>⟨(h.ver e he).1,e9 (h.ver e he).2 hv⟩⟩
def BunIn.nil (S:List (Int×Int))(V:Int):BunIn S V []:=⟨List.Pairwise.nil,λe he=>by simp at he,λe he=>by simp at he⟩
def BunIn.len {S:List (Int×Int)}{V:Int}{b:List D.Entry}(h:BunIn S V b):b.length<=S.length:=by
 have hn:(b.map λe=>(e.Site,e.Handle)).Nodup:=by
  rw[jo,gm]
  exact h.st.imp λ{a b} hk (e:(a.Site,a.Handle)=(b.Site,b.Handle))=>Qp hk ⟨congrArg Prod.fst e,congrArg Prod.snd e⟩
 have:=bF8 hn λp hp=>by
  obtain⟨e,he,rfl⟩:=cg.1 hp
  exact h.key e he
 rwa [bl] at this
def BunIn.ok {S:List (Int×Int)}{V:Int}{b:List D.Entry}(hS:KeyS S)(hV:V<=1000000)(h:BunIn S V b):aP ⟨b⟩=true:=by
 have hl:=h.len
 have:=hS.len
 unfold aP
 rw[ao (show((⟨b⟩:D.aAF).Entries.length:Int)<=20 by show(b.length:Int)<=20;omega),da,cz]
 refine aA2 λk hk=> ?_
 have hk:k<b.length:=hk
 show aH9 b (0+k) b[k]=false
 have hm:=cN hk
 have r:=hS.rg _ (h.key _ hm)
 have v:=h.ver _ hm
 unfold aH9
 rw[iL r.1.1 r.1.2,iL r.2.1 r.2.2,iL v.1 (by omega)]
 simp only[bf,cL,ca]
 by_cases h0:0<k
 ·have:b.getD (k-1) default=b[k-1]'(by omega):=by rw[List.getD,ac (by omega),cE]
  rw[this,dm.1 h.st (k-1) k (by omega) hk (by omega)];simp
 ·rw[au (by omega)];rfl
def BunIn.merge {S:List (Int×Int)}{V:Int}{a b:List D.Entry}(ha:BunIn S V a)(hb:BunIn S V b):BunIn S V (bS a b):=
 ⟨bPx ha.st hb.st,λe he=>(oI _ (aj _) he).elim (ha.key e) (hb.key e),λe he=>(oI _ (aj _) he).elim (ha.ver e) (hb.ver e)⟩
def bCd {S:List (Int×Int)}{V:Int}{a b:D.aAF}(hS:KeyS S)(hV:V<=1000000)(ha:BunIn S V a.Entries)(hb:BunIn S V b.Entries):gG a b=(⟨bS a.Entries b.Entries⟩,true):=by
 unfold gG
 rw[show aP a=true from ha.ok hS hV,show aP b=true from hb.ok hS hV,(ha.merge hb).ok hS hV];rfl
end Go.VK

set_option maxRecDepth 100000
namespace Go.VK
def aGx {l:List D.Entry}(hs:srt l)(s h:Int):(aK ⟨l⟩ s h<0/\lk l s h=none)\/(0<=aK ⟨l⟩ s h/\∃e,lk l s h=some e/\l.getD (aK ⟨l⟩ s h).toNat default=e/\(aK ⟨l⟩ s h).toNat<l.length):=by
 by_cases hf:aK ⟨l⟩ s h<0
 ·exact .inl ⟨hf,aR1 λe he=>aIb (p:=same s h) hf e he⟩
 ·refine .inr ⟨by omega,?_⟩
  obtain⟨l1,e,l2,e1,e2,e3⟩:=Ql (p:=same s h) (l:=l) (i:=0) (by show 0<=aK ⟨l⟩ s h;omega)
  have e3:aK ⟨l⟩ s h=((0+l1.length:Nat):Int):=e3
  have hm:e∈l:=by rw[e1];simp
  have:=bJ1 hs hm
  have h2:=same_iff.1 e2
  rw[h2.1,h2.2] at this
  refine⟨e,this,?_,?_⟩
  ·rw[e3,e1];simp
  ·rw[e3,e1];simp
def bF9 {x e:D.Entry}(h:x.Version>e.Version):mV x e=true:=by
 unfold mV;rw[ao h];rfl
def aP4 {l:List D.Entry}(hs:srt l){x:D.Entry}(h:∀e,lk l x.Site x.Handle=some e->x.Version>e.Version):(vI ⟨l⟩ x).Entries=bS l [x]:=by
 rw[<-aT8 hs]
 rcases aGx hs x.Site x.Handle with⟨h1,h2⟩|⟨h1,e,h2,h3,h4⟩
 ·rw[ao h1];rfl
 ·rw[h3,bF9 (h e h2),iy];rfl
def bMf (x:D.Entry):srt [x]:=cr.2 ⟨λy hy=>by simp at hy,List.Pairwise.nil⟩
def BunIn.one {S:List (Int×Int)}{V:Int}{x:D.Entry}(hk:(x.Site,x.Handle)∈S)(hv:1<=x.Version/\x.Version<=V):BunIn S V [x]:=
 ⟨bMf x,λe he=>by rw[cy.1 he];exact hk,λe he=>by rw[cy.1 he];exact hv⟩
def Hf (l:List D.Entry)(s h:Int):Bool:=match lk l s h with|some e=> !e.Deleted|none=>false
def aBE (l:List D.Entry)(s h:Int):Int:=match lk l s h with|some e=>e.Version|none=>0
def BunIn.aBE {S:List (Int×Int)}{V:Int}{l:List D.Entry}(h:BunIn S V l)(hV:0<=V)(s q:Int):0<=aBE l s q/\aBE l s q<=V:=by
 unfold VK.aBE
 cases hq:lk l s q with
 |none=>exact⟨du _,hV⟩
 |some e=>have:=h.ver e (aI0 hq).1;show 0<=e.Version/\e.Version<=V;omega
def bMg {S:List (Int×Int)}{V:Int}(hS:KeyS S)(hV:0<=V/\V<1000000){b:D.aAF}(h:BunIn S V b.Entries){s q:Int}(hk:(s,q)∈S):
  aMi b s q=bif Hf b.Entries s q then(b,false) else(⟨bS b.Entries [⟨s,q,aBE b.Entries s q+1,false⟩]⟩,true):=by
 obtain⟨l⟩:=b
 have h:BunIn S V l:=h
 have hv:=h.aBE hV.1 s q
 have hpv:(aK ⟨l⟩ s q<0->lk l s q=none)/\Vq ⟨l⟩ s q=⟨s,q,aBE l s q+1,false⟩:=by
  unfold Vq bH3
  rcases aGx h.st s q with⟨h1,h2⟩|⟨h1,e,h2,h3,h4⟩
  ·refine⟨λ_=>h2,?_⟩
   rw[au (by omega)];unfold aBE;rw[h2];rfl
  ·refine⟨λh0=>by omega,?_⟩
   have hve:aBE l s q=e.Version:=by unfold aBE;rw[h2]
   show(⟨s,q,bif decide (aK ⟨l⟩ s q>=0) then IntKind.i64.wrap ((l.getD (aK ⟨l⟩ s q).toNat default).Version+1) else 1,false⟩:D.Entry)=_
   rw[ao h1,h3,ae,hve,aI (by omega) (by omega)]
 have hset:(vI ⟨l⟩ (Vq ⟨l⟩ s q))=⟨bS l [⟨s,q,aBE l s q+1,false⟩]⟩:=by
  rw[hpv.2]
  have:(vI ⟨l⟩ ⟨s,q,aBE l s q+1,false⟩).Entries=bS l [⟨s,q,aBE l s q+1,false⟩]:=aP4 h.st λe he=>by
   have:aBE l s q=e.Version:=by unfold aBE;rw[show lk l s q=some e from he]
   show aBE l s q+1>e.Version;omega
  rw[<-this]
 have hok:aP ⟨bS l [⟨s,q,aBE l s q+1,false⟩]⟩=true:=((h.mono (W:=V+1) (by omega)).merge (.one (x:=⟨s,q,aBE l s q+1,false⟩) hk ⟨by show 1<=aBE l s q+1;omega,by show aBE l s q+1<=V+1;omega⟩)).ok hS (by omega)
 unfold aMi
 rw[hset,hok,h.ok hS (by omega)]
 rcases aGx h.st s q with⟨h1,h2⟩|⟨h1,e,h2,h3,h4⟩
 ·rw[au (show ¬aK ⟨l⟩ s q>=0 by omega)]
  unfold Hf;rw[h2];rfl
 ·rw[ao (show aK ⟨l⟩ s q>=0 from h1)]
  show(bif !(true&& !(l.getD (aK ⟨l⟩ s q).toNat default).Deleted)&&(true&&true) then _ else _)=_
  have hl:Hf l s q= !e.Deleted:=by unfold Hf;rw[h2]
  show _=bif Hf l s q then _ else _
  rw[h3,hl]
  cases e.Deleted<;>rfl
def bMh {S:List (Int×Int)}{V:Int}(hS:KeyS S)(hV:0<=V/\V<1000000){b:D.aAF}(h:BunIn S V b.Entries){s q:Int}:
  aMj b s q=bif Hf b.Entries s q then(⟨bS b.Entries [⟨s,q,aBE b.Entries s q+1,true⟩]⟩,true) else(b,false):=by
 obtain⟨l⟩:=b
 have h:BunIn S V l:=h
 have hv:=h.aBE hV.1 s q
 unfold aMj
 rw[h.ok hS (by omega)]
 rcases aGx h.st s q with⟨h1,h2⟩|⟨h1,e,h2,h3,h4⟩
 ·rw[ao (show aK ⟨l⟩ s q<0 by omega)]
  unfold Hf;rw[h2];rfl
 ·have hve:aBE l s q=e.Version:=by unfold aBE;rw[h2]
  have he:=h.ver e (aI0 h2).1
  have hd:bBi ⟨l⟩ s q=⟨s,q,aBE l s q+1,true⟩:=by
   unfold bBi
   show(⟨s,q,IntKind.i64.wrap ((l.getD (aK ⟨l⟩ s q).toNat default).Version+1),true⟩:D.Entry)=_
   rw[h3,hve,aI (by omega) (by omega)]
  have hset:(vI ⟨l⟩ (bBi ⟨l⟩ s q))=⟨bS l [⟨s,q,aBE l s q+1,true⟩]⟩:=by
   rw[hd]
   have:(vI ⟨l⟩ ⟨s,q,aBE l s q+1,true⟩).Entries=bS l [⟨s,q,aBE l s q+1,true⟩]:=aP4 h.st λe' he'=>by
    have:aBE l s q=e'.Version:=by unfold aBE;rw[show lk l s q=some e' from he']
    show aBE l s q+1>e'.Version;omega
   rw[<-this]
  rw[hset,au (show ¬aK ⟨l⟩ s q<0 by omega)]
  show(bif !true||(false||((l.getD (aK ⟨l⟩ s q).toNat default).Deleted||(l.getD (aK ⟨l⟩ s q).toNat default).Version==1000000)) then _ else _)=_
  have hl:Hf l s q= !e.Deleted:=by unfold Hf;rw[h2]
  show _=bif Hf l s q then _ else _
  rw[h3,cM.2 (show e.Version≠1000000 by omega),hl]
  cases e.Deleted<;>rfl
structure ChgIn (S:List (Int×Int)) (V:Int) (d x:D.Device):Prop where
 store:x.Store=d.Store
 log:x.Log=d.Log
 key:x.Key=d.Key
 ep:x.Epoch=d.Epoch
 ver:x.Version=d.Version
 bun:BunIn S V x.aAF.Entries
 sub:Sub d.aAF.Entries x.aAF.Entries
def ChgIn.rfl' {S:List (Int×Int)}{V W:Int}{d:D.Device}(h:BunIn S V d.aAF.Entries)(hv:V<=W):ChgIn S W d d:=⟨rfl,rfl,rfl,rfl,rfl,h.mono hv, .refl _⟩
def ChgIn.trans {S:List (Int×Int)}{V W:Int}{a b c:D.Device}(h:ChgIn S V a b)(k:ChgIn S W b c):ChgIn S W a c:=
 ⟨k.store.trans h.store,k.log.trans h.log,k.key.trans h.key,k.ep.trans h.ep,k.ver.trans h.ver,k.bun,h.sub.trans k.sub⟩
def bCe {S:List (Int×Int)}{V:Int}(hS:KeyS S)(hV:0<=V/\V<1000000){d:D.Device}(h:BunIn S V d.aAF.Entries){n:ByteArray}{q:Int}(hk:(bT n,q)∈S)(rm:Bool):ChgIn S (V+1) d (cO d n q rm).1:=by
 have hv:=h.aBE hV.1 (bT n) q
 unfold cO oV
 have one:∀f,BunIn S (V+1) (bS d.aAF.Entries [⟨bT n,q,aBE d.aAF.Entries (bT n) q+1,f⟩]):=λf=>(h.mono (by omega)).merge (.one hk ⟨by show 1<=aBE _ _ _+1;omega,by show aBE _ _ _+1<=V+1;omega⟩)
 cases rm with
 |true=>
  rw[ae,bMh hS hV h]
  cases Hf d.aAF.Entries (bT n) q with
  |true=>exact⟨rfl,rfl,rfl,rfl,rfl,one _, .left h.st (bMf _)⟩
  |false=>exact .rfl' h (by omega)
 |false=>
  rw[ab,bMg hS hV h hk]
  cases Hf d.aAF.Entries (bT n) q with
  |false=>exact⟨rfl,rfl,rfl,rfl,rfl,one _, .left h.st (bMf _)⟩
  |true=>exact .rfl' h (by omega)
end Go.VK
