import Derived.Test.YtjmlamaddedhlaaGreatDoorXrFF
/- What holds in all worlds that events lead to: plain laws over the pure definitions, no program in sight. The conditions stand in each. -/
set_option linter.all false
set_option maxRecDepth 100000
namespace Go.VK
def jO {h:Int}(v:Int)(h0:0<=h/\h<2147483647):∃q,hstep h v=h*1000003+v+13-2147483647*q/\(0<=hstep h v/\hstep h v<2147483647):=by
 obtain⟨h0,h1⟩:=h0
 have hm:=lN (p:=v) (q:=2147483647) (by decide)
 have hv:dW v 2147483647=v%2147483647:=cr (by decide)
 have e:hstep h v=(h*1000003+v+13)%2147483647:=by
  unfold hstep
  rw[aH (n:=h*1000003) (by omega) (by omega),aH (n:=h*1000003+dW v 2147483647) (by omega) (by omega),aH (by omega) (by omega),cb (by omega),hv]
  omega
 rw[e]
 refine⟨(h*1000003+v+13)/2147483647,?_,iS _ (by decide),ib _ (by decide)⟩
 have:=Int.emod_add_mul_ediv (h*1000003+v+13) 2147483647
 omega
def bBf (k a b:Int):∃q,aX k [a,b]=k*1000009000027000028+a*1000006000009+b*1000003+11000145000724001630001411-2147483647*q:=by
 simp only[aX,qI,cD,fL,cI,cz,bh,cM,gC]
 obtain⟨q0,e0,r0⟩:=jO k (h:=11) ⟨by decide,by decide⟩
 generalize hstep 11 k=y0 at*
 obtain⟨q1,e1,r1⟩:=jO a (h:=y0) r0
 generalize hstep y0 a=y1 at*
 obtain⟨q2,e2,r2⟩:=jO b (h:=y1) r1
 generalize hstep y1 b=y2 at*
 obtain⟨q3,e3,r3⟩:=jO k (h:=y2) r2
 generalize hstep y2 k=y3 at*
 exact⟨q0*1000009000027000027+q1*1000006000009+q2*1000003+q3*1,by omega⟩
def bBg (k a b c:Int):∃q,aX k [a,b,c]=k*1000012000054000108000082+a*1000009000027000027+b*1000006000009+c*1000003+11000178001159003802006301004246-2147483647*q:=by
 simp only[aX,qI,cD,fL,cI,cz,bh,cM,gC]
 obtain⟨q0,e0,r0⟩:=jO k (h:=11) ⟨by decide,by decide⟩
 generalize hstep 11 k=y0 at*
 obtain⟨q1,e1,r1⟩:=jO a (h:=y0) r0
 generalize hstep y0 a=y1 at*
 obtain⟨q2,e2,r2⟩:=jO b (h:=y1) r1
 generalize hstep y1 b=y2 at*
 obtain⟨q3,e3,r3⟩:=jO c (h:=y2) r2
 generalize hstep y2 c=y3 at*
 obtain⟨q4,e4,r4⟩:=jO k (h:=y3) r3
 generalize hstep y3 k=y4 at*
 exact⟨q0*1000012000054000108000081+q1*1000009000027000027+q2*1000006000009+q3*1000003+q4*1,by omega⟩
def bBh (k a b c d:Int):∃q,aX k [a,b,c,d]=k*1000015000090000270000405000244+a*1000012000054000108000081+b*1000009000027000027+c*1000006000009+d*1000003+11000211001693007279017707023149012751-2147483647*q:=by
 simp only[aX,qI,cD,fL,cI,cz,bh,cM,gC]
 obtain⟨q0,e0,r0⟩:=jO k (h:=11) ⟨by decide,by decide⟩
 generalize hstep 11 k=y0 at*
 obtain⟨q1,e1,r1⟩:=jO a (h:=y0) r0
 generalize hstep y0 a=y1 at*
 obtain⟨q2,e2,r2⟩:=jO b (h:=y1) r1
 generalize hstep y1 b=y2 at*
 obtain⟨q3,e3,r3⟩:=jO c (h:=y2) r2
 generalize hstep y2 c=y3 at*
 obtain⟨q4,e4,r4⟩:=jO d (h:=y3) r3
 generalize hstep y3 d=y4 at*
 obtain⟨q5,e5,r5⟩:=jO k (h:=y4) r4
 generalize hstep y4 k=y5 at*
 exact⟨q0*1000015000090000270000405000243+q1*1000012000054000108000081+q2*1000009000027000027+q3*1000006000009+q4*1000003+q5*1,by omega⟩
def Lx (n:Int):∃e,fI n=n+e/\0<=e/\e<=1:=by
 unfold fI
 by_cases h:n=0
 ·subst h;exact⟨1,rfl,by decide,by decide⟩
 ·rw[ct.2 h];exact⟨0,by simp,by decide,by decide⟩
def bBi (s i:Int):(aN s i).Seed=fI (aX s [151,277,i]):=by
 unfold aN aO;simp only[cz,bh]
def bBj (s:D.aAH):eX s=fI (aX s.Seed [151,181]):=by
 unfold eX aO;simp only[cz,bh]
def aV3 (s:D.aAH)(n:ByteArray)(i:Int):dQ s n i=fI (aX s.Seed [151,179,aY n,i]):=by
 unfold dQ aO;simp only[cz,bh]
def aRt (s i k:Int):∃e q,(aN s i).Seed-(aN s k).Seed=(i-k)*1000003+e+2147483647*q/\-1<=e/\e<=1:=by
 have hi:(aN s i).Seed=fI (aX s [151,277,i]):=bBi s i
 have hk:(aN s k).Seed=fI (aX s [151,277,k]):=bBi s k
 obtain⟨e1,a1,a2,a3⟩:=Lx (aX s [151,277,i])
 obtain⟨e2,b1,b2,b3⟩:=Lx (aX s [151,277,k])
 obtain⟨q1,c1⟩:=bBg s 151 277 i
 obtain⟨q2,c2⟩:=bBg s 151 277 k
 rw[hi,hk,a1,b1,c1,c2]
 exact⟨e1-e2,q2-q1,by omega,by omega,by omega⟩
def dfs:List Int:=[-5,-4,-3,-2,-1,0,1,2,3,4,5]
def aX3:List Int:=[-1,0,1]
def aV4 {d:Int}(h1: -5<=d)(h2:d<=5):d∈dfs:=by simp only[dfs,ba,fg,or_false];omega
def Yp {d:Int}(h1: -1<=d)(h2:d<=1):d∈aX3:=by simp only[aX3,ba,fg,or_false];omega
def bEe:(dfs.all λd=>d==0||aX3.all λe=>aX3.all λz=> !((d*1000003+e)*1000009000027000028-z)%2147483647==0)=true:=by kernel_rfl
def aX4 {s i k:Int}(hi:0<=i/\i<6)(hk:0<=k/\k<6)(h:i≠k):eX (aN s i)≠eX (aN s k):=by
 intro he
 obtain⟨e,q,d1,d2,d3⟩:=aRt s i k
 have h1:eX (aN s i)=fI (aX (aN s i).Seed [151,181]):=bBj _
 have h2:eX (aN s k)=fI (aX (aN s k).Seed [151,181]):=bBj _
 obtain⟨e1,a1,a2,a3⟩:=Lx (aX (aN s i).Seed [151,181])
 obtain⟨e2,b1,b2,b3⟩:=Lx (aX (aN s k).Seed [151,181])
 obtain⟨q1,c1⟩:=bBf (aN s i).Seed 151 181
 obtain⟨q2,c2⟩:=bBf (aN s k).Seed 151 181
 rw[h1,h2,a1,b1,c1,c2] at he
 have hz:(((i-k)*1000003+e)*1000009000027000028-(e2-e1))%2147483647=0:=by
  clear h1 h2 a1 b1 c1 c2
  generalize(aN s i).Seed=x at*
  generalize(aN s k).Seed=y at*
  omega
 have:=cw.1 bEe (i-k) (aV4 (by omega) (by omega))
 rw[ct.2 (show i-k≠0 by omega),cE] at this
 have:=cw.1 (cw.1 this e (Yp d2 d3)) (e2-e1) (Yp (by omega) (by omega))
 rw[hz] at this;cases this
def hs1:Int:=1464438180
def bJn:aY (aC 0)=1941999745:=by kernel_rfl
def bJo:aY (aC 1)=1464438180:=by kernel_rfl
def bBk:(dfs.all λd=>[0,477561565,-477561565].all λ(g:Int)=>(d==0&&g==0)||aX3.all λe=>aX3.all λz=> !((d*1000003+e)*1000015000090000270000405000244+g*1000006000009+d*1000003-z)%2147483647==0)=true:=by kernel_rfl
def aRu {s i k j l:Int}(hi:0<=i/\i<6)(hk:0<=k/\k<6)(hj:j=0\/j=1)(hl:l=0\/l=1)(h:i≠k\/j≠l):dQ (aN s i) (aC j) i≠dQ (aN s k) (aC l) k:=by
 intro he
 obtain⟨e,q,d1,d2,d3⟩:=aRt s i k
 have h1:dQ (aN s i) (aC j) i=fI (aX (aN s i).Seed [151,179,aY (aC j),i]):=aV3 _ _ _
 have h2:dQ (aN s k) (aC l) k=fI (aX (aN s k).Seed [151,179,aY (aC l),k]):=aV3 _ _ _
 obtain⟨e1,a1,a2,a3⟩:=Lx (aX (aN s i).Seed [151,179,aY (aC j),i])
 obtain⟨e2,b1,b2,b3⟩:=Lx (aX (aN s k).Seed [151,179,aY (aC l),k])
 obtain⟨q1,c1⟩:=bBh (aN s i).Seed 151 179 (aY (aC j)) i
 obtain⟨q2,c2⟩:=bBh (aN s k).Seed 151 179 (aY (aC l)) k
 rw[h1,h2,a1,b1,c1,c2] at he
 obtain⟨g,hg,hg2⟩:∃g,aY (aC j)-aY (aC l)=g/\(g∈[0,477561565,(-477561565:Int)]/\(j≠l->g≠0)):=by
  rcases hj with rfl|rfl<;>rcases hl with rfl|rfl<;>simp only[bJn,bJo]
  ·exact⟨0,by decide,by decide,by decide⟩
  ·exact⟨477561565,by decide,by decide,by decide⟩
  ·exact⟨-477561565,by decide,by decide,by decide⟩
  ·exact⟨0,by decide,by decide,by decide⟩
 have hz:(((i-k)*1000003+e)*1000015000090000270000405000244+g*1000006000009+(i-k)*1000003-(e2-e1))%2147483647=0:=by
  clear h1 h2 a1 b1 c1 c2
  generalize(aN s i).Seed=x at*
  generalize(aN s k).Seed=y at*
  generalize aY (aC j)=x1 at*
  generalize aY (aC l)=y1 at*
  clear hg2 hj hl h
  omega
 have:=cw.1 (cw.1 bBk (i-k) (aV4 (by omega) (by omega))) g hg2.1
 rw[show(i-k==0&&g==0)=false by
  rcases h with h|h
  ·rw[ct.2 (show i-k≠0 by omega)];rfl
  ·rw[ct.2 (hg2.2 h),cT],cE] at this
 have:=cw.1 (cw.1 this e (Yp d2 d3)) (e2-e1) (Yp (by omega) (by omega))
 rw[hz] at this;cases this
def aX5 {n:Int}(h:0<=n/\n<2147483647):bB (fI n)=true:=by
 unfold fI bB bE
 by_cases h0:n=0
 ·subst h0;rfl
 ·rw[ct.2 h0,ac,ap (show 1<=n by omega),ap (show n<=2147483646 by omega)];rfl
def eO (s:Int)(l:List Int):bB (aO s l)=true:=aX5 (jK _ _)
def aG6 {k:Int}(h:bB k=true):1<=k/\k<=2147483646:=gX h
def bFb {k:Int}(h:bB k=true):bP k=k*48271%2147483647:=by
 have:=aG6 h
 unfold bP
 rw[h,bl,ac,aH (by omega) (by omega),cb (by omega)]
def aV5 {k:Int}(h:bB k=true):bB (bP k)=true:=by
 have:=aG6 h
 rw[bFb h]
 have:k*48271%2147483647≠0:=by omega
 unfold bB bE
 rw[ap (show 1<=k*48271%2147483647 by omega),ap (show k*48271%2147483647<=2147483646 by omega)];rfl
def zA {k:Int}(h:bB k=true):dL (bP k)=k:=by
 have:=aG6 h
 unfold dL
 rw[aV5 h,bl,ac,bFb h]
 omega
def aV6 {a b:Int}(ha:bB a=true)(hb:bB b=true)(h:bP a=bP b):a=b:=by
 rw[<-zA ha,h,zA hb]
def aTz {s i k j l:Int}(hi:0<=i/\i<6)(hk:0<=k/\k<6)(hj:j=0\/j=1)(hl:l=0\/l=1)(h:i≠k\/j≠l):eZ (aN s i) (aC j) i≠eZ (aN s k) (aC l) k:=
 λhe=>aRu hi hk hj hl h (aV6 (eO _ _) (eO _ _) he)
def aX6 {s i k:Int}(hi:0<=i/\i<6)(hk:0<=k/\k<6)(h:i≠k):bC (aN s i)≠bC (aN s k):=
 λhe=>aX4 hi hk h (aV6 (eO _ _) (eO _ _) he)
end Go.VK

set_option maxRecDepth 100000
namespace Go.VK
def Rq {α:Type}{p:Nat->α->Bool}:∀{l:List α} {i:Nat},(∀k (h:k<l.length),p (i+k) l[k]=false)->fD p i l=false
 |[],i,_=>rfl
 |x::l,i,h=>by
  have h0:=h 0 (by simp)
  have ih:=Rq (p:=p) (l:=l) (i:=i+1) (λk hk=>by
   have:=h (k+1) (by simpa using hk)
   rw[show i+1+k=i+(k+1) by omega];simpa using this)
  simp only[fD,dz,List.getElem_cons_zero] at h0 ⊢
  rw[h0,ih];rfl
def aT0 {α:Type}{p:Nat->α->Bool}:∀{l:List α} {i:Nat},fD p i l=false->∀k (h:k<l.length),p (i+k) l[k]=false
 |x::l,i,h,0,_=>by simp only[fD,bv] at h;simpa using h.1
 |x::l,i,h,k+1,hk=>by
  simp only[fD,bv] at h
  have:=aT0 h.2 k (by simpa using hk)
  rw[show i+(k+1)=i+1+k by omega];simpa using this
def Yq (seed j:Int)(k:Nat):Int:=eZ (aN seed (k:Int)) (aC j) (k:Int)
def bBl (seed j:Int)(l:List D.aAJ):Prop:=∀k (h:k<l.length),l[k].Handle=(k:Int)/\l[k].Public=Yq seed j k/\0<=l[k].Counter/\l[k].Counter<=1000000
def jP {x a b:Int}(h1:a<=x)(h2:x<=b):bE x a b=true:=by unfold bE;rw[ap h1,ap h2];rfl
def bEf {seed j l:Int}{i k:Nat}(hi:i<6)(hk:k<6)(hj:j=0\/j=1)(hl:l=0\/l=1)(h:i≠k\/j≠l):Yq seed j i≠Yq seed l k:=
 aTz (by omega) (by omega) hj hl (by omega)
def aX7 (seed j:Int)(k:Nat):dL (Yq seed j k)=dQ (aN seed (k:Int)) (aC j) (k:Int):=by
 unfold Yq eZ
 exact zA (by unfold dQ;exact eO _ _)
def aT1 {seed j m:Int}{l:List D.aAJ}(hj:j=0\/j=1)(h:bBl seed j l)(hl:l.length<=6)(hm:1<=m/\m<=3):aU ⟨1,m,l⟩=true:=by
 have ha:fD (pE ⟨1,m,l⟩) 0 l=false:=Rq λk hk=>by
  obtain⟨h1,h2,h3,h4⟩:=h k hk
  have hp:=aG6 (eO (aN seed (k:Int)).Seed [179,aY (aC j),(k:Int)])
  unfold pE
  rw[bu,h1,jP (by omega) (by omega),h2,aX7,ct.2 (show dQ (aN seed (k:Int)) (aC j) (k:Int)≠0 by unfold dQ;omega),jP h3 h4]
  have e1:(decide (0<k)&&decide ((l.getD (k-1) default).Handle>=(k:Int)))=false:=by
   by_cases hk0:0<k
   ·have hk1:k-1<l.length:=by omega
    have:=(h (k-1) hk1).1
    rw[List.getD,ab hk1,cL,this,aq (show ¬((k-1:Nat):Int)>=(k:Int) by omega),cT]
   ·rw[aq hk0,eo]
  have e2:((l.take k).any λq=>q.Public==Yq seed j k)=false:=by
   rw[List.any_eq_false]
   intro q hq
   obtain⟨i,hi,rfl⟩:=e8.1 hq
   rw[ci] at hi
   rw[gl,(h i (by omega)).2.1]
   simp only[cF]
   exact bEf (by omega) (by omega) hj hj (.inl (by omega))
  show(!true||((decide (0<k)&&decide ((l.getD (k-1) default).Handle>=(k:Int)))||(false|| !true))||(l.take k).any λq=>q.Public==Yq seed j k)=false
  rw[e1,e2];rfl
 unfold aU
 show(bE 1 0 1000000&&bE m 1 3&&decide (l.length<=8)&& !fD (pE ⟨1,m,l⟩) 0 l)=true
 rw[ha,jP hm.1 hm.2,ap (show l.length<=8 by omega)];rfl
structure SiteIn (seed j:Int) (n:Nat) (s:D.Site):Prop where
 name:s.Name=aC j
 book:gP s.Book=true
 key:bB s.Book.Seed=true
 acc:∃l,s.Accounts=[⟨1,3,l⟩]/\bBl seed j l/\l.length=n
def S9 {j:Int}(hj:j=0\/j=1):(fU (aC j)&&decide (2<=(bD (aC j)).length))=true:=by
 rcases hj with rfl|rfl<;>kernel_rfl
def SiteIn.ok {seed j:Int}{n:Nat}{s:D.Site}(hj:j=0\/j=1)(hn:n<=6)(h:SiteIn seed j n s):cO s=true:=by
 obtain⟨h1,h2,h3,l,h4,h5,h6⟩:=h
 unfold cO fV
 rw[h1,S9 hj,h3,h2,h4]
 show(true&&true&&decide (1<=8)&&true&& !(Ch [⟨1,3,l⟩] 0 ⟨1,3,l⟩||false))=true
 unfold Ch
 rw[aT1 hj h5 (by omega) ⟨by decide,by decide⟩];rfl
def SiteIn.find {seed j:Int}{n:Nat}{s:D.Site}(h:SiteIn seed j n s):aL s 1=0:=by
 obtain⟨_,_,_,l,h4,_⟩:=h
 unfold aL;rw[h4];rfl
def aNj {α:Type}{p:α->Bool}:∀{l:List α},(∀c∈l,p c=true)->l.takeWhile p=l
 |[],_=>rfl
 |x::l,h=>by rw[df,h x (by simp),cr rfl,aNj (λc hc=>h c (by simp[hc]))]
def bBm {l:List D.aAJ}{p:Int}(h:∀k (h:k<l.length),l[k].Handle=(k:Int)):R6 l (l.length:Int) p=l++[⟨(l.length:Int),p,0,false⟩]:=by
 have:Rj (l.length:Int) l=l.length:=by
  unfold Rj
  rw[aNj]
  intro c hc
  obtain⟨i,hi,rfl⟩:=e8.1 hc
  rw[h i hi];exact ap (by omega)
 unfold R6
 rw[this,fe,di,cI]
def bBl.snoc {seed j:Int}{l:List D.aAJ}(h:bBl seed j l):bBl seed j (l++[⟨(l.length:Int),Yq seed j l.length,0,false⟩]):=by
 intro k hk
 by_cases hk1:k<l.length
 ·rw[jh hk1];exact h k hk1
 ·have:k=l.length:=by simp at hk;omega
  subst this
  simp
def SiteIn.reg {seed j:Int}{n:Nat}{s:D.Site}(hj:j=0\/j=1)(hn:n<6)(h:SiteIn seed j n s):
  (fG s 1 (n:Int) (Yq seed j n)).2=true/\SiteIn seed j (n+1) (fG s 1 (n:Int) (Yq seed j n)).1:=by
 have hok:=h.ok hj (by omega)
 have hf:=h.find
 obtain⟨h1,h2,h3,l,h4,h5,h6⟩:=h
 subst h6
 have ha:(s.Accounts.getD (aL s 1).toNat default)=⟨1,3,l⟩:=by rw[hf,h4];rfl
 have hi:=bBm (p:=Yq seed j l.length) (λk hk=>(h5 k hk).1)
 have hs:=h5.snoc
 have e1:=aT1 (m:=3) hj h5 (by omega) ⟨by decide,by decide⟩
 have e2:=aT1 (m:=3) hj hs (by simp;omega) ⟨by decide,by decide⟩
 have hadd:dS ⟨1,3,l⟩ (l.length:Int) (Yq seed j l.length)=(⟨1,3,l++[⟨(l.length:Int),Yq seed j l.length,0,false⟩]⟩,true):=by
  unfold dS
  rw[e1]
  show(bif !true|| !aU ⟨1,3,R6 l (l.length:Int) (Yq seed j l.length)⟩ then _ else _)=_
  rw[hi,e2];rfl
 unfold fG
 rw[hok,hf,show decide ((0:Int)<0)=false from rfl,<-hf,ha,hadd,hf,h4]
 exact⟨rfl,h1,h2,h3,_,rfl,hs,by simp⟩
def aT2 {seed j:Int}(hj:j=0\/j=1):SiteIn seed j 0 (fO (dB (aC j) (aO seed [281,j])) 1 3).1:=by
 have hk:=eO seed [281,j]
 generalize aO seed [281,j]=q at*
 have hn:dB (aC j) q=⟨aC j,[],⟨q,0,[]⟩,[]⟩:=by
  unfold dB fV
  rw[S9 hj,hk];rfl
 have hb:gP ⟨q,0,[]⟩=true:=rfl
 have hin:SiteIn seed j 0 (iX ⟨aC j,[],⟨q,0,[]⟩,[]⟩ 1 3):=
  ⟨rfl,hb,hk,[],rfl,λk hk=>by simp at hk,rfl⟩
 have h0:cO ⟨aC j,[],⟨q,0,[]⟩,[]⟩=true:=by
  unfold cO fV
  rw[S9 hj,hk];rfl
 unfold fO
 rw[hn,h0,hin.ok hj (by omega)]
 exact hin
def aG7 {seed j:Int}(hj:j=0\/j=1):∀(m i:Nat) (s:D.Site),SiteIn seed j i s->i+m<=6->
  SiteIn seed j (i+m) (pG (aC j) i ((List.range' i m).map λ(k:Nat)=>bQ (aN seed (k:Int))) s)
 |0,i,s,h,_=>h
 |m+1,i,s,h,hm=>by
  have:=aG7 hj m (i+1) _ (h.reg hj (by omega)).2 (by omega)
  rw[show i+1+m=i+(m+1) by omega] at this
  exact this
def aCq {seed j:Int}(hj:j=0\/j=1){n:Nat}(hn:n<=6):SiteIn seed j n (Ig seed (aT seed n) j):=by
 have:=aG7 hj n 0 _ (aT2 (seed:=seed) hj) (by omega)
 rw[bu,<-List.range_eq_range'] at this
 exact this
end Go.VK

set_option maxRecDepth 100000
namespace Go.VK
structure BookIn (b:D.aAE):Prop where
 next:0<=b.Next/\b.Next<=1000000
 len:b.Open.length<=16
 ord:b.Open.Pairwise (λa c=>a.Id<c.Id)
 all:∀c∈b.Open,(0<=c.Id/\c.Id<b.Next)/\(0<=c.aAG/\c.aAG<=1000005)/\(0<=c.Until/\c.Until<=1000005)
def BookIn.ok {b:D.aAE}(h:BookIn b):gP b=true:=by
 obtain⟨h1,h2,h3,h4⟩:=h
 have ha:fD (fT b) 0 b.Open=false:=Rq λk hk=>by
  obtain⟨a1,a2,a3⟩:=h4 b.Open[k] (cR hk)
  unfold fT
  rw[bu,aH (by omega) (by omega),jP (by omega) (by omega),jP a2.1 a2.2,jP a3.1 a3.2]
  have e1:(decide (0<k)&&decide ((b.Open.getD (k-1) default).Id>=b.Open[k].Id))=false:=by
   by_cases hk0:0<k
   ·have hk1:k-1<b.Open.length:=by omega
    have:=dt.1 h3 (k-1) k hk1 hk (by omega)
    rw[List.getD,ab hk1,cL,aq (show ¬b.Open[k-1].Id>=b.Open[k].Id by omega),cT]
   ·rw[aq hk0,eo]
  rw[e1];rfl
 unfold gP
 rw[ha,jP h1.1 h1.2,ap h2];rfl
end Go.VK

set_option maxRecDepth 100000
namespace Go.VK
structure StIn (seed:Int) (k:Nat) (s:D.aAH):Prop where
 ven:s.Vendor=1
 ser:s.Serial=(k:Int)
 key:s.Seed=(aN seed (k:Int)).Seed
 cnt:0<=s.Counter/\s.Counter<=1000000
structure WIn (m:Nat) (w:D.World):Prop where
 seed:bB w.Seed=true
 now:0<=w.Now/\w.Now<=999900
 dlen:1<=w.Devices.length/\w.Devices.length<=6
 slen:w.Stolen.length=w.Devices.length
 dev:∀k (h:k<w.Devices.length),StIn w.Seed k w.Devices[k].Store
 two:w.Sites.length=2
 mle:m<=6
 site:∀j (h:j<w.Sites.length),SiteIn w.Seed (j:Int) m w.Sites[j]
 mail:rT w.Mail=true
 log:aV w.aAI.Log=true
def WIn.ok {m:Nat}{w:D.World}(h:WIn m w):eY w=true:=by
 have hs:fD yU 0 w.Sites=false:=Rq λk hk=>by
  have h2:=h.two
  have:=h.site k hk
  unfold yU
  rw[this.ok (by omega) h.mle,this.name,bu];simp
 unfold eY
 have h2:=h.two
 have h3:=h.slen
 have h4:=h.dlen
 rw[hs,h.log,h.mail,h.seed,jP h.now.1 h.now.2,jP (by omega) (by omega),h3,h2];simp
def aRv (d:D.Device):(gQ d).1.Store=d.Store:=by
 unfold gQ
 cases(mR d.Key d.Epoch (IntKind.i64.wrap (d.Version+1)) d.aAC).2<;>rfl
end Go.VK

set_option maxRecDepth 100000
namespace Go.VK
def aO5 (d:D.Device)(n:ByteArray)(h:Int)(r:Bool):(eH d n h r).1.Store=d.Store:=by
 unfold eH;cases(rW d n h r).2<;>rfl
end Go.VK

set_option maxRecDepth 100000
namespace Go.VK
def bBn {k:Int}(h:bB k=true)(l:List Int):fQ (bP k) l (vV k l)=true:=by
 have:=aG6 h
 unfold fQ
 rw[zA h,bne,ct.2 (show k≠0 by omega)];simp
def bBo {l:List D.aAB}{e:D.aAB}(h:l=[]\/aV l=true)(hs:jY l e=true)(hl:l.length<40):aV (l++[e])=true:=by
 have ha:fD (λi x=> !jY ((l++[e]).take i) x) 0 (l++[e])=false:=Rq λk hk=>by
  rw[bu]
  by_cases hk1:k<l.length
  ·rw[jh hk1,List.take_append_of_le_length (by omega)]
   rcases h with h|h
   ·subst h;simp at hk1
   ·unfold aV at h
    rw[aa,cq] at h
    have:=aT0 h.2 k hk1
    rw[bu] at this;exact this
  ·have e1:k=l.length:=by simp at hk;omega
   subst e1
   simp[hs]
 unfold aV
 rw[aa,cq]
 exact⟨jP (by simp;omega) (by simp;omega),ha⟩
def bBp (l:List D.aAB)(e:D.aAB):aB (l++[e])=gN (aB l) e:=by
 unfold aB;rw[gm];rfl
def aT3 (l:List D.aAB)(e:D.aAB):aJ (l++[e])=bif e.Kind==2 then IntKind.i64.wrap (aJ l+1) else aJ l:=by
 unfold aJ;rw[gm];rfl
def aO6 (l:List D.aAB)(e:D.aAB)(p:Int):gF (l++[e]) p=(gF l p||(e.Kind==2&&e.Device==p)):=by
 unfold gF;rw[List.any_append];simp
def qE (seed:Int)(k:Nat):Int:=bC (aN seed (k:Int))
def aV7 {seed:Int}{i k:Nat}(hi:i<6)(hk:k<6)(h:i≠k):qE seed i≠qE seed k:=aX6 (by omega) (by omega) (by omega)
def Rt (s:D.aAH):bB (eX s)=true:=by unfold eX;exact eO _ _
def tF {l:List Int}{x:Int}:fM l x=true↔x∈l:=by
 unfold fM;rw[ir]
 constructor
 ·rintro⟨y,hy,e⟩;rw[<-eq_of_beq e];exact hy
 ·exact λh=>⟨x,h,dg x⟩
structure NewLog (seed:Int) (n:Nat) (l:List D.aAB):Prop where
 len:l.length=n
 devs:aB l=(List.range n).map (qE seed)
 rem:∀p,gF l p=false
 ep:aJ l=0
 ok:n=0\/aV l=true
def oM (seed:Int):∀n,n<=6->NewLog seed n (aM seed n)
 |0,_=>⟨rfl,rfl,λ_=>rfl,rfl, .inl rfl⟩
 |n+1,hn=>by
  obtain⟨h1,h2,h3,h4,h5⟩:=oM seed n (by omega)
  have hnot:fM (aB (aM seed n)) (qE seed n)=false:=by
   rw[Bool.eq_false_iff,Ne,tF,h2]
   intro hm
   obtain⟨i,hi,e⟩:=bo.1 hm
   have hi:=gf.1 hi
   exact aV7 (by omega) (by omega) (by omega) e
  have hst:jY (aM seed n) (aTn (aM seed n) 1 (qE seed n) (aN seed 0))=true:=by
   unfold jY
   have v:fQ (bC (aN seed 0)) [bJ (aRj (aM seed n) 1 (qE seed n) (aN seed 0))] (iC (aN seed 0) [bJ (aRj (aM seed n) 1 (qE seed n) (aN seed 0))])=true:=by
    unfold iC bC;exact bBn (Rt _) _
   show(((aM seed n).length:Int)==((aM seed n).length:Int)&&(eG (aM seed n)==eG (aM seed n)&&((fM (aB (aM seed n)) (bC (aN seed 0))||(((aM seed n).length:Int)==0&&bC (aN seed 0)==qE seed n))&&(fQ (bC (aN seed 0)) [bJ (aRj (aM seed n) 1 (qE seed n) (aN seed 0))] (iC (aN seed 0) [bJ (aRj (aM seed n) 1 (qE seed n) (aN seed 0))])&&
    (!gF (aM seed n) (qE seed n)&&(true&&(!fM (aB (aM seed n)) (qE seed n)&&decide (((aB (aM seed n)).length:Int)<6))))))))=true
   rw[v,h3,hnot,h2,h1]
   have hby:(fM ((List.range n).map (qE seed)) (bC (aN seed 0))||((n:Int)==0&&bC (aN seed 0)==qE seed n))=true:=by
    cases n with
    |zero=>simp[qE]
    |succ n=>
     rw[show fM ((List.range (n+1)).map (qE seed)) (bC (aN seed 0))=true from tF.2 (bo.2 ⟨0,by simp,rfl⟩)];rfl
   rw[hby]
   simp;omega
  have hl:=bBo (l:=aM seed n) (by
   rcases h5 with h5|h5
   ·subst h5;exact .inl rfl
   ·exact .inr h5) hst (by omega)
  have e:aM seed (n+1)=aM seed n++[aTn (aM seed n) 1 (qE seed n) (aN seed 0)]:=by
   show(iM (aM seed n) 1 (bC (aN seed (n:Int))) (aN seed 0)).1=_
   unfold iM
   have hq:(decide (((aM seed n).length:Int)>0)&& !aV (aM seed n))=false:=by
    rcases h5 with h5|h5
    ·subst h5;rfl
    ·rw[h5];simp
   rw[hq,show bC (aN seed (n:Int))=qE seed n from rfl,hl];rfl
  rw[e]
  refine⟨by simp[h1],?_,λp=> ?_,?_, .inr hl⟩
  ·rw[bBp,gv,cQ,<-h2]
   unfold gN
   have hc:(aB (aM seed n)).contains (qE seed n)=false:=by
    rw[Bool.eq_false_iff] at hnot ⊢
    intro hc;exact hnot (tF.2 (by simpa using hc))
   show(bif (1:Int)==1 then(bif (aB (aM seed n)).contains (qE seed n) then _ else _) else _)=_
   rw[hc];rfl
  ·rw[aO6,h3];rfl
  ·rw[aT3,h4];rfl
end Go.VK

set_option maxRecDepth 100000
namespace Go.VK
def aNk {e:Int}{d:List Int}(hd:d.length<=200):∀(l:List Int) (i:Nat),(∀p∈l,bB p=true)->1<=e+(i:Int)->e+(i:Int)+(l.length:Int)<=2147483646->
  (dN e d i l).2=true/\(dN e d i l).1.length=l.length/\(dN e d i l).1.map (·.To)=l/\∀k (h:k<(dN e d i l).1.length) (h2:k<l.length),(dN e d i l).1[k]=fA l[k] (e+((i+k:Nat):Int)) d
 |[],i,_,_,_=>⟨rfl,rfl,rfl,λk h _=>by simp[dN] at h⟩
 |p::l,i,hp,h1,h2=>by
  simp only[az] at h2
  obtain⟨i1,i2,i3,i4⟩:=aNk (e:=e) hd l (i+1) (λq hq=>hp q (by simp[hq])) (by push_cast;omega) (by push_cast at h2 ⊢;omega)
  have hk:=hp p (by simp)
  have hq:=aG6 hk
  have hw:IntKind.i64.wrap (e+(i:Int))=e+(i:Int):=aH (by omega) (by push_cast at h2;omega)
  have hpr:dL p≠0:=by
   unfold dL
   rw[hk,bl,ac]
   omega
  have hb:dM p (IntKind.i64.wrap (e+(i:Int))) d=(fA p (e+(i:Int)) d,true):=by
   unfold dM
   rw[hw,ct.2 hpr,show bB (e+(i:Int))=true from jP (by omega) (by push_cast at h2;omega),aq (show ¬(d.length:Int)>200 by omega)];rfl
  have hu:dN e d i (p::l)=(fA p (e+(i:Int)) d::(dN e d (i+1) l).1,true):=by
   rw[dN,hb,i1];rfl
  rw[hu]
  refine⟨rfl,by simp[i2],?_,λk hk1 hk2=> ?_⟩
  ·simp only[bj,i3];rfl
  ·cases k with
   |zero=>rfl
   |succ k=>
    simp only[az] at hk1 hk2
    have:=i4 k (by omega) (by omega)
    simp only[eK]
    rw[this];congr 1;push_cast;omega
def bBq {l:List D.Box}{p:Int}:∀(n:Int),0<=n->n+(l.length:Int)<=1000000->l.foldl (λn b=>bif b.To==p then IntKind.i64.wrap (n+1) else n) n=n+((l.filter λb=>b.To==p).length:Int):=by
 induction l with
 |nil=>intro n _ _;simp
 |cons b l ih=>
  intro n h0 h1
  simp only[az] at h1
  push_cast at h1
  rw[cM,iq]
  cases hb:b.To==p with
  |true=>
   rw[ae,aH (by omega) (by omega),cr rfl,ih (n+1) (by omega) (by omega),az]
   push_cast;omega
  |false=>
   rw[ac,cJ (by simp),ih n h0 (by omega)]
def aX8 {l:List D.Box}(h:(l.map (·.To)).Nodup){p:Int}(hp:p∈l.map (·.To)):(l.filter λb=>b.To==p).length=1:=by
 induction l with
 |nil=>simp at hp
 |cons b l ih=>
  simp only[bj,cl,ba] at h hp
  rw[iq]
  by_cases hb:b.To=p
  ·have hn:(l.filter λb=>b.To==p)=[]:=by
    rw[List.filter_eq_nil_iff]
    intro c hc he
    exact h.1 (bo.2 ⟨c,hc,by rw[hb];exact eq_of_beq he⟩)
   rw[cF.2 hb,cr rfl,hn];rfl
  ·have hp2:p∈l.map (·.To):=by
    rcases hp with hp|hp
    ·exact absurd hp.symm hb
    ·exact hp
   rw[ct.2 hb,cJ (by simp)]
   exact ih h.2 hp2
def aX9 {log:List D.aAB}{bx:D.aAD}(h1:bx.Epoch=aJ log)(h2:bx.Boxes.map (·.To)=aB log)(h3:(aB log).Nodup)(h4:(aB log).length<=1000):fZ bx log=true:=by
 have hl:bx.Boxes.length=(aB log).length:=by rw[<-h2,bc]
 unfold fZ
 rw[h1,hl,dg,dg,dl,dc,cw]
 intro p hp
 unfold iN
 rw[bBq 0 (by omega) (by omega),aX8 (by rw[h2];exact h3) (by rw[h2];exact hp)];rfl
def bFc (a b:Int):(eU [a,b]).length<=12:=by
 have h1:=Hw a
 have h2:=Hw b
 unfold eU
 simp only[bj,ey,cD,fL,cI,aw];omega
def aNl {log:List D.aAB}{key eph:Int}(h1:aV log=true)(h2:bB key=true)(h3:∀p∈aB log,bB p=true)(h4:(aB log).length<=1000)(h5:1<=eph/\eph<=1000000):
  (bK log key eph).2=true/\(bK log key eph).1.Epoch=aJ log/\(bK log key eph).1.Boxes.map (·.To)=aB log/\∀k (h:k<(bK log key eph).1.Boxes.length) (h2:k<(aB log).length),(bK log key eph).1.Boxes[k]=fA (aB log)[k] (eph+(k:Int)) (eU [aJ log,key]):=by
 have hd:=bFc (aJ log) key
 obtain⟨s1,s2,s3,s4⟩:=aNk (e:=eph) (d:=eU [aJ log,key]) (by omega) (aB log) 0 h3 (by omega) (by omega)
 have e:bK log key eph=(⟨aJ log,(dN eph (eU [aJ log,key]) 0 (aB log)).1⟩,true):=by
  unfold bK
  rw[h1,h2,s1];rfl
 rw[e]
 refine⟨rfl,rfl,s3,λk hk hk2=> ?_⟩
 have:=s4 k hk hk2
 rw[bu] at this;exact this
end Go.VK

set_option maxRecDepth 100000
namespace Go.VK
def aRw (seed:Int)(k:Nat):bB (qE seed k)=true:=by
 unfold qE bC;exact aV5 (Rt _)
def aRx {seed:Int}{n:Nat}(hn:n<=6):((List.range n).map (qE seed)).Nodup:=by
 rw[jc,gj]
 refine(List.pairwise_lt_range).imp_of_mem ?_
 intro a b ha hb hab
 have ha:=gf.1 ha
 have hb:=gf.1 hb
 exact aV7 (by omega) (by omega) (by omega)
def Ru {seed:Int}{n:Nat}(h0:1<=n)(hn:n<=6):fZ (dF seed n) (aM seed n)=true/\aV (aM seed n)=true/\(dF seed n).Epoch=0:=by
 obtain⟨h1,h2,h3,h4,h5⟩:=oM seed n hn
 have hl:aV (aM seed n)=true:=h5.resolve_left (by omega)
 have hlen:(aB (aM seed n)).length<=1000:=by rw[h2,bc,ez];omega
 obtain⟨m1,m2,m3,m4⟩:=aNl (key:=bH seed 0) (eph:=1000) hl (by unfold bH;exact eO _ _) (λp hp=>by
  rw[h2] at hp
  obtain⟨i,_,rfl⟩:=bo.1 hp
  exact aRw _ _) hlen ⟨by decide,by decide⟩
 refine⟨aX9 m2 m3 (by rw[h2];exact aRx hn) hlen,hl,?_⟩
 unfold dF;rw[m2,h4]
def aRy {seed:Int}{n:Nat}(h0:1<=n)(hn:n<=6):(dZ seed n).Log=aM seed n:=by
 obtain⟨h1,h2,_⟩:=Ru (seed:=seed) h0 hn
 unfold dZ
 rw[(Ri _ _).2]
 unfold bT
 rw[h1,h2];rfl
def aCr (d:D.Device)(l:List D.aAB)(k:Int):(kM d l k).1.Store=d.Store:=by
 unfold kM
 cases !aV l||(!bS l d.Log||(decide (aJ l<d.Epoch)|| !bB k))<;>rfl
def aKs (d:D.Device)(l:List D.aAB)(b:D.aAD)(s:D.aAA):(bW d l b s).1.Store=d.Store:=by
 unfold bW
 cases jM d l b s==0<;>rfl
def Rv (nm:ByteArray):∀(i:Nat) (d:D.Device),(yZ nm i d).Store=d.Store
 |0,d=>rfl
 |i+1,d=>by
  show(eH (yZ nm i d) nm (i:Int) false).1.Store=_
  rw[aO5,Rv nm i d]
def aYa {seed:Int}{n:Nat}(h0:1<=n):(dR seed n).length=n/\∀k (h:k<(dR seed n).length),(dR seed n)[k].Store=aN seed (k:Int):=by
 have hl:(dR seed n).length=n:=by
  unfold dR aT
  simp only[az,bc,cp,ez];omega
 refine⟨hl,λk hk=> ?_⟩
 cases k with
 |zero=>
  show(Ey seed n).1.Store=_
  unfold Ey
  rw[aRv]
  unfold fH lF
  rw[Rv,Rv,aCr];rfl
 |succ k=>
  have hk2:k<(((aT seed n).drop 1).map (mV seed n)).length:=by
   have:(dR seed n).length=(((aT seed n).drop 1).map (mV seed n)).length+1:=rfl
   omega
  show((((aT seed n).drop 1).map (mV seed n))[k]'hk2).Store=_
  rw[fy]
  unfold mV lF
  rw[aKs,aCr,List.getElem_drop]
  unfold aT
  rw[fy,List.getElem_range]
  unfold bQ
  rw[show((1+k:Nat):Int)=((k+1:Nat):Int) by omega]
def aRz {n k t pin seed:Int}(h:Mc n k t pin seed=true):WIn n.toNat (aR n k t pin seed)/\(aR n k t pin seed).Devices.length=n.toNat/\(aR n k t pin seed).Seed=seed:=by
 have hb:=h
 unfold Mc at hb
 simp only[aa] at hb
 obtain⟨b1,b2,b3,b4,b5⟩:=hb
 have r:=gX b1
 unfold aR
 rw[h,ae]
 obtain⟨d1,d2⟩:=aYa (seed:=seed) (n:=n.toNat) (by omega)
 have hlog:=aRy (seed:=seed) (n:=n.toNat) (by omega) (by omega)
 have hok:=(Ru (seed:=seed) (n:=n.toNat) (by omega) (by omega)).2.1
 refine⟨{seed:=b5,now:=⟨e9 0,show(0:Int)<=999900 by decide⟩,dlen:= ?_,slen:= ?_,dev:= ?_,two:=rfl,mle:=by omega,site:= ?_,mail:=rfl,log:= ?_},d1,rfl⟩
 ·show 1<=(dR seed n.toNat).length/\(dR seed n.toNat).length<=6;omega
 ·show(List.replicate n.toNat false).length=(dR seed n.toNat).length;rw[eV,d1]
 ·intro j hj
  show StIn seed j ((dR seed n.toNat)[j]'hj).Store
  rw[d2 j hj]
  exact⟨rfl,rfl,rfl,e9 0,show(0:Int)<=1000000 by decide⟩
 ·intro j hj
  show SiteIn seed (j:Int) n.toNat ((iY (aT seed n.toNat) seed)[j]'hj)
  match j,hj with
  |0,_=>exact aCq (.inl rfl) (by omega)
  |1,_=>exact aCq (.inr rfl) (by omega)
  |j+2,hj=>have:j+2<2:=hj;omega
 ·show aV (dZ seed n.toNat).Log=true
  rw[hlog];exact hok
end Go.VK

set_option maxRecDepth 100000
namespace Go.VK
structure Kept (w v:D.World):Prop where
 wi:WIn v.Devices.length v
 seed:v.Seed=w.Seed
 sz:v.sz<=w.sz+3000
def Kept.of {w v:D.World}(h:WIn w.Devices.length v/\v.Seed=w.Seed/\v.Devices.length=w.Devices.length)(hz:v.sz<=w.sz+3000):Kept w v:=⟨by rw[h.2.2];exact h.1,h.2.1,hz⟩
end Go.VK

set_option maxRecDepth 100000
namespace Go.VK
def T9 {b:List Int}{p:Nat}{h:Int}{t:List Int}(e:b.drop p=h::t):p<b.length/\b.getD p 0=h/\b.drop (p+1)=t:=by
 have hp:p<b.length:=by
  have:=congrArg List.length e
  rw[cp,az] at this;omega
 rw[cj hp] at e
 injection e with e1 e2
 exact⟨hp,by simp[List.getD,ab hp,e1],e2⟩
def split_mul (r P:Int):r*P=r/128*(P*128)+r%128*P:=by
 have h:128*(r/128)+r%128=r:=Int.mul_ediv_add_emod r 128
 conv=>lhs;rw[<-h]
 rw[Int.add_mul,ij 128,Int.mul_assoc,ij 128 P]
def aV8 {b y:List Int}{p:Nat}:∀(k i:Nat) (n r:Int),b.drop (p+i)=N8 k r++y->0<=r->r<128^(k+1)->(0<i->r≠0)->0<=n->n+r*128^i<=1000000000000->
  uvG b p (k+1) i n=(n+r*128^i,((p+i+(N8 k r).length:Nat):Int),true)
 |0,i,n,r,hd,h0,h1,hi,hn,hm=>by
  obtain⟨d1,d2,d3⟩:=T9 (show b.drop (p+i)=r::y from hd)
  have hr:r<128:=by simpa using h1
  unfold uvG
  rw[cr d1,d2,ap hr,ae,show r%128=r by omega,aq (show ¬n+r*128^i>1000000000000 by omega),gn]
  have:(decide (0<i)&&r==0)=false:=by
   by_cases hz:0<i
   ·rw[ct.2 (hi hz),cT]
   ·rw[aq hz,eo]
  rw[this];rfl
 |k+1,i,n,r,hd,h0,h1,hi,hn,hm=>by
  have hp:(0:Int)<=128^i:=Int.pow_nonneg (by decide)
  have hs:=split_mul r (128^i)
  have hpow:(128:Int)^(i+1)=128^i*128:=eM ..
  unfold N8 at hd ⊢
  by_cases hb:r>127
  ·rw[ap hb,ae] at hd ⊢
   obtain⟨d1,d2,d3⟩:=T9 (show b.drop (p+i)=(r%128+128)::(N8 k (r/128)++y) from hd)
   have hq:(r/128)<128^(k+1):=by
    have:(128:Int)^(k+1+1)=128^(k+1)*128:=eM ..
    omega
   have hx:0<=r%128*128^i:=je (by omega) hp
   have ih:=aV8 k (i+1) (n+r%128*128^i) (r/128) (by rw[show p+(i+1)=p+i+1 by omega];exact d3) (by omega) hq (λ_=>by omega) (by omega) (by rw[hpow];omega)
   rw[uvG,cr d1,d2,aq (show ¬r%128+128<128 by omega),ac,show(r%128+128)%128=r%128 by omega,ih,hpow]
   simp only[az,cG,and_true]
   constructor
   ·omega
   ·congr 1;omega
  ·rw[aq hb,ac] at hd ⊢
   obtain⟨d1,d2,d3⟩:=T9 (show b.drop (p+i)=r::y from hd)
   unfold uvG
   rw[cr d1,d2,ap (show r<128 by omega),ae,show r%128=r by omega,aq (show ¬n+r*128^i>1000000000000 by omega),gn]
   have:(decide (0<i)&&r==0)=false:=by
    by_cases hz:0<i
    ·rw[ct.2 (hi hz),cT]
    ·rw[aq hz,eo]
   rw[this];rfl
def aV9 {x y:List Int}{n:Int}(h:0<=n/\n<=1000000000000):rR (x++(enc1 n++y)) (x.length:Int)=(n,((x.length+(enc1 n).length:Nat):Int),true):=by
 have e:=aFf h
 unfold rR
 rw[cJ (by omega),bp,e]
 have hp:(128:Int)^(5+1)=4398046511104:=by decide
 have:=aV8 (b:=x++(N8 5 n++y)) (y:=y) (p:=x.length) 5 0 0 n (by simp) h.1 (by omega) (λh=>by omega) (by decide) (by simp;omega)
 rw[this];simp
def aG8:∀(t x y s:List Int),aKp t->iB (x++(eU t++y)) t.length (x.length:Int) s=(s++t,((x.length+(eU t).length:Nat):Int),true)
 |[],x,y,s,_=>by simp[iB,eU]
 |n::t,x,y,s,h=>by
  have hn:=h n (by simp)
  have hu:=aV9 (x:=x) (y:=eU t++y) hn
  rw[oI,ca]
  show iB _ (t.length+1) _ _=_
  rw[iB,hu]
  simp only[ae]
  have ih:=aG8 t (x++enc1 n) y (s++[n]) (λv hv=>h v (by simp[hv]))
  rw[aw,ca] at ih
  rw[ih]
  simp[fN]
def aG9:∀l:List D.Entry,jG (gJ l)=l/\iL (gJ l)=true
 |[]=>⟨rfl,rfl⟩
 |e::l=>by
  obtain⟨h1,h2⟩:=aG9 l
  have hf:gJ (e::l)=aKq e++gJ l:=by simp[gJ]
  rw[hf]
  obtain⟨s,h,v,d⟩:=e
  cases d with
  |true=>exact⟨by show(⟨s,h,v,(1:Int)==1⟩:D.Entry)::jG (gJ l)=_;rw[h1];rfl,by show(decide ((1:Int)<=1)&&iL (gJ l))=true;rw[h2];rfl⟩
  |false=>exact⟨by show(⟨s,h,v,(0:Int)==1⟩:D.Entry)::jG (gJ l)=_;rw[h1];rfl,by show(decide ((0:Int)<=1)&&iL (gJ l))=true;rw[h2];rfl⟩
def aYb {b:D.aAC}(h:aI b=true):∀e∈b.Entries,(0<=e.Site/\e.Site<=2147483646)/\(0<=e.Handle/\e.Handle<=1000000)/\(1<=e.Version/\e.Version<=1000000):=λe he=>by
 unfold aI at h
 rw[aa,cq] at h
 obtain⟨i,hi,rfl⟩:=e8.1 he
 have:=aT0 h.2 i hi
 unfold Ht at this
 simp only[bv,en] at this
 have h1:=gX this.1
 have h2:=gX this.2.1
 have h3:=gX this.2.2.1
 exact⟨⟨h1.1,by omega⟩,⟨h2.1,by omega⟩,⟨h3.1,by omega⟩⟩
def bEg {b:D.aAC}(h:aI b=true):aKp (lK b):=λv hv=>by
 have hl:=kL h
 unfold lK at hv
 rcases bz.1 hv with hv|hv
 ·rw[cN.1 hv];omega
 ·unfold gJ at hv
  obtain⟨e,he,hv⟩:=List.mem_flatMap.1 hv
  obtain⟨h1,h2,h3⟩:=aYb h e he
  unfold aKq at hv
  simp only[ba,fg,or_false] at hv
  rcases hv with rfl|rfl|rfl|rfl
  ·omega
  ·omega
  ·omega
  ·cases e.Deleted<;>simp
def aYc {b:D.aAC}(h:aI b=true):vW (jZ b)=(b,true):=by
 have hl:=kL h
 have hv:=bEg h
 have he:jZ b=enc1 (b.Entries.length:Int)++eU (gJ b.Entries):=by
  unfold jZ lK
  rw[h,ae];rfl
 have hu:rR (jZ b) 0=((b.Entries.length:Int),(((enc1 (b.Entries.length:Int)).length:Nat):Int),true):=by
  have:=aV9 (x:=[]) (y:=eU (gJ b.Entries)) (n:=(b.Entries.length:Int)) (by omega)
  rw[bh,<-he] at this
  simpa using this
 have hd:=aG8 (gJ b.Entries) (enc1 (b.Entries.length:Int)) [] [] (λv hv'=>hv v (by unfold lK;simp[hv']))
 rw[cI,<-he,oJ,bh] at hd
 have hend:(((enc1 (b.Entries.length:Int)).length+(eU (gJ b.Entries)).length:Nat):Int)=((jZ b).length:Int):=by rw[he,aw]
 obtain⟨e1,e2⟩:=aG9 b.Entries
 unfold vW
 rw[hu,show(4*(b.Entries.length:Int)).toNat=4*b.Entries.length by omega,hd,aq (show ¬(b.Entries.length:Int)>20 by omega)]
 unfold aRh
 simp only[hend,e1,e2]
 rw[h];simp
def aO7 {α β:Type}{y:Nat->α->β}:∀{l:List α} {i k:Nat} (h:k<l.length) (h2:k<(Eu (λi x=>[y i x]) i l).length),(Eu (λi x=>[y i x]) i l)[k]=y (i+k) l[k]
 |x::l,i,0,_,_=>rfl
 |x::l,i,k+1,h,h2=>by
  have:=aO7 (y:=y) (l:=l) (i:=i+1) (k:=k) (by simpa using h) (by rw[mM];simpa using h)
  rw[show i+1+k=i+(k+1) by omega] at this
  exact this
def aR0 {k:Int}{d:List Int}(h:∀z∈d,0<=z/\z<=255):Hl k (iW k d)=d:=by
 apply List.ext_getElem
 ·unfold Hl iW;rw[mM,mM]
 ·intro i h1 h2
  have h3:i<(iW k d).length:=by unfold iW;rw[mM];exact h2
  have e1:(Hl k (iW k d))[i]=aGr k (0+i) (iW k d)[i]:=aO7 h3 h1
  have e2:(iW k d)[i]=aRi k (0+i) d[i]:=aO7 h2 h3
  rw[e1,e2]
  have hz:=h d[i] (cR h2)
  unfold aGr aRi
  generalize aX k [((0+i:Nat):Int)]=q
  rw[IntKind.wrap_u8,IntKind.wrap_u8]
  omega
def aYd {k e v:Int}{b:D.aAC}(hk:bB k=true)(he:0<=e/\e<=1000000)(hv:0<=v/\v<=1000000)(hb:aI b=true):fK k (kZ k e v b)=(b,true):=by
 have hm:(kZ k e v b).MAC=fC k (kZ k e v b):=by simp only[kZ,fC]
 unfold fK
 rw[hm,co,hk,show(kZ k e v b).Epoch=e from rfl,show(kZ k e v b).Version=v from rfl,jP he.1 he.2,jP hv.1 hv.2]
 show vW (Hl (iU k e v) (iW (iU k e v) (jZ b)))=(b,true)
 rw[aR0 (Hz (Yl b)),aYc hb]
def bBr {p e:Int}{d:List Int}(hp:bB p=true)(he:bB e=true)(hl:d.length<=200)(hd:∀z∈d,0<=z/\z<=255):dK p (fA (bP p) e d)=(d,true):=by
 have e1:(fA (bP p) e d).To=bP p:=rfl
 have e2:(fA (bP p) e d).Ephemeral=e:=rfl
 have e3:(fA (bP p) e d).Data=iW (dU p e) d:=by unfold fA;rw[zA hp]
 have e4:(fA (bP p) e d).MAC=Ex (dU p e) (fA (bP p) e d):=by unfold fA Ex;rw[zA hp]
 unfold dK
 rw[e2,e1,e4,hp,he,e3,Ia,co,co,aq (show ¬(d.length:Int)>200 by omega),aR0 hd];rfl
def aT4 {p:Int}{b:D.Box}(h:b.To≠bP p):(dK p b).2=false:=by
 unfold dK
 rw[bne,ct.2 h]
 cases bB p<;>rfl
def aHa {p:Int}{d:List Int}(hp:bB p=true)(hl:d.length<=200)(hd:∀z∈d,0<=z/\z<=255):∀{bs:List D.Box} {k:Nat} (hk:k<bs.length),(∀j (hj:j<bs.length),j<k->bs[j].To≠bP p)->(∃e,bB e=true/\bs[k]=fA (bP p) e d)->dX bs p=(d,true)
 |b::bs,0,_,_,⟨e,he,hb⟩=>by
  have hb:b=fA (bP p) e d:=hb
  rw[dX,hb,bBr hp he hl hd];rfl
 |b::bs,k+1,hk,hn,⟨e,he,hb⟩=>by
  have h0:b.To≠bP p:=hn 0 (by simp) (by omega)
  rw[dX,aT4 h0,ac]
  exact aHa hp hl hd (by simpa using hk) (λj hj hjk=>hn (j+1) (by simpa using hj) (by omega)) ⟨e,he,hb⟩
end Go.VK

set_option maxRecDepth 100000
namespace Go.VK
structure BoxIn (log:List D.aAB) (bx:D.aAD) (key:Int):Prop where
 ep:bx.Epoch=aJ log
 to:bx.Boxes.map (·.To)=aB log
 nd:(aB log).Nodup
 kok:bB key=true
 box:∀k (h:k<bx.Boxes.length),∃e,bB e=true/\bx.Boxes[k]=fA bx.Boxes[k].To e (eU [aJ log,key])
 eps:0<=aJ log/\aJ log<=40
def bHy {k:Int}(h:bB k=true):0<=k/\k<=1000000000000:=by have:=aG6 h;omega
def aO8 {log:List D.aAB}{bx:D.aAD}{key:Int}(h:BoxIn log bx key){s:D.aAH}(hs:bC s∈aB log):bF s bx=(key,true):=by
 obtain⟨h1,h2,h3,h4,h5,h6⟩:=h
 rw[<-h2] at hs h3
 obtain⟨k,hk,e⟩:=e8.1 hs
 have hk2:k<bx.Boxes.length:=by simpa using hk
 have e:bx.Boxes[k].To=bP (eX s):=by
  rw[fy] at e;rw[e];rfl
 have hd:(eU [aJ log,key]).length<=12:=bFc _ _
 have hf:dX bx.Boxes (eX s)=(eU [aJ log,key],true):=by
  refine aHa (Rt s) (by omega) (Rh _) hk2 (λj hj hjk he=> ?_) ?_
  ·have:=dt.1 h3 j k (by simpa using hj) (by simpa using hk2) hjk
   rw[fy,fy] at this
   exact this (by rw[he,e])
  ·obtain⟨q,hq,hb⟩:=h5 k hk2
   rw[e] at hb
   exact⟨q,hq,hb⟩
 have hdec:fF (eU [aJ log,key]) 0 2=([aJ log,key],((eU [aJ log,key]).length:Int),true):=by
  have:=aG8 [aJ log,key] [] [] [] (λv hv=>by
   simp only[ba,fg,or_false] at hv
   rcases hv with rfl|rfl
   ·omega
   ·exact bHy h4)
  simp only[bh,cI,ce,bu] at this
  unfold fF
  rw[show bE 2 0 100=true from rfl,jP (by omega) (by omega)]
  exact this
 unfold bF Cg
 rw[hf,hdec]
 show(bif !true||(!true||(((eU [aJ log,key]).length:Int) !=((eU [aJ log,key]).length:Int)||(aJ log !=bx.Epoch|| !bB key))) then(0,false) else(key,true))=(key,true)
 rw[co,h1,co,h4];rfl
def aT5 {log:List D.aAB}{bx:D.aAD}{key:Int}(h:BoxIn log bx key)(hl:aV log=true){d:D.Device}(he:bS log d.Log=true)(hs:bC d.Store∈aB log)
  {e v:Int} {b:D.aAC} (hv:0<=v/\v<=1000000) (hb:aI b=true) (hep:e=aJ log) (ho:d.Epoch<e\/(d.Epoch=e/\d.Version<=v)) (hm:(fJ d.aAC b).2=true):
  bW d log bx (kZ key e v b)=(⟨d.Store,log,key,e,v,(fJ d.aAC b).1⟩,0):=by
 have ho1:=aO8 h hs
 have he2:=h.eps
 have hop:fK key (kZ key e v b)=(b,true):=aYd h.kok (by omega) hv hb
 have hbad:jM d log bx (kZ key e v b)=0:=by
  unfold jM
  rw[hl,he,tF.2 hs,ho1,h.ep,hop,hm,co,show(kZ key e v b).Epoch=e from rfl,show(kZ key e v b).Version=v from rfl]
  have:(decide (e<aJ log)||(decide (e<d.Epoch)||(e==d.Epoch&&decide (v<d.Version))))=false:=by
   rw[aq (show ¬e<aJ log by omega),aq (show ¬e<d.Epoch by omega),cE,cE]
   rcases ho with ho|ho
   ·rw[ct.2 (show e≠d.Epoch by omega),eo]
   ·rw[aq (show ¬v<d.Version by omega),cT]
  rw[this];rfl
 unfold bW
 rw[hbad,ho1,hop];rfl
def aR1 (log:List D.aAB):bS log []=true:=by
 unfold bS;simp[fD]
def bBs (a:D.aAB):aOw a a=true:=by
 unfold aOw;simp
def aR2 (log r:List D.aAB):bS (log++r) log=true:=by
 unfold bS
 rw[ap (by simp),dc,cq]
 exact Rq λk hk=>by
  rw[bu,en]
  have:(log++r).getD k default=log[k]:=by simp[List.getD,ao hk,ab hk]
  rw[this];exact bBs _
def aR3 (log:List D.aAB):bS log log=true:=by simpa using aR2 log []
def bBt {seed:Int}{n:Nat}(h0:1<=n)(hn:n<=6):BoxIn (aM seed n) (dF seed n) (bH seed 0):=by
 obtain⟨h1,h2,h3,h4,h5⟩:=oM seed n hn
 have hl:aV (aM seed n)=true:=h5.resolve_left (by omega)
 have hlen:(aB (aM seed n)).length<=1000:=by rw[h2,bc,ez];omega
 have hk:bB (bH seed 0)=true:=by unfold bH;exact eO _ _
 obtain⟨m1,m2,m3,m4⟩:=aNl (key:=bH seed 0) (eph:=1000) hl hk (λp hp=>by
  rw[h2] at hp
  obtain⟨i,_,rfl⟩:=bo.1 hp
  exact aRw _ _) hlen ⟨by decide,by decide⟩
 have hnd:(aB (aM seed n)).Nodup:=by rw[h2];exact aRx hn
 refine⟨m2,m3,hnd,hk,λk hk'=> ?_,by rw[h4];exact⟨by decide,by decide⟩⟩
 have hlb:(dF seed n).Boxes.length=(aB (aM seed n)).length:=by
  have:=congrArg List.length m3
  rw[bc] at this;exact this
 have hk2:k<(aB (aM seed n)).length:=by omega
 have hb:=m4 k hk' hk2
 have hto:(dF seed n).Boxes[k].To=(aB (aM seed n))[k]:=by
  show(bK (aM seed n) (bH seed 0) 1000).1.Boxes[k].To=_
  rw[hb];rfl
 refine⟨1000+(k:Int),jP (by omega) (by omega),?_⟩
 rw[hto];exact hb
end Go.VK

set_option maxRecDepth 100000
namespace Go.VK
def nwB:Nat->D.aAC
 |1=>⟨[⟨1464438180,0,1,false⟩,⟨1941999745,0,1,false⟩]⟩
 |2=>⟨[⟨1464438180,0,1,false⟩,⟨1464438180,1,1,false⟩,⟨1941999745,0,1,false⟩,⟨1941999745,1,1,false⟩]⟩
 |3=>⟨[⟨1464438180,0,1,false⟩,⟨1464438180,1,1,false⟩,⟨1464438180,2,1,false⟩,⟨1941999745,0,1,false⟩,⟨1941999745,1,1,false⟩,⟨1941999745,2,1,false⟩]⟩
 |_=>⟨[]⟩
def Dh (seed:Int)(n k:Nat)(v:Int)(b:D.aAC):D.Device:=⟨aN seed (k:Int),aM seed n,bH seed 0,0,v,b⟩
def bBu {seed:Int}{n:Nat}(h0:1<=n)(hn:n<=6)(k:Nat):lF seed n (bQ (aN seed (k:Int)))=Dh seed n k 0 ⟨[]⟩:=by
 obtain⟨h1,h2,h3,h4,h5⟩:=oM seed n hn
 have hl:aV (aM seed n)=true:=h5.resolve_left (by omega)
 have hk:bB (bH seed 0)=true:=by unfold bH;exact eO _ _
 unfold lF kM bQ
 rw[hl,aR1,hk,h4];rfl
def bJp {n:Nat}(h:n=1\/n=2\/n=3)(s:D.aAH)(l:List D.aAB)(k e v:Int):yZ (aC 1) n (yZ (aC 0) n ⟨s,l,k,e,v,⟨[]⟩⟩)=⟨s,l,k,e,v,nwB n⟩:=by
 rcases h with rfl|rfl|rfl<;>kernel_rfl
def bBv {n:Nat}(h:n=1\/n=2\/n=3):aI (nwB n)=true/\fJ ⟨[]⟩ (nwB n)=(nwB n,true)/\fJ (nwB n) (nwB n)=(nwB n,true):=by
 rcases h with rfl|rfl|rfl<;>exact⟨by kernel_rfl,by kernel_rfl,by kernel_rfl⟩
def aYe {seed:Int}{n:Nat}(h:n=1\/n=2\/n=3):fH seed n=Dh seed n 0 0 (nwB n):=by
 unfold fH
 rw[show(0:Int)=((0:Nat):Int) from rfl,bBu (by omega) (by omega)]
 exact bJp h _ _ _ _ _
def bBw {seed:Int}{n:Nat}(h:n=1\/n=2\/n=3):Ey seed n=(Dh seed n 0 1 (nwB n),kZ (bH seed 0) 0 1 (nwB n),true):=by
 have hk:bB (bH seed 0)=true:=by unfold bH;exact eO _ _
 unfold Ey
 rw[aYe h]
 unfold gQ mR Dh
 simp only[]
 rw[show IntKind.i64.wrap (0+1)=1 from by decide,hk,(bBv h).1];rfl
def aHc {seed:Int}{n k:Nat}(h:n=1\/n=2\/n=3)(hk:k<n):mV seed n (bQ (aN seed (k:Int)))=Dh seed n k 1 (nwB n):=by
 obtain⟨h1,h2,h3,h4,h5⟩:=oM seed n (by omega)
 obtain⟨b1,b2,b3⟩:=bBv h
 unfold mV
 rw[bBu (by omega) (by omega),bBw h]
 rw[aT5 (bBt (by omega) (by omega)) (h5.resolve_left (by omega)) (d:=Dh seed n k 0 ⟨[]⟩) (aR3 _) (by
  rw[h2];exact bo.2 ⟨k,gf.2 hk,rfl⟩) ⟨by decide,by decide⟩ b1 h4.symm (.inr ⟨rfl,by show(0:Int)<=1;decide⟩) (by show(fJ ⟨[]⟩ (nwB n)).2=true;rw[b2])]
 show(D.Device.mk (aN seed (k:Int)) (aM seed n) (bH seed 0) 0 1 (fJ ⟨[]⟩ (nwB n)).1)=_
 rw[b2];rfl
def aR4 {seed:Int}{n:Nat}(h:n=1\/n=2\/n=3):dR seed n=(List.range n).map λk=>Dh seed n k 1 (nwB n):=by
 unfold dR aT
 rw[bBw h]
 rcases h with rfl|rfl|rfl
 ·rfl
 ·show[_,mV seed 2 (bQ (aN seed ((1:Nat):Int)))]=_
  rw[aHc (.inr (.inl rfl)) (by decide)];rfl
 ·show[_,mV seed 3 (bQ (aN seed ((1:Nat):Int))),mV seed 3 (bQ (aN seed ((2:Nat):Int)))]=_
  rw[aHc (.inr (.inr rfl)) (by decide),aHc (.inr (.inr rfl)) (by decide)];rfl
def aYf {seed:Int}{n:Nat}(h:n=1\/n=2\/n=3):dZ seed n=⟨aM seed n,dF seed n,[kZ (bH seed 0) 0 1 (nwB n)]⟩:=by
 obtain⟨h1,h2,_⟩:=Ru (seed:=seed) (n:=n) (by omega) (by omega)
 have h4:=(oM seed n (by omega)).ep
 have e:bT (aM seed n) (dF seed n)=(⟨aM seed n,dF seed n,[]⟩,true):=by
  unfold bT;rw[h1,h2];rfl
 unfold dZ
 rw[e,bBw h]
 show(dO ⟨aM seed n,dF seed n,[]⟩ (kZ (bH seed 0) 0 1 (nwB n))).1=_
 unfold dO
 rw[show(kZ (bH seed 0) 0 1 (nwB n)).Epoch=0 from rfl,h4];rfl
end Go.VK

set_option maxRecDepth 100000
namespace Go.VK
structure KeptH (w v:D.World):Prop where
 kept:Kept w v
 hosts:v.Hosts.length<=w.Hosts.length
def KeptH.of {w v:D.World}(h:Kept w v)(e:v.Hosts=w.Hosts):KeptH w v:=⟨h,by rw[e];exact ak _⟩
end Go.VK

set_option maxRecDepth 100000
namespace Go.VK
def bHz {k:Int}(h:0<=k):¬dW (IntKind.i64.wrap (1+k.tmod 1018)) 1019=0:=by
 have h1:0<=k.tmod 1018/\k.tmod 1018<1018:=⟨eR _ h,eL _ (by decide)⟩
 rw[aH (by omega) (by omega),bHv];omega
end Go.VK

set_option maxRecDepth 100000
namespace Go.VK
def gV (seed:Int):D.aAQ:=(pI seed 2 500 3).1
def bLf (seed:Int):Int:=IntKind.i64.wrap (1+(aO seed [293]).tmod 1018)
def gSh (seed x:Int):D.aAN:=⟨x,qO (bLf seed) (oL seed 2) x⟩
def gK (s:D.aAN)(i:Nat):D.aAP:=⟨s,0,(i:Int),5⟩
def bBx (s:D.aAN)(i:Nat):D.aAF:=⟨gK s i,(List.range i).map (gK s),(i:Int)⟩
def gHs (seed:Int)(i:Nat):List D.aAF:=[bBx (gSh seed 1) i,bBx (gSh seed 2) i,bBx (gSh seed 3) 0]
end Go.VK

set_option maxRecDepth 100000
namespace Go.VK
structure GS (seed:Int) (i:Nat) (w:D.World):Prop where
 wi:WIn 1 w
 len:w.Devices.length=1
 sd:w.Seed=seed
 now:w.Now=0
 vault:w.aAQ=gV seed
 hosts:w.Hosts=gHs seed i
 le:i<=5
end Go.VK

set_option maxRecDepth 100000
namespace Go.VK
def aYg {a b:D.Entry}(h:dE a b=true):¬(a.Site=b.Site/\a.Handle=b.Handle):=by rw[sD] at h;omega
def rk (e:D.Entry):Int:=2*e.Version+(bif e.Deleted then 1 else 0)
def Sub (a b:List D.Entry):Prop:=∀e∈a,∃x∈b,x.Site=e.Site/\x.Handle=e.Handle/\rk e<=rk x
def Sub.trans {a b c:List D.Entry}(h:Sub a b)(k:Sub b c):Sub a c:=λe he=>by
 obtain⟨x,hx,x1,x2,x3⟩:=h e he
 obtain⟨y,hy,y1,y2,y3⟩:=k x hx
 exact⟨y,hy,y1.trans x1,y2.trans x2,eC x3 y3⟩
def Sub.nil (b:List D.Entry):Sub [] b:=λe he=>by simp at he
def bBy {α:Type}[BEq α][LawfulBEq α]:∀{l S:List α},l.Nodup->(∀x∈l,x∈S)->l.length<=S.length
 |[],S,_,_=>by simp
 |x::l,S,hn,hs=>by
  obtain⟨h1,h2⟩:=cl.1 hn
  have hx:=hs x (dm ..)
  have:=bBy (l:=l) (S:=S.erase x) h2 λy hy=>by
   have hne:y≠x:=λe=>h1 (e▸hy)
   exact(List.mem_erase_of_ne hne).2 (hs y (dp _ hy))
  rw[List.length_erase_of_mem hx] at this
  have:0<S.length:=List.length_pos_of_mem hx
  simp only[az];omega
structure KeyS (S:List (Int×Int)):Prop where
 len:S.length<=20
 rg:∀p∈S,(0<=p.1/\p.1<=2147483646)/\(0<=p.2/\p.2<=1000000)
structure BunIn (S:List (Int×Int)) (V:Int) (b:List D.Entry):Prop where
 st:srt b
 key:∀e∈b,(e.Site,e.Handle)∈S
 ver:∀e∈b,1<=e.Version/\e.Version<=V
def BunIn.mono {S:List (Int×Int)}{V W:Int}{b:List D.Entry}(h:BunIn S V b)(hv:V<=W):BunIn S W b:=⟨h.st,h.key,λe he=>⟨(h.ver e he).1,eC (h.ver e he).2 hv⟩⟩
def BunIn.nil (S:List (Int×Int))(V:Int):BunIn S V []:=⟨List.Pairwise.nil,λe he=>by simp at he,λe he=>by simp at he⟩
def BunIn.len {S:List (Int×Int)}{V:Int}{b:List D.Entry}(h:BunIn S V b):b.length<=S.length:=by
 have hn:(b.map λe=>(e.Site,e.Handle)).Nodup:=by
  rw[jc,gj]
  exact h.st.imp λ{a b} hk (e:(a.Site,a.Handle)=(b.Site,b.Handle))=>aYg hk ⟨congrArg Prod.fst e,congrArg Prod.snd e⟩
 have:=bBy hn λp hp=>by
  obtain⟨e,he,rfl⟩:=bo.1 hp
  exact h.key e he
 rwa [bc] at this
def BunIn.ok {S:List (Int×Int)}{V:Int}{b:List D.Entry}(hS:KeyS S)(hV:V<=1000000)(h:BunIn S V b):aI ⟨b⟩=true:=by
 have hl:=h.len
 have:=hS.len
 unfold aI
 rw[ap (show((⟨b⟩:D.aAC).Entries.length:Int)<=20 by show(b.length:Int)<=20;omega),dc,cq]
 refine Rq λk hk=> ?_
 have hk:k<b.length:=hk
 show Ht b (0+k) b[k]=false
 have hm:=cR hk
 have r:=hS.rg _ (h.key _ hm)
 have v:=h.ver _ hm
 unfold Ht
 rw[jP r.1.1 r.1.2,jP r.2.1 r.2.2,jP v.1 (by omega)]
 simp only[bl,cE,bu]
 by_cases h0:0<k
 ·have:b.getD (k-1) default=b[k-1]'(by omega):=by rw[List.getD,ab (by omega),cL]
  rw[this,dt.1 h.st (k-1) k (by omega) hk (by omega)];simp
 ·rw[aq (by omega)];rfl
end Go.VK

set_option maxRecDepth 100000
namespace Go.VK
structure ChgIn (S:List (Int×Int)) (V:Int) (d x:D.Device):Prop where
 store:x.Store=d.Store
 log:x.Log=d.Log
 key:x.Key=d.Key
 ep:x.Epoch=d.Epoch
 ver:x.Version=d.Version
 bun:BunIn S V x.aAC.Entries
 sub:Sub d.aAC.Entries x.aAC.Entries
def ChgIn.trans {S:List (Int×Int)}{V W:Int}{a b c:D.Device}(h:ChgIn S V a b)(k:ChgIn S W b c):ChgIn S W a c:=
 ⟨k.store.trans h.store,k.log.trans h.log,k.key.trans h.key,k.ep.trans h.ep,k.ver.trans h.ver,k.bun,h.sub.trans k.sub⟩
end Go.VK

set_option maxRecDepth 100000
namespace Go.VK
structure Dv (S:List (Int×Int)) (T:Int) (log:List D.aAB) (K ep v:Int) (d:D.Device):Prop where
 pre:∃r,log=d.Log++r
 at_:d.Epoch<ep\/(d.Epoch=ep/\d.Version<=v)
 key:d.Epoch=ep->d.Key=K
 bun:BunIn S T d.aAC.Entries
structure Hs (S:List (Int×Int)) (T:Int) (K ep v:Int) (s:D.aAA):Prop where
 low:s.Epoch<=ep
 own:s.Epoch=ep->∃v' b',s=kZ K ep v' b'/\0<=v'/\v'<=v/\BunIn S T b'.Entries
structure Net (S:List (Int×Int)) (t m:Nat) (w:D.World) (K v:Int) (r:List D.aAA) (b:D.aAC):Prop where
 wi:WIn m w
 bx:BoxIn w.aAI.Log w.aAI.Boxes K
 devs:∀p∈aB w.aAI.Log,∃k,k<m/\p=qE w.Seed k
 rem:∀p,gF w.aAI.Log p=true->∃k,k<m/\p=qE w.Seed k
 hist:w.aAI.History=r++[kZ K (aJ w.aAI.Log) v b]
 old:∀s∈r,Hs S (t:Int) K (aJ w.aAI.Log) v s
 bun:BunIn S (t:Int) b.Entries
 ver:0<=v/\v<=(t:Int)
 dev:∀k (h:k<w.Devices.length),Dv S (t:Int) w.aAI.Log K (aJ w.aAI.Log) v w.Devices[k]
def Dv.mono {S:List (Int×Int)}{T U:Int}{log:List D.aAB}{K ep v u:Int}{d:D.Device}(h:Dv S T log K ep v d)(hT:T<=U)(hv:v<=u):Dv S U log K ep u d:=
 ⟨h.pre,h.at_.imp id λq=>⟨q.1,eC q.2 hv⟩,h.key,h.bun.mono hT⟩
def Hs.mono {S:List (Int×Int)}{T U:Int}{K ep v u:Int}{s:D.aAA}(h:Hs S T K ep v s)(hT:T<=U)(hv:v<=u):Hs S U K ep u s:=
 ⟨h.low,λe=>let ⟨v',b',h1,h2,h3,h4⟩:=h.own e;⟨v',b',h1,h2,eC h3 hv,h4.mono hT⟩⟩
section
variable {S:List (Int×Int)} {t m:Nat} {w:D.World} {K v:Int} {r:List D.aAA} {b:D.aAC}
def Net.last (h:Net S t m w K v r b):Hs S (t:Int) K (aJ w.aAI.Log) v (kZ K (aJ w.aAI.Log) v b):=
 ⟨e9 _,λ_=>⟨v,b,rfl,h.ver.1,e9 _,h.bun⟩⟩
def Net.hs (h:Net S t m w K v r b){s:D.aAA}(hs:s∈w.aAI.History):Hs S (t:Int) K (aJ w.aAI.Log) v s:=by
 rw[h.hist] at hs
 rcases bz.1 hs with hs|hs
 ·exact h.old s hs
 ·rw[cN.1 hs];exact h.last
def bJq {d:D.Device}{log:List D.aAB}{bx:D.aAD}{s:D.aAA}(h:(jM d log bx s==0)=true):
  bS log d.Log=true/\bC d.Store∈aB log/\aJ log<=s.Epoch/\(fK (bF d.Store bx).1 s).2=true/\(fJ d.aAC (fK (bF d.Store bx).1 s).1).2=true:=by
 have h:=eq_of_beq h
 unfold jM at h
 cases h1: !aV log|| !bS log d.Log with
 |true=>rw[h1] at h;cases h
 |false=>
 cases h2: !fM (aB log) (bC d.Store) with
 |true=>rw[h1,h2] at h;cases h
 |false=>
 cases h3:bx.Epoch !=aJ log|| !(bF d.Store bx).2 with
 |true=>rw[h1,h2,h3] at h;cases h
 |false=>
 cases h4:decide (s.Epoch<aJ log)||(decide (s.Epoch<d.Epoch)||(s.Epoch==d.Epoch&&decide (s.Version<d.Version))) with
 |true=>rw[h1,h2,h3,h4] at h;cases h
 |false=>
 cases h5: !(fK (bF d.Store bx).1 s).2|| !(fJ d.aAC (fK (bF d.Store bx).1 s).1).2 with
 |true=>rw[h1,h2,h3,h4,h5] at h;cases h
 |false=>
 simp only[bv,en,eI] at h1 h2 h4 h5
 exact⟨h1.2,tF.1 h2,by omega,h5.1,h5.2⟩
def Net.mono (h:Net S t m w K v r b){u:Nat}(hu:t<=u):Net S u m w K v r b where
 wi:=h.wi
 bx:=h.bx
 devs:=h.devs
 rem:=h.rem
 hist:=h.hist
 old:=λs hs=>(h.old s hs).mono (by omega) (e9 _)
 bun:=h.bun.mono (by omega)
 ver:=by have:=h.ver;omega
 dev:=λk hk=>(h.dev k hk).mono (by omega) (e9 _)
def Net.aCB (h:Net S t m w K v r b){d:Int}(hd:jX w d=false)(c:Int):((vX w d c).2==0)=false:=by
 unfold vX
 cases hb:eY w&&iA w d with
 |false=>rfl
 |true=>
  rw[aa] at hb
  unfold bW
  cases h0:jM (jW w d) w.aAI.Log w.aAI.Boxes (lC w.aAI c).1==0 with
  |false=>exact h0
  |true=>
   have:=(bJq h0).2.1
   unfold jX at hd
   rw[hb.2,tF.2 this] at hd;cases hd
end
end Go.VK

set_option maxRecDepth 100000
namespace Go.VK
structure KeyD (S:List (Int×Int)):Prop where
 ks:KeyS S
 dv:∀q:Nat,q<6->(aY (aC 0),(q:Int))∈S/\(aY (aC 1),(q:Int))∈S
section
variable {S:List (Int×Int)} {t m:Nat} {w:D.World} {K v:Int} {r:List D.aAA} {b:D.aAC}
def Net.inl (h:Net S t m w K v r b){c:Int}(hc:((vX w c 0).2==0)=true):jX w c=true:=by
 cases hl:jX w c with
 |true=>rfl
 |false=>rw[h.aCB hl 0] at hc;cases hc
end
end Go.VK

set_option maxRecDepth 100000
namespace Go.VK
section
variable {S:List (Int×Int)} {t m:Nat} {w:D.World} {K v:Int} {r:List D.aAA} {b:D.aAC}
end
def bH1 (M:Int)(k:D.aAP):Prop:=k.Guesses<=k.Limit/\qM k<=M
def bH1.mono {M N:Int}{k:D.aAP}(h:bH1 M k)(hm:M<=N):bH1 N k:=⟨h.1,eC h.2 hm⟩
end Go.VK

set_option maxRecDepth 100000
namespace Go.VK
def bEh (l:List D.aAA):Prop:=l.Pairwise λa b=>oK b a=true
structure CldOk (c:D.aAI):Prop where
 bytes:bBe c
 inc:bEh c.History
section
variable {w:D.World}
end
end Go.VK
