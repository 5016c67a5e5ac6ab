import Derived.Test.YtlnjelnfjgjanaaGreatDoorXqFF
/- What holds in all worlds that events lead to: plain laws over the pure definitions, no program in sight. The conditions stand in each. -/
set_option linter.all false
set_option maxRecDepth 100000
namespace Go.VK
def kG {h:Int}(v:Int)(h0:0<=h/\h<2147483647):∃q,hstep h v=h*1000003+v+13-2147483647*q/\(0<=hstep h v/\hstep h v<2147483647):=by
 obtain⟨h0,h1⟩:=h0
 have hm:=vZ (p:=v) (q:=2147483647) (by decide)
 have hv:gJ v 2147483647=v%2147483647:=cz (by decide)
 have e:hstep h v=(h*1000003+v+13)%2147483647:=by
  unfold hstep
  rw[aJ (n:=h*1000003) (by omega) (by omega),aJ (n:=h*1000003+gJ v 2147483647) (by omega) (by omega),aJ (by omega) (by omega),co (by omega),hv]
  omega
 rw[e]
 refine⟨(h*1000003+v+13)/2147483647,?_,jo _ (by decide),iv _ (by decide)⟩
 have:=Int.emod_add_mul_ediv (h*1000003+v+13) 2147483647
 omega
def bEa (k a b:Int):∃q,bE k [a,b]=k*1000009000027000028+a*1000006000009+b*1000003+11000145000724001630001411-2147483647*q:=by
 simp only[bE,uE,cM,fX,cP,cH,bm,cV,ij]
 obtain⟨q0,e0,r0⟩:=kG k (h:=11) ⟨by decide,by decide⟩
 generalize hstep 11 k=y0 at*
 obtain⟨q1,e1,r1⟩:=kG a (h:=y0) r0
 generalize hstep y0 a=y1 at*
 obtain⟨q2,e2,r2⟩:=kG b (h:=y1) r1
 generalize hstep y1 b=y2 at*
 obtain⟨q3,e3,r3⟩:=kG k (h:=y2) r2
 generalize hstep y2 k=y3 at*
 exact⟨q0*1000009000027000027+q1*1000006000009+q2*1000003+q3*1,by omega⟩
def bEb (k a b c:Int):∃q,bE k [a,b,c]=k*1000012000054000108000082+a*1000009000027000027+b*1000006000009+c*1000003+11000178001159003802006301004246-2147483647*q:=by
 simp only[bE,uE,cM,fX,cP,cH,bm,cV,ij]
 obtain⟨q0,e0,r0⟩:=kG k (h:=11) ⟨by decide,by decide⟩
 generalize hstep 11 k=y0 at*
 obtain⟨q1,e1,r1⟩:=kG a (h:=y0) r0
 generalize hstep y0 a=y1 at*
 obtain⟨q2,e2,r2⟩:=kG b (h:=y1) r1
 generalize hstep y1 b=y2 at*
 obtain⟨q3,e3,r3⟩:=kG c (h:=y2) r2
 generalize hstep y2 c=y3 at*
 obtain⟨q4,e4,r4⟩:=kG k (h:=y3) r3
 generalize hstep y3 k=y4 at*
 exact⟨q0*1000012000054000108000081+q1*1000009000027000027+q2*1000006000009+q3*1000003+q4*1,by omega⟩
def bEc (k a b c d:Int):∃q,bE k [a,b,c,d]=k*1000015000090000270000405000244+a*1000012000054000108000081+b*1000009000027000027+c*1000006000009+d*1000003+11000211001693007279017707023149012751-2147483647*q:=by
 simp only[bE,uE,cM,fX,cP,cH,bm,cV,ij]
 obtain⟨q0,e0,r0⟩:=kG k (h:=11) ⟨by decide,by decide⟩
 generalize hstep 11 k=y0 at*
 obtain⟨q1,e1,r1⟩:=kG a (h:=y0) r0
 generalize hstep y0 a=y1 at*
 obtain⟨q2,e2,r2⟩:=kG b (h:=y1) r1
 generalize hstep y1 b=y2 at*
 obtain⟨q3,e3,r3⟩:=kG c (h:=y2) r2
 generalize hstep y2 c=y3 at*
 obtain⟨q4,e4,r4⟩:=kG d (h:=y3) r3
 generalize hstep y3 d=y4 at*
 obtain⟨q5,e5,r5⟩:=kG k (h:=y4) r4
 generalize hstep y4 k=y5 at*
 exact⟨q0*1000015000090000270000405000243+q1*1000012000054000108000081+q2*1000009000027000027+q3*1000006000009+q4*1000003+q5*1,by omega⟩
def Qm (n:Int):∃e,gX n=n+e/\0<=e/\e<=1:=by
 unfold gX
 by_cases h:n=0
 ·subst h;exact⟨1,rfl,by decide,by decide⟩
 ·rw[cq.2 h];exact⟨0,by simp,by decide,by decide⟩
def bEd (s i:Int):(aP s i).Seed=gX (bE s [151,277,i]):=by
 unfold aP aW;simp only[cH,bm]
def bEe (s:D.aAH):fF s=gX (bE s.Seed [151,181]):=by
 unfold fF aW;simp only[cH,bm]
def aYf (s:D.aAH)(n:ByteArray)(i:Int):bM s n i=gX (bE s.Seed [151,179,aR n,i]):=by
 unfold bM aW;simp only[cH,bm]
def aTk (s i k:Int):∃e q,(aP s i).Seed-(aP s k).Seed=(i-k)*1000003+e+2147483647*q/\-1<=e/\e<=1:=by
 have hi:(aP s i).Seed=gX (bE s [151,277,i]):=bEd s i
 have hk:(aP s k).Seed=gX (bE s [151,277,k]):=bEd s k
 obtain⟨e1,a1,a2,a3⟩:=Qm (bE s [151,277,i])
 obtain⟨e2,b1,b2,b3⟩:=Qm (bE s [151,277,k])
 obtain⟨q1,c1⟩:=bEb s 151 277 i
 obtain⟨q2,c2⟩:=bEb s 151 277 k
 rw[hi,hk,a1,b1,c1,c2]
 exact⟨e1-e2,q2-q1,by omega,by omega,by omega⟩
def dfs:List Int:=[-5,-4,-3,-2,-1,0,1,2,3,4,5]
def bAo:List Int:=[-1,0,1]
def aYg {d:Int}(h1: -5<=d)(h2:d<=5):d∈dfs:=by simp only[dfs,ax,fm,or_false];omega
def I1 {d:Int}(h1: -1<=d)(h2:d<=1):d∈bAo:=by simp only[bAo,ax,fm,or_false];omega
def bG5:(dfs.all λd=>d==0||bAo.all λe=>bAo.all λz=> !((d*1000003+e)*1000009000027000028-z)%2147483647==0)=true:=by kernel_rfl
def bAp {s i k:Int}(hi:0<=i/\i<6)(hk:0<=k/\k<6)(h:i≠k):fF (aP s i)≠fF (aP s k):=by
 intro he
 obtain⟨e,q,d1,d2,d3⟩:=aTk s i k
 have h1:fF (aP s i)=gX (bE (aP s i).Seed [151,181]):=bEe _
 have h2:fF (aP s k)=gX (bE (aP s k).Seed [151,181]):=bEe _
 obtain⟨e1,a1,a2,a3⟩:=Qm (bE (aP s i).Seed [151,181])
 obtain⟨e2,b1,b2,b3⟩:=Qm (bE (aP s k).Seed [151,181])
 obtain⟨q1,c1⟩:=bEa (aP s i).Seed 151 181
 obtain⟨q2,c2⟩:=bEa (aP s k).Seed 151 181
 rw[h1,h2,a1,b1,c1,c2] at he
 have hz:(((i-k)*1000003+e)*1000009000027000028-(e2-e1))%2147483647=0:=by
  clear h1 h2 a1 b1 c1 c2
  generalize(aP s i).Seed=x at*
  generalize(aP s k).Seed=y at*
  omega
 have:=cF.1 bG5 (i-k) (aYg (by omega) (by omega))
 rw[cq.2 (show i-k≠0 by omega),cC] at this
 have:=cF.1 (cF.1 this e (I1 d2 d3)) (e2-e1) (I1 (by omega) (by omega))
 rw[hz] at this;cases this
def hs1:Int:=1464438180
def bKk:aR (aA 0)=1941999745:=by kernel_rfl
def bL6:aR (aA 1)=1464438180:=by kernel_rfl
def bEf:(dfs.all λd=>[0,477561565,-477561565].all λ(g:Int)=>(d==0&&g==0)||bAo.all λe=>bAo.all λz=> !((d*1000003+e)*1000015000090000270000405000244+g*1000006000009+d*1000003-z)%2147483647==0)=true:=by kernel_rfl
def aTl {s i k j l:Int}(hi:0<=i/\i<6)(hk:0<=k/\k<6)(hj:j=0\/j=1)(hl:l=0\/l=1)(h:i≠k\/j≠l):bM (aP s i) (aA j) i≠bM (aP s k) (aA l) k:=by
 intro he
 obtain⟨e,q,d1,d2,d3⟩:=aTk s i k
 have h1:bM (aP s i) (aA j) i=gX (bE (aP s i).Seed [151,179,aR (aA j),i]):=aYf _ _ _
 have h2:bM (aP s k) (aA l) k=gX (bE (aP s k).Seed [151,179,aR (aA l),k]):=aYf _ _ _
 obtain⟨e1,a1,a2,a3⟩:=Qm (bE (aP s i).Seed [151,179,aR (aA j),i])
 obtain⟨e2,b1,b2,b3⟩:=Qm (bE (aP s k).Seed [151,179,aR (aA l),k])
 obtain⟨q1,c1⟩:=bEc (aP s i).Seed 151 179 (aR (aA j)) i
 obtain⟨q2,c2⟩:=bEc (aP s k).Seed 151 179 (aR (aA l)) k
 rw[h1,h2,a1,b1,c1,c2] at he
 obtain⟨g,hg,hg2⟩:∃g,aR (aA j)-aR (aA l)=g/\(g∈[0,477561565,(-477561565:Int)]/\(j≠l->g≠0)):=by
  rcases hj with rfl|rfl<;>rcases hl with rfl|rfl<;>simp only[bKk,bL6]
  ·exact⟨0,by decide,by decide,by decide⟩
  ·exact⟨477561565,by decide,by decide,by decide⟩
  ·exact⟨-477561565,by decide,by decide,by decide⟩
  ·exact⟨0,by decide,by decide,by decide⟩
 have hz:(((i-k)*1000003+e)*1000015000090000270000405000244+g*1000006000009+(i-k)*1000003-(e2-e1))%2147483647=0:=by
  clear h1 h2 a1 b1 c1 c2
  generalize(aP s i).Seed=x at*
  generalize(aP s k).Seed=y at*
  generalize aR (aA j)=x1 at*
  generalize aR (aA l)=y1 at*
  clear hg2 hj hl h
  omega
 have:=cF.1 (cF.1 bEf (i-k) (aYg (by omega) (by omega))) g hg2.1
 rw[show(i-k==0&&g==0)=false by
  rcases h with h|h
  ·rw[cq.2 (show i-k≠0 by omega)];rfl
  ·rw[cq.2 (hg2.2 h),dc],cC] at this
 have:=cF.1 (cF.1 this e (I1 d2 d3)) (e2-e1) (I1 (by omega) (by omega))
 rw[hz] at this;cases this
def bAq {n:Int}(h:0<=n/\n<2147483647):bG (gX n)=true:=by
 unfold gX bG bH
 by_cases h0:n=0
 ·subst h0;rfl
 ·rw[cq.2 h0,ab,ao (show 1<=n by omega),ao (show n<=2147483646 by omega)];rfl
def eO (s:Int)(l:List Int):bG (aW s l)=true:=bAq (kE _ _)
def aH0 {k:Int}(h:bG k=true):1<=k/\k<=2147483646:=iE h
def bIa {k:Int}(h:bG k=true):bU k=k*48271%2147483647:=by
 have:=aH0 h
 unfold bU
 rw[h,ay,ab,aJ (by omega) (by omega),co (by omega)]
def aYh {k:Int}(h:bG k=true):bG (bU k)=true:=by
 have:=aH0 h
 rw[bIa h]
 have:k*48271%2147483647≠0:=by omega
 unfold bG bH
 rw[ao (show 1<=k*48271%2147483647 by omega),ao (show k*48271%2147483647<=2147483646 by omega)];rfl
def Bq {k:Int}(h:bG k=true):eG (bU k)=k:=by
 have:=aH0 h
 unfold eG
 rw[aYh h,ay,ab,bIa h]
 omega
def aYi {a b:Int}(ha:bG a=true)(hb:bG b=true)(h:bU a=bU b):a=b:=by
 rw[<-Bq ha,h,Bq hb]
def aV8 {s i k j l:Int}(hi:0<=i/\i<6)(hk:0<=k/\k<6)(hj:j=0\/j=1)(hl:l=0\/l=1)(h:i≠k\/j≠l):iK (aP s i) (aA j) i≠iK (aP s k) (aA l) k:=
 λhe=>aTl hi hk hj hl h (aYi (eO _ _) (eO _ _) he)
def bAr {s i k:Int}(hi:0<=i/\i<6)(hk:0<=k/\k<6)(h:i≠k):bJ (aP s i)≠bJ (aP s k):=
 λhe=>bAp hi hk h (aYi (eO _ _) (eO _ _) he)
end Go.VK

set_option maxRecDepth 100000
namespace Go.VK
def Wh {α:Type}{p:Nat->α->Bool}:∀{l:List α} {i:Nat},(∀k (h:k<l.length),p (i+k) l[k]=false)->gW p i l=false
 |[],i,_=>rfl
 |x::l,i,h=>by
  have h0:=h 0 (by simp)
  have ih:=Wh (p:=p) (l:=l) (i:=i+1) (λk hk=>by
   have:=h (k+1) (by simpa using hk)
   rw[show i+1+k=i+(k+1) by omega];simpa using this)
  simp only[gW,en,List.getElem_cons_zero] at h0 ⊢
  rw[h0,ih];rfl
def aH1 {α:Type}{p:Nat->α->Bool}:∀{l:List α} {i:Nat},gW p i l=false->∀k (h:k<l.length),p (i+k) l[k]=false
 |x::l,i,h,0,_=>by simp only[gW,cl] at h;simpa using h.1
 |x::l,i,h,k+1,hk=>by
  simp only[gW,cl] at h
  have:=aH1 h.2 k (by simpa using hk)
  rw[show i+(k+1)=i+1+k by omega];simpa using this
def Wi (seed j:Int)(k:Nat):Int:=iK (aP seed (k:Int)) (aA j) (k:Int)
def bAs (seed j:Int)(l:List D.aAL):Prop:=∀k (h:k<l.length),l[k].Handle=(k:Int)/\l[k].Public=Wi seed j k/\0<=l[k].Counter/\l[k].Counter<=1000000
def gU {x a b:Int}(h1:a<=x)(h2:x<=b):bH x a b=true:=by unfold bH;rw[ao h1,ao h2];rfl
def bG6 {seed j l:Int}{i k:Nat}(hi:i<6)(hk:k<6)(hj:j=0\/j=1)(hl:l=0\/l=1)(h:i≠k\/j≠l):Wi seed j i≠Wi seed l k:=
 aV8 (by omega) (by omega) hj hl (by omega)
def bAt (seed j:Int)(k:Nat):eG (Wi seed j k)=bM (aP seed (k:Int)) (aA j) (k:Int):=by
 unfold Wi iK
 exact Bq (by unfold bM;exact eO _ _)
def aQp {seed j m:Int}{l:List D.aAL}(hj:j=0\/j=1)(h:bAs seed j l)(hl:l.length<=6)(hm:1<=m/\m<=3):aV ⟨1,m,l⟩=true:=by
 have ha:gW (rW ⟨1,m,l⟩) 0 l=false:=Wh λk hk=>by
  obtain⟨h1,h2,h3,h4⟩:=h k hk
  have hp:=aH0 (eO (aP seed (k:Int)).Seed [179,aR (aA j),(k:Int)])
  unfold rW
  rw[ce,h1,gU (by omega) (by omega),h2,bAt,cq.2 (show bM (aP seed (k:Int)) (aA j) (k:Int)≠0 by unfold bM;omega),gU h3 h4]
  have e1:(decide (0<k)&&decide ((l.getD (k-1) default).Handle>=(k:Int)))=false:=by
   by_cases hk0:0<k
   ·have hk1:k-1<l.length:=by omega
    have:=(h (k-1) hk1).1
    rw[List.getD,ae hk1,cu,this,ap (show ¬((k-1:Nat):Int)>=(k:Int) by omega),dc]
   ·rw[ap hk0,eu]
  have e2:((l.take k).any λq=>q.Public==Wi seed j k)=false:=by
   rw[List.any_eq_false]
   intro q hq
   obtain⟨i,hi,rfl⟩:=et.1 hq
   rw[ca] at hi
   rw[gq,(h i (by omega)).2.1]
   simp only[cN]
   exact bG6 (by omega) (by omega) hj hj (.inl (by omega))
  show(!true||((decide (0<k)&&decide ((l.getD (k-1) default).Handle>=(k:Int)))||(false|| !true))||(l.take k).any λq=>q.Public==Wi seed j k)=false
  rw[e1,e2];rfl
 unfold aV
 show(bH 1 0 1000000&&bH m 1 3&&decide (l.length<=8)&& !gW (rW ⟨1,m,l⟩) 0 l)=true
 rw[ha,gU hm.1 hm.2,ao (show l.length<=8 by omega)];rfl
structure SiteIn (seed j:Int) (n:Nat) (s:D.Site):Prop where
 name:s.Name=aA j
 book:dN s.Book=true
 key:bG s.Book.Seed=true
 acc:∃l,s.Accounts=[⟨1,3,l⟩]/\bAs seed j l/\l.length=n
def Qn {j:Int}(hj:j=0\/j=1):(fJ (aA j)&&decide (2<=(bF (aA j)).length))=true:=by
 rcases hj with rfl|rfl<;>kernel_rfl
def SiteIn.ok {seed j:Int}{n:Nat}{s:D.Site}(hj:j=0\/j=1)(hn:n<=6)(h:SiteIn seed j n s):bR s=true:=by
 obtain⟨h1,h2,h3,l,h4,h5,h6⟩:=h
 unfold bR iO
 rw[h1,Qn hj,h3,h2,h4]
 show(true&&true&&decide (1<=8)&&true&& !(Fs [⟨1,3,l⟩] 0 ⟨1,3,l⟩||false))=true
 unfold Fs
 rw[aQp hj h5 (by omega) ⟨by decide,by decide⟩];rfl
def SiteIn.find {seed j:Int}{n:Nat}{s:D.Site}(h:SiteIn seed j n s):aC s 1=0:=by
 obtain⟨_,_,_,l,h4,_⟩:=h
 unfold aC;rw[h4];rfl
def aO2 {α:Type}{p:α->Bool}:∀{l:List α},(∀c∈l,p c=true)->l.takeWhile p=l
 |[],_=>rfl
 |x::l,h=>by rw[dm,h x (by simp),cz rfl,aO2 (λc hc=>h c (by simp[hc]))]
def bEg {l:List D.aAL}{p:Int}(h:∀k (h:k<l.length),l[k].Handle=(k:Int)):aAr l (l.length:Int) p=l++[⟨(l.length:Int),p,0,false⟩]:=by
 have:Lr (l.length:Int) l=l.length:=by
  unfold Lr
  rw[aO2]
  intro c hc
  obtain⟨i,hi,rfl⟩:=et.1 hc
  rw[h i hi];exact ao (by omega)
 unfold aAr
 rw[this,fk,dl,cP]
def bAs.snoc {seed j:Int}{l:List D.aAL}(h:bAs seed j l):bAs seed j (l++[⟨(l.length:Int),Wi seed j l.length,0,false⟩]):=by
 intro k hk
 by_cases hk1:k<l.length
 ·rw[ka hk1];exact h k hk1
 ·have:k=l.length:=by simp at hk;omega
  subst this
  simp
def SiteIn.reg {seed j:Int}{n:Nat}{s:D.Site}(hj:j=0\/j=1)(hn:n<6)(h:SiteIn seed j n s):
  (gQ s 1 (n:Int) (Wi seed j n)).2=true/\SiteIn seed j (n+1) (gQ s 1 (n:Int) (Wi seed j n)).1:=by
 have hok:=h.ok hj (by omega)
 have hf:=h.find
 obtain⟨h1,h2,h3,l,h4,h5,h6⟩:=h
 subst h6
 have ha:(s.Accounts.getD (aC s 1).toNat default)=⟨1,3,l⟩:=by rw[hf,h4];rfl
 have hi:=bEg (p:=Wi seed j l.length) (λk hk=>(h5 k hk).1)
 have hs:=h5.snoc
 have e1:=aQp (m:=3) hj h5 (by omega) ⟨by decide,by decide⟩
 have e2:=aQp (m:=3) hj hs (by simp;omega) ⟨by decide,by decide⟩
 have hadd:eD ⟨1,3,l⟩ (l.length:Int) (Wi seed j l.length)=(⟨1,3,l++[⟨(l.length:Int),Wi seed j l.length,0,false⟩]⟩,true):=by
  unfold eD
  rw[e1]
  show(bif !true|| !aV ⟨1,3,aAr l (l.length:Int) (Wi seed j l.length)⟩ then _ else _)=_
  rw[hi,e2];rfl
 unfold gQ
 rw[hok,hf,show decide ((0:Int)<0)=false from rfl,<-hf,ha,hadd,hf,h4]
 exact⟨rfl,h1,h2,h3,_,rfl,hs,by simp⟩
def aV9 {seed j:Int}(hj:j=0\/j=1):SiteIn seed j 0 (kM (dZ (aA j) (aW seed [281,j])) 1 3).1:=by
 have hk:=eO seed [281,j]
 generalize aW seed [281,j]=q at*
 have hn:dZ (aA j) q=⟨aA j,[],⟨q,0,[]⟩,[]⟩:=by
  unfold dZ iO
  rw[Qn hj,hk];rfl
 have hb:dN ⟨q,0,[]⟩=true:=rfl
 have hin:SiteIn seed j 0 (mD ⟨aA j,[],⟨q,0,[]⟩,[]⟩ 1 3):=
  ⟨rfl,hb,hk,[],rfl,λk hk=>by simp at hk,rfl⟩
 have h0:bR ⟨aA j,[],⟨q,0,[]⟩,[]⟩=true:=by
  unfold bR iO
  rw[Qn hj,hk];rfl
 unfold kM
 rw[hn,h0,hin.ok hj (by omega)]
 exact hin
def aH2 {seed j:Int}(hj:j=0\/j=1):∀(m i:Nat) (s:D.Site),SiteIn seed j i s->i+m<=6->
  SiteIn seed j (i+m) (mM (aA j) i ((List.range' i m).map λ(k:Nat)=>dH (aP seed (k:Int))) s)
 |0,i,s,h,_=>h
 |m+1,i,s,h,hm=>by
  have:=aH2 hj m (i+1) _ (h.reg hj (by omega)).2 (by omega)
  rw[show i+1+m=i+(m+1) by omega] at this
  exact this
def aDs {seed j:Int}(hj:j=0\/j=1){n:Nat}(hn:n<=6):SiteIn seed j n (sQ seed (bS seed n) j):=by
 have:=aH2 hj n 0 _ (aV9 (seed:=seed) hj) (by omega)
 rw[ce,<-List.range_eq_range'] at this
 exact this
end Go.VK

set_option maxRecDepth 100000
namespace Go.VK
def aTm {α:Type}{r:α->α->Prop}(ht:∀a b c,r a b->r b c->r a c):∀{l:List α},(∀k (h:k+1<l.length),r l[k] l[k+1])->l.Pairwise r
 |[],_=> .nil
 |[x],_=>gy r x
 |x::y::l,h=>by
  have ih:=aTm (r:=r) ht (l:=y::l) (λk hk=>by have:=h (k+1) (by simpa using hk);simpa using this)
  refine cj.2 ⟨λz hz=> ?_,ih⟩
  have h0:r x y:=by simpa using h 0 (by simp)
  rcases ax.1 hz with rfl|hz
  ·exact h0
  ·exact ht _ _ _ h0 ((cj.1 ih).1 z hz)
structure BookIn (b:D.aAB):Prop where
 next:0<=b.Next/\b.Next<=1000000
 len:b.Open.length<=16
 ord:b.Open.Pairwise (λa c=>a.Id<c.Id)
 all:∀c∈b.Open,(0<=c.Id/\c.Id<b.Next)/\(0<=c.Account/\c.Account<=1000005)/\(0<=c.Until/\c.Until<=1000005)
def BookIn.ok {b:D.aAB}(h:BookIn b):dN b=true:=by
 obtain⟨h1,h2,h3,h4⟩:=h
 have ha:gW (fI b) 0 b.Open=false:=Wh λk hk=>by
  obtain⟨a1,a2,a3⟩:=h4 b.Open[k] (cx hk)
  unfold fI
  rw[ce,aJ (by omega) (by omega),gU (by omega) (by omega),gU a2.1 a2.2,gU a3.1 a3.2]
  have e1:(decide (0<k)&&decide ((b.Open.getD (k-1) default).Id>=b.Open[k].Id))=false:=by
   by_cases hk0:0<k
   ·have hk1:k-1<b.Open.length:=by omega
    have:=ee.1 h3 (k-1) k hk1 hk (by omega)
    rw[List.getD,ae hk1,cu,ap (show ¬b.Open[k-1].Id>=b.Open[k].Id by omega),dc]
   ·rw[ap hk0,eu]
  rw[e1];rfl
 unfold dN
 rw[ha,gU h1.1 h1.2,ao h2];rfl
def aQq {b:D.aAB}(h:dN b=true):BookIn b:=by
 unfold dN at h
 simp only[aa,cb,cE] at h
 obtain⟨⟨h1,h2⟩,h3⟩:=h
 have h1:=iE h1
 have hg:∀k (hk:k<b.Open.length),((0<=b.Open[k].Id/\b.Open[k].Id<b.Next)/\(0<=b.Open[k].Account/\b.Open[k].Account<=1000005)/\(0<=b.Open[k].Until/\b.Open[k].Until<=1000005))/\(0<k->(b.Open.getD (k-1) default).Id<b.Open[k].Id):=λk hk=>by
  have:=aH1 h3 k hk
  unfold fI at this
  rw[ce,aJ (by omega) (by omega)] at this
  simp only[cl,dw,Bool.and_eq_false_iff,dh] at this
  obtain⟨a1,a2,a3,a4⟩:=this
  have a1:=iE a1
  have a3:=iE a3
  have a4:=iE a4
  exact⟨⟨⟨a1.1,by omega⟩,⟨a3.1,a3.2⟩,a4.1,a4.2⟩,λh0=>by rcases a2 with a2|a2<;>omega⟩
 refine⟨⟨h1.1,h1.2⟩,h2,aTm (r:=λa c:D.aAI=>a.Id<c.Id) (λa b c h1 h2=>Int.lt_trans h1 h2) (λk hk=> ?_),λc hc=> ?_⟩
 ·have:=(hg (k+1) hk).2 (by omega)
  rw[Nat.add_sub_cancel,List.getD,ae (show k<b.Open.length by omega),cu] at this
  exact this
 ·obtain⟨i,hi,rfl⟩:=et.1 hc
  exact(hg i hi).1
def aTn {b:D.aAB}(h:BookIn b)(a n:Int):BookIn (dL b a n).1/\(dL b a n).1.Seed=b.Seed/\b.Next<=(dL b a n).1.Next/\(dL b a n).1.Next<=b.Next+1:=by
 unfold dL
 rw[h.ok]
 by_cases hn:b.Next=1000000
 ·have e:∀{x y:D.aAB×D.aAI×Bool},(bif true&&(!(b.Next==1000000)&&(bH a 0 1000000&&bH n 0 1000000)) then x else y)=y:=by
   intro x y;rw[hn];rfl
  rw[e];exact⟨h,rfl,dg _,by show b.Next<=_;omega⟩
 ·rw[cq.2 hn]
  cases hr:bH a 0 1000000&&bH n 0 1000000 with
  |false=>exact⟨h,rfl,dg _,by show b.Next<=_;omega⟩
  |true=>
   rw[aa] at hr
   have r1:=iE hr.1
   have r2:=iE hr.2
   obtain⟨h1,h2,h3,h4⟩:=h
   have hw:IntKind.i64.wrap (b.Next+1)=b.Next+1:=aJ (by omega) (by omega)
   have hw2:IntKind.i64.wrap (n+5)=n+5:=aJ (by omega) (by omega)
   have key:∀l:List D.aAI,l.length<=15->l.Pairwise (λa c=>a.Id<c.Id)->(∀c∈l,c∈b.Open)->BookIn ⟨b.Seed,IntKind.i64.wrap (b.Next+1),l++[H6 b a n]⟩:=λl hl ho hm=>by
    rw[hw]
    refine⟨⟨show 0<=b.Next+1 by omega,show b.Next+1<=1000000 by omega⟩,by simp;omega,?_,λc hc=> ?_⟩
    ·show(l++[H6 b a n]).Pairwise _
     refine List.pairwise_append.2 ⟨ho,gy _ _,λx hx y hy=> ?_⟩
     rw[cg.1 hy]
     exact(h4 x (hm x hx)).1.2
    ·rcases bq.1 hc with hc|hc
     ·obtain⟨q1,q2,q3⟩:=h4 c (hm c hc)
      exact⟨⟨q1.1,show c.Id<b.Next+1 by omega⟩,q2,q3⟩
     ·rw[cg.1 hc]
      refine⟨⟨h1.1,show b.Next<b.Next+1 by omega⟩,⟨show 0<=a by omega,show a<=1000005 by omega⟩,?_⟩
      show 0<=IntKind.i64.wrap (n+5)/\IntKind.i64.wrap (n+5)<=1000005
      rw[hw2];omega
   simp only[dr,cA,ac]
   cases hd:decide ((b.Open.length:Int)>=16) with
   |true=>
    refine⟨key _ (by simp only[ac,ci];omega) ?_ (λc hc=>cU hc),by first|rfl|trivial,by first|(rw[hw];omega)|(simp only[hw];omega),by first|(rw[hw];omega)|(simp only[hw];omega)⟩
    exact h3.sublist (List.drop_sublist _ _)
   |false=>
    have:=of_decide_eq_false hd
    exact⟨key _ (by simp only[ab];omega) h3 (λc hc=>hc),by first|rfl|trivial,by first|(rw[hw];omega)|(simp only[hw];omega),by first|(rw[hw];omega)|(simp only[hw];omega)⟩
def SiteIn.aCJ {seed j:Int}{n:Nat}{s:D.Site}(h:SiteIn seed j n s){b:D.aAB}(hb:BookIn b)(hs:b.Seed=s.Book.Seed):SiteIn seed j n {s with Book:=b}:=
 ⟨h.name,hb.ok,by show bG b.Seed=true;rw[hs];exact h.key,h.acc⟩
def SiteIn.begin {seed j:Int}{n:Nat}{s:D.Site}(h:SiteIn seed j n s)(i t:Int):SiteIn seed j n (lX s i t).1:=by
 unfold lX
 cases bR s&&(!decide (aC s i<0)&&(dL s.Book i t).2.2) with
 |false=>exact h
 |true=>
  have:=aTn (aQq h.book) i t
  exact h.aCJ this.1 this.2.1
end Go.VK

set_option maxRecDepth 100000
namespace Go.VK
def Lx {α:Type}{p:α->Bool}:∀{l:List α} {i:Nat},decide (iF p i l<0)=false->∃k,∃h:k<l.length,iF p i l=((i+k:Nat):Int)/\p l[k]=true
 |[],i,h=>by simp[iF] at h
 |x::l,i,h=>by
  unfold iF at h ⊢
  cases hp:p x with
  |true=>exact⟨0,by simp,by simp,by simpa using hp⟩
  |false=>
   rw[hp,ab] at h
   obtain⟨k,hk,e1,e2⟩:=Lx h
   exact⟨k+1,by simpa using hk,by rw[ab,e1];congr 1;omega,by simpa using e2⟩
end Go.VK

set_option maxRecDepth 100000
namespace Go.VK
structure StIn (seed:Int) (k:Nat) (s:D.aAH):Prop where
 ven:s.Vendor=1
 ser:s.Serial=(k:Int)
 key:s.Seed=(aP seed (k:Int)).Seed
 cnt:0<=s.Counter/\s.Counter<=1000000
structure WIn (m:Nat) (w:D.World):Prop where
 seed:bG w.Seed=true
 now:0<=w.Now/\w.Now<=999900
 dlen:1<=w.Devices.length/\w.Devices.length<=6
 slen:w.Stolen.length=w.Devices.length
 dev:∀k (h:k<w.Devices.length),StIn w.Seed k w.Devices[k].Store
 two:w.Sites.length=2
 mle:m<=6
 site:∀j (h:j<w.Sites.length),SiteIn w.Seed (j:Int) m w.Sites[j]
 mail:gF w.Mail=true
 log:bL w.aAE.Log=true
def WIn.ok {m:Nat}{w:D.World}(h:WIn m w):aU w=true:=by
 have hs:gW kJ 0 w.Sites=false:=Wh λk hk=>by
  have h2:=h.two
  have:=h.site k hk
  unfold kJ
  rw[this.ok (by omega) h.mle,this.name,ce];simp
 unfold aU
 have h2:=h.two
 have h3:=h.slen
 have h4:=h.dlen
 rw[hs,h.log,h.mail,h.seed,gU h.now.1 h.now.2,gU (by omega) (by omega),h3,h2];simp
def WIn.upd {m:Nat}{w v:D.World}(h:WIn m w)(h1:v.Seed=w.Seed)(h2:v.Now=w.Now)(h3:v.Devices.length=w.Devices.length)(h4:v.Stolen.length=w.Stolen.length)
  (h5:∀k (h:k<v.Devices.length),StIn w.Seed k v.Devices[k].Store) (h6:v.Sites.length=2) (h7:∀j (h:j<v.Sites.length),SiteIn w.Seed (j:Int) m v.Sites[j]) (h8:gF v.Mail=true) (h9:bL v.aAE.Log=true):WIn m v where
 seed:=by rw[h1];exact h.seed
 now:=by rw[h2];exact h.now
 dlen:=by rw[h3];exact h.dlen
 slen:=by rw[h3,h4];exact h.slen
 dev:=by rw[h1];exact h5
 two:=h6
 mle:=h.mle
 site:=by rw[h1];exact h7
 mail:=h8
 log:=h9
def WIn.aCF {m:Nat}{w:D.World}(h:WIn m w){i:Nat}{x:D.Device}(hi:i<w.Devices.length)(hx:StIn w.Seed i x.Store):∀k (h:k<(w.Devices.set i x).length),StIn w.Seed k (w.Devices.set i x)[k].Store:=λk hk=>by
 rw[jh]
 rw[bh] at hk
 split
 ·rename_i e;subst e;exact hx
 ·exact h.dev k hk
def rH {w:D.World}{d:Int}(h:aL w d=true):0<=d/\d.toNat<w.Devices.length/\aK w d=w.Devices.getD d.toNat default:=by
 simp only[aL,aa,cb] at h
 exact⟨h.1,by omega,rfl⟩
def kH {w:D.World}{d:Int}(h:aL w d=true):∃h:d.toNat<w.Devices.length,aK w d=w.Devices[d.toNat]:=by
 obtain⟨h1,h2,h3⟩:=rH h
 exact⟨h2,by rw[h3];simp[List.getD,ae h2]⟩
def WIn.aCK {m:Nat}{w:D.World}(h:WIn m w){d:Int}(hd:aL w d=true):StIn w.Seed d.toNat (aK w d).Store:=by
 obtain⟨h1,h2⟩:=kH hd
 rw[h2];exact h.dev _ h1
def WIn.sync {m:Nat}{w:D.World}(h:WIn m w)(d b:Int):WIn m (bY w d b).1:=by
 unfold bY
 cases hb:aU w&&aL w d with
 |false=>exact h
 |true=>
  rw[aa] at hb
  obtain⟨hd0,hd1,_⟩:=rH hb.2
  refine h.upd rfl rfl (bh ..) rfl (h.aCF hd1 ?_) h.two h.site h.mail h.log
  have hst:=h.aCK hb.2
  unfold bQ
  cases gZ (aK w d) w.aAE.Log w.aAE.Boxes (dW w.aAE b).1==0<;>exact hst
def WIn.aCW {m:Nat}{w:D.World}(h:WIn m w)(d:Int)(n:ByteArray)(a:Int)(r:Bool):WIn m (eX w d n a r).1:=by
 unfold eX
 cases hb:aU w&&aL w d with
 |false=>exact h
 |true=>
  rw[aa] at hb
  obtain⟨hd0,hd1,_⟩:=rH hb.2
  have hst:=h.aCK hb.2
  simp only[ac]
  cases(dC (aK w d) n a r).2 with
  |false=>exact h
  |true=>
   refine h.upd rfl rfl (bh ..) rfl (h.aCF hd1 ?_) h.two h.site h.mail h.log
   unfold dC
   cases(gY (aK w d) n a r).2<;>exact hst
def Ma (d:D.Device):(dK d).1.Store=d.Store:=by
 unfold dK
 cases(nC d.Key d.Epoch (IntKind.i64.wrap (d.Version+1)) d.aAC).2<;>rfl
def WIn.up {m:Nat}{w:D.World}(h:WIn m w){d:Int}(hd:aL w d=true):WIn m (upF w d).1:=by
 unfold upF
 cases(dK (aK w d)).2.2&&(dD w.aAE (dK (aK w d)).2.1).2 with
 |false=>exact h
 |true=>
  obtain⟨hd0,hd1,_⟩:=rH hd
  refine h.upd rfl rfl (bh ..) rfl (h.aCF hd1 (by rw[Ma];exact h.aCK hd)) h.two h.site h.mail ?_
  show bL (dD w.aAE (dK (aK w d)).2.1).1.Log=true
  rw[(rE _ _).2];exact h.log
def WIn.push {m:Nat}{w:D.World}(h:WIn m w)(d:Int):WIn m (kK w d).1:=by
 unfold kK
 cases hb:(bY w d 0).2==0&&(upF (bY w d 0).1 d).2 with
 |false=>exact h
 |true=>
  rw[aa] at hb
  have h0:=Qj hb.1
  exact(h.sync d 0).up (by
   have:=h0.1.2
   simp only[aL,aa,cb] at this ⊢
   rw[h0.2.2.1];exact this)
end Go.VK

set_option maxRecDepth 100000
namespace Go.VK
def bAu (w:D.World)(d b:Int):(bY w d b).1.Seed=w.Seed/\(bY w d b).1.Now=w.Now/\(bY w d b).1.Devices.length=w.Devices.length/\(bY w d b).1.Sites=w.Sites/\(bY w d b).1.Stolen=w.Stolen/\(bY w d b).1.aAE=w.aAE:=by
 unfold bY
 cases aU w&&aL w d with
 |false=>exact⟨rfl,rfl,rfl,rfl,rfl,rfl⟩
 |true=>exact⟨rfl,rfl,bh ..,rfl,rfl,rfl⟩
def I4 (d:D.Device)(n:ByteArray)(h:Int)(r:Bool):(dC d n h r).1.Store=d.Store:=by
 unfold dC;cases(gY d n h r).2<;>rfl
def aAu {w v:D.World}{d:Int}(h:aL w d=true)(e:v.Devices.length=w.Devices.length):aL v d=true:=by
 simp only[aL,aa,cb] at h ⊢
 rw[e];exact h
end Go.VK

set_option maxRecDepth 100000
namespace Go.VK
def aTo {k:Int}(h:bG k=true)(l:List Int):eF (bU k) l (nW k l)=true:=by
 have:=aH0 h
 unfold eF
 rw[Bq h,bne,cq.2 (show k≠0 by omega)];simp
def bEh {l:List D.aAD}{e:D.aAD}(h:l=[]\/bL l=true)(hs:kY l e=true)(hl:l.length<40):bL (l++[e])=true:=by
 have ha:gW (λi x=> !kY ((l++[e]).take i) x) 0 (l++[e])=false:=Wh λk hk=>by
  rw[ce]
  by_cases hk1:k<l.length
  ·rw[ka hk1,List.take_append_of_le_length (by omega)]
   rcases h with h|h
   ·subst h;simp at hk1
   ·unfold bL at h
    rw[aa,cE] at h
    have:=aH1 h.2 k hk1
    rw[ce] at this;exact this
  ·have e1:k=l.length:=by simp at hk;omega
   subst e1
   simp[hs]
 unfold bL
 rw[aa,cE]
 exact⟨gU (by simp;omega) (by simp;omega),ha⟩
def bEi (l:List D.aAD)(e:D.aAD):aD (l++[e])=iN (aD l) e:=by
 unfold aD;rw[gr];rfl
def aWa (l:List D.aAD)(e:D.aAD):aF (l++[e])=bif e.Kind==2 then IntKind.i64.wrap (aF l+1) else aF l:=by
 unfold aF;rw[gr];rfl
def aQr (l:List D.aAD)(e:D.aAD)(p:Int):fG (l++[e]) p=(fG l p||(e.Kind==2&&e.Device==p)):=by
 unfold fG;rw[List.any_append];simp
def oO (seed:Int)(k:Nat):Int:=bJ (aP seed (k:Int))
def aYj {seed:Int}{i k:Nat}(hi:i<6)(hk:k<6)(h:i≠k):oO seed i≠oO seed k:=bAr (by omega) (by omega) (by omega)
def Wj (s:D.aAH):bG (fF s)=true:=by unfold fF;exact eO _ _
def sU {l:List Int}{x:Int}:gH l x=true↔x∈l:=by
 unfold gH;rw[fY]
 constructor
 ·rintro⟨y,hy,e⟩;rw[<-eq_of_beq e];exact hy
 ·exact λh=>⟨x,h,eh x⟩
structure NewLog (seed:Int) (n:Nat) (l:List D.aAD):Prop where
 len:l.length=n
 devs:aD l=(List.range n).map (oO seed)
 rem:∀p,fG l p=false
 ep:aF l=0
 ok:n=0\/bL l=true
def kQ (seed:Int):∀n,n<=6->NewLog seed n (aO seed n)
 |0,_=>⟨rfl,rfl,λ_=>rfl,rfl, .inl rfl⟩
 |n+1,hn=>by
  obtain⟨h1,h2,h3,h4,h5⟩:=kQ seed n (by omega)
  have hnot:gH (aD (aO seed n)) (oO seed n)=false:=by
   rw[ey,Ne,sU,h2]
   intro hm
   obtain⟨i,hi,e⟩:=bu.1 hm
   have hi:=fe.1 hi
   exact aYj (by omega) (by omega) (by omega) e
  have hst:kY (aO seed n) (bAf (aO seed n) 1 (oO seed n) (aP seed 0))=true:=by
   unfold kY
   have v:eF (bJ (aP seed 0)) [bZ (aVu (aO seed n) 1 (oO seed n) (aP seed 0))] (pE (aP seed 0) [bZ (aVu (aO seed n) 1 (oO seed n) (aP seed 0))])=true:=by
    unfold pE bJ;exact aTo (Wj _) _
   show(((aO seed n).length:Int)==((aO seed n).length:Int)&&(fU (aO seed n)==fU (aO seed n)&&((gH (aD (aO seed n)) (bJ (aP seed 0))||(((aO seed n).length:Int)==0&&bJ (aP seed 0)==oO seed n))&&(eF (bJ (aP seed 0)) [bZ (aVu (aO seed n) 1 (oO seed n) (aP seed 0))] (pE (aP seed 0) [bZ (aVu (aO seed n) 1 (oO seed n) (aP seed 0))])&&
    (!fG (aO seed n) (oO seed n)&&(true&&(!gH (aD (aO seed n)) (oO seed n)&&decide (((aD (aO seed n)).length:Int)<6))))))))=true
   rw[v,h3,hnot,h2,h1]
   have hby:(gH ((List.range n).map (oO seed)) (bJ (aP seed 0))||((n:Int)==0&&bJ (aP seed 0)==oO seed n))=true:=by
    cases n with
    |zero=>simp[oO]
    |succ n=>
     rw[show gH ((List.range (n+1)).map (oO seed)) (bJ (aP seed 0))=true from sU.2 (bu.2 ⟨0,by simp,rfl⟩)];rfl
   rw[hby]
   simp;omega
  have hl:=bEh (l:=aO seed n) (by
   rcases h5 with h5|h5
   ·subst h5;exact .inl rfl
   ·exact .inr h5) hst (by omega)
  have e:aO seed (n+1)=aO seed n++[bAf (aO seed n) 1 (oO seed n) (aP seed 0)]:=by
   show(nE (aO seed n) 1 (bJ (aP seed (n:Int))) (aP seed 0)).1=_
   unfold nE
   have hq:(decide (((aO seed n).length:Int)>0)&& !bL (aO seed n))=false:=by
    rcases h5 with h5|h5
    ·subst h5;rfl
    ·rw[h5];simp
   rw[hq,show bJ (aP seed (n:Int))=oO seed n from rfl,hl];rfl
  rw[e]
  refine⟨by simp[h1],?_,λp=> ?_,?_, .inr hl⟩
  ·rw[bEi,gh,da,<-h2]
   unfold iN
   have hc:(aD (aO seed n)).contains (oO seed n)=false:=by
    rw[ey] at hnot ⊢
    intro hc;exact hnot (sU.2 (by simpa using hc))
   show(bif (1:Int)==1 then(bif (aD (aO seed n)).contains (oO seed n) then _ else _) else _)=_
   rw[hc];rfl
  ·rw[aQr,h3];rfl
  ·rw[aWa,h4];rfl
end Go.VK

set_option maxRecDepth 100000
namespace Go.VK
def aO3 {e:Int}{d:List Int}(hd:d.length<=200):∀(l:List Int) (i:Nat),(∀p∈l,bG p=true)->1<=e+(i:Int)->e+(i:Int)+(l.length:Int)<=2147483646->
  (fD e d i l).2=true/\(fD e d i l).1.length=l.length/\(fD e d i l).1.map (·.To)=l/\∀k (h:k<(fD e d i l).1.length) (h2:k<l.length),(fD e d i l).1[k]=fZ l[k] (e+((i+k:Nat):Int)) d
 |[],i,_,_,_=>⟨rfl,rfl,rfl,λk h _=>by simp[fD] at h⟩
 |p::l,i,hp,h1,h2=>by
  simp only[au] at h2
  obtain⟨i1,i2,i3,i4⟩:=aO3 (e:=e) hd l (i+1) (λq hq=>hp q (by simp[hq])) (by push_cast;omega) (by push_cast at h2 ⊢;omega)
  have hk:=hp p (by simp)
  have hq:=aH0 hk
  have hw:IntKind.i64.wrap (e+(i:Int))=e+(i:Int):=aJ (by omega) (by push_cast at h2;omega)
  have hpr:eG p≠0:=by
   unfold eG
   rw[hk,ay,ab]
   omega
  have hb:fM p (IntKind.i64.wrap (e+(i:Int))) d=(fZ p (e+(i:Int)) d,true):=by
   unfold fM
   rw[hw,cq.2 hpr,show bG (e+(i:Int))=true from gU (by omega) (by push_cast at h2;omega),ap (show ¬(d.length:Int)>200 by omega)];rfl
  have hu:fD e d i (p::l)=(fZ p (e+(i:Int)) d::(fD e d (i+1) l).1,true):=by
   rw[fD,hb,i1];rfl
  rw[hu]
  refine⟨rfl,by simp[i2],?_,λk hk1 hk2=> ?_⟩
  ·simp only[bo,i3];rfl
  ·cases k with
   |zero=>rfl
   |succ k=>
    simp only[au] at hk1 hk2
    have:=i4 k (by omega) (by omega)
    simp only[eS]
    rw[this];congr 1;push_cast;omega
def bEj {l:List D.Box}{p:Int}:∀(n:Int),0<=n->n+(l.length:Int)<=1000000->l.foldl (λn b=>bif b.To==p then IntKind.i64.wrap (n+1) else n) n=n+((l.filter λb=>b.To==p).length:Int):=by
 induction l with
 |nil=>intro n _ _;simp
 |cons b l ih=>
  intro n h0 h1
  simp only[au] at h1
  push_cast at h1
  rw[cV,ji]
  cases hb:b.To==p with
  |true=>
   rw[ac,aJ (by omega) (by omega),cz rfl,ih (n+1) (by omega) (by omega),au]
   push_cast;omega
  |false=>
   rw[ab,cR (by simp),ih n h0 (by omega)]
def bAv {l:List D.Box}(h:(l.map (·.To)).Nodup){p:Int}(hp:p∈l.map (·.To)):(l.filter λb=>b.To==p).length=1:=by
 induction l with
 |nil=>simp at hp
 |cons b l ih=>
  simp only[bo,ct,ax] at h hp
  rw[ji]
  by_cases hb:b.To=p
  ·have hn:(l.filter λb=>b.To==p)=[]:=by
    rw[List.filter_eq_nil_iff]
    intro c hc he
    exact h.1 (bu.2 ⟨c,hc,by rw[hb];exact eq_of_beq he⟩)
   rw[cN.2 hb,cz rfl,hn];rfl
  ·have hp2:p∈l.map (·.To):=by
    rcases hp with hp|hp
    ·exact absurd hp.symm hb
    ·exact hp
   rw[cq.2 hb,cR (by simp)]
   exact ih h.2 hp2
def bAw {log:List D.aAD}{bx:D.aAG}(h1:bx.Epoch=aF log)(h2:bx.Boxes.map (·.To)=aD log)(h3:(aD log).Nodup)(h4:(aD log).length<=1000):lF bx log=true:=by
 have hl:bx.Boxes.length=(aD log).length:=by rw[<-h2,bl]
 unfold lF
 rw[h1,hl,eh,eh,dt,cA,cF]
 intro p hp
 unfold pF
 rw[bEj 0 (by omega) (by omega),bAv (by rw[h2];exact h3) (by rw[h2];exact hp)];rfl
def bIb (a b:Int):(gG [a,b]).length<=12:=by
 have h1:=Lj a
 have h2:=Lj b
 unfold gG
 simp only[bo,eM,cM,fX,cP,av];omega
def aO4 {log:List D.aAD}{key eph:Int}(h1:bL log=true)(h2:bG key=true)(h3:∀p∈aD log,bG p=true)(h4:(aD log).length<=1000)(h5:1<=eph/\eph<=1000000):
  (cK log key eph).2=true/\(cK log key eph).1.Epoch=aF log/\(cK log key eph).1.Boxes.map (·.To)=aD log/\∀k (h:k<(cK log key eph).1.Boxes.length) (h2:k<(aD log).length),(cK log key eph).1.Boxes[k]=fZ (aD log)[k] (eph+(k:Int)) (gG [aF log,key]):=by
 have hd:=bIb (aF log) key
 obtain⟨s1,s2,s3,s4⟩:=aO3 (e:=eph) (d:=gG [aF log,key]) (by omega) (aD log) 0 h3 (by omega) (by omega)
 have e:cK log key eph=(⟨aF log,(fD eph (gG [aF log,key]) 0 (aD log)).1⟩,true):=by
  unfold cK
  rw[h1,h2,s1];rfl
 rw[e]
 refine⟨rfl,rfl,s3,λk hk hk2=> ?_⟩
 have:=s4 k hk hk2
 rw[ce] at this;exact this
end Go.VK

set_option maxRecDepth 100000
namespace Go.VK
def aTp (seed:Int)(k:Nat):bG (oO seed k)=true:=by
 unfold oO bJ;exact aYh (Wj _)
def aTq {seed:Int}{n:Nat}(hn:n<=6):((List.range n).map (oO seed)).Nodup:=by
 rw[jr,gn]
 refine(List.pairwise_lt_range).imp_of_mem ?_
 intro a b ha hb hab
 have ha:=fe.1 ha
 have hb:=fe.1 hb
 exact aYj (by omega) (by omega) (by omega)
def Wl {seed:Int}{n:Nat}(h0:1<=n)(hn:n<=6):lF (fO seed n) (aO seed n)=true/\bL (aO seed n)=true/\(fO seed n).Epoch=0:=by
 obtain⟨h1,h2,h3,h4,h5⟩:=kQ seed n hn
 have hl:bL (aO seed n)=true:=h5.resolve_left (by omega)
 have hlen:(aD (aO seed n)).length<=1000:=by rw[h2,bl,fL];omega
 obtain⟨m1,m2,m3,m4⟩:=aO4 (key:=bI seed 0) (eph:=1000) hl (by unfold bI;exact eO _ _) (λp hp=>by
  rw[h2] at hp
  obtain⟨i,_,rfl⟩:=bu.1 hp
  exact aTp _ _) hlen ⟨by decide,by decide⟩
 refine⟨bAw m2 m3 (by rw[h2];exact aTq hn) hlen,hl,?_⟩
 unfold fO;rw[m2,h4]
def aTr {seed:Int}{n:Nat}(h0:1<=n)(hn:n<=6):(fT seed n).Log=aO seed n:=by
 obtain⟨h1,h2,_⟩:=Wl (seed:=seed) h0 hn
 unfold fT
 rw[(rE _ _).2]
 unfold dS
 rw[h1,h2];rfl
def aDt (d:D.Device)(l:List D.aAD)(k:Int):(rF d l k).1.Store=d.Store:=by
 unfold rF
 cases !bL l||(!dG l d.Log||(decide (aF l<d.Epoch)|| !bG k))<;>rfl
def Ul (d:D.Device)(l:List D.aAD)(b:D.aAG)(s:D.aAA):(bQ d l b s).1.Store=d.Store:=by
 unfold bQ
 cases gZ d l b s==0<;>rfl
def Wm (nm:ByteArray):∀(i:Nat) (d:D.Device),(Bo nm i d).Store=d.Store
 |0,d=>rfl
 |i+1,d=>by
  show(dC (Bo nm i d) nm (i:Int) false).1.Store=_
  rw[I4,Wm nm i d]
def bAx {seed:Int}{n:Nat}(h0:1<=n):(gB seed n).length=n/\∀k (h:k<(gB seed n).length),(gB seed n)[k].Store=aP seed (k:Int):=by
 have hl:(gB seed n).length=n:=by
  unfold gB bS
  simp only[au,bl,ci,fL];omega
 refine⟨hl,λk hk=> ?_⟩
 cases k with
 |zero=>
  show(nwW seed n).1.Store=_
  unfold nwW
  rw[Ma]
  unfold jM sS
  rw[Wm,Wm,aDt];rfl
 |succ k=>
  have hk2:k<(((bS seed n).drop 1).map (pK seed n)).length:=by
   have:(gB seed n).length=(((bS seed n).drop 1).map (pK seed n)).length+1:=rfl
   omega
  show((((bS seed n).drop 1).map (pK seed n))[k]'hk2).Store=_
  rw[fW]
  unfold pK sS
  rw[Ul,aDt,List.getElem_drop]
  unfold bS
  rw[fW,List.getElem_range]
  unfold dH
  rw[show((1+k:Nat):Int)=((k+1:Nat):Int) by omega]
def aDu {n k t pin seed:Int}(h:Bp n k t pin seed=true):WIn n.toNat (aY n k t pin seed)/\(aY n k t pin seed).Devices.length=n.toNat/\(aY n k t pin seed).Seed=seed:=by
 have hb:=h
 unfold Bp at hb
 simp only[aa] at hb
 obtain⟨b1,b2,b3,b4,b5⟩:=hb
 have r:=iE b1
 unfold aY
 rw[h,ac]
 obtain⟨d1,d2⟩:=bAx (seed:=seed) (n:=n.toNat) (by omega)
 have hlog:=aTr (seed:=seed) (n:=n.toNat) (by omega) (by omega)
 have hok:=(Wl (seed:=seed) (n:=n.toNat) (by omega) (by omega)).2.1
 refine⟨{seed:=b5,now:=⟨dg 0,show(0:Int)<=999900 by decide⟩,dlen:= ?_,slen:= ?_,dev:= ?_,two:=rfl,mle:=by omega,site:= ?_,mail:=rfl,log:= ?_},d1,rfl⟩
 ·show 1<=(gB seed n.toNat).length/\(gB seed n.toNat).length<=6;omega
 ·show(List.replicate n.toNat false).length=(gB seed n.toNat).length;rw[fb,d1]
 ·intro j hj
  show StIn seed j ((gB seed n.toNat)[j]'hj).Store
  rw[d2 j hj]
  exact⟨rfl,rfl,rfl,dg 0,show(0:Int)<=1000000 by decide⟩
 ·intro j hj
  show SiteIn seed (j:Int) n.toNat ((pJ (bS seed n.toNat) seed)[j]'hj)
  match j,hj with
  |0,_=>exact aDs (.inl rfl) (by omega)
  |1,_=>exact aDs (.inr rfl) (by omega)
  |j+2,hj=>have:j+2<2:=hj;omega
 ·show bL (fT seed n.toNat).Log=true
  rw[hlog];exact hok
end Go.VK

set_option maxRecDepth 100000
namespace Go.VK
def Qo (w:D.World)(d:Int)(n:ByteArray)(a:Int)(r:Bool):(eX w d n a r).1.Seed=w.Seed/\(eX w d n a r).1.Devices.length=w.Devices.length:=by
 unfold eX
 cases aU w&&aL w d with
 |false=>exact⟨rfl,rfl⟩
 |true=>
  cases(dC (aK w d) n a r).2 with
  |false=>exact⟨rfl,rfl⟩
  |true=>exact⟨rfl,bh ..⟩
end Go.VK

set_option maxRecDepth 100000
namespace Go.VK
def aTs {α:Type}[Inhabited α]{f:α->Nat}{K:Nat}{x:α}:∀{l:List α} {i:Nat},i<l.length->f x<=f (l.getD i default)+K->((l.set i x).map f).sum<=(l.map f).sum+K
 |y::l,0,_,h=>by
  simp only[List.getD,gz,cu] at h
  simp only[List.set_cons_zero,bo,dz];omega
 |y::l,i+1,hi,h=>by
  have:=aTs (f:=f) (l:=l) (i:=i) (x:=x) (K:=K) (by simpa using hi) (by simpa[List.getD] using h)
  simp only[gk,bo,dz];omega
def bAy {w:D.World}{d:Int}(hd:aL w d=true){x:D.Device}{K:Nat}(hx:x.sz<=(aK w d).sz+K):({w with Devices:=w.Devices.set d.toNat x}:D.World).sz<=w.sz+K:=by
 obtain⟨h0,h1,h2⟩:=rH hd
 have:=aTs (f:=D.Device.sz) (K:=K) h1 (by rw[<-h2];exact hx)
 simp only[D.World.sz,bh] at this ⊢;omega
def aTt (w:D.World)(d:Int)(n:ByteArray)(a:Int)(r:Bool):(eX w d n a r).1.sz<=w.sz+1:=by
 unfold eX
 cases hb:aU w&&aL w d with
 |false=>simp only[ab];omega
 |true=>
  rw[aa] at hb
  simp only[ac]
  cases(dC (aK w d) n a r).2 with
  |false=>simp only[ab];omega
  |true=>exact bAy hb.2 (aOl _ _ _ _)
end Go.VK

set_option maxRecDepth 100000
namespace Go.VK
structure Kept (w v:D.World):Prop where
 wi:WIn v.Devices.length v
 seed:v.Seed=w.Seed
 sz:v.sz<=w.sz+3000
def Kept.of {w v:D.World}(h:WIn w.Devices.length v/\v.Seed=w.Seed/\v.Devices.length=w.Devices.length)(hz:v.sz<=w.sz+3000):Kept w v:=⟨by rw[h.2.2];exact h.1,h.2.1,hz⟩
end Go.VK

set_option maxRecDepth 100000
namespace Go.VK
def aAv {b:List Int}{p:Nat}{h:Int}{t:List Int}(e:b.drop p=h::t):p<b.length/\b.getD p 0=h/\b.drop (p+1)=t:=by
 have hp:p<b.length:=by
  have:=congrArg List.length e
  rw[ci,au] at this;omega
 rw[cn hp] at e
 injection e with e1 e2
 exact⟨hp,by simp[List.getD,ae hp,e1],e2⟩
def split_mul (r P:Int):r*P=r/128*(P*128)+r%128*P:=by
 have h:128*(r/128)+r%128=r:=Int.mul_ediv_add_emod r 128
 conv=>lhs;rw[<-h]
 rw[Int.add_mul,ja 128,Int.mul_assoc,ja 128 P]
def aYk {b y:List Int}{p:Nat}:∀(k i:Nat) (n r:Int),b.drop (p+i)=Y9 k r++y->0<=r->r<128^(k+1)->(0<i->r≠0)->0<=n->n+r*128^i<=1000000000000->
  uvG b p (k+1) i n=(n+r*128^i,((p+i+(Y9 k r).length:Nat):Int),true)
 |0,i,n,r,hd,h0,h1,hi,hn,hm=>by
  obtain⟨d1,d2,d3⟩:=aAv (show b.drop (p+i)=r::y from hd)
  have hr:r<128:=by simpa using h1
  unfold uvG
  rw[cz d1,d2,ao hr,ac,show r%128=r by omega,ap (show ¬n+r*128^i>1000000000000 by omega),gu]
  have:(decide (0<i)&&r==0)=false:=by
   by_cases hz:0<i
   ·rw[cq.2 (hi hz),dc]
   ·rw[ap hz,eu]
  rw[this];rfl
 |k+1,i,n,r,hd,h0,h1,hi,hn,hm=>by
  have hp:(0:Int)<=128^i:=Int.pow_nonneg (by decide)
  have hs:=split_mul r (128^i)
  have hpow:(128:Int)^(i+1)=128^i*128:=eW ..
  unfold Y9 at hd ⊢
  by_cases hb:r>127
  ·rw[ao hb,ac] at hd ⊢
   obtain⟨d1,d2,d3⟩:=aAv (show b.drop (p+i)=(r%128+128)::(Y9 k (r/128)++y) from hd)
   have hq:(r/128)<128^(k+1):=by
    have:(128:Int)^(k+1+1)=128^(k+1)*128:=eW ..
    omega
   have hx:0<=r%128*128^i:=jw (by omega) hp
   have ih:=aYk k (i+1) (n+r%128*128^i) (r/128) (by rw[show p+(i+1)=p+i+1 by omega];exact d3) (by omega) hq (λ_=>by omega) (by omega) (by rw[hpow];omega)
   rw[uvG,cz d1,d2,ap (show ¬r%128+128<128 by omega),ab,show(r%128+128)%128=r%128 by omega,ih,hpow]
   simp only[au,cT,and_true]
   constructor
   ·omega
   ·congr 1;omega
  ·rw[ap hb,ab] at hd ⊢
   obtain⟨d1,d2,d3⟩:=aAv (show b.drop (p+i)=r::y from hd)
   unfold uvG
   rw[cz d1,d2,ao (show r<128 by omega),ac,show r%128=r by omega,ap (show ¬n+r*128^i>1000000000000 by omega),gu]
   have:(decide (0<i)&&r==0)=false:=by
    by_cases hz:0<i
    ·rw[cq.2 (hi hz),dc]
    ·rw[ap hz,eu]
   rw[this];rfl
def aYl {x y:List Int}{n:Int}(h:0<=n/\n<=1000000000000):vN (x++(enc1 n++y)) (x.length:Int)=(n,((x.length+(enc1 n).length:Nat):Int),true):=by
 have e:=aF9 h
 unfold vN
 rw[cR (by omega),bv,e]
 have hp:(128:Int)^(5+1)=4398046511104:=by decide
 have:=aYk (b:=x++(Y9 5 n++y)) (y:=y) (p:=x.length) 5 0 0 n (by simp) h.1 (by omega) (λh=>by omega) (by decide) (by simp;omega)
 rw[this];simp
def aH3:∀(t x y s:List Int),aL0 t->iZ (x++(gG t++y)) t.length (x.length:Int) s=(s++t,((x.length+(gG t).length:Nat):Int),true)
 |[],x,y,s,_=>by simp[iZ,gG]
 |n::t,x,y,s,h=>by
  have hn:=h n (by simp)
  have hu:=aYl (x:=x) (y:=gG t++y) hn
  rw[rC,ck]
  show iZ _ (t.length+1) _ _=_
  rw[iZ,hu]
  simp only[ac]
  have ih:=aH3 t (x++enc1 n) y (s++[n]) (λv hv=>h v (by simp[hv]))
  rw[av,ck] at ih
  rw[ih]
  simp[ga]
def aH4:∀l:List D.Entry,jW (iJ l)=l/\jK (iJ l)=true
 |[]=>⟨rfl,rfl⟩
 |e::l=>by
  obtain⟨h1,h2⟩:=aH4 l
  have hf:iJ (e::l)=aL1 e++iJ l:=by simp[iJ]
  rw[hf]
  obtain⟨s,h,v,d⟩:=e
  cases d with
  |true=>exact⟨by show(⟨s,h,v,(1:Int)==1⟩:D.Entry)::jW (iJ l)=_;rw[h1];rfl,by show(decide ((1:Int)<=1)&&jK (iJ l))=true;rw[h2];rfl⟩
  |false=>exact⟨by show(⟨s,h,v,(0:Int)==1⟩:D.Entry)::jW (iJ l)=_;rw[h1];rfl,by show(decide ((0:Int)<=1)&&jK (iJ l))=true;rw[h2];rfl⟩
def bAz {b:D.aAC}(h:aM b=true):∀e∈b.Entries,(0<=e.Site/\e.Site<=2147483646)/\(0<=e.Handle/\e.Handle<=1000000)/\(1<=e.Version/\e.Version<=1000000):=λe he=>by
 unfold aM at h
 rw[aa,cE] at h
 obtain⟨i,hi,rfl⟩:=et.1 he
 have:=aH1 h.2 i hi
 unfold aHj at this
 simp only[cl,dw] at this
 have h1:=iE this.1
 have h2:=iE this.2.1
 have h3:=iE this.2.2.1
 exact⟨⟨h1.1,by omega⟩,⟨h2.1,by omega⟩,⟨h3.1,by omega⟩⟩
def bG7 {b:D.aAC}(h:aM b=true):aL0 (nA b):=λv hv=>by
 have hl:=lW h
 unfold nA at hv
 rcases bq.1 hv with hv|hv
 ·rw[cg.1 hv];omega
 ·unfold iJ at hv
  obtain⟨e,he,hv⟩:=List.mem_flatMap.1 hv
  obtain⟨h1,h2,h3⟩:=bAz h e he
  unfold aL1 at hv
  simp only[ax,fm,or_false] at hv
  rcases hv with rfl|rfl|rfl|rfl
  ·omega
  ·omega
  ·omega
  ·cases e.Deleted<;>simp
def bA0 {b:D.aAC}(h:aM b=true):wK (lC b)=(b,true):=by
 have hl:=lW h
 have hv:=bG7 h
 have he:lC b=enc1 (b.Entries.length:Int)++gG (iJ b.Entries):=by
  unfold lC nA
  rw[h,ac];rfl
 have hu:vN (lC b) 0=((b.Entries.length:Int),(((enc1 (b.Entries.length:Int)).length:Nat):Int),true):=by
  have:=aYl (x:=[]) (y:=gG (iJ b.Entries)) (n:=(b.Entries.length:Int)) (by omega)
  rw[bm,<-he] at this
  simpa using this
 have hd:=aH3 (iJ b.Entries) (enc1 (b.Entries.length:Int)) [] [] (λv hv'=>hv v (by unfold nA;simp[hv']))
 rw[cP,<-he,rD,bm] at hd
 have hend:(((enc1 (b.Entries.length:Int)).length+(gG (iJ b.Entries)).length:Nat):Int)=((lC b).length:Int):=by rw[he,av]
 obtain⟨e1,e2⟩:=aH4 b.Entries
 unfold wK
 rw[hu,show(4*(b.Entries.length:Int)).toNat=4*b.Entries.length by omega,hd,ap (show ¬(b.Entries.length:Int)>20 by omega)]
 unfold aS9
 simp only[hend,e1,e2]
 rw[h];simp
def aQs {α β:Type}{y:Nat->α->β}:∀{l:List α} {i k:Nat} (h:k<l.length) (h2:k<(Im (λi x=>[y i x]) i l).length),(Im (λi x=>[y i x]) i l)[k]=y (i+k) l[k]
 |x::l,i,0,_,_=>rfl
 |x::l,i,k+1,h,h2=>by
  have:=aQs (y:=y) (l:=l) (i:=i+1) (k:=k) (by simpa using h) (by rw[oW];simpa using h)
  rw[show i+1+k=i+(k+1) by omega] at this
  exact this
def aTu {k:Int}{d:List Int}(h:∀z∈d,0<=z/\z<=255):Iq k (jY k d)=d:=by
 apply List.ext_getElem
 ·unfold Iq jY;rw[oW,oW]
 ·intro i h1 h2
  have h3:i<(jY k d).length:=by unfold jY;rw[oW];exact h2
  have e1:(Iq k (jY k d))[i]=aHg k (0+i) (jY k d)[i]:=aQs h3 h1
  have e2:(jY k d)[i]=aTa k (0+i) d[i]:=aQs h2 h3
  rw[e1,e2]
  have hz:=h d[i] (cx h2)
  unfold aHg aTa
  generalize bE k [((0+i:Nat):Int)]=q
  rw[IntKind.wrap_u8,IntKind.wrap_u8]
  omega
def aO5 {k e v:Int}{b:D.aAC}(hk:bG k=true)(he:0<=e/\e<=1000000)(hv:0<=v/\v<=1000000)(hb:aM b=true):eH k (gI k e v b)=(b,true):=by
 have hm:(gI k e v b).MAC=fV k (gI k e v b):=by simp only[gI,fV]
 unfold eH
 rw[hm,dT,hk,show(gI k e v b).Epoch=e from rfl,show(gI k e v b).Version=v from rfl,gU he.1 he.2,gU hv.1 hv.2]
 show wK (Iq (jA k e v) (jY (jA k e v) (lC b)))=(b,true)
 rw[aTu (Lm (H5 b)),bA0 hb]
def bEk {p e:Int}{d:List Int}(hp:bG p=true)(he:bG e=true)(hl:d.length<=200)(hd:∀z∈d,0<=z/\z<=255):dY p (fZ (bU p) e d)=(d,true):=by
 have e1:(fZ (bU p) e d).To=bU p:=rfl
 have e2:(fZ (bU p) e d).Ephemeral=e:=rfl
 have e3:(fZ (bU p) e d).Data=jY (fH p e) d:=by unfold fZ;rw[Bq hp]
 have e4:(fZ (bU p) e d).MAC=La (fH p e) (fZ (bU p) e d):=by unfold fZ La;rw[Bq hp]
 unfold dY
 rw[e2,e1,e4,hp,he,e3,Lp,dT,dT,ap (show ¬(d.length:Int)>200 by omega),aTu hd];rfl
def aWb {p:Int}{b:D.Box}(h:b.To≠bU p):(dY p b).2=false:=by
 unfold dY
 rw[bne,cq.2 h]
 cases bG p<;>rfl
def aH5 {p:Int}{d:List Int}(hp:bG p=true)(hl:d.length<=200)(hd:∀z∈d,0<=z/\z<=255):∀{bs:List D.Box} {k:Nat} (hk:k<bs.length),(∀j (hj:j<bs.length),j<k->bs[j].To≠bU p)->(∃e,bG e=true/\bs[k]=fZ (bU p) e d)->eU bs p=(d,true)
 |b::bs,0,_,_,⟨e,he,hb⟩=>by
  have hb:b=fZ (bU p) e d:=hb
  rw[eU,hb,bEk hp he hl hd];rfl
 |b::bs,k+1,hk,hn,⟨e,he,hb⟩=>by
  have h0:b.To≠bU p:=hn 0 (by simp) (by omega)
  rw[eU,aWb h0,ab]
  exact aH5 hp hl hd (by simpa using hk) (λj hj hjk=>hn (j+1) (by simpa using hj) (by omega)) ⟨e,he,hb⟩
end Go.VK

set_option maxRecDepth 100000
namespace Go.VK
structure BoxIn (log:List D.aAD) (bx:D.aAG) (key:Int):Prop where
 ep:bx.Epoch=aF log
 to:bx.Boxes.map (·.To)=aD log
 nd:(aD log).Nodup
 kok:bG key=true
 box:∀k (h:k<bx.Boxes.length),∃e,bG e=true/\bx.Boxes[k]=fZ bx.Boxes[k].To e (gG [aF log,key])
 eps:0<=aF log/\aF log<=40
def bKl {k:Int}(h:bG k=true):0<=k/\k<=1000000000000:=by have:=aH0 h;omega
def I5 {log:List D.aAD}{bx:D.aAG}{key:Int}(h:BoxIn log bx key){s:D.aAH}(hs:bJ s∈aD log):bA s bx=(key,true):=by
 obtain⟨h1,h2,h3,h4,h5,h6⟩:=h
 rw[<-h2] at hs h3
 obtain⟨k,hk,e⟩:=et.1 hs
 have hk2:k<bx.Boxes.length:=by simpa using hk
 have e:bx.Boxes[k].To=bU (fF s):=by
  rw[fW] at e;rw[e];rfl
 have hd:(gG [aF log,key]).length<=12:=bIb _ _
 have hf:eU bx.Boxes (fF s)=(gG [aF log,key],true):=by
  refine aH5 (Wj s) (by omega) (Vy _) hk2 (λj hj hjk he=> ?_) ?_
  ·have:=ee.1 h3 j k (by simpa using hj) (by simpa using hk2) hjk
   rw[fW,fW] at this
   exact this (by rw[he,e])
  ·obtain⟨q,hq,hb⟩:=h5 k hk2
   rw[e] at hb
   exact⟨q,hq,hb⟩
 have hdec:gN (gG [aF log,key]) 0 2=([aF log,key],((gG [aF log,key]).length:Int),true):=by
  have:=aH3 [aF log,key] [] [] [] (λv hv=>by
   simp only[ax,fm,or_false] at hv
   rcases hv with rfl|rfl
   ·omega
   ·exact bKl h4)
  simp only[bm,cP,bn,ce] at this
  unfold gN
  rw[show bH 2 0 100=true from rfl,gU (by omega) (by omega)]
  exact this
 unfold bA Fq
 rw[hf,hdec]
 show(bif !true||(!true||(((gG [aF log,key]).length:Int) !=((gG [aF log,key]).length:Int)||(aF log !=bx.Epoch|| !bG key))) then(0,false) else(key,true))=(key,true)
 rw[dT,h1,dT,h4];rfl
def aH6 {log:List D.aAD}{bx:D.aAG}{key:Int}(h:BoxIn log bx key)(hl:bL log=true){d:D.Device}(he:dG log d.Log=true)(hs:bJ d.Store∈aD log)
  {e v:Int} {b:D.aAC} (hv:0<=v/\v<=1000000) (hb:aM b=true) (hep:e=aF log) (ho:d.Epoch<e\/(d.Epoch=e/\d.Version<=v)) (hm:(fB d.aAC b).2=true):
  bQ d log bx (gI key e v b)=(⟨d.Store,log,key,e,v,(fB d.aAC b).1⟩,0):=by
 have ho1:=I5 h hs
 have he2:=h.eps
 have hop:eH key (gI key e v b)=(b,true):=aO5 h.kok (by omega) hv hb
 have hbad:gZ d log bx (gI key e v b)=0:=by
  unfold gZ
  rw[hl,he,sU.2 hs,ho1,h.ep,hop,hm,dT,show(gI key e v b).Epoch=e from rfl,show(gI key e v b).Version=v from rfl]
  have:(decide (e<aF log)||(decide (e<d.Epoch)||(e==d.Epoch&&decide (v<d.Version))))=false:=by
   rw[ap (show ¬e<aF log by omega),ap (show ¬e<d.Epoch by omega),cC,cC]
   rcases ho with ho|ho
   ·rw[cq.2 (show e≠d.Epoch by omega),eu]
   ·rw[ap (show ¬v<d.Version by omega),dc]
  rw[this];rfl
 unfold bQ
 rw[hbad,ho1,hop];rfl
def aTv (log:List D.aAD):dG log []=true:=by
 unfold dG;simp[gW]
def bEl (a:D.aAD):bAd a a=true:=by
 unfold bAd;simp
def aDv (log r:List D.aAD):dG (log++r) log=true:=by
 unfold dG
 rw[ao (by simp),cA,cE]
 exact Wh λk hk=>by
  rw[ce,dw]
  have:(log++r).getD k default=log[k]:=by simp[List.getD,aq hk,ae hk]
  rw[this];exact bEl _
def aTw (log:List D.aAD):dG log log=true:=by simpa using aDv log []
def aTx {seed:Int}{n:Nat}(h0:1<=n)(hn:n<=6):BoxIn (aO seed n) (fO seed n) (bI seed 0):=by
 obtain⟨h1,h2,h3,h4,h5⟩:=kQ seed n hn
 have hl:bL (aO seed n)=true:=h5.resolve_left (by omega)
 have hlen:(aD (aO seed n)).length<=1000:=by rw[h2,bl,fL];omega
 have hk:bG (bI seed 0)=true:=by unfold bI;exact eO _ _
 obtain⟨m1,m2,m3,m4⟩:=aO4 (key:=bI seed 0) (eph:=1000) hl hk (λp hp=>by
  rw[h2] at hp
  obtain⟨i,_,rfl⟩:=bu.1 hp
  exact aTp _ _) hlen ⟨by decide,by decide⟩
 have hnd:(aD (aO seed n)).Nodup:=by rw[h2];exact aTq hn
 refine⟨m2,m3,hnd,hk,λk hk'=> ?_,by rw[h4];exact⟨by decide,by decide⟩⟩
 have hlb:(fO seed n).Boxes.length=(aD (aO seed n)).length:=by
  have:=congrArg List.length m3
  rw[bl] at this;exact this
 have hk2:k<(aD (aO seed n)).length:=by omega
 have hb:=m4 k hk' hk2
 have hto:(fO seed n).Boxes[k].To=(aD (aO seed n))[k]:=by
  show(cK (aO seed n) (bI seed 0) 1000).1.Boxes[k].To=_
  rw[hb];rfl
 refine⟨1000+(k:Int),gU (by omega) (by omega),?_⟩
 rw[hto];exact hb
end Go.VK

set_option maxRecDepth 100000
namespace Go.VK
def Aw:Nat->D.aAC
 |1=>⟨[⟨1464438180,0,1,false⟩,⟨1941999745,0,1,false⟩]⟩
 |2=>⟨[⟨1464438180,0,1,false⟩,⟨1464438180,1,1,false⟩,⟨1941999745,0,1,false⟩,⟨1941999745,1,1,false⟩]⟩
 |3=>⟨[⟨1464438180,0,1,false⟩,⟨1464438180,1,1,false⟩,⟨1464438180,2,1,false⟩,⟨1941999745,0,1,false⟩,⟨1941999745,1,1,false⟩,⟨1941999745,2,1,false⟩]⟩
 |_=>⟨[]⟩
def Bt (seed:Int)(n k:Nat)(v:Int)(b:D.aAC):D.Device:=⟨aP seed (k:Int),aO seed n,bI seed 0,0,v,b⟩
def bEm {seed:Int}{n:Nat}(h0:1<=n)(hn:n<=6)(k:Nat):sS seed n (dH (aP seed (k:Int)))=Bt seed n k 0 ⟨[]⟩:=by
 obtain⟨h1,h2,h3,h4,h5⟩:=kQ seed n hn
 have hl:bL (aO seed n)=true:=h5.resolve_left (by omega)
 have hk:bG (bI seed 0)=true:=by unfold bI;exact eO _ _
 unfold sS rF dH
 rw[hl,aTv,hk,h4];rfl
def bL7 {n:Nat}(h:n=1\/n=2\/n=3)(s:D.aAH)(l:List D.aAD)(k e v:Int):Bo (aA 1) n (Bo (aA 0) n ⟨s,l,k,e,v,⟨[]⟩⟩)=⟨s,l,k,e,v,Aw n⟩:=by
 rcases h with rfl|rfl|rfl<;>kernel_rfl
def aWc {n:Nat}(h:n=1\/n=2\/n=3):aM (Aw n)=true/\fB ⟨[]⟩ (Aw n)=(Aw n,true)/\fB (Aw n) (Aw n)=(Aw n,true):=by
 rcases h with rfl|rfl|rfl<;>exact⟨by kernel_rfl,by kernel_rfl,by kernel_rfl⟩
def bA1 {seed:Int}{n:Nat}(h:n=1\/n=2\/n=3):jM seed n=Bt seed n 0 0 (Aw n):=by
 unfold jM
 rw[show(0:Int)=((0:Nat):Int) from rfl,bEm (by omega) (by omega)]
 exact bL7 h _ _ _ _ _
def bEn {seed:Int}{n:Nat}(h:n=1\/n=2\/n=3):nwW seed n=(Bt seed n 0 1 (Aw n),gI (bI seed 0) 0 1 (Aw n),true):=by
 have hk:bG (bI seed 0)=true:=by unfold bI;exact eO _ _
 unfold nwW
 rw[bA1 h]
 unfold dK nC Bt
 simp only[]
 rw[show IntKind.i64.wrap (0+1)=1 from by decide,hk,(aWc h).1];rfl
def aH7 {seed:Int}{n k:Nat}(h:n=1\/n=2\/n=3)(hk:k<n):pK seed n (dH (aP seed (k:Int)))=Bt seed n k 1 (Aw n):=by
 obtain⟨h1,h2,h3,h4,h5⟩:=kQ seed n (by omega)
 obtain⟨b1,b2,b3⟩:=aWc h
 unfold pK
 rw[bEm (by omega) (by omega),bEn h]
 rw[aH6 (aTx (by omega) (by omega)) (h5.resolve_left (by omega)) (d:=Bt seed n k 0 ⟨[]⟩) (aTw _) (by
  rw[h2];exact bu.2 ⟨k,fe.2 hk,rfl⟩) ⟨by decide,by decide⟩ b1 h4.symm (.inr ⟨rfl,by show(0:Int)<=1;decide⟩) (by show(fB ⟨[]⟩ (Aw n)).2=true;rw[b2])]
 show(D.Device.mk (aP seed (k:Int)) (aO seed n) (bI seed 0) 0 1 (fB ⟨[]⟩ (Aw n)).1)=_
 rw[b2];rfl
def Mc {seed:Int}{n:Nat}(h:n=1\/n=2\/n=3):gB seed n=(List.range n).map λk=>Bt seed n k 1 (Aw n):=by
 unfold gB bS
 rw[bEn h]
 rcases h with rfl|rfl|rfl
 ·rfl
 ·show[_,pK seed 2 (dH (aP seed ((1:Nat):Int)))]=_
  rw[aH7 (.inr (.inl rfl)) (by decide)];rfl
 ·show[_,pK seed 3 (dH (aP seed ((1:Nat):Int))),pK seed 3 (dH (aP seed ((2:Nat):Int)))]=_
  rw[aH7 (.inr (.inr rfl)) (by decide),aH7 (.inr (.inr rfl)) (by decide)];rfl
def aAw {seed:Int}{n:Nat}(h:n=1\/n=2\/n=3):fT seed n=⟨aO seed n,fO seed n,[gI (bI seed 0) 0 1 (Aw n)]⟩:=by
 obtain⟨h1,h2,_⟩:=Wl (seed:=seed) (n:=n) (by omega) (by omega)
 have h4:=(kQ seed n (by omega)).ep
 have e:dS (aO seed n) (fO seed n)=(⟨aO seed n,fO seed n,[]⟩,true):=by
  unfold dS;rw[h1,h2];rfl
 unfold fT
 rw[e,bEn h]
 show(dD ⟨aO seed n,fO seed n,[]⟩ (gI (bI seed 0) 0 1 (Aw n))).1=_
 unfold dD
 rw[show(gI (bI seed 0) 0 1 (Aw n)).Epoch=0 from rfl,h4];rfl
end Go.VK

set_option maxRecDepth 100000
namespace Go.VK
def aH8 (w:D.World)(d:Int)(n:ByteArray)(a:Int)(r:Bool):(eX w d n a r).1.Hosts=w.Hosts:=by
 unfold eX
 cases aU w&&aL w d with
 |false=>rfl
 |true=>cases(dC (aK w d) n a r).2<;>rfl
structure KeptH (w v:D.World):Prop where
 kept:Kept w v
 hosts:v.Hosts.length<=w.Hosts.length
def KeptH.of {w v:D.World}(h:Kept w v)(e:v.Hosts=w.Hosts):KeptH w v:=⟨h,by rw[e];exact ak _⟩
end Go.VK

set_option maxRecDepth 100000
namespace Go.VK
def gV (seed:Int):D.aAP:=(Fx seed 2 500 3).1
def bOi (seed:Int):Int:=IntKind.i64.wrap (1+(aW seed [293]).tmod 1018)
def gSh (seed x:Int):D.aAQ:=⟨x,Li (bOi seed) (Lu seed 2) x⟩
def gK (s:D.aAQ)(i:Nat):D.aAR:=⟨s,0,(i:Int),5⟩
def bEo (s:D.aAQ)(i:Nat):D.aAF:=⟨gK s i,(List.range i).map (gK s),(i:Int)⟩
def gHs (seed:Int)(i:Nat):List D.aAF:=[bEo (gSh seed 1) i,bEo (gSh seed 2) i,bEo (gSh seed 3) 0]
end Go.VK

set_option maxRecDepth 100000
namespace Go.VK
structure GS (seed:Int) (i:Nat) (w:D.World):Prop where
 wi:WIn 1 w
 len:w.Devices.length=1
 sd:w.Seed=seed
 now:w.Now=0
 vault:w.aAP=gV seed
 hosts:w.Hosts=gHs seed i
 le:i<=5
end Go.VK

set_option maxRecDepth 100000
namespace Go.VK
def same (s h:Int)(e:D.Entry):Bool:=e.Site==s&&e.Handle==h
def lk (l:List D.Entry)(s h:Int):Option D.Entry:=l.find? (same s h)
def bEp:Option D.Entry->Option D.Entry->Option D.Entry
 |none,y=>y
 |some e,none=>some e
 |some e,some x=>some (lT e x)
def same_iff {s h:Int}{e:D.Entry}:same s h e=true↔e.Site=s/\e.Handle=h:=by simp[same]
def vW (e:D.Entry):same e.Site e.Handle e=true:=same_iff.2 ⟨rfl,rfl⟩
def Qp {a b:D.Entry}(h:dI a b=true):¬(a.Site=b.Site/\a.Handle=b.Handle):=by rw[nY] at h;omega
def aWd {a b:D.Entry}(h:dI a b=true):dI b a=false:=by
 rw[ey,Ne,nY];rw[nY] at h;omega
def jR:∀(n:Nat) {a b:List D.Entry} {e:D.Entry},a.length+b.length<=n->e∈aX a b->e∈a\/e∈b
 |_,[],b,e,_,h=>by rw[gT] at h;exact .inr h
 |_,a::xs,[],e,_,h=>by rw[dP] at h;exact .inl h
 |0,a::xs,b::bs,e,h,_=>by simp at h
 |n+1,a::xs,b::bs,e,hn,h=>by
  simp only[au] at hn
  rw[rA] at h
  cases h1:dI a b with
  |true=>
   rw[h1,ac] at h
   rcases ax.1 h with rfl|h
   ·exact .inl (cD ..)
   ·rcases jR n (by simp only[au];omega) h with h|h
    ·exact .inl (cp _ h)
    ·exact .inr h
  |false=>
   rw[h1,ab] at h
   cases h2:dI b a with
   |true=>
    rw[h2,ac] at h
    rcases ax.1 h with rfl|h
    ·exact .inr (cD ..)
    ·rcases jR n (by simp only[au];omega) h with h|h
     ·exact .inl h
     ·exact .inr (cp _ h)
   |false=>
    rw[h2,ab] at h
    rcases ax.1 h with rfl|h
    ·rcases aXz a b with e|e
     ·rw[e];exact .inl (cD ..)
     ·rw[e];exact .inr (cD ..)
    ·rcases jR n (by omega) h with h|h
     ·exact .inl (cp _ h)
     ·exact .inr (cp _ h)
def Qq:∀(n:Nat) {a b:List D.Entry},a.length+b.length<=n->Qs a->Qs b->Qs (aX a b)
 |_,[],b,_,_,h=>by rw[gT];exact h
 |_,a::xs,[],_,h,_=>by rw[dP];exact h
 |0,a::xs,b::bs,h,_,_=>by simp at h
 |n+1,a::xs,b::bs,hn,ha,hb=>by
  simp only[au] at hn
  obtain⟨a1,a2⟩:=cj.1 ha
  obtain⟨b1,b2⟩:=cj.1 hb
  rw[rA]
  cases h1:dI a b with
  |true=>
   rw[ac]
   refine cj.2 ⟨λy hy=> ?_,Qq n (by simp only[au];omega) a2 hb⟩
   rcases jR _ (ak _) hy with hy|hy
   ·exact a1 y hy
   ·rcases ax.1 hy with rfl|hy
    ·exact h1
    ·exact lU h1 (b1 y hy)
  |false=>
   rw[ab]
   cases h2:dI b a with
   |true=>
    rw[ac]
    refine cj.2 ⟨λy hy=> ?_,Qq n (by simp only[au];omega) ha b2⟩
    rcases jR _ (ak _) hy with hy|hy
    ·rcases ax.1 hy with rfl|hy
     ·exact h2
     ·exact lU h2 (a1 y hy)
    ·exact b1 y hy
   |false=>
    rw[ab]
    have hk:=wI h1 h2
    have hp:=G6 hk
    refine cj.2 ⟨λy hy=> ?_,Qq n (by omega) a2 b2⟩
    rw[Bj hp]
    rcases jR _ (ak _) hy with hy|hy
    ·rw[<-Bj hk];exact a1 y hy
    ·exact b1 y hy
def lH (a:D.Entry)(l:List D.Entry)(s h:Int):lk (a::l) s h=bif same s h a then some a else lk l s h:=by
 unfold lk;rw[List.find?_cons];cases same s h a<;>rfl
def Fy {l:List D.Entry}{s h:Int}(hl:∀e∈l,same s h e=false):lk l s h=none:=by
 unfold lk;rw[List.find?_eq_none];intro x hx;rw[hl x hx];exact dp
def rJ {l:List D.Entry}{s h:Int}{e:D.Entry}(hl:lk l s h=some e):e∈l/\e.Site=s/\e.Handle=h:=by
 unfold lk at hl
 exact⟨List.mem_of_find?_eq_some hl,same_iff.1 (List.find?_some hl)⟩
def aQt {a:D.Entry}{l:List D.Entry}(hs:Qs (a::l)){s h:Int}(ha:same s h a=true):∀e∈l,same s h e=false:=λe he=>by
 have:=Qp ((cj.1 hs).1 e he)
 rw[ey,Ne,same_iff]
 have h2:=same_iff.1 ha
 exact λq=>this ⟨h2.1.trans q.1.symm,h2.2.trans q.2.symm⟩
def aH9 {l:List D.Entry}(hs:Qs l){e:D.Entry}(he:e∈l):lk l e.Site e.Handle=some e:=by
 induction l with
 |nil=>simp at he
 |cons a l ih=>
  rw[lH]
  rcases ax.1 he with rfl|he
  ·rw[vW];rfl
  ·cases hq:same e.Site e.Handle a with
   |true=>have:=aQt hs hq e he;rw[vW] at this;cases this
   |false=>exact ih (cj.1 hs).2 he
def bEq:∀{a b:List D.Entry},Qs a->Qs b->(∀s h,lk a s h=lk b s h)->a=b
 |[],[],_,_,_=>rfl
 |[],b::bs,_,_,h=>by have:=h b.Site b.Handle;rw[lH,vW] at this;cases this
 |a::xs,[],_,_,h=>by have:=h a.Site a.Handle;rw[lH,vW] at this;cases this
 |a::xs,b::bs,ha,hb,h=>by
  have hab:a=b:=by
   have h1:=h a.Site a.Handle
   have h2:=h b.Site b.Handle
   rw[lH,vW,ac] at h1
   rw[lH b,vW,ac] at h2
   have m1:=(rJ h1.symm).1
   have m2:=(rJ h2).1
   rcases ax.1 m1 with e|m1
   ·exact e
   ·rcases ax.1 m2 with e|m2
    ·exact e.symm
    ·have q1:=(cj.1 hb).1 a m1
     have q2:=(cj.1 ha).1 b m2
     rw[aWd q1] at q2;cases q2
  subst hab
  congr 1
  refine bEq (cj.1 ha).2 (cj.1 hb).2 λs h'=> ?_
  have:=h s h'
  rw[lH,lH] at this
  cases hq:same s h' a with
  |true=>rw[Fy (aQt ha hq),Fy (aQt hb hq)]
  |false=>rw[hq] at this;exact this
def bA2 {a b:D.Entry}(hk:a.Site=b.Site/\a.Handle=b.Handle)(s h:Int):same s h (lT a b)=same s h b:=by
 have:=G6 hk
 unfold same;rw[this.1,this.2]
def I6:∀(n:Nat) {a b:List D.Entry},a.length+b.length<=n->Qs a->Qs b->∀s h,lk (aX a b) s h=bEp (lk a s h) (lk b s h)
 |_,[],b,_,_,_,s,h=>by rw[gT];rfl
 |_,a::xs,[],_,_,_,s,h=>by
  rw[dP]
  show _=bEp (lk (a::xs) s h) none
  cases lk (a::xs) s h<;>rfl
 |0,a::xs,b::bs,h,_,_,_,_=>by simp at h
 |n+1,a::xs,b::bs,hn,ha,hb,s,h=>by
  simp only[au] at hn
  obtain⟨a1,a2⟩:=cj.1 ha
  obtain⟨b1,b2⟩:=cj.1 hb
  rw[rA]
  cases h1:dI a b with
  |true=>
   rw[ac,lH,lH a xs,I6 n (by simp only[au];omega) a2 hb]
   cases hq:same s h a with
   |false=>rfl
   |true=>
    have hno:lk (b::bs) s h=none:=Fy λe he=>by
     have he:dI a e=true:=by
      rcases ax.1 he with rfl|he
      ·exact h1
      ·exact lU h1 (b1 e he)
     have:=Qp he
     have h2:=same_iff.1 hq
     rw[ey,Ne,same_iff]
     exact λq=>this ⟨h2.1.trans q.1.symm,h2.2.trans q.2.symm⟩
    rw[hno];rfl
  |false=>
   rw[ab]
   cases h2:dI b a with
   |true=>
    rw[ac,lH,lH b bs,I6 n (by simp only[au];omega) ha b2]
    cases hq:same s h b with
    |false=>rfl
    |true=>
     have hno:lk (a::xs) s h=none:=Fy λe he=>by
      have he:dI b e=true:=by
       rcases ax.1 he with rfl|he
       ·exact h2
       ·exact lU h2 (a1 e he)
      have:=Qp he
      have h2:=same_iff.1 hq
      rw[ey,Ne,same_iff]
      exact λq=>this ⟨h2.1.trans q.1.symm,h2.2.trans q.2.symm⟩
     rw[hno];rfl
   |false=>
    have hk:=wI h1 h2
    rw[ab,lH,lH a xs,lH b bs,I6 n (by omega) a2 b2,bA2 hk]
    have:same s h a=same s h b:=by unfold same;rw[hk.1,hk.2]
    rw[this]
    cases same s h b<;>rfl
def lkM {a b:List D.Entry}(ha:Qs a)(hb:Qs b)(s h:Int):lk (aX a b) s h=bEp (lk a s h) (lk b s h):=I6 _ (ak _) ha hb s h
def bL9 {a b:List D.Entry}(ha:Qs a)(hb:Qs b):Qs (aX a b):=Qq _ (ak _) ha hb
def rk (e:D.Entry):Int:=2*e.Version+(bif e.Deleted then 1 else 0)
def bIc {x e:D.Entry}(hk:x.Site=e.Site/\x.Handle=e.Handle)(h:rk x=rk e):x=e:=by
 obtain⟨s,hh,v,d⟩:=x
 obtain⟨s2,h2,v2,d2⟩:=e
 simp only[rk] at h hk
 obtain⟨rfl,rfl⟩:=hk
 cases d<;>cases d2<;>simp at h ⊢<;>omega
def aTy {x e:D.Entry}:mV x e=true↔rk e<rk x\/(rk e=rk x/\x.Deleted=true):=by
 unfold mV rk
 simp only[cr,aa,cb,cN]
 cases x.Deleted<;>cases e.Deleted<;>simp only[ac,ab,Bool.false_eq_true,and_false,and_true,or_false]<;>omega
def aQu {e x:D.Entry}(hk:x.Site=e.Site/\x.Handle=e.Handle):lT e x=if rk e<rk x then x else e:=by
 unfold lT
 by_cases h:rk e<rk x
 ·rw[cz h,aTy.2 (.inl h)];rfl
 ·rw[cR h]
  cases hn:mV x e with
  |false=>rfl
  |true=>
   rcases aTy.1 hn with q|q
   ·exact absurd q h
   ·exact bIc hk q.1.symm
def Sub (a b:List D.Entry):Prop:=∀e∈a,∃x∈b,x.Site=e.Site/\x.Handle=e.Handle/\rk e<=rk x
def Sub.refl (a:List D.Entry):Sub a a:=λe he=>⟨e,he,rfl,rfl,dg _⟩
def Sub.trans {a b c:List D.Entry}(h:Sub a b)(k:Sub b c):Sub a c:=λe he=>by
 obtain⟨x,hx,x1,x2,x3⟩:=h e he
 obtain⟨y,hy,y1,y2,y3⟩:=k x hx
 exact⟨y,hy,y1.trans x1,y2.trans x2,eE x3 y3⟩
def Sub.left {a b:List D.Entry}(ha:Qs a)(hb:Qs b):Sub a (aX a b):=λe he=>by
 have h1:=lkM ha hb e.Site e.Handle
 rw[aH9 ha he] at h1
 cases hq:lk b e.Site e.Handle with
 |none=>
  rw[hq] at h1
  exact⟨e,(rJ h1).1,rfl,rfl,dg _⟩
 |some x=>
  rw[hq] at h1
  obtain⟨m1,m2,m3⟩:=rJ h1
  obtain⟨_,q2,q3⟩:=rJ hq
  refine⟨_,m1,m2,m3,?_⟩
  rw[aQu ⟨q2,q3⟩]
  split<;>omega
def Sub.right {a b:List D.Entry}(ha:Qs a)(hb:Qs b):Sub b (aX a b):=λe he=>by
 have h1:=lkM ha hb e.Site e.Handle
 rw[aH9 hb he] at h1
 cases hq:lk a e.Site e.Handle with
 |none=>
  rw[hq] at h1
  exact⟨e,(rJ h1).1,rfl,rfl,dg _⟩
 |some x=>
  rw[hq] at h1
  obtain⟨m1,m2,m3⟩:=rJ h1
  obtain⟨_,q2,q3⟩:=rJ hq
  refine⟨_,m1,m2,m3,?_⟩
  rw[aQu ⟨q2.symm,q3.symm⟩]
  split<;>omega
def Sub.merge' {a b:List D.Entry}(ha:Qs a)(hb:Qs b)(h:Sub a b):aX a b=b:=by
 refine bEq (bL9 ha hb) hb λs h'=> ?_
 rw[lkM ha hb]
 cases hq:lk a s h' with
 |none=>rfl
 |some e=>
  obtain⟨m1,m2,m3⟩:=rJ hq
  obtain⟨x,hx,x1,x2,x3⟩:=h e m1
  have hx2:lk b s h'=some x:=by
   have:=aH9 hb hx
   rw[x1,x2,m2,m3] at this;exact this
  rw[hx2]
  show some (lT e x)=some x
  rw[aQu ⟨x1,x2⟩]
  split
  ·rfl
  ·rw[bIc (x:=e) (e:=x) ⟨x1.symm,x2.symm⟩ (by omega)]
def bEr {α:Type}[BEq α][LawfulBEq α]:∀{l S:List α},l.Nodup->(∀x∈l,x∈S)->l.length<=S.length
 |[],S,_,_=>by simp
 |x::l,S,hn,hs=>by
  obtain⟨h1,h2⟩:=ct.1 hn
  have hx:=hs x (cD ..)
  have:=bEr (l:=l) (S:=S.erase x) h2 λy hy=>by
   have hne:y≠x:=λe=>h1 (e▸hy)
   exact(List.mem_erase_of_ne hne).2 (hs y (cp _ hy))
  rw[List.length_erase_of_mem hx] at this
  have:0<S.length:=List.length_pos_of_mem hx
  simp only[au];omega
structure KeyS (S:List (Int×Int)):Prop where
 len:S.length<=20
 rg:∀p∈S,(0<=p.1/\p.1<=2147483646)/\(0<=p.2/\p.2<=1000000)
structure BunIn (S:List (Int×Int)) (V:Int) (b:List D.Entry):Prop where
 st:Qs b
 key:∀e∈b,(e.Site,e.Handle)∈S
 ver:∀e∈b,1<=e.Version/\e.Version<=V
def BunIn.mono {S:List (Int×Int)}{V W:Int}{b:List D.Entry}(h:BunIn S V b)(hv:V<=W):BunIn S W b:=⟨h.st,h.key,λe he=>⟨(h.ver e he).1,eE (h.ver e he).2 hv⟩⟩
def BunIn.len {S:List (Int×Int)}{V:Int}{b:List D.Entry}(h:BunIn S V b):b.length<=S.length:=by
 have hn:(b.map λe=>(e.Site,e.Handle)).Nodup:=by
  rw[jr,gn]
  exact h.st.imp λ{a b} hk (e:(a.Site,a.Handle)=(b.Site,b.Handle))=>Qp hk ⟨congrArg Prod.fst e,congrArg Prod.snd e⟩
 have:=bEr hn λp hp=>by
  obtain⟨e,he,rfl⟩:=bu.1 hp
  exact h.key e he
 rwa [bl] at this
def BunIn.ok {S:List (Int×Int)}{V:Int}{b:List D.Entry}(hS:KeyS S)(hV:V<=1000000)(h:BunIn S V b):aM ⟨b⟩=true:=by
 have hl:=h.len
 have:=hS.len
 unfold aM
 rw[ao (show((⟨b⟩:D.aAC).Entries.length:Int)<=20 by show(b.length:Int)<=20;omega),cA,cE]
 refine Wh λk hk=> ?_
 have hk:k<b.length:=hk
 show aHj b (0+k) b[k]=false
 have hm:=cx hk
 have r:=hS.rg _ (h.key _ hm)
 have v:=h.ver _ hm
 unfold aHj
 rw[gU r.1.1 r.1.2,gU r.2.1 r.2.2,gU v.1 (by omega)]
 simp only[ay,cC,ce]
 by_cases h0:0<k
 ·have:b.getD (k-1) default=b[k-1]'(by omega):=by rw[List.getD,ae (by omega),cu]
  rw[this,ee.1 h.st (k-1) k (by omega) hk (by omega)];simp
 ·rw[ap (by omega)];rfl
def BunIn.merge {S:List (Int×Int)}{V:Int}{a b:List D.Entry}(ha:BunIn S V a)(hb:BunIn S V b):BunIn S V (aX a b):=
 ⟨bL9 ha.st hb.st,λe he=>(jR _ (ak _) he).elim (ha.key e) (hb.key e),λe he=>(jR _ (ak _) he).elim (ha.ver e) (hb.ver e)⟩
def aO6 {S:List (Int×Int)}{V:Int}{a b:D.aAC}(hS:KeyS S)(hV:V<=1000000)(ha:BunIn S V a.Entries)(hb:BunIn S V b.Entries):fB a b=(⟨aX a.Entries b.Entries⟩,true):=by
 unfold fB
 rw[show aM a=true from ha.ok hS hV,show aM b=true from hb.ok hS hV,(ha.merge hb).ok hS hV];rfl
end Go.VK

set_option maxRecDepth 100000
namespace Go.VK
def I7 {l:List D.Entry}(hs:Qs l)(s h:Int):(aG ⟨l⟩ s h<0/\lk l s h=none)\/(0<=aG ⟨l⟩ s h/\∃e,lk l s h=some e/\l.getD (aG ⟨l⟩ s h).toNat default=e/\(aG ⟨l⟩ s h).toNat<l.length):=by
 by_cases hf:aG ⟨l⟩ s h<0
 ·exact .inl ⟨hf,Fy λe he=>Lh (p:=same s h) hf e he⟩
 ·refine .inr ⟨by omega,?_⟩
  obtain⟨l1,e,l2,e1,e2,e3⟩:=Qi (p:=same s h) (l:=l) (i:=0) (by show 0<=aG ⟨l⟩ s h;omega)
  have e3:aG ⟨l⟩ s h=((0+l1.length:Nat):Int):=e3
  have hm:e∈l:=by rw[e1];simp
  have:=aH9 hs hm
  have h2:=same_iff.1 e2
  rw[h2.1,h2.2] at this
  refine⟨e,this,?_,?_⟩
  ·rw[e3,e1];simp
  ·rw[e3,e1];simp
def aTz {x e:D.Entry}(h:x.Version>e.Version):mV x e=true:=by
 unfold mV;rw[ao h];rfl
def aO7 {l:List D.Entry}(hs:Qs l){x:D.Entry}(h:∀e,lk l x.Site x.Handle=some e->x.Version>e.Version):(vQ ⟨l⟩ x).Entries=aX l [x]:=by
 rw[<-aSz hs]
 rcases I7 hs x.Site x.Handle with⟨h1,h2⟩|⟨h1,e,h2,h3,h4⟩
 ·rw[ao h1];rfl
 ·rw[h3,aTz (h e h2),jc];rfl
def aWe (x:D.Entry):Qs [x]:=cj.2 ⟨λy hy=>by simp at hy,List.Pairwise.nil⟩
def BunIn.one {S:List (Int×Int)}{V:Int}{x:D.Entry}(hk:(x.Site,x.Handle)∈S)(hv:1<=x.Version/\x.Version<=V):BunIn S V [x]:=
 ⟨aWe x,λe he=>by rw[cg.1 he];exact hk,λe he=>by rw[cg.1 he];exact hv⟩
def pM (l:List D.Entry)(s h:Int):Bool:=match lk l s h with|some e=> !e.Deleted|none=>false
def aBA (l:List D.Entry)(s h:Int):Int:=match lk l s h with|some e=>e.Version|none=>0
def BunIn.aBA {S:List (Int×Int)}{V:Int}{l:List D.Entry}(h:BunIn S V l)(hV:0<=V)(s q:Int):0<=aBA l s q/\aBA l s q<=V:=by
 unfold VK.aBA
 cases hq:lk l s q with
 |none=>exact⟨dg _,hV⟩
 |some e=>have:=h.ver e (rJ hq).1;show 0<=e.Version/\e.Version<=V;omega
def bEs {S:List (Int×Int)}{V:Int}(hS:KeyS S)(hV:0<=V/\V<1000000){b:D.aAC}(h:BunIn S V b.Entries){s q:Int}(hk:(s,q)∈S):
  aLy b s q=bif pM b.Entries s q then(b,false) else(⟨aX b.Entries [⟨s,q,aBA b.Entries s q+1,false⟩]⟩,true):=by
 obtain⟨l⟩:=b
 have h:BunIn S V l:=h
 have hv:=h.aBA hV.1 s q
 have hpv:(aG ⟨l⟩ s q<0->lk l s q=none)/\Vx ⟨l⟩ s q=⟨s,q,aBA l s q+1,false⟩:=by
  unfold Vx bGm
  rcases I7 h.st s q with⟨h1,h2⟩|⟨h1,e,h2,h3,h4⟩
  ·refine⟨λ_=>h2,?_⟩
   rw[ap (by omega)];unfold aBA;rw[h2];rfl
  ·refine⟨λh0=>by omega,?_⟩
   have hve:aBA l s q=e.Version:=by unfold aBA;rw[h2]
   show(⟨s,q,bif decide (aG ⟨l⟩ s q>=0) then IntKind.i64.wrap ((l.getD (aG ⟨l⟩ s q).toNat default).Version+1) else 1,false⟩:D.Entry)=_
   rw[ao h1,h3,ac,hve,aJ (by omega) (by omega)]
 have hset:(vQ ⟨l⟩ (Vx ⟨l⟩ s q))=⟨aX l [⟨s,q,aBA l s q+1,false⟩]⟩:=by
  rw[hpv.2]
  have:(vQ ⟨l⟩ ⟨s,q,aBA l s q+1,false⟩).Entries=aX l [⟨s,q,aBA l s q+1,false⟩]:=aO7 h.st λe he=>by
   have:aBA l s q=e.Version:=by unfold aBA;rw[show lk l s q=some e from he]
   show aBA l s q+1>e.Version;omega
  rw[<-this]
 have hok:aM ⟨aX l [⟨s,q,aBA l s q+1,false⟩]⟩=true:=((h.mono (W:=V+1) (by omega)).merge (.one (x:=⟨s,q,aBA l s q+1,false⟩) hk ⟨by show 1<=aBA l s q+1;omega,by show aBA l s q+1<=V+1;omega⟩)).ok hS (by omega)
 unfold aLy
 rw[hset,hok,h.ok hS (by omega)]
 rcases I7 h.st s q with⟨h1,h2⟩|⟨h1,e,h2,h3,h4⟩
 ·rw[ap (show ¬aG ⟨l⟩ s q>=0 by omega)]
  unfold pM;rw[h2];rfl
 ·rw[ao (show aG ⟨l⟩ s q>=0 from h1)]
  show(bif !(true&& !(l.getD (aG ⟨l⟩ s q).toNat default).Deleted)&&(true&&true) then _ else _)=_
  have hl:pM l s q= !e.Deleted:=by unfold pM;rw[h2]
  show _=bif pM l s q then _ else _
  rw[h3,hl]
  cases e.Deleted<;>rfl
def bEt {S:List (Int×Int)}{V:Int}(hS:KeyS S)(hV:0<=V/\V<1000000){b:D.aAC}(h:BunIn S V b.Entries){s q:Int}:
  aLz b s q=bif pM b.Entries s q then(⟨aX b.Entries [⟨s,q,aBA b.Entries s q+1,true⟩]⟩,true) else(b,false):=by
 obtain⟨l⟩:=b
 have h:BunIn S V l:=h
 have hv:=h.aBA hV.1 s q
 unfold aLz
 rw[h.ok hS (by omega)]
 rcases I7 h.st s q with⟨h1,h2⟩|⟨h1,e,h2,h3,h4⟩
 ·rw[ao (show aG ⟨l⟩ s q<0 by omega)]
  unfold pM;rw[h2];rfl
 ·have hve:aBA l s q=e.Version:=by unfold aBA;rw[h2]
  have he:=h.ver e (rJ h2).1
  have hd:bAc ⟨l⟩ s q=⟨s,q,aBA l s q+1,true⟩:=by
   unfold bAc
   show(⟨s,q,IntKind.i64.wrap ((l.getD (aG ⟨l⟩ s q).toNat default).Version+1),true⟩:D.Entry)=_
   rw[h3,hve,aJ (by omega) (by omega)]
  have hset:(vQ ⟨l⟩ (bAc ⟨l⟩ s q))=⟨aX l [⟨s,q,aBA l s q+1,true⟩]⟩:=by
   rw[hd]
   have:(vQ ⟨l⟩ ⟨s,q,aBA l s q+1,true⟩).Entries=aX l [⟨s,q,aBA l s q+1,true⟩]:=aO7 h.st λe' he'=>by
    have:aBA l s q=e'.Version:=by unfold aBA;rw[show lk l s q=some e' from he']
    show aBA l s q+1>e'.Version;omega
   rw[<-this]
  rw[hset,ap (show ¬aG ⟨l⟩ s q<0 by omega)]
  show(bif !true||(false||((l.getD (aG ⟨l⟩ s q).toNat default).Deleted||(l.getD (aG ⟨l⟩ s q).toNat default).Version==1000000)) then _ else _)=_
  have hl:pM l s q= !e.Deleted:=by unfold pM;rw[h2]
  show _=bif pM l s q then _ else _
  rw[h3,cq.2 (show e.Version≠1000000 by omega),hl]
  cases e.Deleted<;>rfl
structure ChgIn (S:List (Int×Int)) (V:Int) (d x:D.Device):Prop where
 store:x.Store=d.Store
 log:x.Log=d.Log
 key:x.Key=d.Key
 ep:x.Epoch=d.Epoch
 ver:x.Version=d.Version
 bun:BunIn S V x.aAC.Entries
 sub:Sub d.aAC.Entries x.aAC.Entries
def ChgIn.rfl' {S:List (Int×Int)}{V W:Int}{d:D.Device}(h:BunIn S V d.aAC.Entries)(hv:V<=W):ChgIn S W d d:=⟨rfl,rfl,rfl,rfl,rfl,h.mono hv, .refl _⟩
def ChgIn.trans {S:List (Int×Int)}{V W:Int}{a b c:D.Device}(h:ChgIn S V a b)(k:ChgIn S W b c):ChgIn S W a c:=
 ⟨k.store.trans h.store,k.log.trans h.log,k.key.trans h.key,k.ep.trans h.ep,k.ver.trans h.ver,k.bun,h.sub.trans k.sub⟩
def bA3 {S:List (Int×Int)}{V:Int}(hS:KeyS S)(hV:0<=V/\V<1000000){d:D.Device}(h:BunIn S V d.aAC.Entries){n:ByteArray}{q:Int}(hk:(aR n,q)∈S)(rm:Bool):ChgIn S (V+1) d (dC d n q rm).1:=by
 have hv:=h.aBA hV.1 (aR n) q
 unfold dC gY
 have one:∀f,BunIn S (V+1) (aX d.aAC.Entries [⟨aR n,q,aBA d.aAC.Entries (aR n) q+1,f⟩]):=λf=>(h.mono (by omega)).merge (.one hk ⟨by show 1<=aBA _ _ _+1;omega,by show aBA _ _ _+1<=V+1;omega⟩)
 cases rm with
 |true=>
  rw[ac,bEt hS hV h]
  cases pM d.aAC.Entries (aR n) q with
  |true=>exact⟨rfl,rfl,rfl,rfl,rfl,one _, .left h.st (aWe _)⟩
  |false=>exact .rfl' h (by omega)
 |false=>
  rw[ab,bEs hS hV h hk]
  cases pM d.aAC.Entries (aR n) q with
  |false=>exact⟨rfl,rfl,rfl,rfl,rfl,one _, .left h.st (aWe _)⟩
  |true=>exact .rfl' h (by omega)
end Go.VK

set_option maxRecDepth 100000
namespace Go.VK
structure Dv (S:List (Int×Int)) (T:Int) (log:List D.aAD) (K ep v:Int) (d:D.Device):Prop where
 pre:∃r,log=d.Log++r
 at_:d.Epoch<ep\/(d.Epoch=ep/\d.Version<=v)
 key:d.Epoch=ep->d.Key=K
 bun:BunIn S T d.aAC.Entries
structure Hs (S:List (Int×Int)) (T:Int) (K ep v:Int) (s:D.aAA):Prop where
 low:s.Epoch<=ep
 own:s.Epoch=ep->∃v' b',s=gI K ep v' b'/\0<=v'/\v'<=v/\BunIn S T b'.Entries
structure Net (S:List (Int×Int)) (t m:Nat) (w:D.World) (K v:Int) (r:List D.aAA) (b:D.aAC):Prop where
 wi:WIn m w
 bx:BoxIn w.aAE.Log w.aAE.Boxes K
 devs:∀p∈aD w.aAE.Log,∃k,k<m/\p=oO w.Seed k
 rem:∀p,fG w.aAE.Log p=true->∃k,k<m/\p=oO w.Seed k
 hist:w.aAE.History=r++[gI K (aF w.aAE.Log) v b]
 old:∀s∈r,Hs S (t:Int) K (aF w.aAE.Log) v s
 bun:BunIn S (t:Int) b.Entries
 ver:0<=v/\v<=(t:Int)
 dev:∀k (h:k<w.Devices.length),Dv S (t:Int) w.aAE.Log K (aF w.aAE.Log) v w.Devices[k]
def Dv.mono {S:List (Int×Int)}{T U:Int}{log:List D.aAD}{K ep v u:Int}{d:D.Device}(h:Dv S T log K ep v d)(hT:T<=U)(hv:v<=u):Dv S U log K ep u d:=
 ⟨h.pre,h.at_.imp id λq=>⟨q.1,eE q.2 hv⟩,h.key,h.bun.mono hT⟩
def Hs.mono {S:List (Int×Int)}{T U:Int}{K ep v u:Int}{s:D.aAA}(h:Hs S T K ep v s)(hT:T<=U)(hv:v<=u):Hs S U K ep u s:=
 ⟨h.low,λe=>let ⟨v',b',h1,h2,h3,h4⟩:=h.own e;⟨v',b',h1,h2,eE h3 hv,h4.mono hT⟩⟩
section
variable {S:List (Int×Int)} {t m:Nat} {w:D.World} {K v:Int} {r:List D.aAA} {b:D.aAC}
def Net.last (h:Net S t m w K v r b):Hs S (t:Int) K (aF w.aAE.Log) v (gI K (aF w.aAE.Log) v b):=
 ⟨dg _,λ_=>⟨v,b,rfl,h.ver.1,dg _,h.bun⟩⟩
def Net.hs (h:Net S t m w K v r b){s:D.aAA}(hs:s∈w.aAE.History):Hs S (t:Int) K (aF w.aAE.Log) v s:=by
 rw[h.hist] at hs
 rcases bq.1 hs with hs|hs
 ·exact h.old s hs
 ·rw[cg.1 hs];exact h.last
def Net.pub (h:Net S t m w K v r b){k:Nat}(hk:k<w.Devices.length):bJ w.Devices[k].Store=oO w.Seed k:=by
 unfold oO bJ fF
 rw[(h.wi.dev k hk).key]
def bA4 (K:Int):(eH K ⟨0,0,[],0⟩).2=false:=by
 unfold eH
 cases !(bG K&&(bH (D.aAA.mk 0 0 [] 0).Epoch 0 1000000&&bH (D.aAA.mk 0 0 [] 0).Version 0 1000000))||(D.aAA.mk 0 0 [] 0).MAC !=fV K ⟨0,0,[],0⟩ with
 |true=>rfl
 |false=>
  show(wK (Iq (jA K 0 0) [])).2=false
  rfl
def bId {d:D.Device}{log:List D.aAD}{bx:D.aAG}{s:D.aAA}(h:(gZ d log bx s==0)=true):
  dG log d.Log=true/\bJ d.Store∈aD log/\aF log<=s.Epoch/\(eH (bA d.Store bx).1 s).2=true/\(fB d.aAC (eH (bA d.Store bx).1 s).1).2=true:=by
 have h:=eq_of_beq h
 unfold gZ at h
 cases h1: !bL log|| !dG log d.Log with
 |true=>rw[h1] at h;cases h
 |false=>
 cases h2: !gH (aD log) (bJ d.Store) with
 |true=>rw[h1,h2] at h;cases h
 |false=>
 cases h3:bx.Epoch !=aF log|| !(bA d.Store bx).2 with
 |true=>rw[h1,h2,h3] at h;cases h
 |false=>
 cases h4:decide (s.Epoch<aF log)||(decide (s.Epoch<d.Epoch)||(s.Epoch==d.Epoch&&decide (s.Version<d.Version))) with
 |true=>rw[h1,h2,h3,h4] at h;cases h
 |false=>
 cases h5: !(eH (bA d.Store bx).1 s).2|| !(fB d.aAC (eH (bA d.Store bx).1 s).1).2 with
 |true=>rw[h1,h2,h3,h4,h5] at h;cases h
 |false=>
 simp only[cl,dw,dh] at h1 h2 h4 h5
 exact⟨h1.2,sU.1 h2,by omega,h5.1,h5.2⟩
def Net.set (h:Net S t m w K v r b){i:Nat}{x:D.Device}(hi:i<w.Devices.length)(hx:Dv S (t:Int) w.aAE.Log K (aF w.aAE.Log) v x):∀k (hk:k<(w.Devices.set i x).length),Dv S (t:Int) w.aAE.Log K (aF w.aAE.Log) v (w.Devices.set i x)[k]:=λk hk=>by
 rw[jh]
 rw[bh] at hk
 split
 ·exact hx
 ·exact h.dev k hk
def Net.upd (h:Net S t m w K v r b){u:D.World}(h1:u.Seed=w.Seed)(h2:u.aAE=w.aAE)(h3:u.Devices.length=w.Devices.length)(h4:WIn m u)
  (h5:∀k (hk:k<u.Devices.length),Dv S (t:Int) w.aAE.Log K (aF w.aAE.Log) v u.Devices[k]):Net S t m u K v r b where
 wi:=h4
 bx:=by rw[h2];exact h.bx
 devs:=by rw[h1,h2];exact h.devs
 rem:=by rw[h1,h2];exact h.rem
 hist:=by rw[h2];exact h.hist
 old:=by rw[h2];exact h.old
 bun:=h.bun
 ver:=h.ver
 dev:=by rw[h2];exact h5
def Net.mono (h:Net S t m w K v r b){u:Nat}(hu:t<=u):Net S u m w K v r b where
 wi:=h.wi
 bx:=h.bx
 devs:=h.devs
 rem:=h.rem
 hist:=h.hist
 old:=λs hs=>(h.old s hs).mono (by omega) (dg _)
 bun:=h.bun.mono (by omega)
 ver:=by have:=h.ver;omega
 dev:=λk hk=>(h.dev k hk).mono (by omega) (dg _)
def Net.aDI (h:Net S t m w K v r b)(hS:KeyS S)(ht:t<=900000){d:D.Device}(hd:Dv S (t:Int) w.aAE.Log K (aF w.aAE.Log) v d)(c:Int):Dv S (t:Int) w.aAE.Log K (aF w.aAE.Log) v (bQ d w.aAE.Log w.aAE.Boxes (dW w.aAE c).1).1:=by
 unfold bQ
 cases h0:gZ d w.aAE.Log w.aAE.Boxes (dW w.aAE c).1==0 with
 |false=>exact hd
 |true=>
  obtain⟨q1,q2,q3,q4,q5⟩:=bId h0
  have ho:=I5 h.bx q2
  rw[ho] at q4 q5
  rw[ac,ho]
  have hep:=h.bx.eps
  have hf:(dW w.aAE c).1=⟨0,0,[],0⟩\/(dW w.aAE c).1∈w.aAE.History:=by
   unfold dW
   cases hb:decide (c<0)||decide (c>=(w.aAE.History.length:Int)) with
   |true=>exact .inl rfl
   |false=>
    simp only[cl,dh] at hb
    refine .inr ?_
    have hl:w.aAE.History.length-1-c.toNat<w.aAE.History.length:=by omega
    show w.aAE.History.getD (w.aAE.History.length-1-c.toNat) default∈_
    rw[List.getD,ae hl,cu];exact cx hl
  rcases hf with hf|hf
  ·rw[hf,bA4] at q4;cases q4
  ·obtain⟨l1,l2⟩:=h.hs hf
   obtain⟨v',b',e,e1,e2,e3⟩:=l2 (by omega)
   have hv:=h.ver
   have hop:eH K (gI K (aF w.aAE.Log) v' b')=(b',true):=aO5 h.bx.kok (by omega) (by omega) (e3.ok hS (by omega))
   rw[e,hop,aO6 hS (by omega) hd.bun e3]
   exact⟨⟨[],by simp⟩, .inr ⟨rfl,e2⟩,λ_=>rfl,hd.bun.merge e3⟩
def Net.sync (h:Net S t m w K v r b)(hS:KeyS S)(ht:t<=900000)(d c:Int):Net S t m (bY w d c).1 K v r b:=by
 have hw:=h.wi.sync d c
 unfold bY at hw ⊢
 cases hb:aU w&&aL w d with
 |false=>exact h
 |true=>
  rw[hb] at hw
  rw[aa] at hb
  obtain⟨hd,e⟩:=kH hb.2
  exact h.upd rfl rfl (bh ..) hw (h.set hd (h.aDI hS ht (by rw[e];exact h.dev _ hd) c))
def bKm (h:Net S t m w K v r b):(dW w.aAE 0).1=gI K (aF w.aAE.Log) v b:=by
 unfold dW
 rw[ap (show ¬(0:Int)<0 by decide),ap (show ¬(0:Int)>=(w.aAE.History.length:Int) by rw[h.hist,av,cW];omega)]
 show w.aAE.History.getD _ default=_
 rw[h.hist];simp
def Net.aDL (h:Net S t m w K v r b){d:Int}(hd:aL w d=true):cZ w d=gH (aD w.aAE.Log) (oO w.Seed d.toNat):=by
 obtain⟨hl,e⟩:=kH hd
 unfold cZ
 rw[hd,e,h.pub hl];rfl
def aIb (w:D.World)(K v:Int)(b:D.aAC)(d:D.Device):D.Device:=⟨d.Store,w.aAE.Log,K,aF w.aAE.Log,v,⟨aX d.aAC.Entries b.Entries⟩⟩
def Net.aCA (h:Net S t m w K v r b)(hS:KeyS S)(ht:t<=900000){d:D.Device}(h1:∃r',w.aAE.Log=d.Log++r')(h2:d.Epoch<aF w.aAE.Log\/(d.Epoch=aF w.aAE.Log/\d.Version<=v))(h3:BunIn S (t:Int) d.aAC.Entries)(h4:bJ d.Store∈aD w.aAE.Log):
  bQ d w.aAE.Log w.aAE.Boxes (dW w.aAE 0).1=(aIb w K v b d,0):=by
 have hm:=aO6 hS (by omega) h3 h.bun
 have hv:=h.ver
 obtain⟨r',hr⟩:=h1
 have hs:bQ d w.aAE.Log w.aAE.Boxes (gI K (aF w.aAE.Log) v b)=(⟨d.Store,w.aAE.Log,K,aF w.aAE.Log,v,(fB d.aAC b).1⟩,0):=
  aH6 h.bx h.wi.log (by rw[hr];exact aDv _ _) h4 (by omega) (h.bun.ok hS (by omega)) rfl h2 (by rw[hm])
 rw[bKm h,hs,hm];rfl
def Net.aCG (h:Net S t m w K v r b)(hS:KeyS S)(ht:t<=900000){d:Int}(hd:cZ w d=true):
  bY w d 0=({w with Devices:=w.Devices.set d.toNat (aIb w K v b (aK w d))},0):=by
 have hd1:aL w d=true:=by unfold cZ at hd;rw[aa] at hd;exact hd.1
 obtain⟨hl,e⟩:=kH hd1
 have hD:=h.dev _ hl
 rw[<-e] at hD
 have hs:=h.aCA hS ht hD.pre hD.at_ hD.bun (by
  unfold cZ at hd
  rw[aa] at hd
  exact sU.1 hd.2)
 unfold bY
 rw[h.wi.ok,hd1,hs];rfl
def Net.aCL (h:Net S t m w K v r b){d:Int}(hd:cZ w d=false)(c:Int):((bY w d c).2==0)=false:=by
 unfold bY
 cases hb:aU w&&aL w d with
 |false=>rfl
 |true=>
  rw[aa] at hb
  unfold bQ
  cases h0:gZ (aK w d) w.aAE.Log w.aAE.Boxes (dW w.aAE c).1==0 with
  |false=>exact h0
  |true=>
   have:=(bId h0).2.1
   unfold cZ at hd
   rw[hb.2,sU.2 this] at hd;cases hd
def aT0 (w:D.World)(K v:Int)(b:D.aAC)(d:D.Device):D.Device:={aIb w K v b d with Version:=v+1}
def aBP (w:D.World)(K v:Int)(b:D.aAC)(d:Int):D.World:=
 {w with Devices:=w.Devices.set d.toNat (aT0 w K v b (aK w d)),aAE:={w.aAE with History:=w.aAE.History++[gI K (aF w.aAE.Log) (v+1) ⟨aX (aK w d).aAC.Entries b.Entries⟩]}}
def bEu {S:List (Int×Int)}{d:D.Device}(hS:KeyS S){T:Int}(hT:T<=1000000)(h1:bG d.Key=true)(h2:0<=d.Epoch/\d.Epoch<=1000000)(h3: -1<=d.Version/\d.Version<1000000)(h4:BunIn S T d.aAC.Entries):
  dK d=({d with Version:=d.Version+1},gI d.Key d.Epoch (d.Version+1) d.aAC,true):=by
 have hs:nC d.Key d.Epoch (IntKind.i64.wrap (d.Version+1)) d.aAC=(gI d.Key d.Epoch (d.Version+1) d.aAC,true):=by
  rw[aJ (by omega) (by omega)]
  unfold nC
  rw[h1,gU h2.1 h2.2,gU (show 0<=d.Version+1 by omega) (by omega),show aM d.aAC=true from h4.ok hS hT];rfl
 unfold dK
 rw[hs,aJ (show-9223372036854775808<=d.Version+1 by omega) (by omega)];rfl
def bA5 {c:D.aAE}{s:D.aAA}(h1:s.Epoch=aF c.Log)(h2:c.History.length<60)(h3:∀l,c.History.getLast? =some l->mW s l=true):dD c s=({c with History:=c.History++[s]},true):=by
 have hf:(decide ((c.History.length:Int)>0)&& !mW s (c.History.getD (c.History.length-1) default))=false:=by
  by_cases hp:c.History.length=0
  ·rw[ap (by omega)];rfl
  ·have hl:c.History.getLast? =some (c.History.getD (c.History.length-1) default):=by
    rw[List.getLast?_eq_getElem?,List.getD,ae (by omega),cu]
   rw[h3 _ hl];simp
 unfold dD
 rw[h1,dT,hf,ap (by omega)];rfl
def Net.aBM (h:Net S t m w K v r b)(hS:KeyS S)(ht:t<=900000)(hr:r.length<=58){d:Int}(hd:cZ w d=true):kK w d=(aBP w K v b d,true):=by
 have hd1:aL w d=true:=by unfold cZ at hd;rw[aa] at hd;exact hd.1
 obtain⟨hl,e⟩:=kH hd1
 have hs:=h.aCG hS (by omega) hd
 have hv:=h.ver
 have hep:=h.bx.eps
 have hD:=h.dev _ hl
 rw[<-e] at hD
 have hat:aK (bY w d 0).1 d=aIb w K v b (aK w d):=by
  rw[hs]
  unfold aK
  show(w.Devices.set d.toNat _).getD d.toNat default=_
  rw[List.getD,bg hl];rfl
 have hw:dK (aIb w K v b (aK w d))=(aT0 w K v b (aK w d),gI K (aF w.aAE.Log) (v+1) ⟨aX (aK w d).aAC.Entries b.Entries⟩,true):=
  bEu hS (T:=(t:Int)) (by omega) h.bx.kok (show 0<=aF w.aAE.Log/\aF w.aAE.Log<=1000000 by omega) (show-1<=v/\v<1000000 by omega) (hD.bun.merge h.bun)
 have hup:dD w.aAE (gI K (aF w.aAE.Log) (v+1) ⟨aX (aK w d).aAC.Entries b.Entries⟩)=({w.aAE with History:=w.aAE.History++[gI K (aF w.aAE.Log) (v+1) ⟨aX (aK w d).aAC.Entries b.Entries⟩]},true):=by
  refine bA5 rfl ?_ λl hl=> ?_
  ·rw[h.hist];simp;omega
  ·rw[h.hist,List.getLast?_append] at hl
   have hl:gI K (aF w.aAE.Log) v b=l:=by simpa using hl
   subst hl
   unfold mW
   show(decide (aF w.aAE.Log>aF w.aAE.Log)||(aF w.aAE.Log==aF w.aAE.Log&&decide (v+1>v)))=true
   rw[eh,ao (show v+1>v by omega)];simp
 unfold kK upF
 rw[hat,hw]
 rw[show(bY w d 0).1.aAE=w.aAE by rw[hs]]
 rw[hup,hs]
 show(bif (0:Int)==0&&(bif true&&true then _ else _:D.World×Bool).2 then _ else _)=_
 simp only[dt,ac,eh,List.set_set];rfl
def Net.aBP (h:Net S t m w K v r b)(hS:KeyS S)(ht:t<=900000)(hr:r.length<=58){d:Int}(hd:cZ w d=true):
  Net S (t+1) m (VK.aBP w K v b d) K (v+1) (r++[gI K (aF w.aAE.Log) v b]) ⟨aX (aK w d).aAC.Entries b.Entries⟩:=by
 have hd1:aL w d=true:=by unfold cZ at hd;rw[aa] at hd;exact hd.1
 obtain⟨hl,e⟩:=kH hd1
 have hwi:=h.wi.push d
 rw[h.aBM hS ht hr hd] at hwi
 have hv:=h.ver
 have hlen:(VK.aBP w K v b d).Devices.length=w.Devices.length:=bh ..
 have hD:=h.dev _ hl
 rw[<-e] at hD
 refine⟨hwi,h.bx,h.devs,h.rem,?_,λs hs=> ?_,(hD.bun.merge h.bun).mono (by omega),by omega,λk hk=> ?_⟩
 ·show w.aAE.History++[_]=_
  rw[h.hist];rfl
 ·rcases bq.1 hs with hs|hs
  ·exact(h.old s hs).mono (by omega) (by omega)
  ·rw[cg.1 hs];exact h.last.mono (by omega) (by omega)
 ·have:∀k (hk:k<(w.Devices.set d.toNat (aT0 w K v b (aK w d))).length),Dv S ((t+1:Nat):Int) w.aAE.Log K (aF w.aAE.Log) (v+1) (w.Devices.set d.toNat (aT0 w K v b (aK w d)))[k]:=λk hk=>by
   rw[jh]
   rw[bh] at hk
   split
   ·exact⟨⟨[],by show w.aAE.Log=w.aAE.Log++[];simp⟩, .inr ⟨rfl,dg _⟩,λ_=>rfl,(hD.bun.merge h.bun).mono (by omega)⟩
   ·exact(h.dev k hk).mono (by omega) (by omega)
  exact this k hk
def Net.aCW (h:Net S t m w K v r b)(hS:KeyS S)(ht:t<=900000)(d:Int){n:ByteArray}{a:Int}(hk:(aR n,a)∈S)(f:Bool):Net S (t+1) m (eX w d n a f).1 K v r b:=by
 have hw:=h.wi.aCW d n a f
 unfold eX at hw ⊢
 cases hb:aU w&&aL w d with
 |false=>exact h.mono (by omega)
 |true=>
  rw[hb] at hw
  rw[aa] at hb
  obtain⟨hd,e⟩:=kH hb.2
  have hD:=h.dev _ hd
  rw[<-e] at hD
  have c:=bA3 hS (by omega) hD.bun hk f
  cases hc:(dC (aK w d) n a f).2 with
  |false=>exact h.mono (by omega)
  |true=>
   rw[hc] at hw
   have h':=h.mono (u:=t+1) (by omega)
   exact h'.upd rfl rfl (bh ..) hw (h'.set hd ⟨by rw[c.log];exact hD.pre,by rw[c.ep,c.ver];exact hD.at_,by rw[c.ep,c.key];exact hD.key,c.bun.mono (by omega)⟩)
end
end Go.VK

set_option maxRecDepth 100000
namespace Go.VK
structure KeyD (S:List (Int×Int)):Prop where
 ks:KeyS S
 dv:∀q:Nat,q<6->(aR (aA 0),(q:Int))∈S/\(aR (aA 1),(q:Int))∈S
section
variable {S:List (Int×Int)} {t m:Nat} {w:D.World} {K v:Int} {r:List D.aAA} {b:D.aAC}
def sW {w:D.World}{c:Int}(h:cZ w c=true):aL w c=true:=by
 unfold cZ at h;rw[aa] at h;exact h.1
def Net.inl (h:Net S t m w K v r b){c:Int}(hc:((bY w c 0).2==0)=true):cZ w c=true:=by
 cases hl:cZ w c with
 |true=>rfl
 |false=>rw[h.aCL hl 0] at hc;cases hc
end
end Go.VK

set_option maxRecDepth 100000
namespace Go.VK
def aO8 {w:D.World}{d j:Int}(h:fC w d j=true):aU w=true/\aL w d=true/\jP w j=true:=by
 unfold fC at h
 simp only[aa] at h
 exact h
section
variable {S:List (Int×Int)} {t m:Nat} {w:D.World} {K v:Int} {r:List D.aAA} {b:D.aAC}
end
def aDw (Q:D.aAL->Prop)(s:D.Site):Prop:=∀a∈s.Accounts,∀c∈a.Credentials,Q c
def bOk (P:Int->Prop)(s:D.Site):Prop:=aDw (λc=>P c.Handle->c.Cut=true) s
def bMa (log:List D.aAD)(seed q:Int):Prop:=fG log (oO seed q.toNat)=true
def aQv (w:D.World):Prop:=∀s∈w.Sites,bOk (bMa w.aAE.Log w.Seed) s
section
variable {m:Nat} {w:D.World}
def aYm (h:WIn m w){j:Int}(hj:jP w j=true):∃hl:j.toNat<w.Sites.length,dX w j=w.Sites[j.toNat]/\(j=0\/j=1)/\SiteIn w.Seed j m (dX w j):=by
 simp only[jP,aa,cb] at hj
 have h2:=h.two
 have hl:j.toNat<w.Sites.length:=by omega
 have e:dX w j=w.Sites[j.toNat]:=by unfold dX;rw[List.getD,ae hl,cu]
 refine⟨hl,e,by omega,?_⟩
 have:=h.site _ hl
 rw[eN hj.1] at this
 rw[e];exact this
def aQv.same (hc:aQv w){u:D.World}(e1:u.Seed=w.Seed)(e2:u.aAE.Log=w.aAE.Log)(e3:∀s∈u.Sites,∃s'∈w.Sites,s.Accounts=s'.Accounts):aQv u:=λs hs=>by
 obtain⟨s',hm,e⟩:=e3 s hs
 rw[e1,e2]
 intro a ha
 rw[e] at ha
 exact hc s' hm a ha
def aQv.keep (hc:aQv w){u:D.World}(e1:u.Seed=w.Seed)(e2:u.aAE.Log=w.aAE.Log)(e3:u.Sites=w.Sites):aQv u:=hc.same e1 e2 λs hs=>⟨s,by rw[<-e3];exact hs,rfl⟩
def bG8 {Q:D.aAL->Prop}{s:D.Site}(h:aDw Q s){id q p:Int}(hq:Q ⟨q,p,0,false⟩):aDw Q (gQ s id q p).1:=by
 unfold gQ
 cases hb: !bR s||decide (aC s id<0) with
 |true=>exact h
 |false=>
  rw[ab]
  cases h2:(eD (s.Accounts.getD (aC s id).toNat default) q p).2 with
  |false=>exact h
  |true=>
   intro a ha c hc
   rw[cl] at hb
   obtain⟨k,hk,e1,e2⟩:=Lx (l:=s.Accounts) hb.2
   have ef:aC s id=(k:Int):=e1.trans (by simp)
   have ea:s.Accounts.getD (aC s id).toNat default=s.Accounts[k]:=by rw[ef,bv,List.getD,ae hk,cu]
   have ha:a∈s.Accounts.set (aC s id).toNat (eD (s.Accounts.getD (aC s id).toNat default) q p).1:=ha
   rcases List.mem_or_eq_of_mem_set ha with ha|ha
   ·exact h a ha c hc
   ·rw[ea] at ha
    have hm:c∈s.Accounts[k].Credentials\/c=⟨q,p,0,false⟩:=by
     rw[ha] at hc
     unfold eD at hc
     cases hz: !aV s.Accounts[k]|| !aV {s.Accounts[k] with Credentials:=aAr s.Accounts[k].Credentials q p} with
     |true=>rw[hz] at hc;exact .inl hc
     |false=>
      rw[hz] at hc
      have hc:c∈s.Accounts[k].Credentials.take (Lr q s.Accounts[k].Credentials)++[⟨q,p,0,false⟩]++s.Accounts[k].Credentials.drop (Lr q s.Accounts[k].Credentials):=hc
      rw[bq,bq,cg] at hc
      rcases hc with(hc|hc)|hc
      ·exact .inl (fg hc)
      ·exact .inr hc
      ·exact .inl (cU hc)
    rcases hm with hm|rfl
    ·exact h _ (cx hk) c hm
    ·exact hq
def bG9 {seed j:Int}{l:List D.aAL}(h:bAs seed j l){k:Nat}(hk:k<l.length):bC ⟨1,3,l⟩ (k:Int)=(k:Int):=by
 have hd:decide (bC ⟨1,3,l⟩ (k:Int)<0)=false:=by
  rw[dh]
  intro hn
  have:=Lh (p:=λc:D.aAL=>c.Handle==(k:Int)) hn l[k] (cx hk)
  rw[(h k hk).1,eh] at this;cases this
 obtain⟨i,hi,e1,e2⟩:=Lx (l:=l) hd
 have:=(h i hi).1
 have e2:(l[i].Handle==(k:Int))=true:=e2
 have:=eq_of_beq e2
 have e1:bC ⟨1,3,l⟩ (k:Int)=((0+i:Nat):Int):=e1
 rw[e1];omega
end
end Go.VK

set_option maxRecDepth 100000
namespace Go.VK
def Bu:List (Int×Int):=[(1941999745,0),(1941999745,1),(1941999745,2),(1941999745,3),(1941999745,4),(1941999745,5),(1464438180,0),(1464438180,1),(1464438180,2),(1464438180,3),(1464438180,4),(1464438180,5)]
def bHa {x:List (Int×Int)}(h:x.length<=8)(hx:∀p∈x,(0<=p.1/\p.1<=2147483646)/\(0<=p.2/\p.2<=1000000)):KeyD (Bu++x):=by
 refine⟨⟨by rw[av];show 12+x.length<=20;omega,λp hp=> ?_⟩,λq hq=> ?_⟩
 ·rcases bq.1 hp with hp|hp
  ·have:∀p∈Bu,(0<=p.1/\p.1<=2147483646)/\(0<=p.2/\p.2<=1000000):=by decide
   exact this p hp
  ·exact hx p hp
 ·rw[bKk,bL6]
  have:∀q:Nat,q<6->((1941999745:Int),(q:Int))∈Bu/\((1464438180:Int),(q:Int))∈Bu:=by decide
  exact⟨ig _ (this q hq).1,ig _ (this q hq).2⟩
def aQw {x:List (Int×Int)}{n:Nat}(h:n=1\/n=2\/n=3):BunIn (Bu++x) 3 (Aw n).Entries:=by
 refine⟨(aHl (aWc h).1).2,λe he=>ig _ ?_,λe he=> ?_⟩
 ·rcases h with rfl|rfl|rfl<;>revert e<;>decide
 ·rcases h with rfl|rfl|rfl<;>revert e<;>decide
def aYn {x:List (Int×Int)}{n k t pin seed:Int}(h:Bp n k t pin seed=true):Net (Bu++x) 3 (aY n k t pin seed).Devices.length (aY n k t pin seed) (bI seed 0) 1 [] (Aw n.toNat):=by
 obtain⟨w1,w2,w3⟩:=aDu h
 have hn:n.toNat=1\/n.toNat=2\/n.toNat=3:=by
  unfold Bp at h
  simp only[aa] at h
  have:=iE h.1;omega
 obtain⟨h1,h2,h3,h4,h5⟩:=kQ seed n.toNat (by omega)
 have ec:(aY n k t pin seed).aAE=⟨aO seed n.toNat,fO seed n.toNat,[gI (bI seed 0) 0 1 (Aw n.toNat)]⟩:=by
  unfold aY;rw[h];exact aAw hn
 have ed:(aY n k t pin seed).Devices=(List.range n.toNat).map λk=>Bt seed n.toNat k 1 (Aw n.toNat):=by
  unfold aY;rw[h];exact Mc hn
 rw[w2]
 refine⟨w1,by rw[ec];exact aTx (by omega) (by omega),λp hp=> ?_,λp hp=> ?_,?_,λs hs=>by simp at hs,aQw hn,by decide,λi hi=> ?_⟩
 ·rw[ec] at hp
  have hp:p∈aD (aO seed n.toNat):=hp
  rw[h2] at hp
  obtain⟨i,hi,rfl⟩:=bu.1 hp
  rw[w3]
  exact⟨i,fe.1 hi,rfl⟩
 ·rw[ec] at hp
  have hp:fG (aO seed n.toNat) p=true:=hp
  rw[h3] at hp;cases hp
 ·rw[ec]
  show[_]=[]++[gI _ (aF (aO seed n.toNat)) 1 _]
  rw[h4];rfl
 ·rw[ec]
  show Dv _ _ (aO seed n.toNat) _ (aF (aO seed n.toNat)) 1 (aY n k t pin seed).Devices[i]
  have hi':i<((List.range n.toNat).map λk=>Bt seed n.toNat k 1 (Aw n.toNat)).length:=by rw[<-ed];exact hi
  have e:(aY n k t pin seed).Devices[i]=Bt seed n.toNat i 1 (Aw n.toNat):=by
   have:(aY n k t pin seed).Devices[i]=((List.range n.toNat).map λk=>Bt seed n.toNat k 1 (Aw n.toNat))[i]:=by simp only[ed]
   rw[this];simp
  rw[e,h4]
  exact⟨⟨[],by show _=aO seed n.toNat++[];simp⟩, .inr ⟨rfl,dg _⟩,λ_=>rfl,aQw hn⟩
def bHb {n k t pin seed:Int}(h:Bp n k t pin seed=true):aQv (aY n k t pin seed):=λs hs a ha c hc hp=>by
 have hn:n.toNat=1\/n.toNat=2\/n.toNat=3:=by
  unfold Bp at h
  simp only[aa] at h
  have:=iE h.1;omega
 have ec:(aY n k t pin seed).aAE.Log=aO seed n.toNat:=by
  unfold aY;rw[h]
  show(fT seed n.toNat).Log=_
  rw[aAw hn]
 unfold bMa at hp
 rw[ec,(kQ seed n.toNat (by omega)).rem] at hp;cases hp
section
variable {S:List (Int×Int)} {t m:Nat} {w:D.World} {K v:Int} {r:List D.aAA} {b:D.aAC}
end
def bEv (M:Int)(k:D.aAR):Prop:=k.Guesses<=k.Limit/\Ky k<=M
def bEw (h:D.aAF):Prop:=bEv h.Monotonic h.State/\∀k∈h.Saved,bEv h.Monotonic k
def bEv.mono {M N:Int}{k:D.aAR}(h:bEv M k)(hm:M<=N):bEv N k:=⟨h.1,eE h.2 hm⟩
def aQx (l:List D.aAF):Prop:=∀h∈l,bEw h
def bA6 {k:D.aAR}(h:k.Guesses<=k.Limit):bEw (yZ k):=⟨⟨h,dg _⟩,λk hk=>by simp[yZ] at hk⟩
end Go.VK

set_option maxRecDepth 100000
namespace Go.VK
structure All (S:List (Int×Int)) (t:Nat) (w:D.World):Prop where
 net:∃K v r b,Net S (3+3*t) w.Devices.length w K v r b/\r.length<=t
 cut:aQv w
 hosts:aQx w.Hosts
def All.wi {S:List (Int×Int)}{t:Nat}{w:D.World}(h:All S t w):WIn w.Devices.length w:=let ⟨_,_,_,_,n,_⟩:=h.net;n.wi
def All.mono {S:List (Int×Int)}{t u:Nat}{w:D.World}(h:All S t w)(hu:t<=u):All S u w:=
 let ⟨K,v,r,b,n,hr⟩:=h.net;⟨⟨K,v,r,b,n.mono (by omega),by omega⟩,h.cut,h.hosts⟩
def bA7 {n k t pin seed:Int}:aQx (aY n k t pin seed).Hosts:=by
 unfold aY
 cases Bp n k t pin seed with
 |false=>intro h hh;simp[aYd] at hh
 |true=>
  intro h hh
  have hh:h∈(Fx seed t pin k).2.1:=hh
  unfold Fx Fw at hh
  generalize IntKind.i64.wrap (1+(aW seed [293]).tmod 1018)=q at hh
  cases hb:aGa pin 7 (aW seed [283]) q 5&& !((rG q (Lu seed t) k).length==0) with
  |false=>rw[hb] at hh;simp at hh
  |true=>
   rw[hb] at hh
   have hh:h∈(rG q (Lu seed t) k).map (λs=>yZ ⟨s,0,0,5⟩):=hh
   obtain⟨s,_,rfl⟩:=bu.1 hh
   exact bA6 (by show(0:Int)<=5;decide)
def bHc {x:List (Int×Int)}{n k t pin seed:Int}(h:Bp n k t pin seed=true):All (Bu++x) 0 (aY n k t pin seed):=
 ⟨⟨_,_,_,_,aYn (x:=x) h,ak _⟩,bHb h,bA7⟩
section
variable {S:List (Int×Int)} {t:Nat} {w:D.World}
def All.of (h:All S t w){u:D.World}{t':Nat}(ht:t<=t')(hn:∀K v r b,Net S (3+3*t) w.Devices.length w K v r b->Net S (3+3*t') w.Devices.length u K v r b)(hl:u.Devices.length=w.Devices.length)(hc:aQv u)(hh:aQx u.Hosts):All S t' u:=
 let ⟨K,v,r,b,n,hr⟩:=h.net;⟨⟨K,v,r,b,by rw[hl];exact hn K v r b n,by omega⟩,hc,hh⟩
def Ga (w:D.World)(d:Int)(n:ByteArray)(a:Int)(f:Bool):(eX w d n a f).1.aAE=w.aAE/\(eX w d n a f).1.Sites=w.Sites:=by
 unfold eX
 cases aU w&&aL w d with
 |false=>exact⟨rfl,rfl⟩
 |true=>
  simp only[ac]
  cases(dC (aK w d) n a f).2<;>exact⟨rfl,rfl⟩
def bHd {k:Nat}(h:k<w.Devices.length):aL w (k:Int)=true:=by
 unfold aL
 rw[ao (by omega),ao (by omega)];rfl
end
end Go.VK
