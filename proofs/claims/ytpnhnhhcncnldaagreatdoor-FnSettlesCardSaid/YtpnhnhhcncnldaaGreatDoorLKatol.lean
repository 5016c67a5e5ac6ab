import Derived.Test.YtpnhnhhcncnldaaGreatDoorXtFF
/- Printed by wip/tools: models, walks, proofs. -/
set_option linter.all false
set_option maxRecDepth 100000
namespace Go.VK
open D
def mY {h:Int}(v:Int)(h0:0<=h/\h<2147483647):∃q,hstep h v=h*1000003+v+13-2147483647*q/\(0<=hstep h v/\hstep h v<2147483647):=by
 obtain⟨h0,h1⟩:=h0;have hm:=uZ (p:=v) (q:=2147483647) (by decide);have hv:dX v 2147483647=v%2147483647:=cQ (by decide);have e:hstep h v=(h*1000003+v+13)%2147483647:=by unfold hstep;rw[aI (n:=h*1000003) (by omega) (by omega),aI (n:=h*1000003+dX v 2147483647) (by omega) (by omega),aI (by omega) (by omega),ct (by omega),hv];omega
 rw[e];refine⟨(h*1000003+v+13)/2147483647,?_,kg _ (by decide),jk _ (by decide)⟩;have:=Int.emod_add_mul_ediv (h*1000003+v+13) 2147483647;omega
def bN8 (k a b:Int):∃q,bP k [a,b]=k*1000009000027000028+a*1000006000009+b*1000003+11000145000724001630001411-2147483647*q:=by simp only[bP,xQ,cU,gq,cV,cI,bp,de,ja];obtain⟨q0,e0,f⟩:=mY k (h:=11) ⟨by decide,by decide⟩;generalize hstep 11 k=c at*;obtain⟨q1,l,i⟩:=mY a (h:=c) f;generalize hstep c a=d at*;obtain⟨q2,n,j⟩:=mY b (h:=d) i;generalize hstep d b=e at*;obtain⟨q3,o,p⟩:=mY k (h:=e) j;generalize hstep e k=s at*;exact⟨q0*1000009000027000027+q1*1000006000009+q2*1000003+q3*1,by omega⟩
def bN9 (k a b c:Int):∃q,bP k [a,b,c]=k*1000012000054000108000082+a*1000009000027000027+b*1000006000009+c*1000003+11000178001159003802006301004246-2147483647*q:=by simp only[bP,xQ,cU,gq,cV,cI,bp,de,ja];obtain⟨q0,e0,j⟩:=mY k (h:=11) ⟨by decide,by decide⟩;generalize hstep 11 k=d at*;obtain⟨q1,p,l⟩:=mY a (h:=d) j;generalize hstep d a=e at*;obtain⟨q2,s,n⟩:=mY b (h:=e) l;generalize hstep e b=f at*;obtain⟨q3,u,o⟩:=mY c (h:=f) n;generalize hstep f c=i at*;obtain⟨q4,x,y⟩:=mY k (h:=i) o;generalize hstep i k=z at*;exact⟨q0*1000012000054000108000081+q1*1000009000027000027+q2*1000006000009+q3*1000003+q4*1,by omega⟩
def bOa (k a b c d:Int):∃q,bP k [a,b,c,d]=k*1000015000090000270000405000244+a*1000012000054000108000081+b*1000009000027000027+c*1000006000009+d*1000003+11000211001693007279017707023149012751-2147483647*q:=by simp only[bP,xQ,cU,gq,cV,cI,bp,de,ja];obtain⟨q0,e0,n⟩:=mY k (h:=11) ⟨by decide,by decide⟩;generalize hstep 11 k=e at*;obtain⟨q1,x,o⟩:=mY a (h:=e) n;generalize hstep e a=f at*;obtain⟨q2,y,p⟩:=mY b (h:=f) o;generalize hstep f b=i at*;obtain⟨q3,z,s⟩:=mY c (h:=i) p;generalize hstep i c=j at*;obtain⟨q4,A,u⟩:=mY d (h:=j) s;generalize hstep j d=l at*;obtain⟨q5,D,F⟩:=mY k (h:=l) u;generalize hstep l k=G at*;exact⟨q0*1000015000090000270000405000243+q1*1000012000054000108000081+q2*1000009000027000027+q3*1000006000009+q4*1000003+q5*1,by omega⟩
def Yx (n:Int):∃e,kH n=n+e/\0<=e/\e<=1:=by
 unfold kH;by_cases h:n=0
 ·subst h;exact⟨1,rfl,by decide,by decide⟩
 ·rw[cj.2 h];exact⟨0,by simp,by decide,by decide⟩
def bOb (s i:Int):(aO s i).Seed=kH (bP s [151,277,i]):=by unfold aO aY;simp only[cI,bp]
def bOc (s:AK):iG s=kH (bP s.Seed [151,181]):=by unfold iG aY;simp only[cI,bp]
def bHz (s:AK)(n:ByteArray)(i:Int):dH s n i=kH (bP s.Seed [151,179,bI n,i]):=by unfold dH aY;simp only[cI,bp]
def bCx (s i k:Int):∃e q,(aO s i).Seed-(aO s k).Seed=(i-k)*1000003+e+2147483647*q/\-1<=e/\e<=1:=by have hi:(aO s i).Seed=kH (bP s [151,277,i]):=bOb s i;have hk:(aO s k).Seed=kH (bP s [151,277,k]):=bOb s k;obtain⟨a,c,j,l⟩:=Yx (bP s [151,277,i]);obtain⟨d,b1,n,o⟩:=Yx (bP s [151,277,k]);obtain⟨q1,f⟩:=bN9 s 151 277 i;obtain⟨q2,h⟩:=bN9 s 151 277 k;rw[hi,hk,c,b1,f,h];exact⟨a-d,q2-q1,by omega,by omega,by omega⟩
def dfs:List Int:=[-5,-4,-3,-2,-1,0,1,2,3,4,5]
def bKh:List Int:=[-1,0,1]
def bH0 {d:Int}(h1: -5<=d)(h2:d<=5):d∈dfs:=by simp only[dfs,ba,fL,or_false];omega
def aC5 {d:Int}(h1: -1<=d)(h2:d<=1):d∈bKh:=by simp only[bKh,ba,fL,or_false];omega
def bRk:(dfs.all λd=>d==0||bKh.all λe=>bKh.all λz=> !((d*1000003+e)*1000009000027000028-z)%2147483647==0)=true:=by kernel_rfl
def bKi {s i k:Int}(hi:0<=i/\i<6)(hk:0<=k/\k<6)(h:i≠k):iG (aO s i)≠iG (aO s k):=by
 intro he;obtain⟨e,q,d1,d2,d3⟩:=bCx s i k;have h1:iG (aO s i)=kH (bP (aO s i).Seed [151,181]):=bOc _;have h2:iG (aO s k)=kH (bP (aO s k).Seed [151,181]):=bOc _;obtain⟨a,c,n,o⟩:=Yx (bP (aO s i).Seed [151,181]);obtain⟨d,b1,p,u⟩:=Yx (bP (aO s k).Seed [151,181]);obtain⟨q1,f⟩:=bN8 (aO s i).Seed 151 181;obtain⟨q2,j⟩:=bN8 (aO s k).Seed 151 181;rw[h1,h2,c,b1,f,j] at he;have l:(((i-k)*1000003+e)*1000009000027000028-(d-a))%2147483647=0:=by clear h1 h2 c b1 f j;generalize(aO s i).Seed=x at*;generalize(aO s k).Seed=y at*;omega
 have:=cG.1 bRk (i-k) (bH0 (by omega) (by omega));rw[cj.2 (show i-k≠0 by omega),cx] at this;have:=cG.1 (cG.1 this e (aC5 d2 d3)) (d-a) (aC5 (by omega) (by omega));rw[l] at this;cases this
def hs1:Int:=1464438180
def bWu:bI (aA 0)=1941999745:=by kernel_rfl
def bWv:bI (aA 1)=1464438180:=by kernel_rfl
def bOd:(dfs.all λd=>[0,477561565,-477561565].all λ(g:Int)=>(d==0&&g==0)||bKh.all λe=>bKh.all λz=> !((d*1000003+e)*1000015000090000270000405000244+g*1000006000009+d*1000003-z)%2147483647==0)=true:=by kernel_rfl
def bCy {s i k j l:Int}(hi:0<=i/\i<6)(hk:0<=k/\k<6)(c:j=0\/j=1)(hl:l=0\/l=1)(h:i≠k\/j≠l):dH (aO s i) (aA j) i≠dH (aO s k) (aA l) k:=by
 intro he;obtain⟨e,q,d1,d2,d3⟩:=bCx s i k;have h1:dH (aO s i) (aA j) i=kH (bP (aO s i).Seed [151,179,bI (aA j),i]):=bHz _ _ _;have h2:dH (aO s k) (aA l) k=kH (bP (aO s k).Seed [151,179,bI (aA l),k]):=bHz _ _ _;obtain⟨d,f,z,A⟩:=Yx (bP (aO s i).Seed [151,179,bI (aA j),i]);obtain⟨n,b1,D,F⟩:=Yx (bP (aO s k).Seed [151,179,bI (aA l),k]);obtain⟨q1,o⟩:=bOa (aO s i).Seed 151 179 (bI (aA j)) i;obtain⟨q2,p⟩:=bOa (aO s k).Seed 151 179 (bI (aA l)) k;rw[h1,h2,f,b1,o,p] at he;obtain⟨g,hg,a⟩:∃g,bI (aA j)-bI (aA l)=g/\(g∈[0,477561565,(-477561565:Int)]/\(j≠l->g≠0)):=by
  rcases c with rfl|rfl<;>rcases hl with rfl|rfl<;>simp only[bWu,bWv]
  ·exact⟨0,by decide,by decide,by decide⟩
  ·exact⟨477561565,by decide,by decide,by decide⟩
  ·exact⟨-477561565,by decide,by decide,by decide⟩
  ·exact⟨0,by decide,by decide,by decide⟩
 have u:(((i-k)*1000003+e)*1000015000090000270000405000244+g*1000006000009+(i-k)*1000003-(n-d))%2147483647=0:=by clear h1 h2 f b1 o p;generalize(aO s i).Seed=x at*;generalize(aO s k).Seed=y at*;generalize bI (aA j)=x1 at*;generalize bI (aA l)=G at*;clear a c hl h;omega
 have:=cG.1 (cG.1 bOd (i-k) (bH0 (by omega) (by omega))) g a.1;rw[show(i-k==0&&g==0)=false by
  rcases h with h|h
  ·rw[cj.2 (show i-k≠0 by omega)];rfl
  ·rw[cj.2 (a.2 h),dl],cx] at this
 have:=cG.1 (cG.1 this e (aC5 d2 d3)) (n-d) (aC5 (by omega) (by omega));rw[u] at this;cases this
def bKj {n:Int}(h:0<=n/\n<2147483647):bL (kH n)=true:=by
 unfold kH bL bK;by_cases h0:n=0
 ·subst h0;rfl
 ·rw[cj.2 h0,aa,ak (show 1<=n by omega),ak (show n<=2147483646 by omega)];rfl
def iR (s:Int)(l:List Int):bL (aY s l)=true:=bKj (mO _ _)
def aQq {k:Int}(h:bL k=true):1<=k/\k<=2147483646:=iC h
def bS6 {k:Int}(h:bL k=true):cZ k=k*48271%2147483647:=by have:=aQq h;unfold cZ;rw[h,ay,aa,aI (by omega) (by omega),ct (by omega)]
def bH1 {k:Int}(h:bL k=true):bL (cZ k)=true:=by
 have:=aQq h;rw[bS6 h];have:k*48271%2147483647≠0:=by omega
 unfold bL bK;rw[ak (show 1<=k*48271%2147483647 by omega),ak (show k*48271%2147483647<=2147483646 by omega)];rfl
def Ii {k:Int}(h:bL k=true):gQ (cZ k)=k:=by have:=aQq h;unfold gQ;rw[bH1 h,ay,aa,bS6 h];omega
def bH2 {a b:Int}(c:bL a=true)(hb:bL b=true)(h:cZ a=cZ b):a=b:=by rw[<-Ii c,h,Ii hb]
def bFk {s i k j l:Int}(hi:0<=i/\i<6)(hk:0<=k/\k<6)(a:j=0\/j=1)(hl:l=0\/l=1)(h:i≠k\/j≠l):fD (aO s i) (aA j) i≠fD (aO s k) (aA l) k:=
 λhe=>bCy hi hk a hl h (bH2 (iR _ _) (iR _ _) he)
def bKk {s i k:Int}(hi:0<=i/\i<6)(hk:0<=k/\k<6)(h:i≠k):aT (aO s i)≠aT (aO s k):=
 λhe=>bKi hi hk h (bH2 (iR _ _) (iR _ _) he)
def Nb {α:Type}{p:Nat->α->Bool}:∀{l:List α} {i:Nat},(∀k (h:k<l.length),p (i+k) l[k]=false)->gM p i l=false
 |[],i,_=>rfl
 |x::l,i,h=>by
  have h0:=h 0 (by simp);have a:=Nb (p:=p) (l:=l) (i:=i+1) (λk hk=>by
   have:=h (k+1) (by simpa using hk);rw[show i+1+k=i+(k+1) by omega];simpa using this)
  simp only[gM,eg,ip] at h0 ⊢;rw[h0,a];rfl
def T9 {α:Type}{p:Nat->α->Bool}:∀{l:List α} {i:Nat},gM p i l=false->∀k (h:k<l.length),p (i+k) l[k]=false
 |x::l,i,h,0,_=>by simp only[gM,bo] at h;simpa using h.1
 |x::l,i,h,k+1,hk=>by
  simp only[gM,bo] at h;have:=T9 h.2 k (by simpa using hk);rw[show i+(k+1)=i+1+k by omega];simpa using this
def Qa (seed j:Int)(k:Nat):Int:=fD (aO seed (k:Int)) (aA j) (k:Int)
def Nc (seed j:Int)(l:List AV):Prop:=∀k (h:k<l.length),l[k].Handle=(k:Int)/\l[k].Public=Qa seed j k/\0<=l[k].Counter/\l[k].Counter<=1000000
def gT {x a b:Int}(h1:a<=x)(h2:x<=b):bK x a b=true:=by unfold bK;rw[ak h1,ak h2];rfl
def bRl {seed j l:Int}{i k:Nat}(hi:i<6)(hk:k<6)(a:j=0\/j=1)(hl:l=0\/l=1)(h:i≠k\/j≠l):Qa seed j i≠Qa seed l k:=
 bFk (by omega) (by omega) a hl (by omega)
def bKl (seed j:Int)(k:Nat):gQ (Qa seed j k)=dH (aO seed (k:Int)) (aA j) (k:Int):=by unfold Qa fD;exact Ii (by unfold dH;exact iR _ _)
def aQr {seed j m:Int}{l:List AV}(d:j=0\/j=1)(h:Nc seed j l)(hl:l.length<=6)(hm:1<=m/\m<=3):bB ⟨1,m,l⟩=true:=by
 have e:gM (wC ⟨1,m,l⟩) 0 l=false:=Nb λk hk=>by
  obtain⟨h1,h2,f,n⟩:=h k hk;have hp:=aQq (iR (aO seed (k:Int)).Seed [179,bI (aA j),(k:Int)]);unfold wC;rw[cg,h1,gT (by omega) (by omega),h2,bKl,cj.2 (show dH (aO seed (k:Int)) (aA j) (k:Int)≠0 by unfold dH;omega),gT f n];have o:(decide (0<k)&&decide ((l.getD (k-1) default).Handle>=(k:Int)))=false:=by
   by_cases c:0<k
   ·have a:k-1<l.length:=by omega
    have:=(h (k-1) a).1;rw[List.getD,ae a,ci,this,ao (show ¬((k-1:Nat):Int)>=(k:Int) by omega),dl]
   ·rw[ao c,e8]
  have p:((l.take k).any λq=>q.Public==Qa seed j k)=false:=by rw[ia];intro q hq;obtain⟨i,hi,rfl⟩:=dh.1 hq;rw[bw] at hi;rw[fe,(h i (by omega)).2.1];simp only[cH];exact bRl (by omega) (by omega) d d (.inl (by omega))
  show(!true||((decide (0<k)&&decide ((l.getD (k-1) default).Handle>=(k:Int)))||(false|| !true))||(l.take k).any λq=>q.Public==Qa seed j k)=false;rw[o,p];rfl
 unfold bB;show(bK 1 0 1000000&&bK m 1 3&&decide (l.length<=8)&& !gM (wC ⟨1,m,l⟩) 0 l)=true;rw[e,gT hm.1 hm.2,ak (show l.length<=8 by omega)];rfl
structure SiteIn (seed j:Int) (n:Nat) (s:AC):Prop where
 name:s.Name=aA j
 book:eQ s.Book=true
 key:bL s.Book.Seed=true
 acc:∃l,s.Accounts=[⟨1,3,l⟩]/\Nc seed j l/\l.length=n
def aHq {j:Int}(a:j=0\/j=1):(iK (aA j)&&decide (2<=(bO (aA j)).length))=true:=by rcases a with rfl|rfl<;>kernel_rfl
def SiteIn.ok {seed j:Int}{n:Nat}{s:AC}(a:j=0\/j=1)(hn:n<=6)(h:SiteIn seed j n s):dK s=true:=by obtain⟨h1,h2,c,l,d,e,f⟩:=h;unfold dK lD;rw[h1,aHq a,c,h2,d];show(true&&true&&decide (1<=8)&&true&& !(Mo [⟨1,3,l⟩] 0 ⟨1,3,l⟩||false))=true;unfold Mo;rw[aQr a e (by omega) ⟨by decide,by decide⟩];rfl
def SiteIn.find {seed j:Int}{n:Nat}{s:AC}(h:SiteIn seed j n s):aF s 1=0:=by obtain⟨_,_,_,l,a,_⟩:=h;unfold aF;rw[a];rfl
def aYd {α:Type}{p:α->Bool}:∀{l:List α},(∀c∈l,p c=true)->l.takeWhile p=l
 |[],_=>rfl
 |x::l,h=>by rw[dp,h x (by simp),cQ rfl,aYd (λc hc=>h c (by simp[hc]))]
def bOe {l:List AV}{p:Int}(h:∀k (h:k<l.length),l[k].Handle=(k:Int)):aHg l (l.length:Int) p=l++[⟨(l.length:Int),p,0,false⟩]:=by
 have:Zl (l.length:Int) l=l.length:=by unfold Zl;rw[aYd];intro c hc;obtain⟨i,hi,rfl⟩:=dh.1 hc;rw[h i hi];exact ak (by omega)
 unfold aHg;rw[this,di,dq,cV]
def Nc.snoc {seed j:Int}{l:List AV}(h:Nc seed j l):Nc seed j (l++[⟨(l.length:Int),Qa seed j l.length,0,false⟩]):=by
 intro k hk;by_cases a:k<l.length
 ·rw[ib a];exact h k a
 ·have:k=l.length:=by simp at hk;omega
  subst this;simp
def SiteIn.reg {seed j:Int}{n:Nat}{s:AC}(d:j=0\/j=1)(hn:n<6)(h:SiteIn seed j n s):
  (gD s 1 (n:Int) (Qa seed j n)).2=true/\SiteIn seed j (n+1) (gD s 1 (n:Int) (Qa seed j n)).1:=by
 have e:=h.ok d (by omega);have c:=h.find;obtain⟨h1,h2,o,l,i,f,q⟩:=h;subst q;have u:(s.Accounts.getD (aF s 1).toNat default)=⟨1,3,l⟩:=by rw[c,i];rfl
 have hi:=bOe (p:=Qa seed j l.length) (λk hk=>(f k hk).1);have hs:=f.snoc;have x:=aQr (m:=3) d f (by omega) ⟨by decide,by decide⟩;have y:=aQr (m:=3) d hs (by simp;omega) ⟨by decide,by decide⟩;have a:iN ⟨1,3,l⟩ (l.length:Int) (Qa seed j l.length)=(⟨1,3,l++[⟨(l.length:Int),Qa seed j l.length,0,false⟩]⟩,true):=by unfold iN;rw[x];show(bif !true|| !bB ⟨1,3,aHg l (l.length:Int) (Qa seed j l.length)⟩ then _ else _)=_;rw[hi,y];rfl
 unfold gD;rw[e,c,show decide ((0:Int)<0)=false from rfl,<-c,u,a,c,i];exact⟨rfl,h1,h2,o,_,rfl,hs,by simp⟩
def bFl {seed j:Int}(c:j=0\/j=1):SiteIn seed j 0 (oJ (iL (aA j) (aY seed [281,j])) 1 3).1:=by
 have hk:=iR seed [281,j];generalize aY seed [281,j]=q at*;have hn:iL (aA j) q=⟨aA j,[],⟨q,0,[]⟩,[]⟩:=by unfold iL lD;rw[aHq c,hk];rfl
 have hb:eQ ⟨q,0,[]⟩=true:=rfl;have a:SiteIn seed j 0 (qG ⟨aA j,[],⟨q,0,[]⟩,[]⟩ 1 3):=
  ⟨rfl,hb,hk,[],rfl,λk hk=>by simp at hk,rfl⟩
 have h0:dK ⟨aA j,[],⟨q,0,[]⟩,[]⟩=true:=by unfold dK lD;rw[aHq c,hk];rfl
 unfold oJ;rw[hn,h0,a.ok c (by omega)];exact a
def aQs {seed j:Int}(a:j=0\/j=1):∀(m i:Nat) (s:AC),SiteIn seed j i s->i+m<=6->
  SiteIn seed j (i+m) (wE (aA j) i ((List.range' i m).map λ(k:Nat)=>bG (aO seed (k:Int))) s)
 |0,i,s,h,_=>h
 |m+1,i,s,h,hm=>by
  have:=aQs a m (i+1) _ (h.reg a (by omega)).2 (by omega);rw[show i+1+m=i+(m+1) by omega] at this;exact this
def aLp {seed j:Int}(a:j=0\/j=1){n:Nat}(hn:n<=6):SiteIn seed j n (Ti seed (dM seed n) j):=by have:=aQs a n 0 _ (bFl (seed:=seed) a) (by omega);rw[cg,<-List.range_eq_range'] at this;exact this
def bCz {α:Type}{r:α->α->Prop}(ht:∀a b c,r a b->r b c->r a c):∀{l:List α},(∀k (h:k+1<l.length),r l[k] l[k+1])->l.Pairwise r
 |[],_=> .nil
 |[x],_=>ig r x
 |x::y::l,h=>by
  have e:=bCz (r:=r) ht (l:=y::l) (λk hk=>by have:=h (k+1) (by simpa using hk);simpa using this);refine cp.2 ⟨λz d=> ?_,e⟩;have h0:r x y:=by simpa using h 0 (by simp)
  rcases ba.1 d with rfl|d
  ·exact h0
  ·exact ht _ _ _ h0 ((cp.1 e).1 z d)
structure BookIn (b:AP):Prop where
 next:0<=b.Next/\b.Next<=1000000
 len:b.Open.length<=16
 ord:b.Open.Pairwise (λa c=>a.Id<c.Id)
 all:∀c∈b.Open,(0<=c.Id/\c.Id<b.Next)/\(0<=c.aAH/\c.aAH<=1000005)/\(0<=c.Until/\c.Until<=1000005)
def BookIn.ok {b:AP}(h:BookIn b):eQ b=true:=by
 obtain⟨h1,h2,f,i⟩:=h;have j:gM (iJ b) 0 b.Open=false:=Nb λk hk=>by
  obtain⟨n,d,e⟩:=i b.Open[k] (cf hk);unfold iJ;rw[cg,aI (by omega) (by omega),gT (by omega) (by omega),gT d.1 d.2,gT e.1 e.2];have l:(decide (0<k)&&decide ((b.Open.getD (k-1) default).Id>=b.Open[k].Id))=false:=by
   by_cases c:0<k
   ·have a:k-1<b.Open.length:=by omega
    have:=eo.1 f (k-1) k a hk (by omega);rw[List.getD,ae a,ci,ao (show ¬b.Open[k-1].Id>=b.Open[k].Id by omega),dl]
   ·rw[ao c,e8]
  rw[l];rfl
 unfold eQ;rw[j,gT h1.1 h1.2,ak h2];rfl
def Yy {b:AP}(h:eQ b=true):BookIn b:=by
 unfold eQ at h;simp only[ab,bq,bz] at h;obtain⟨⟨h1,h2⟩,l⟩:=h;have h1:=iC h1;have hg:∀k (hk:k<b.Open.length),((0<=b.Open[k].Id/\b.Open[k].Id<b.Next)/\(0<=b.Open[k].aAH/\b.Open[k].aAH<=1000005)/\(0<=b.Open[k].Until/\b.Open[k].Until<=1000005))/\(0<k->(b.Open.getD (k-1) default).Id<b.Open[k].Id):=λk hk=>by
  have:=T9 l k hk;unfold iJ at this;rw[cg,aI (by omega) (by omega)] at this;simp only[bo,cR,Bool.and_eq_false_iff,cu] at this;obtain⟨f,j,d,e⟩:=this;have f:=iC f;have d:=iC d;have e:=iC e;exact⟨⟨⟨f.1,by omega⟩,⟨d.1,d.2⟩,e.1,e.2⟩,λh0=>by rcases j with j|j<;>omega⟩
 refine⟨⟨h1.1,h1.2⟩,h2,bCz (r:=λa c:A0=>a.Id<c.Id) (λa b c h1 h2=>Int.lt_trans h1 h2) (λk hk=> ?_),λc hc=> ?_⟩
 ·have:=(hg (k+1) hk).2 (by omega);rw[Nat.add_sub_cancel,List.getD,ae (show k<b.Open.length by omega),ci] at this;exact this
 ·obtain⟨i,hi,rfl⟩:=dh.1 hc;exact(hg i hi).1
def bC0 {b:AP}(h:BookIn b)(a n:Int):BookIn (eH b a n).1/\(eH b a n).1.Seed=b.Seed/\b.Next<=(eH b a n).1.Next/\(eH b a n).1.Next<=b.Next+1:=by
 unfold eH;rw[h.ok];by_cases hn:b.Next=1000000
 ·have e:∀{x y:AP×A0×Bool},(bif true&&(!(b.Next==1000000)&&(bK a 0 1000000&&bK n 0 1000000)) then x else y)=y:=by intro x y;rw[hn];rfl
  rw[e];exact⟨h,rfl,cJ _,by show b.Next<=_;omega⟩
 ·rw[cj.2 hn];cases hr:bK a 0 1000000&&bK n 0 1000000 with
  |false=>exact⟨h,rfl,cJ _,by show b.Next<=_;omega⟩
  |true=>
   rw[ab] at hr;have p:=iC hr.1;have q:=iC hr.2;obtain⟨h1,h2,i,j⟩:=h;have d:IntKind.i64.wrap (b.Next+1)=b.Next+1:=aI (by omega) (by omega);have f:IntKind.i64.wrap (n+5)=n+5:=aI (by omega) (by omega);have key:∀l:List A0,l.length<=15->l.Pairwise (λa c=>a.Id<c.Id)->(∀c∈l,c∈b.Open)->BookIn ⟨b.Seed,IntKind.i64.wrap (b.Next+1),l++[aC0 b a n]⟩:=λl hl ho hm=>by
    rw[d];refine⟨⟨show 0<=b.Next+1 by omega,show b.Next+1<=1000000 by omega⟩,by simp;omega,?_,λc hc=> ?_⟩
    ·show(l++[aC0 b a n]).Pairwise _;refine List.pairwise_append.2 ⟨ho,ig _ _,λx k y o=> ?_⟩
     rw[cm.1 o];exact(j x (hm x k)).1.2
    ·rcases bu.1 hc with hc|hc
     ·obtain⟨q1,q2,q3⟩:=j c (hm c hc);exact⟨⟨q1.1,show c.Id<b.Next+1 by omega⟩,q2,q3⟩
     ·rw[cm.1 hc];refine⟨⟨h1.1,show b.Next<b.Next+1 by omega⟩,⟨show 0<=a by omega,show a<=1000005 by omega⟩,?_⟩;show 0<=IntKind.i64.wrap (n+5)/\IntKind.i64.wrap (n+5)<=1000005;rw[f];omega
   simp only[cY,cw,ac];cases hd:decide ((b.Open.length:Int)>=16) with
   |true=>refine⟨key _ (by simp only[ac,cy];omega) ?_ (λc hc=>cX hc),by first|rfl|trivial,by first|(rw[d];omega)|(simp only[d];omega),by first|(rw[d];omega)|(simp only[d];omega)⟩;exact i.sublist (List.drop_sublist _ _)
   |false=>have:=of_decide_eq_false hd;exact⟨key _ (by simp only[aa];omega) i (λc hc=>hc),by first|rfl|trivial,by first|(rw[d];omega)|(simp only[d];omega),by first|(rw[d];omega)|(simp only[d];omega)⟩
def bRm {b:AP}(h:BookIn b)(c a n:Int):BookIn (qE b c a n).1/\(qE b c a n).1.Seed=b.Seed:=by
 unfold qE;rw[h.ok];cases decide (dS b c<0) with
 |true=>exact⟨h,rfl⟩
 |false=>
  obtain⟨h1,h2,e,f⟩:=h;have d:(b.Open.take (dS b c).toNat++b.Open.drop ((dS b c).toNat+1)).Sublist b.Open:=by
   conv=>rhs;rw[<-cP (dS b c).toNat b.Open]
   refine List.Sublist.append (List.Sublist.refl _) ?_;rw[<-kn];exact List.drop_sublist _ _
  exact⟨⟨h1,ca d.length_le h2,e.sublist d,λc hc=>f c (d.subset hc)⟩,rfl⟩
def SiteIn.aBM {seed j:Int}{n:Nat}{s:AC}(h:SiteIn seed j n s){b:AP}(hb:BookIn b)(hs:b.Seed=s.Book.Seed):SiteIn seed j n {s with Book:=b}:=
 ⟨h.name,hb.ok,by show bL b.Seed=true;rw[hs];exact h.key,h.acc⟩
def SiteIn.begin {seed j:Int}{n:Nat}{s:AC}(h:SiteIn seed j n s)(i t:Int):SiteIn seed j n (lY s i t).1:=by
 unfold lY;cases dK s&&(!decide (aF s i<0)&&(eH s.Book i t).2.2) with
 |false=>exact h
 |true=>have:=bC0 (Yy h.book) i t;exact h.aBM this.1 this.2.1
def Nc.set {seed j:Int}{l:List AV}(h:Nc seed j l){k:Nat}(hk:k<l.length){c:AV}(h1:c.Handle=l[k].Handle)(h2:c.Public=l[k].Public)(a:0<=c.Counter/\c.Counter<=1000000):Nc seed j (l.set k c):=by
 intro i hi;rw[eR];rw[ax] at hi;split
 ·rename_i e;subst e;have:=h k hk;exact⟨h1.trans this.1,h2.trans this.2.1,a⟩
 ·exact h i hi
def Aj {α:Type}{p:α->Bool}:∀{l:List α} {i:Nat},decide (kE p i l<0)=false->∃k,∃h:k<l.length,kE p i l=((i+k:Nat):Int)/\p l[k]=true
 |[],i,h=>by simp[kE] at h
 |x::l,i,h=>by
  unfold kE at h ⊢;cases hp:p x with
  |true=>exact⟨0,by simp,by simp,by simpa using hp⟩
  |false=>rw[hp,aa] at h;obtain⟨k,hk,a,c⟩:=Aj h;exact⟨k+1,by simpa using hk,by rw[aa,a];congr 1;omega,by simpa using c⟩
def Nc.use {seed j:Int}{l:List AV}(h:Nc seed j l)(x:AY)(z:ByteArray)(c:Int)(d:0<=x.Counter/\x.Counter<=1000000):
  ∃l',(jZ ⟨1,3,l⟩ x z c).1=⟨1,3,l'⟩/\Nc seed j l'/\l'.length=l.length/\∀k (h1:k<l.length) (h2:k<l'.length),l[k].Cut=true->l'[k].Cut=true:=by
 unfold jZ;cases hb: !bB ⟨1,3,l⟩||(decide (aS ⟨1,3,l⟩ x.Handle<0)||(gH ⟨1,3,l⟩ (aS ⟨1,3,l⟩ x.Handle)).Cut) with
 |true=>exact⟨l,rfl,h,rfl,λk h1 h2 e=>e⟩
 |false=>
  simp only[bo] at hb;obtain⟨k,hk,f,A⟩:=Aj (l:=l) hb.2.1;have n:aS ⟨1,3,l⟩ x.Handle=(k:Int):=f.trans (by simp);have o:gH ⟨1,3,l⟩ (k:Int)=l[k]:=by unfold gH;simp[List.getD,ae hk]
  rw[n,o,aa,bv];have a:∀c:AV,c.Handle=l[k].Handle->c.Public=l[k].Public->0<=c.Counter/\c.Counter<=1000000->(l[k].Cut=true->c.Cut=true)->
    ∃l',(AI.mk 1 3 (l.set k c))=⟨1,3,l'⟩/\Nc seed j l'/\l'.length=l.length/\∀i (h1:i<l.length) (h2:i<l'.length),l[i].Cut=true->l'[i].Cut=true:=λc p s u y=>
   ⟨_,rfl,h.set hk p s u,ax,λi h1 h2 e=>by
    rw[eR];split
    ·rename_i q;subst q;exact y e
    ·exact e⟩
  cases kM l[k].Public x z c l[k].Counter==0 with
  |true=>exact a _ rfl rfl d (λe=>e)
  |false=>
   cases kM l[k].Public x z c l[k].Counter==4 with
   |true=>exact a _ rfl rfl (h k hk).2.2 (λ_=>rfl)
   |false=>exact⟨l,rfl,h,rfl,λk h1 h2 e=>e⟩
def SiteIn.aBX {seed j:Int}{n:Nat}{s:AC}(h:SiteIn seed j n s){l:List AV}(hl:Nc seed j l)(hn:l.length=n)(g:List Int)(b:AP)(hb:BookIn b)(hs:b.Seed=s.Book.Seed):SiteIn seed j n {s with Book:=b,Accounts:=[⟨1,3,l⟩],Logins:=g}:=
 ⟨h.name,hb.ok,by show bL b.Seed=true;rw[hs];exact h.key,l,rfl,hl,hn⟩
def SiteIn.finish {seed j:Int}{n:Nat}{s:AC}(h:SiteIn seed j n s)(c t:Int)(x:AY)(a:0<=x.Counter/\x.Counter<=1000000):SiteIn seed j n (pE s 1 c t x).1:=by
 have d:=h.find;have hk:=bRm (Yy h.book) c 1 t;unfold pE;rw[d];cases !dK s||decide ((0:Int)<0) with
 |true=>exact h
 |false=>
  simp only[aa];cases !(qE s.Book c 1 t).2 with
  |true=>exact h.aBM hk.1 hk.2
  |false=>
   simp only[aa];cases !sM (fU s 0) 3 with
   |true=>exact h.aBM hk.1 hk.2
   |false=>
    obtain⟨l,e,hl,hn⟩:=h.acc;have f:fU s 0=⟨1,3,l⟩:=by unfold fU;rw[e];rfl
    obtain⟨l',q1,q2,q3,_⟩:=hl.use x s.Name (fJ s.Book c) a;simp only[aa,f,q1];rw[show s.Accounts.set (0:Int).toNat ⟨1,3,l'⟩=[⟨1,3,l'⟩] by rw[e];rfl];cases !((jZ ⟨1,3,l⟩ x s.Name (fJ s.Book c)).2==0) with
    |true=>exact h.aBX q2 (q3.trans hn) s.Logins _ hk.1 hk.2
    |false=>exact h.aBX q2 (q3.trans hn) (s.Logins++[1]) _ hk.1 hk.2
def bOf (s:AK)(z:ByteArray)(i:Int)(m:List Int):(gN s z i m).1.Seed=s.Seed/\(gN s z i m).1.Vendor=s.Vendor/\(gN s z i m).1.Serial=s.Serial/\((gN s z i m).2.2=true->(gN s z i m).1.Counter=s.Counter+1/\0<=s.Counter/\s.Counter<1000000)/\((gN s z i m).2.2=false->(gN s z i m).1=s):=by
 unfold gN;cases hb:lG s&& !(s.Counter==1000000) with
 |false=>exact⟨rfl,rfl,rfl,λh=>(by cases h),λ_=>rfl⟩
 |true=>
  simp only[ab,bz,cj] at hb;have hs:=hb.1;unfold lG at hs;simp only[ab] at hs;have hc:=iC hs.2.2.2;refine⟨rfl,rfl,rfl,⟨λ_=> ?_,λh=>by cases h⟩⟩
  have:IntKind.i64.wrap (s.Counter+1)=s.Counter+1:=aI (by omega) (by omega);exact⟨this,by omega,by have:=hb.2;omega⟩
def bC1 (s:AK)(o:AQ)(z:ByteArray)(i c:Int)(p:Bool):(iO s o z i c p).1.Seed=s.Seed/\(iO s o z i c p).1.Vendor=s.Vendor/\(iO s o z i c p).1.Serial=s.Serial/\(0<=s.Counter/\s.Counter<=1000000->(0<=(iO s o z i c p).1.Counter/\(iO s o z i c p).1.Counter<=1000000)/\(0<=(iO s o z i c p).2.1.Counter/\(iO s o z i c p).2.1.Counter<=1000000)):=by
 obtain⟨h1,h2,a,d,e⟩:=bOf s z i (bT (Gz s o z i c p));unfold iO;cases hb:mW o z&&(gN s z i (bT (Gz s o z i c p))).2.2 with
 |false=>exact⟨rfl,rfl,rfl,λh=>⟨h,cJ 0,show(0:Int)<=1000000 by decide⟩⟩
 |true=>
  rw[ab] at hb;obtain⟨q1,q2,q3⟩:=d hb.2;refine⟨h1,h2,a,λh=>⟨?_,?_⟩⟩
  ·show 0<=(gN s z i (bT (Gz s o z i c p))).1.Counter/\(gN s z i (bT (Gz s o z i c p))).1.Counter<=1000000;omega
  ·show 0<=(gN s z i (bT (Gz s o z i c p))).1.Counter/\(gN s z i (bT (Gz s o z i c p))).1.Counter<=1000000;omega
structure StIn (seed:Int) (k:Nat) (s:AK):Prop where
 ven:s.Vendor=1
 ser:s.Serial=(k:Int)
 key:s.Seed=(aO seed (k:Int)).Seed
 cnt:0<=s.Counter/\s.Counter<=1000000
structure WIn (m:Nat) (w:AA):Prop where
 seed:bL w.Seed=true
 now:0<=w.Now/\w.Now<=999900
 dlen:1<=w.Devices.length/\w.Devices.length<=6
 slen:w.Stolen.length=w.Devices.length
 dev:∀k (h:k<w.Devices.length),StIn w.Seed k w.Devices[k].Store
 two:w.Sites.length=2
 mle:m<=6
 site:∀j (h:j<w.Sites.length),SiteIn w.Seed (j:Int) m w.Sites[j]
 mail:gG w.Mail=true
 log:aZ w.aAC.Log=true
def WIn.ok {m:Nat}{w:AA}(h:WIn m w):aQ w=true:=by
 have hs:gM nD 0 w.Sites=false:=Nb λk hk=>by
  have h2:=h.two;have:=h.site k hk;unfold nD;rw[this.ok (by omega) h.mle,this.name,cg];simp
 unfold aQ;have h2:=h.two;have a:=h.slen;have c:=h.dlen;rw[hs,h.log,h.mail,h.seed,gT h.now.1 h.now.2,gT (by omega) (by omega),a,h2];simp
def WIn.upd {m:Nat}{w v:AA}(h:WIn m w)(h1:v.Seed=w.Seed)(h2:v.Now=w.Now)(a:v.Devices.length=w.Devices.length)(c:v.Stolen.length=w.Stolen.length)
  (d:∀k (h:k<v.Devices.length),StIn w.Seed k v.Devices[k].Store) (e:v.Sites.length=2) (f:∀j (h:j<v.Sites.length),SiteIn w.Seed (j:Int) m v.Sites[j]) (i:gG v.Mail=true) (l:aZ v.aAC.Log=true):WIn m v where
 seed:=by rw[h1];exact h.seed
 now:=by rw[h2];exact h.now
 dlen:=by rw[a];exact h.dlen
 slen:=by rw[a,c];exact h.slen
 dev:=by rw[h1];exact d
 two:=e
 mle:=h.mle
 site:=by rw[h1];exact f
 mail:=i
 log:=l
def WIn.aBQ {m:Nat}{w:AA}(h:WIn m w){i:Nat}{x:AD}(hi:i<w.Devices.length)(a:StIn w.Seed i x.Store):∀k (h:k<(w.Devices.set i x).length),StIn w.Seed k (w.Devices.set i x)[k].Store:=λk hk=>by
 rw[eR];rw[ax] at hk;split
 ·rename_i e;subst e;exact a
 ·exact h.dev k hk
def WIn.aDF {m:Nat}{w:AA}(h:WIn m w){i:Nat}{x:AC}(hi:i<2)(a:SiteIn w.Seed (i:Int) m x):∀k (h:k<(w.Sites.set i x).length),SiteIn w.Seed (k:Int) m (w.Sites.set i x)[k]:=λk hk=>by
 rw[eR];rw[ax] at hk;split
 ·rename_i e;subst e;exact a
 ·exact h.site k hk
def pU {w:AA}{d:Int}(h:aL w d=true):0<=d/\d.toNat<w.Devices.length/\aG w d=w.Devices.getD d.toNat default:=by simp only[aL,ab,bq] at h;exact⟨h.1,by omega,rfl⟩
def iY {w:AA}{d:Int}(h:aL w d=true):∃h:d.toNat<w.Devices.length,aG w d=w.Devices[d.toNat]:=by obtain⟨h1,h2,a⟩:=pU h;exact⟨h2,by rw[a];simp[List.getD,ae h2]⟩
def WIn.aBZ {m:Nat}{w:AA}(h:WIn m w){d:Int}(hd:aL w d=true):StIn w.Seed d.toNat (aG w d).Store:=by obtain⟨h1,h2⟩:=iY hd;rw[h2];exact h.dev _ h1
def bKm {m:AS}(h:gG m=true)(k a t:Int):gG (Dw m k a t).1=true:=by
 unfold Dw;cases hb: !gG m|| !gG ⟨Oe (m.Notices++[⟨k,a,t,false⟩])⟩ with
 |true=>exact h
 |false=>simp only[bo,cR] at hb;exact hb.2
def WIn.tell {m:Nat}{w:AA}(h:WIn m w)(k:Int):WIn m (qD w k):=
 h.upd rfl rfl rfl rfl h.dev h.two h.site (bKm h.mail _ _ _) h.log
def StIn.make {seed:Int}{k:Nat}{s:AK}(h:StIn seed k s)(o:AQ)(z:ByteArray)(i c:Int)(p:Bool):StIn seed k (iO s o z i c p).1:=by obtain⟨h1,h2,a,d⟩:=bC1 s o z i c p;exact⟨h2.trans h.ven,a.trans h.ser,h1.trans h.key,(d h.cnt).1⟩
def WIn.visit {m:Nat}{w:AA}(h:WIn m w)(d j:Int)(o:AQ):WIn m (iP w d j o).1:=by
 unfold iP;cases ht:dV w d j with
 |false=>exact h
 |true=>
  have a:=ht;simp only[dV,ab] at a;have h2:=h.two;have hq:=a.2.2;simp only[qA,ab,bq] at hq;have i:j.toNat<w.Sites.length:=by omega
  have es:fB w j=w.Sites[j.toNat]:=by unfold fB;simp[List.getD,ae i]
  have hs:=h.site _ i;rw[<-es,show((j.toNat:Nat):Int)=j by omega] at hs;have c:=h.aBZ a.2.1;have hm:=bC1 (aG w d).Store o (aA j) d (aBA w j).2.2.1 true;have hb:SiteIn w.Seed j m (aBA w j).1:=hs.begin 1 w.Now;have e:SiteIn w.Seed j m (Tg w d j o).1:=hb.finish _ _ _ (hm.2.2.2 c.cnt).2;have k:WIn m (aUt w d j o):=by obtain⟨l,f,_⟩:=pU a.2.1;refine h.upd rfl rfl (ax ..) rfl (h.aBQ f (c.make o (aA j) d (aBA w j).2.2.1 true)) (by show(w.Sites.set _ _).length=2;rw[ax,h2]) (h.aDF (by omega) (by rw[show((j.toNat:Nat):Int)=j by omega];exact e)) h.mail h.log
  simp only[ay,aa];cases !(aBA w j).2.2.2 with
  |true=>exact h
  |false=>
   cases !((Tg w d j o).2.1==0) with
   |true=>exact k
   |false=>exact k.tell 1
def WIn.sync {m:Nat}{w:AA}(h:WIn m w)(d b:Int):WIn m (aM w d b).1:=by
 unfold aM;cases hb:aQ w&&aL w d with
 |false=>exact h
 |true=>rw[ab] at hb;obtain⟨e,a,_⟩:=pU hb.2;refine h.upd rfl rfl (ax ..) rfl (h.aBQ a ?_) h.two h.site h.mail h.log;have c:=h.aBZ hb.2;unfold bR;cases jY (aG w d) w.aAC.Log w.aAC.Boxes (fA w.aAC b).1==0<;>exact c
def WIn.aDG {m:Nat}{w:AA}(h:WIn m w)(d:Int)(n:ByteArray)(a:Int)(r:Bool):WIn m (rF w d n a r).1:=by
 unfold rF;cases hb:aQ w&&aL w d with
 |false=>exact h
 |true=>
  rw[ab] at hb;obtain⟨f,c,_⟩:=pU hb.2;have e:=h.aBZ hb.2;simp only[ac];cases(dQ (aG w d) n a r).2 with
  |false=>exact h
  |true=>refine h.upd rfl rfl (ax ..) rfl (h.aBQ c ?_) h.two h.site h.mail h.log;unfold dQ;cases(sG (aG w d) n a r).2<;>exact e
def aLq (d:AD):(cK d).1.Store=d.Store:=by unfold cK;cases(qC d.Key d.Epoch (IntKind.i64.wrap (d.Version+1)) d.aAD).2<;>rfl
def WIn.up {m:Nat}{w:AA}(h:WIn m w){d:Int}(hd:aL w d=true):WIn m (Tc w d).1:=by
 unfold Tc;cases(cK (aG w d)).2.2&&(cB w.aAC (cK (aG w d)).2.1).2 with
 |false=>exact h
 |true=>obtain⟨c,a,_⟩:=pU hd;refine h.upd rfl rfl (ax ..) rfl (h.aBQ a (by rw[aLq];exact h.aBZ hd)) h.two h.site h.mail ?_;show aZ (cB w.aAC (cK (aG w d)).2.1).1.Log=true;rw[(vJ _ _).2];exact h.log
def WIn.push {m:Nat}{w:AA}(h:WIn m w)(d:Int):WIn m (eX w d).1:=by
 unfold eX;cases hb:(aM w d 0).2==0&&(Tc (aM w d 0).1 d).2 with
 |false=>exact h
 |true=>
  rw[ab] at hb;have h0:=mR hb.1;exact(h.sync d 0).up (by
   have:=h0.1.2;simp only[aL,ab,bq] at this ⊢;rw[h0.2.2.1];exact this)
def kT (w:AA)(d b:Int):(aM w d b).1.Seed=w.Seed/\(aM w d b).1.Now=w.Now/\(aM w d b).1.Devices.length=w.Devices.length/\(aM w d b).1.Sites=w.Sites/\(aM w d b).1.Stolen=w.Stolen/\(aM w d b).1.aAC=w.aAC:=by
 unfold aM;cases aQ w&&aL w d with
 |false=>exact⟨rfl,rfl,rfl,rfl,rfl,rfl⟩
 |true=>exact⟨rfl,rfl,ax ..,rfl,rfl,rfl⟩
def bH3 (w:AA)(d:Int):(Tc w d).1.Seed=w.Seed/\(Tc w d).1.Now=w.Now/\(Tc w d).1.Devices.length=w.Devices.length/\(Tc w d).1.Sites=w.Sites/\(Tc w d).1.Stolen=w.Stolen/\(Tc w d).1.aAC.Log=w.aAC.Log:=by
 unfold Tc;cases(cK (aG w d)).2.2&&(cB w.aAC (cK (aG w d)).2.1).2 with
 |false=>exact⟨rfl,rfl,rfl,rfl,rfl,rfl⟩
 |true=>exact⟨rfl,rfl,ax ..,rfl,rfl,(vJ _ _).2⟩
def Yz (w:AA)(d:Int):(eX w d).1.Seed=w.Seed/\(eX w d).1.Now=w.Now/\(eX w d).1.Devices.length=w.Devices.length/\(eX w d).1.Sites=w.Sites/\(eX w d).1.Stolen=w.Stolen/\(eX w d).1.aAC.Log=w.aAC.Log:=by
 unfold eX;cases(aM w d 0).2==0&&(Tc (aM w d 0).1 d).2 with
 |false=>exact⟨rfl,rfl,rfl,rfl,rfl,rfl⟩
 |true=>obtain⟨a,c,e,f,h,i⟩:=kT w d 0;obtain⟨b1,j,k,l,n,o⟩:=bH3 (aM w d 0).1 d;exact⟨b1.trans a,j.trans c,k.trans e,l.trans f,n.trans h,o.trans (by rw[i])⟩
def Nf (w:AA)(b k p:Int)(key:List AF->Int):(jP w b k p key).1.Seed=w.Seed/\(jP w b k p key).1.Now=w.Now/\(jP w b k p key).1.Devices=w.Devices/\(jP w b k p key).1.Sites=w.Sites/\(jP w b k p key).1.Stolen=w.Stolen/\(jP w b k p key).1.Mail=w.Mail/\(aZ w.aAC.Log=true->aZ (jP w b k p key).1.aAC.Log=true):=by
 unfold jP;simp only[];generalize eY w.aAC.Log k p (aG w b).Store=l;generalize bJ l.1 (key l.1) (IntKind.i64.wrap (1000+IntKind.i64.wrap (10*(l.1.length:Int))))=e;cases l.2&&(e.2&&(kK w.aAC l.1 e.1).2) with
 |false=>exact⟨rfl,rfl,rfl,rfl,rfl,rfl,λh=>h⟩
 |true=>
  refine⟨rfl,rfl,rfl,rfl,rfl,rfl,λh=> ?_⟩;show aZ (kK w.aAC l.1 e.1).1.Log=true;unfold kK;cases hl:aZ l.1 with
  |false=>exact h
  |true=>
   cases !dG l.1 w.aAC.Log|| !jV e.1 l.1 with
   |true=>exact h
   |false=>exact hl
def WIn.aCZ {m:Nat}{w:AA}(h:WIn m w)(b k p:Int)(key:List AF->Int):WIn m (jP w b k p key).1:=by obtain⟨d,e,a,c,f,i,j⟩:=Nf w b k p key;exact h.upd d e (by rw[a]) (by rw[f]) (by rw[a];exact h.dev) (by rw[c];exact h.two) (by rw[c];exact h.site) (by rw[i];exact h.mail) (j h.log)
def aYe {seed:Int}{m:Nat}(hm:m<6):∀(l:List AC) (j:Nat),j+l.length<=2->(∀i (h:i<l.length),SiteIn seed ((j+i:Nat):Int) m l[i])->
  (gK (aO seed (m:Int)) (m:Int) j l).2=true/\(gK (aO seed (m:Int)) (m:Int) j l).1.length=l.length/\∀i (h:i<(gK (aO seed (m:Int)) (m:Int) j l).1.length),SiteIn seed ((j+i:Nat):Int) (m+1) (gK (aO seed (m:Int)) (m:Int) j l).1[i]
 |[],j,_,_=>⟨rfl,rfl,λi h=>by simp[gK] at h⟩
 |s::l,j,a,h=>by
  have h0:SiteIn seed (j:Int) m s:=h 0 (by simp);simp only[au] at a;obtain⟨c,d⟩:=h0.reg (by omega) hm;obtain⟨f,k,n⟩:=aYe hm l (j+1) (by omega) (λi hi=>by
   have:=h (i+1) (by simpa using hi);rw[show j+1+i=j+(i+1) by omega];simpa using this)
  have e:fD (aO seed (m:Int)) (aA (j:Int)) (m:Int)=Qa seed (j:Int) m:=by unfold Qa;rfl
  have o:gK (aO seed (m:Int)) (m:Int) j (s::l)=((gD s 1 (m:Int) (Qa seed (j:Int) m)).1::(gK (aO seed (m:Int)) (m:Int) (j+1) l).1,true):=by rw[gK,e,c,f];rfl
  rw[o];refine⟨rfl,by simp[k],λi hi=> ?_⟩;cases i with
  |zero=>simpa using d
  |succ i=>simp only[au] at hi;have:=n i (by omega);rw[show j+1+i=j+(i+1) by omega] at this;simpa using this
def Ng (d:AD)(n:ByteArray)(h:Int)(r:Bool):(dQ d n h r).1.Store=d.Store:=by unfold dQ;cases(sG d n h r).2<;>rfl
def aQt (d:AD)(h:Int)(r:Bool):(kL d h r).Store=d.Store:=by unfold kL;rw[Ng,Ng]
def xJ {w v:AA}{d:Int}(h:aL w d=true)(e:v.Devices.length=w.Devices.length):aL v d=true:=by simp only[aL,ab,bq] at h ⊢;rw[e];exact h
def WIn.app {m:Nat}{w:AA}(h:WIn m w)(hl:w.Devices.length<6):WIn m (appW w (bG (aO w.Seed (w.Devices.length:Int)))) where
 seed:=h.seed
 now:=h.now
 dlen:=by unfold appW;simp only[aw,au,bm];have:=h.dlen;omega
 slen:=by unfold appW;simp only[aw,au,bm,h.slen]
 dev:=λk hk=>by
  have a:k<(w.Devices++[bG (aO w.Seed (w.Devices.length:Int))]).length:=hk;show StIn w.Seed k ((w.Devices++[bG (aO w.Seed (w.Devices.length:Int))])[k]'a).Store;rw[List.getElem_append];split
  ·rename_i c;exact h.dev k c
  ·simp only[aw,au,bm] at a;have e:k=w.Devices.length:=by omega
   subst e;simp only[fx,ip];exact⟨rfl,rfl,rfl,cJ 0,show(0:Int)<=1000000 by decide⟩
 two:=h.two
 mle:=h.mle
 site:=h.site
 mail:=h.mail
 log:=h.log
def WIn.aCT {w:AA}(h:WIn w.Devices.length w){b:Int}(hn:w.Devices.length<6)(k2:aL w b=true):WIn (w.Devices.length+1) (aAU w b)/\(aAU w b).Seed=w.Seed/\(aAU w b).Devices.length=w.Devices.length:=by
 obtain⟨s1,s2,s3,s4,s5,s6⟩:=kT w b 0;have h0:=h.sync b 0;have h1:WIn w.Devices.length (add1 w b).1:=h0.aCZ _ _ _ _;obtain⟨d,n,e,o,p,q,s⟩:=Nf (aM w b 0).1 b 1 (aT (aO w.Seed (w.Devices.length:Int))) (λ_=>(aG (aM w b 0).1 b).Key);have a:(add1 w b).1.Seed=w.Seed:=d.trans s1;have c:(add1 w b).1.Devices.length=w.Devices.length:=by show(jP _ _ _ _ _).1.Devices.length=_;rw[e,s3]
 obtain⟨u,f,k⟩:=aYe (seed:=w.Seed) hn (add1 w b).1.Sites 0 (by rw[h1.two];omega) (λi hi=>by
  have:=h1.site i hi;rw[a] at this;rw[cg];exact this)
 have hd:aL (add1 w b).1 b=true:=xJ k2 c;obtain⟨d0,d1,_⟩:=pU hd;refine⟨{
  seed:=by show bL (add1 w b).1.Seed=true;exact h1.seed
  now:=h1.now
  dlen:=by show 1<=((add1 w b).1.Devices.set _ _).length/\((add1 w b).1.Devices.set _ _).length<=6;rw[ax];exact h1.dlen
  slen:=by show(add1 w b).1.Stolen.length=((add1 w b).1.Devices.set _ _).length;rw[ax];exact h1.slen
  dev:=h1.aBQ d1 (by rw[aQt];exact h1.aBZ hd)
  two:=by show(aHh w b).1.length=2;exact f.trans h1.two
  mle:=by omega
  site:=λj l=>by
   have:=k j l;rw[cg] at this;show SiteIn (add1 w b).1.Seed (j:Int) _ _;rw[a];exact this
  mail:=h1.mail
  log:=h1.log},a,?_⟩
 show((add1 w b).1.Devices.set _ _).length=_;rw[ax,c]
def WIn.add {w:AA}(h:WIn w.Devices.length w)(b:Int):WIn (fK w b).1.Devices.length (fK w b).1/\(fK w b).1.Seed=w.Seed:=by
 unfold fK;cases a:Ie w b with
 |false=>exact⟨h,rfl⟩
 |true=>
  unfold Ie at a;simp only[ab,bz,cu] at a;obtain⟨⟨k1,k2,k3,k4⟩,k5,k6,k7,k8,k9⟩:=a;have hn:w.Devices.length<6:=by omega
  obtain⟨h2,f,i⟩:=h.aCT hn k2;have j:WIn (w.Devices.length+1) (rV w b).1:=h2.push b;obtain⟨c,o,d,p,q,s⟩:=Yz (aAU w b) b;have c:(rV w b).1.Seed=w.Seed:=c.trans f;have d:(rV w b).1.Devices.length=w.Devices.length:=d.trans i;have e:=j.app (by omega);rw[c,d] at e;have k:WIn (w.Devices.length+1) (Af w b).1:=e.sync _ _;obtain⟨q1,q2,q3,q4,q5,q6⟩:=kT (appW (rV w b).1 (bG (aO w.Seed (w.Devices.length:Int)))) (w.Devices.length:Int) 0;have l:(qD (Af w b).1 2).Devices.length=w.Devices.length+1:=by show(Af w b).1.Devices.length=_;refine q3.trans ?_;unfold appW;simp only[aw,au,bm,d]
  have n:=k.tell 2;simp only[ac];rw[l];exact⟨n,q1.trans c⟩
def bC2 {k:Int}(h:bL k=true)(l:List Int):iI (cZ k) l (sD k l)=true:=by have:=aQq h;unfold iI;rw[Ii h,bne,cj.2 (show k≠0 by omega)];simp
def bOg {l:List AF}{e:AF}(h:l=[]\/aZ l=true)(hs:lC l e=true)(hl:l.length<40):aZ (l++[e])=true:=by
 have c:gM (λi x=> !lC ((l++[e]).take i) x) 0 (l++[e])=false:=Nb λk hk=>by
  rw[cg];by_cases a:k<l.length
  ·rw[ib a,ke (by omega)];rcases h with h|h
   ·subst h;simp at a
   ·unfold aZ at h;rw[ab,bz] at h;have:=T9 h.2 k a;rw[cg] at this;exact this
  ·have d:k=l.length:=by simp at hk;omega
   subst d;simp[hs]
 unfold aZ;rw[ab,bz];exact⟨gT (by simp;omega) (by simp;omega),c⟩
def Tt (l:List AF)(e:AF):aD (l++[e])=jK (aD l) e:=by unfold aD;rw[fu];rfl
def Nh (l:List AF)(e:AF):aC (l++[e])=bif e.Kind==2 then IntKind.i64.wrap (aC l+1) else aC l:=by unfold aC;rw[fu];rfl
def zJ (l:List AF)(e:AF)(p:Int):dY (l++[e]) p=(dY l p||(e.Kind==2&&e.Device==p)):=by unfold dY;rw[ir];simp
def mH (seed:Int)(k:Nat):Int:=aT (aO seed (k:Int))
def aOm {seed:Int}{i k:Nat}(hi:i<6)(hk:k<6)(h:i≠k):mH seed i≠mH seed k:=bKk (by omega) (by omega) (by omega)
def U0 (s:AK):bL (iG s)=true:=by unfold iG;exact iR _ _
def lZ {l:List Int}{x:Int}:jJ l x=true↔x∈l:=by
 unfold jJ;rw[ey];constructor
 ·rintro⟨y,a,e⟩;rw[<-eq_of_beq e];exact a
 ·exact λh=>⟨x,h,ex x⟩
structure NewLog (seed:Int) (n:Nat) (l:List AF):Prop where
 len:l.length=n
 devs:aD l=(List.range n).map (mH seed)
 rem:∀p,dY l p=false
 ep:aC l=0
 ok:n=0\/aZ l=true
def rH (seed:Int):∀n,n<=6->NewLog seed n (aU seed n)
 |0,_=>⟨rfl,rfl,λ_=>rfl,rfl, .inl rfl⟩
 |n+1,hn=>by
  obtain⟨h1,h2,h,j,c⟩:=rH seed n (by omega);have a:jJ (aD (aU seed n)) (mH seed n)=false:=by rw[fv,Ne,lZ,h2];intro hm;obtain⟨i,hi,e⟩:=cb.1 hm;have hi:=gl.1 hi;exact aOm (by omega) (by omega) (by omega) e
  have d:lC (aU seed n) (Mr (aU seed n) 1 (mH seed n) (aO seed 0))=true:=by
   unfold lC;have v:iI (aT (aO seed 0)) [dI (bE7 (aU seed n) 1 (mH seed n) (aO seed 0))] (sJ (aO seed 0) [dI (bE7 (aU seed n) 1 (mH seed n) (aO seed 0))])=true:=by unfold sJ aT;exact bC2 (U0 _) _
   show(((aU seed n).length:Int)==((aU seed n).length:Int)&&(iZ (aU seed n)==iZ (aU seed n)&&((jJ (aD (aU seed n)) (aT (aO seed 0))||(((aU seed n).length:Int)==0&&aT (aO seed 0)==mH seed n))&&(iI (aT (aO seed 0)) [dI (bE7 (aU seed n) 1 (mH seed n) (aO seed 0))] (sJ (aO seed 0) [dI (bE7 (aU seed n) 1 (mH seed n) (aO seed 0))])&&
    (!dY (aU seed n) (mH seed n)&&(true&&(!jJ (aD (aU seed n)) (mH seed n)&&decide (((aD (aU seed n)).length:Int)<6))))))))=true
   rw[v,h,a,h2,h1];have f:(jJ ((List.range n).map (mH seed)) (aT (aO seed 0))||((n:Int)==0&&aT (aO seed 0)==mH seed n))=true:=by
    cases n with
    |zero=>simp[mH]
    |succ n=>rw[show jJ ((List.range (n+1)).map (mH seed)) (aT (aO seed 0))=true from lZ.2 (cb.2 ⟨0,by simp,rfl⟩)];rfl
   rw[f];simp;omega
  have hl:=bOg (l:=aU seed n) (by
   rcases c with c|c
   ·subst c;exact .inl rfl
   ·exact .inr c) d (by omega)
  have e:aU seed (n+1)=aU seed n++[Mr (aU seed n) 1 (mH seed n) (aO seed 0)]:=by
   show(eY (aU seed n) 1 (aT (aO seed (n:Int))) (aO seed 0)).1=_;unfold eY;have hq:(decide (((aU seed n).length:Int)>0)&& !aZ (aU seed n))=false:=by
    rcases c with c|c
    ·subst c;rfl
    ·rw[c];simp
   rw[hq,show aT (aO seed (n:Int))=mH seed n from rfl,hl];rfl
  rw[e];refine⟨by simp[h1],?_,λp=> ?_,?_, .inr hl⟩
  ·rw[Tt,fm,dc,<-h2];unfold jK;have hc:(aD (aU seed n)).contains (mH seed n)=false:=by rw[fv] at a ⊢;intro hc;exact a (lZ.2 (by simpa using hc))
   show(bif (1:Int)==1 then(bif (aD (aU seed n)).contains (mH seed n) then _ else _) else _)=_;rw[hc];rfl
  ·rw[zJ,h];rfl
  ·rw[Nh,j];rfl
def aYf {e:Int}{d:List Int}(hd:d.length<=200):∀(l:List Int) (i:Nat),(∀p∈l,bL p=true)->1<=e+(i:Int)->e+(i:Int)+(l.length:Int)<=2147483646->
  (gX e d i l).2=true/\(gX e d i l).1.length=l.length/\(gX e d i l).1.map (·.To)=l/\∀k (h:k<(gX e d i l).1.length) (h2:k<l.length),(gX e d i l).1[k]=jC l[k] (e+((i+k:Nat):Int)) d
 |[],i,_,_,_=>⟨rfl,rfl,rfl,λk h _=>by simp[gX] at h⟩
 |p::l,i,hp,h1,h2=>by
  simp only[au] at h2;obtain⟨j,n,o,s⟩:=aYf (e:=e) hd l (i+1) (λq hq=>hp q (by simp[hq])) (by push_cast;omega) (by push_cast at h2 ⊢;omega);have hk:=hp p (by simp);have hq:=aQq hk;have u:IntKind.i64.wrap (e+(i:Int))=e+(i:Int):=aI (by omega) (by push_cast at h2;omega);have a:gQ p≠0:=by unfold gQ;rw[hk,ay,aa];omega
  have hb:iM p (IntKind.i64.wrap (e+(i:Int))) d=(jC p (e+(i:Int)) d,true):=by unfold iM;rw[u,cj.2 a,show bL (e+(i:Int))=true from gT (by omega) (by push_cast at h2;omega),ao (show ¬(d.length:Int)>200 by omega)];rfl
  have x:gX e d i (p::l)=(jC p (e+(i:Int)) d::(gX e d (i+1) l).1,true):=by rw[gX,hb,j];rfl
  rw[x];refine⟨rfl,by simp[n],?_,λk c f=> ?_⟩
  ·simp only[bn,o];rfl
  ·cases k with
   |zero=>rfl
   |succ k=>simp only[au] at c f;have:=s k (by omega) (by omega);simp only[fh];rw[this];congr 1;push_cast;omega
def bOh {l:List AO}{p:Int}:∀(n:Int),0<=n->n+(l.length:Int)<=1000000->l.foldl (λn b=>bif b.To==p then IntKind.i64.wrap (n+1) else n) n=n+((l.filter λb=>b.To==p).length:Int):=by
 induction l with
 |nil=>intro n _ _;simp
 |cons b l a=>
  intro n h0 h1;simp only[au] at h1
  push_cast at h1
  rw[de,gr];cases hb:b.To==p with
  |true=>
   rw[ac,aI (by omega) (by omega),cQ rfl,a (n+1) (by omega) (by omega),au]
   push_cast;omega
  |false=>rw[aa,dk (by simp),a n h0 (by omega)]
def bKn {l:List AO}(h:(l.map (·.To)).Nodup){p:Int}(hp:p∈l.map (·.To)):(l.filter λb=>b.To==p).length=1:=by
 induction l with
 |nil=>simp at hp
 |cons b l d=>
  simp only[bn,cE,ba] at h hp;rw[gr];by_cases hb:b.To=p
  ·have hn:(l.filter λb=>b.To==p)=[]:=by rw[List.filter_eq_nil_iff];intro c hc he;exact h.1 (cb.2 ⟨c,hc,by rw[hb];exact eq_of_beq he⟩)
   rw[cH.2 hb,cQ rfl,hn];rfl
  ·have a:p∈l.map (·.To):=by
    rcases hp with hp|hp
    ·exact absurd hp.symm hb
    ·exact hp
   rw[cj.2 hb,dk (by simp)];exact d h.2 a
def bKo {log:List AF}{bx:AN}(h1:bx.Epoch=aC log)(h2:bx.Boxes.map (·.To)=aD log)(a:(aD log).Nodup)(c:(aD log).length<=1000):jV bx log=true:=by
 have hl:bx.Boxes.length=(aD log).length:=by rw[<-h2,bh]
 unfold jV;rw[h1,hl,ex,ex,du,cw,cG];intro p hp;unfold sK;rw[bOh 0 (by omega) (by omega),bKn (by rw[h2];exact a) (by rw[h2];exact hp)];rfl
def bS7 (a b:Int):(jG [a,b]).length<=12:=by have h1:=Sy a;have h2:=Sy b;unfold jG;simp only[bn,ez,cU,gq,cV,aw];omega
def aHr {log:List AF}{key eph:Int}(h1:aZ log=true)(h2:bL key=true)(c:∀p∈aD log,bL p=true)(f:(aD log).length<=1000)(i:1<=eph/\eph<=1000000):
  (bJ log key eph).2=true/\(bJ log key eph).1.Epoch=aC log/\(bJ log key eph).1.Boxes.map (·.To)=aD log/\∀k (h:k<(bJ log key eph).1.Boxes.length) (h2:k<(aD log).length),(bJ log key eph).1.Boxes[k]=jC (aD log)[k] (eph+(k:Int)) (jG [aC log,key]):=by
 have hd:=bS7 (aC log) key;obtain⟨s1,s2,s3,s4⟩:=aYf (e:=eph) (d:=jG [aC log,key]) (by omega) (aD log) 0 c (by omega) (by omega);have e:bJ log key eph=(⟨aC log,(gX eph (jG [aC log,key]) 0 (aD log)).1⟩,true):=by unfold bJ;rw[h1,h2,s1];rfl
 rw[e];refine⟨rfl,rfl,s3,λk hk a=> ?_⟩;have:=s4 k hk a;rw[cg] at this;exact this
def aC6 (seed:Int)(k:Nat):bL (mH seed k)=true:=by unfold mH aT;exact bH1 (U0 _)
def bC3 {seed:Int}{n:Nat}(hn:n<=6):((List.range n).map (mH seed)).Nodup:=by rw[kl,gS];refine(List.pairwise_lt_range).imp_of_mem ?_;intro a b c hb d;have c:=gl.1 c;have hb:=gl.1 hb;exact aOm (by omega) (by omega) (by omega)
def U1 {seed:Int}{n:Nat}(h0:1<=n)(hn:n<=6):jV (iQ seed n) (aU seed n)=true/\aZ (aU seed n)=true/\(iQ seed n).Epoch=0:=by
 obtain⟨h1,h2,f,c,d⟩:=rH seed n hn;have hl:aZ (aU seed n)=true:=d.resolve_left (by omega);have hlen:(aD (aU seed n)).length<=1000:=by rw[h2,bh,fc];omega
 obtain⟨h,a,e,j⟩:=aHr (key:=bY seed 0) (eph:=1000) hl (by unfold bY;exact iR _ _) (λp hp=>by
  rw[h2] at hp;obtain⟨i,_,rfl⟩:=cb.1 hp;exact aC6 _ _) hlen ⟨by decide,by decide⟩
 refine⟨bKo a e (by rw[h2];exact bC3 hn) hlen,hl,?_⟩;unfold iQ;rw[a,c]
def bC4 {seed:Int}{n:Nat}(h0:1<=n)(hn:n<=6):(jL seed n).Log=aU seed n:=by obtain⟨h1,h2,_⟩:=U1 (seed:=seed) h0 hn;unfold jL;rw[(vJ _ _).2];unfold fO;rw[h1,h2];rfl
def Tu (d:AD)(l:List AF)(k:Int):(mU d l k).1.Store=d.Store:=by unfold mU;cases !aZ l||(!dG l d.Log||(decide (aC l<d.Epoch)|| !bL k))<;>rfl
def aUw (d:AD)(l:List AF)(b:AN)(s:AJ):(bR d l b s).1.Store=d.Store:=by unfold bR;cases jY d l b s==0<;>rfl
def U2 (nm:ByteArray):∀(i:Nat) (d:AD),(Ig nm i d).Store=d.Store
 |0,d=>rfl
 |i+1,d=>by
  show(dQ (Ig nm i d) nm (i:Int) false).1.Store=_;rw[Ng,U2 nm i d]
def bKp {seed:Int}{n:Nat}(h0:1<=n):(jH seed n).length=n/\∀k (h:k<(jH seed n).length),(jH seed n)[k].Store=aO seed (k:Int):=by
 have hl:(jH seed n).length=n:=by unfold jH dM;simp only[au,bh,cy,fc];omega
 refine⟨hl,λk hk=> ?_⟩;cases k with
 |zero=>show(nwW seed n).1.Store=_;unfold nwW;rw[aLq];unfold lU wP;rw[U2,U2,Tu];rfl
 |succ k=>
  have a:k<(((dM seed n).drop 1).map (sO seed n)).length:=by have:(jH seed n).length=(((dM seed n).drop 1).map (sO seed n)).length+1:=rfl;omega
  show((((dM seed n).drop 1).map (sO seed n))[k]'a).Store=_;rw[fN];unfold sO wP;rw[aUw,Tu,List.getElem_drop];unfold dM;rw[fN,List.getElem_range];unfold bG;rw[show((1+k:Nat):Int)=((k+1:Nat):Int) by omega]
def aLr {n k t pin seed:Int}(h:Tn n k t pin seed=true):WIn n.toNat (bZ n k t pin seed)/\(bZ n k t pin seed).Devices.length=n.toNat/\(bZ n k t pin seed).Seed=seed:=by
 have hb:=h;unfold Tn at hb;simp only[ab] at hb;obtain⟨b1,f,i,l,e⟩:=hb;have r:=iC b1;unfold bZ;rw[h,ac];obtain⟨d1,d2⟩:=bKp (seed:=seed) (n:=n.toNat) (by omega);have c:=bC4 (seed:=seed) (n:=n.toNat) (by omega) (by omega);have d:=(U1 (seed:=seed) (n:=n.toNat) (by omega) (by omega)).2.1;refine⟨{seed:=e,now:=⟨cJ 0,show(0:Int)<=999900 by decide⟩,dlen:= ?_,slen:= ?_,dev:= ?_,two:=rfl,mle:=by omega,site:= ?_,mail:=rfl,log:= ?_},d1,rfl⟩
 ·show 1<=(jH seed n.toNat).length/\(jH seed n.toNat).length<=6;omega
 ·show(List.replicate n.toNat false).length=(jH seed n.toNat).length;rw[fq,d1]
 ·intro j a;show StIn seed j ((jH seed n.toNat)[j]'a).Store;rw[d2 j a];exact⟨rfl,rfl,rfl,cJ 0,show(0:Int)<=1000000 by decide⟩
 ·intro j a;show SiteIn seed (j:Int) n.toNat ((Ah (dM seed n.toNat) seed)[j]'a)
  match j,a with
  |0,_=>exact aLp (.inl rfl) (by omega)
  |1,_=>exact aLp (.inr rfl) (by omega)
  |j+2,a=>have:j+2<2:=a;omega
 ·show aZ (jL seed n.toNat).Log=true;rw[c];exact d
def SiteIn.cut {seed j:Int}{n:Nat}{s:AC}(h:SiteIn seed j n s)(t:Int):SiteIn seed j n (gZ t s):=by
 have a:=h.find;obtain⟨l,e,hl,hn⟩:=h.acc;have c:fU s 0=⟨1,3,l⟩:=by unfold fU;rw[e];rfl
 unfold gZ;rw[a,show decide ((0:Int)>=0)=true from rfl,ac,c,show(0:Int).toNat=0 from rfl,e];have key:∃l',(nE ⟨1,3,l⟩ t).1=⟨1,3,l'⟩/\Nc seed j l'/\l'.length=l.length:=by
  unfold nE;cases hb: !bB ⟨1,3,l⟩||(decide (aS ⟨1,3,l⟩ t<0)||(gH ⟨1,3,l⟩ (aS ⟨1,3,l⟩ t)).Cut) with
  |true=>exact⟨l,rfl,hl,rfl⟩
  |false=>
   simp only[bo] at hb;obtain⟨k,hk,d,o⟩:=Aj (l:=l) hb.2.1;have f:aS ⟨1,3,l⟩ t=(k:Int):=d.trans (by simp);have i:gH ⟨1,3,l⟩ (k:Int)=l[k]:=by unfold gH;simp[List.getD,ae hk]
   rw[f,i,aa,bv];exact⟨_,rfl,hl.set hk rfl rfl (hl k hk).2.2,ax⟩
 obtain⟨l',q1,q2,q3⟩:=key;rw[q1];have:=h.aBX q2 (q3.trans hn) s.Logins s.Book (Yy h.book) rfl;exact this
def bOi {α β:Type}{P:Nat->β->Prop}{f:α->β}{l:List α}(h:∀j (a:j<l.length),P j (f l[j])):∀j (a:j<(l.map f).length),P j (l.map f)[j]:=λj a=>by
 rw[fN];exact h j (by simpa using a)
def WIn.cut {m:Nat}{w:AA}(h:WIn m w)(b t:Int):WIn m (fH w b t).1/\(fH w b t).1.Seed=w.Seed/\(fH w b t).1.Devices.length=w.Devices.length:=by
 unfold fH;cases hq:(aM w b 0).2==0&&(!eT w b&&(!(b==t)&&bC w t)) with
 |false=>exact⟨h,rfl,rfl⟩
 |true=>
  simp only[ab] at hq;have h0:=(mR hq.1).1;simp only[ac];unfold oZ;cases(nG w b t).2&&((Mt w b t).2&&(Mv w b t).2) with
  |false=>exact⟨h,rfl,rfl⟩
  |true=>
   obtain⟨s1,s2,s3,s4,s5,s6⟩:=kT w b 0;have e:WIn m (jD w b):=h.sync b 0;have h1:WIn m (nG w b t).1:=e.aCZ _ _ _ _;obtain⟨f,p,i,q,u,x,y⟩:=Nf (jD w b) b 2 (aT (aG w t).Store) (mV (aG (jD w b) b).Store);have a:(nG w b t).1.Devices=(jD w b).Devices:=i;have hd:aL (nG w b t).1 b=true:=xJ h0.2 (by rw[a];exact s3);obtain⟨d0,d1,_⟩:=pU hd;have c:StIn (nG w b t).1.Seed b.toNat (kL (Mt w b t).1 t true).Store:=by
    rw[aQt];unfold Mt;rw[Tu];have:=h1.aBZ hd;have k:aG (nG w b t).1 b=aG (jD w b) b:=by unfold aG;rw[a]
    rw[k] at this;exact this
   have l:WIn m (Zm w b t):=by refine h1.upd rfl rfl (ax ..) rfl (h1.aBQ d1 c) (by show((nG w b t).1.Sites.map (gZ t)).length=2;rw[bh];exact h1.two) (bOi (P:=λj s=>SiteIn (nG w b t).1.Seed ((j:Nat):Int) m s) λj n=>(h1.site j n).cut t) h1.mail h1.log
   have d:aL (Zm w b t) b=true:=xJ hd (ax ..);have o:WIn m (Mv w b t).1:=l.up d;obtain⟨u1,u2,u3,u4,u5,u6⟩:=bH3 (Zm w b t) b;refine⟨o.tell 4,?_,?_⟩
   ·show(Mv w b t).1.Seed=w.Seed;exact u1.trans (f.trans s1)
   ·show(Mv w b t).1.Devices.length=w.Devices.length;refine u3.trans ?_;show((nG w b t).1.Devices.set _ _).length=_;rw[ax,a];exact s3
def WIn.aCB {m:Nat}{w:AA}(h:WIn m w)(d:Int):WIn m (oK w d).1/\(oK w d).1.Seed=w.Seed/\(oK w d).1.Devices.length=w.Devices.length:=by
 unfold oK;cases dV w d 0&& !eT w d with
 |false=>exact⟨h,rfl,rfl⟩
 |true=>exact⟨h.upd rfl rfl rfl (ax ..) h.dev h.two h.site h.mail h.log,rfl,rfl⟩
def bKq {b:AP}(h:BookIn b)(now:Int):BookIn (nU b now)/\(nU b now).Seed=b.Seed:=by unfold nU;rw[h.ok];have hs:(b.Open.filter λc=>decide (c.Until>=now)).Sublist b.Open:=List.filter_sublist;exact⟨⟨h.next,ca hs.length_le h.len,h.ord.sublist hs,λc hc=>h.all c (hs.subset hc)⟩,rfl⟩
def WIn.tick {m:Nat}{w:AA}(h:WIn m w):WIn m (uD w).1/\(uD w).1.Seed=w.Seed/\(uD w).1.Devices.length=w.Devices.length:=by
 unfold uD;cases a:aQ (sP w) with
 |false=>exact⟨h,rfl,rfl⟩
 |true=>
  refine⟨?_,rfl,rfl⟩;have hn:0<=(sP w).Now/\(sP w).Now<=999900:=by unfold aQ at a;simp only[ab] at a;have:=iC a.1.1.1.1.1.1.1;exact⟨by omega,by omega⟩
  exact {
   seed:=h.seed
   now:=hn
   dlen:=h.dlen
   slen:=h.slen
   dev:=h.dev
   two:=by show(w.Sites.map _).length=2;rw[bh];exact h.two
   mle:=h.mle
   site:=bOi (P:=λj s=>SiteIn w.Seed ((j:Nat):Int) m s) λj c=>by
    have hs:=h.site j c;have he:=bKq (Yy hs.book) (sP w).Now;exact hs.aBM he.1 he.2
   mail:=h.mail
   log:=h.log}
def WIn.aCR {m:Nat}{w:AA}(h:WIn m w)(a:List Int)(pin:Int):WIn m (fP w a pin).1/\(fP w a pin).1.Seed=w.Seed/\(fP w a pin).1.Devices.length=w.Devices.length:=by
 unfold fP;cases !aQ w with
 |true=>exact⟨h,rfl,rfl⟩
 |false=>have h1:WIn m {w with Hosts:=(Ih w.aAO w.Hosts a pin (bCt w)).1}:=h.upd rfl rfl rfl rfl h.dev h.two h.site h.mail h.log;exact⟨h1.tell 5,rfl,rfl⟩
def WIn.aCO {m:Nat}{w:AA}(h:WIn m w)(pin:Int):WIn m (wF w pin).1/\(wF w pin).1.Seed=w.Seed/\(wF w pin).1.Devices.length=w.Devices.length:=h.aCR _ _
def WIn.renew {m:Nat}{w:AA}(h:WIn m w):WIn m (eO w).1/\(eO w).1.Seed=w.Seed/\(eO w).1.Devices.length=w.Devices.length:=by
 unfold eO;cases aQ w&&(fC w.Hosts (aCu w)).2 with
 |false=>exact⟨h,rfl,rfl⟩
 |true=>exact⟨h.upd rfl rfl rfl rfl h.dev h.two h.site h.mail h.log,rfl,rfl⟩
def WIn.roll {m:Nat}{w:AA}(h:WIn m w)(i b:Int):WIn m (fT w i b).1/\(fT w i b).1.Seed=w.Seed/\(fT w i b).1.Devices.length=w.Devices.length:=by
 unfold fT;cases !aQ w||(decide (i<0)||decide (i>=(w.Hosts.length:Int))) with
 |true=>exact⟨h,rfl,rfl⟩
 |false=>
  simp only[aa];cases(fM (w.Hosts.getD i.toNat default) b).2 with
  |false=>exact⟨h,rfl,rfl⟩
  |true=>exact⟨h.upd rfl rfl rfl rfl h.dev h.two h.site h.mail h.log,rfl,rfl⟩
def aQu (w:AA)(d j:Int)(o:AQ):(iP w d j o).1.Seed=w.Seed/\(iP w d j o).1.Devices.length=w.Devices.length:=by
 unfold iP;cases !dV w d j with
 |true=>exact⟨rfl,rfl⟩
 |false=>
  cases !(aBA w j).2.2.2 with
  |true=>exact⟨rfl,rfl⟩
  |false=>
   cases !((Tg w d j o).2.1==0) with
   |true=>exact⟨rfl,ax ..⟩
   |false=>exact⟨rfl,ax ..⟩
def aHs (w:AA)(d:Int)(n:ByteArray)(a:Int)(r:Bool):(rF w d n a r).1.Seed=w.Seed/\(rF w d n a r).1.Devices.length=w.Devices.length:=by
 unfold rF;cases aQ w&&aL w d with
 |false=>exact⟨rfl,rfl⟩
 |true=>
  cases(dQ (aG w d) n a r).2 with
  |false=>exact⟨rfl,rfl⟩
  |true=>exact⟨rfl,ax ..⟩
def Tv {α:Type}[Inhabited α]{f:α->Nat}{K:Nat}{x:α}:∀{l:List α} {i:Nat},i<l.length->f x<=f (l.getD i default)+K->((l.set i x).map f).sum<=(l.map f).sum+K
 |y::l,0,_,h=>by
  simp only[List.getD,gh,ci] at h;simp only[jg,bn,dg];omega
 |y::l,i+1,hi,h=>by
  have:=Tv (f:=f) (l:=l) (i:=i) (x:=x) (K:=K) (by simpa using hi) (by simpa[List.getD] using h);simp only[gE,bn,dg];omega
def Ij {w:AA}{d:Int}(hd:aL w d=true){x:AD}{K:Nat}(a:x.sz<=(aG w d).sz+K):({w with Devices:=w.Devices.set d.toNat x}:AA).sz<=w.sz+K:=by obtain⟨h0,h1,h2⟩:=pU hd;have:=Tv (f:=AD.sz) (K:=K) h1 (by rw[<-h2];exact a);simp only[AA.sz,ax] at this ⊢;omega
def bFm {w:AA}{j:Nat}(a:j<w.Sites.length){x:AC}{K:Nat}(c:x.sz<=(w.Sites.getD j default).sz+K):({w with Sites:=w.Sites.set j x}:AA).sz<=w.sz+K:=by have:=Tv (f:=AC.sz) (K:=K) a c;simp only[AA.sz,ax] at this ⊢;omega
def WIn.aCP {m:Nat}{w:AA}(h:WIn m w):w.aAC.Log.length<=40:=by have:=h.log;unfold aZ at this;rw[ab] at this;have:=iC this.1;omega
def bC5 {m:Nat}{w:AA}(h:WIn m w)(d b:Int):(aM w d b).1.sz<=w.sz+60:=by
 have hl:=h.aCP;unfold aM;cases hb:aQ w&&aL w d with
 |false=>simp only[aa];omega
 |true=>rw[ab] at hb;simp only[ac];have:=aQa (aG w d) w.aAC.Log w.aAC.Boxes (fA w.aAC b).1;exact Ij hb.2 (by omega)
def bOj (w:AA)(d:Int)(n:ByteArray)(a:Int)(r:Bool):(rF w d n a r).1.sz<=w.sz+1:=by
 unfold rF;cases hb:aQ w&&aL w d with
 |false=>simp only[aa];omega
 |true=>
  rw[ab] at hb;simp only[ac];cases(dQ (aG w d) n a r).2 with
  |false=>simp only[aa];omega
  |true=>exact Ij hb.2 (Ic _ _ _ _)
def bOk {m:Nat}{w:AA}(h:WIn m w)(d:Int):(eX w d).1.sz<=w.sz+561:=by
 have hl:=h.aCP;cases hp:(eX w d).2 with
 |true=>have:=(Yp hp).2;omega
 |false=>
  have e:(eX w d).1=w:=by
   unfold eX at hp ⊢;cases hc:(aM w d 0).2==0&&(Tc (aM w d 0).1 d).2 with
   |true=>rw[hc] at hp;cases hp
   |false=>rfl
  rw[e];omega
def add_add {w:AA}(h:WIn w.Devices.length w)(b:Int):(fK w b).1.sz<=w.sz+2500:=by
 have hl:=h.aCP;unfold fK;cases a:Ie w b with
 |false=>simp only[aa];omega
 |true=>
  unfold Ie at a;simp only[ab,bz,cu] at a;obtain⟨⟨k1,k2,k3,k4⟩,k5,k6,k7,k8,k9⟩:=a;obtain⟨s1,s2,s3,s4,s5,s6⟩:=kT w b 0;have a0:=bC5 h b 0;have h0:=h.sync b 0;have h1:WIn w.Devices.length (add1 w b).1:=h0.aCZ _ _ _ _;obtain⟨c,e,k,s⟩:=aCy (aM w b 0).1 b 1 (aT (aO w.Seed (w.Devices.length:Int))) (λ_=>(aG (aM w b 0).1 b).Key);rw[s6] at c e;have c:(add1 w b).1.sz<=(aM w b 0).1.sz+14*(w.aAC.Log.length+1):=c;have e:(add1 w b).1.aAC.Log.length<=w.aAC.Log.length+1:=e;have hd:aL (add1 w b).1 b=true:=xJ k2 (by show(jP _ _ _ _ _).1.Devices.length=_;rw[k,s3]);obtain⟨u,y⟩:=aHi (st:=aO w.Seed (w.Devices.length:Int)) (n:=(w.Devices.length:Int)) (j:=0) (l:=(add1 w b).1.Sites);have z:=h1.two;have o:(aAU w b).sz<=(add1 w b).1.sz+4:=by have q:=Ij (w:=(add1 w b).1) hd (x:=kL (aG (add1 w b).1 b) (w.Devices.length:Int) false) (K:=2) (aOg _ _ _);unfold aAU aHh;simp only[AA.sz] at q ⊢;omega
  have i:=(Yp (w:=aAU w b) (d:=b) k8).2;have i:(rV w b).1.sz<=(aAU w b).sz+(aAU w b).aAC.Log.length+521:=i;have pl:=(Yp (w:=aAU w b) (d:=b) k8).1;have pl:(rV w b).1.aAC.Log=(aAU w b).aAC.Log:=pl;have p:(aAU w b).aAC.Log.length=(add1 w b).1.aAC.Log.length:=rfl;have ap:=aCz (rV w b).1 (bG (aO w.Seed (w.Devices.length:Int)));have nd:(bG (aO w.Seed (w.Devices.length:Int))).sz=0:=rfl;have f:=(mR (w:=appW (rV w b).1 (bG (aO w.Seed (w.Devices.length:Int)))) k9).2.2.2;have f:(Af w b).1.sz<=(appW (rV w b).1 (bG (aO w.Seed (w.Devices.length:Int)))).sz+(rV w b).1.aAC.Log.length+20:=f;have tl:=aOh (Af w b).1 2;simp only[ac];rw[pl,p] at f;omega
def bRn {m:Nat}{w:AA}(h:WIn m w)(b t:Int):(fH w b t).1.sz<=w.sz+2500:=by
 have hl:=h.aCP;unfold fH;cases hq:(aM w b 0).2==0&&(!eT w b&&(!(b==t)&&bC w t)) with
 |false=>simp only[aa];omega
 |true=>
  simp only[ab] at hq;obtain⟨q1,q2,q3,q4⟩:=mR hq.1;simp only[ac];unfold oZ;cases(nG w b t).2&&((Mt w b t).2&&(Mv w b t).2) with
  |false=>simp only[aa];omega
  |true=>
   obtain⟨e,i,d,k⟩:=aCy (jD w b) b 2 (aT (aG w t).Store) (mV (aG (jD w b) b).Store);have e0:(jD w b).aAC.Log=w.aAC.Log:=by show(aM w b 0).1.aAC.Log=_;rw[q2]
   rw[e0] at e i;have e:(nG w b t).1.sz<=(jD w b).sz+14*(w.aAC.Log.length+1):=e;have d:(nG w b t).1.Devices=(jD w b).Devices:=d;have q4:(jD w b).sz<=w.sz+w.aAC.Log.length+20:=q4;have hd:aL (nG w b t).1 b=true:=xJ q1.2 (by rw[d];exact q3);have l:(R6 w b t).length<=w.aAC.Log.length+1:=by unfold R6;have:=vL (jD w b).aAC.Log 2 (aT (aG w t).Store) (aG (jD w b) b).Store;rw[e0] at this ⊢;exact this
   have a:aG (nG w b t).1 b=aG (jD w b) b:=by unfold aG;rw[d]
   have j:(kL (Mt w b t).1 t true).sz<=(aG (nG w b t).1 b).sz+(w.aAC.Log.length+3):=by have x1:=aOg (Mt w b t).1 t true;have x2:=aQc (aG (jD w b) b) (R6 w b t) (mV (aG (jD w b) b).Store (R6 w b t));have x2:(Mt w b t).1.sz<=(aG (jD w b) b).sz+(R6 w b t).length:=x2;rw[a];omega
   have n:(Zm w b t).sz<=(nG w b t).1.sz+(w.aAC.Log.length+3):=by have q:=Ij (w:=(nG w b t).1) hd j;have c:=bCp t (nG w b t).1.Sites;unfold Zm;simp only[AA.sz,bh] at q ⊢;omega
   have f:aL (Zm w b t) b=true:=xJ hd (ax ..);have u:=(bS2 (w:=Zm w b t) f).2.2;have u:(Mv w b t).1.sz<=(Zm w b t).sz+501:=u;have tl:=aOh (Mv w b t).1 4;simp only[ac];omega
structure Kept (w v:AA):Prop where
 wi:WIn v.Devices.length v
 seed:v.Seed=w.Seed
 sz:v.sz<=w.sz+3000
def Kept.of {w v:AA}(h:WIn w.Devices.length v/\v.Seed=w.Seed/\v.Devices.length=w.Devices.length)(a:v.sz<=w.sz+3000):Kept w v:=⟨by rw[h.2.2];exact h.1,h.2.1,a⟩
def bKr (s:AC)(c t:Int)(x:AY)(h:aF s 1=0)(h0:0<s.Accounts.length):(pE s 1 c t x).1.sz<=s.sz+1:=by
 have hb:(qE s.Book c 1 t).1.Open.length<=s.Book.Open.length:=by
  unfold qE;cases !eQ s.Book||decide (dS s.Book c<0) with
  |true=>exact ai _
  |false=>simp only[aa,aw,bw,cy];omega
 have d:∀a x z q,(jZ a x z q).1.sz=a.sz:=λa x z q=>by
  unfold jZ;cases !bB a||(decide (aS a x.Handle<0)||(gH a (aS a x.Handle)).Cut) with
  |true=>rfl
  |false=>simp only[aa,AI.sz];cases kM (gH a (aS a x.Handle)).Public x z q (gH a (aS a x.Handle)).Counter==0<;>cases kM (gH a (aS a x.Handle)).Public x z q (gH a (aS a x.Handle)).Counter==4<;>simp
 have hs:=Tv (f:=AI.sz) (K:=0) (l:=s.Accounts) (i:=0) (x:=(jZ (fU s 0) x s.Name (fJ s.Book c)).1) h0 (by rw[d];exact ai _);unfold pE;rw[h];cases !dK s||decide ((0:Int)<0) with
 |true=>exact dy _
 |false=>
  simp only[aa];cases !(qE s.Book c 1 t).2 with
  |true=>simp only[ac,AC.sz];omega
  |false=>
   simp only[aa];cases !sM (fU s 0) 3 with
   |true=>simp only[ac,AC.sz];omega
   |false=>
    simp only[aa];cases !((jZ (fU s 0) x s.Name (fJ s.Book c)).2==0) with
    |true=>simp only[ac,AC.sz,show(0:Int).toNat=0 from rfl,ax];omega
    |false=>simp only[aa,AC.sz,show(0:Int).toNat=0 from rfl,ax,aw,au,bm];omega
def bKs (s:AC)(i n:Int):(lY s i n).1.sz<=s.sz+1:=by
 unfold lY;cases dK s&&(!decide (aF s i<0)&&(eH s.Book i n).2.2) with
 |false=>exact dy _
 |true=>
  have hb:(eH s.Book i n).1.Open.length<=s.Book.Open.length+1:=by
   unfold eH;cases eQ s.Book&&(!(s.Book.Next==1000000)&&(bK i 0 1000000&&bK n 0 1000000)) with
   |false=>simp only[aa];omega
   |true=>
    simp only[ac];cases decide ((s.Book.Open.length:Int)>=16) with
    |true=>simp only[ac,aw,cy,au,bm];omega
    |false=>simp only[aa,aw,au,bm];omega
  simp only[ac,AC.sz];omega
def bKt {m:Nat}{w:AA}(h:WIn m w)(d j:Int)(o:AQ):(iP w d j o).1.sz<=w.sz+3:=by
 unfold iP;cases ht:dV w d j with
 |false=>simp only[cY,ac];omega
 |true=>
  have a:=ht;simp only[dV,ab] at a;have h2:=h.two;have hq:=a.2.2;simp only[qA,ab,bq] at hq;have c:j.toNat<w.Sites.length:=by omega
  have es:fB w j=w.Sites[j.toNat]:=by unfold fB;simp[List.getD,ae c]
  have hs:=h.site _ c;rw[<-es,show((j.toNat:Nat):Int)=j by omega] at hs;have hb:SiteIn w.Seed j m (aBA w j).1:=hs.begin 1 w.Now;have f:(aBA w j).1.sz<=(fB w j).sz+1:=bKs _ _ _;obtain⟨l,e,_⟩:=hb.acc;have i:(Tg w d j o).1.sz<=(aBA w j).1.sz+1:=bKr _ _ _ _ hb.find (by rw[e];simp);have k:(aUt w d j o).sz<=w.sz+2:=by have q1:=Ij (w:=w) a.2.1 (x:={aG w d with Store:=(aC1 w d j o).1}) (K:=0) (ai _);have q2:=bFm (w:=w) c (x:=(Tg w d j o).1) (K:=2) (by show _<=(fB w j).sz+2;omega);unfold aUt;simp only[AA.sz] at q1 q2 ⊢;omega
  simp only[ay,aa];cases !(aBA w j).2.2.2 with
  |true=>simp only[ac];omega
  |false=>
   simp only[aa];cases !((Tg w d j o).2.1==0) with
   |true=>simp only[ac];omega
   |false=>have:=aOh (aUt w d j o) 1;simp only[aa];omega
def bFn {w:AA}(h:WIn w.Devices.length w)(d j:Int)(o:AQ):Kept w (iP w d j o).1:=by obtain⟨k1,k2⟩:=aQu w d j o;have:=bKt h d j o;exact .of ⟨h.visit d j o,k1,k2⟩ (by omega)
def Kept.refl {w:AA}(h:WIn w.Devices.length w):Kept w w:=⟨h,rfl,cM _ _⟩
def bOl {w:AA}(h:WIn w.Devices.length w)(b:Bool)(d j:Int)(o:AQ):Kept w (bif b then qJ w d j o else(w,1)).1:=by
 cases b with
 |true=>exact bFn h d j o
 |false=>exact .refl h
def bOm (w:AA)(i b:Int):(fT w i b).1.sz<=w.sz:=by
 unfold fT;cases hc: !aQ w||(decide (i<0)||decide (i>=(w.Hosts.length:Int))) with
 |true=>exact ai _
 |false=>
  have hi:=Mq (bo.1 hc).2;simp only[aa];cases(fM (w.Hosts.getD i.toNat default) b).2 with
  |false=>exact ai _
  |true=>have:=Tv (f:=AG.sz) (K:=0) (l:=w.Hosts) (i:=i.toNat) (x:=(fM (w.Hosts.getD i.toNat default) b).1) (by omega) (by rw[bCa];exact ai _);simp only[ac,AA.sz,ax];omega
def bRo (w:AA):(uD w).1.sz<=w.sz:=by
 unfold uD;cases aQ (sP w) with
 |false=>exact ai _
 |true=>
  have he:∀b n,(nU b n).Open.length<=b.Open.length:=λb n=>by
   unfold nU;cases eQ b with
   |false=>exact ai _
   |true=>exact e9 _ _
  have hs:∀(l:List AC) n,((l.map λs=>({s with Book:=nU s.Book n}:AC)).map AC.sz).sum<=(l.map AC.sz).sum:=λl n=>by
   induction l with
   |nil=>exact ai _
   |cons s l a=>have:=he s.Book n;simp only[bn,dg,AC.sz] at a ⊢;omega
  have:=hs w.Sites (sP w).Now;simp only[ac,AA.sz,sP,bh] at this ⊢;omega
def aHt {b:List Int}{p:Nat}{h:Int}{t:List Int}(e:b.drop p=h::t):p<b.length/\b.getD p 0=h/\b.drop (p+1)=t:=by
 have hp:p<b.length:=by have:=congrArg List.length e;rw[cy,au] at this;omega
 rw[cq hp] at e;injection e with a c;exact⟨hp,by simp[List.getD,ae hp,a],c⟩
def split_mul (r P:Int):r*P=r/128*(P*128)+r%128*P:=by
 have h:128*(r/128)+r%128=r:=Int.mul_ediv_add_emod r 128
 conv=>lhs;rw[<-h]
 rw[Int.add_mul,fj 128,eM,fj 128 P]
def bH4 {b y:List Int}{p:Nat}:∀(k i:Nat) (n r:Int),b.drop (p+i)=uvE k r++y->0<=r->r<128^(k+1)->(0<i->r≠0)->0<=n->n+r*128^i<=1000000000000->
  uvG b p (k+1) i n=(n+r*128^i,((p+i+(uvE k r).length:Nat):Int),true)
 |0,i,n,r,hd,h0,h1,hi,hn,hm=>by
  obtain⟨d1,d2,d3⟩:=aHt (show b.drop (p+i)=r::y from hd);have hr:r<128:=by simpa using h1
  unfold uvG;rw[cQ d1,d2,ak hr,ac,show r%128=r by omega,ao (show ¬n+r*128^i>1000000000000 by omega),gu];have:(decide (0<i)&&r==0)=false:=by
   by_cases c:0<i
   ·rw[cj.2 (hi c),dl]
   ·rw[ao c,e8]
  rw[this];rfl
 |k+1,i,n,r,hd,h0,h1,hi,hn,hm=>by
  have hp:(0:Int)<=128^i:=Int.pow_nonneg (by decide);have hs:=split_mul r (128^i);have a:(128:Int)^(i+1)=128^i*128:=fi ..;unfold uvE at hd ⊢;by_cases hb:r>127
  ·rw[ak hb,ac] at hd ⊢;obtain⟨d1,d2,d3⟩:=aHt (show b.drop (p+i)=(r%128+128)::(uvE k (r/128)++y) from hd);have hq:(r/128)<128^(k+1):=by have:(128:Int)^(k+1+1)=128^(k+1)*128:=fi ..;omega
   have e:0<=r%128*128^i:=jb (by omega) hp;have d:=bH4 k (i+1) (n+r%128*128^i) (r/128) (by rw[show p+(i+1)=p+i+1 by omega];exact d3) (by omega) hq (λ_=>by omega) (by omega) (by rw[a];omega);rw[uvG,cQ d1,d2,ao (show ¬r%128+128<128 by omega),aa,show(r%128+128)%128=r%128 by omega,d,a];simp only[au,da,and_true];constructor
   ·omega
   ·congr 1;omega
  ·rw[ao hb,aa] at hd ⊢;obtain⟨d1,d2,d3⟩:=aHt (show b.drop (p+i)=r::y from hd);unfold uvG;rw[cQ d1,d2,ak (show r<128 by omega),ac,show r%128=r by omega,ao (show ¬n+r*128^i>1000000000000 by omega),gu];have:(decide (0<i)&&r==0)=false:=by
    by_cases c:0<i
    ·rw[cj.2 (hi c),dl]
    ·rw[ao c,e8]
   rw[this];rfl
def bH5 {x y:List Int}{n:Int}(h:0<=n/\n<=1000000000000):zD (x++(enc1 n++y)) (x.length:Int)=(n,((x.length+(enc1 n).length:Nat):Int),true):=by
 have e:=aOf h;unfold zD;rw[dk (by omega),bv,e];have hp:(128:Int)^(5+1)=4398046511104:=by decide
 have:=bH4 (b:=x++(uvE 5 n++y)) (y:=y) (p:=x.length) 5 0 0 n (by simp) h.1 (by omega) (λh=>by omega) (by decide) (by simp;omega);rw[this];simp
def aQv:∀(t x y s:List Int),aUr t->kZ (x++(jG t++y)) t.length (x.length:Int) s=(s++t,((x.length+(jG t).length:Nat):Int),true)
 |[],x,y,s,_=>by simp[kZ,jG]
 |n::t,x,y,s,h=>by
  have hn:=h n (by simp);have c:=bH5 (x:=x) (y:=jG t++y) hn;rw[vH,cl];show kZ _ (t.length+1) _ _=_;rw[kZ,c];simp only[ac];have a:=aQv t (x++enc1 n) y (s++[n]) (λv hv=>h v (by simp[hv]));rw[aw,cl] at a;rw[a];simp[gt]
def aQw:∀l:List AH,mG (kJ l)=l/\lS (kJ l)=true
 |[]=>⟨rfl,rfl⟩
 |e::l=>by
  obtain⟨h1,h2⟩:=aQw l;have a:kJ (e::l)=aUs e++kJ l:=by simp[kJ]
  rw[a];obtain⟨s,h,v,d⟩:=e;cases d with
  |true=>exact⟨by show(⟨s,h,v,(1:Int)==1⟩:AH)::mG (kJ l)=_;rw[h1];rfl,by show(decide ((1:Int)<=1)&&lS (kJ l))=true;rw[h2];rfl⟩
  |false=>exact⟨by show(⟨s,h,v,(0:Int)==1⟩:AH)::mG (kJ l)=_;rw[h1];rfl,by show(decide ((0:Int)<=1)&&lS (kJ l))=true;rw[h2];rfl⟩
def bKu {b:AB}(h:aR b=true):∀e∈b.Entries,(0<=e.Site/\e.Site<=2147483646)/\(0<=e.Handle/\e.Handle<=1000000)/\(1<=e.Version/\e.Version<=1000000):=λe he=>by
 unfold aR at h;rw[ab,bz] at h;obtain⟨i,hi,rfl⟩:=dh.1 he;have:=T9 h.2 i hi;unfold aP0 at this;simp only[bo,cR] at this;have h1:=iC this.1;have h2:=iC this.2.1;have a:=iC this.2.2.1;exact⟨⟨h1.1,by omega⟩,⟨h2.1,by omega⟩,⟨a.1,by omega⟩⟩
def bRp {b:AB}(h:aR b=true):aUr (qB b):=λv hv=>by
 have hl:=mQ h;unfold qB at hv;rcases bu.1 hv with hv|hv
 ·rw[cm.1 hv];omega
 ·unfold kJ at hv;obtain⟨e,he,hv⟩:=List.mem_flatMap.1 hv;obtain⟨h1,h2,a⟩:=bKu h e he;unfold aUs at hv;simp only[ba,fL,or_false] at hv;rcases hv with rfl|rfl|rfl|rfl
  ·omega
  ·omega
  ·omega
  ·cases e.Deleted<;>simp
def bKv {b:AB}(h:aR b=true):Du (nT b)=(b,true):=by
 have hl:=mQ h;have hv:=bRp h;have he:nT b=enc1 (b.Entries.length:Int)++jG (kJ b.Entries):=by unfold nT qB;rw[h,ac];rfl
 have d:zD (nT b) 0=((b.Entries.length:Int),(((enc1 (b.Entries.length:Int)).length:Nat):Int),true):=by have:=bH5 (x:=[]) (y:=jG (kJ b.Entries)) (n:=(b.Entries.length:Int)) (by omega);rw[bp,<-he] at this;simpa using this
 have hd:=aQv (kJ b.Entries) (enc1 (b.Entries.length:Int)) [] [] (λv c=>hv v (by unfold qB;simp[c]));rw[cV,<-he,vI,bp] at hd;have a:(((enc1 (b.Entries.length:Int)).length+(jG (kJ b.Entries)).length:Nat):Int)=((nT b).length:Int):=by rw[he,aw]
 obtain⟨e,f⟩:=aQw b.Entries;unfold Du;rw[d,show(4*(b.Entries.length:Int)).toNat=4*b.Entries.length by omega,hd,ao (show ¬(b.Entries.length:Int)>20 by omega)];unfold bCi;simp only[a,e,f];rw[h];simp
def aZ7 {α β:Type}{y:Nat->α->β}:∀{l:List α} {i k:Nat} (h:k<l.length) (h2:k<(Px (λi x=>[y i x]) i l).length),(Px (λi x=>[y i x]) i l)[k]=y (i+k) l[k]
 |x::l,i,0,_,_=>rfl
 |x::l,i,k+1,h,h2=>by
  have:=aZ7 (y:=y) (l:=l) (i:=i+1) (k:=k) (by simpa using h) (by rw[rZ];simpa using h);rw[show i+1+k=i+(k+1) by omega] at this;exact this
def bC6 {k:Int}{d:List Int}(h:∀z∈d,0<=z/\z<=255):Si k (mI k d)=d:=by
 apply List.ext_getElem
 ·unfold Si mI;rw[rZ,rZ]
 ·intro i h1 h2;have a:i<(mI k d).length:=by unfold mI;rw[rZ];exact h2
  have c:(Si k (mI k d))[i]=aPw k (0+i) (mI k d)[i]:=aZ7 a h1;have e:(mI k d)[i]=bCj k (0+i) d[i]:=aZ7 h2 a;rw[c,e];have f:=h d[i] (cf h2);unfold aPw bCj;generalize bP k [((0+i:Nat):Int)]=q;rw[IntKind.wrap_u8,IntKind.wrap_u8];omega
def aYg {k e v:Int}{b:AB}(hk:bL k=true)(he:0<=e/\e<=1000000)(hv:0<=v/\v<=1000000)(hb:aR b=true):iB k (gB k e v b)=(b,true):=by
 have hm:(gB k e v b).MAC=jB k (gB k e v b):=by simp only[gB,jB]
 unfold iB;rw[hm,dr,hk,show(gB k e v b).Epoch=e from rfl,show(gB k e v b).Version=v from rfl,gT he.1 he.2,gT hv.1 hv.2];show Du (Si (lX k e v) (mI (lX k e v) (nT b)))=(b,true);rw[bC6 (Ta (aCx b)),bKv hb]
def bOn {p e:Int}{d:List Int}(hp:bL p=true)(he:bL e=true)(hl:d.length<=200)(hd:∀z∈d,0<=z/\z<=255):gI p (jC (cZ p) e d)=(d,true):=by
 have a:(jC (cZ p) e d).To=cZ p:=rfl;have c:(jC (cZ p) e d).Ephemeral=e:=rfl;have f:(jC (cZ p) e d).Data=mI (iH p e) d:=by unfold jC;rw[Ii hp]
 have h:(jC (cZ p) e d).MAC=Sj (iH p e) (jC (cZ p) e d):=by unfold jC Sj;rw[Ii hp]
 unfold gI;rw[c,a,h,hp,he,f,Td,dr,dr,ao (show ¬(d.length:Int)>200 by omega),bC6 hd];rfl
def bFo {p:Int}{b:AO}(h:b.To≠cZ p):(gI p b).2=false:=by unfold gI;rw[bne,cj.2 h];cases bL p<;>rfl
def aQx {p:Int}{d:List Int}(hp:bL p=true)(hl:d.length<=200)(hd:∀z∈d,0<=z/\z<=255):∀{bs:List AO} {k:Nat} (hk:k<bs.length),(∀j (a:j<bs.length),j<k->bs[j].To≠cZ p)->(∃e,bL e=true/\bs[k]=jC (cZ p) e d)->gW bs p=(d,true)
 |b::bs,0,_,_,⟨e,he,hb⟩=>by
  have hb:b=jC (cZ p) e d:=hb;rw[gW,hb,bOn hp he hl hd];rfl
 |b::bs,k+1,hk,hn,⟨e,he,hb⟩=>by
  have h0:b.To≠cZ p:=hn 0 (by simp) (by omega);rw[gW,bFo h0,aa];exact aQx hp hl hd (by simpa using hk) (λj a c=>hn (j+1) (by simpa using a) (by omega)) ⟨e,he,hb⟩
structure BoxIn (log:List AF) (bx:AN) (key:Int):Prop where
 ep:bx.Epoch=aC log
 to:bx.Boxes.map (·.To)=aD log
 nd:(aD log).Nodup
 kok:bL key=true
 box:∀k (h:k<bx.Boxes.length),∃e,bL e=true/\bx.Boxes[k]=jC bx.Boxes[k].To e (jG [aC log,key])
 eps:0<=aC log/\aC log<=40
def bU9 {k:Int}(h:bL k=true):0<=k/\k<=1000000000000:=by have:=aQq h;omega
def Ni {log:List AF}{bx:AN}{key:Int}(h:BoxIn log bx key){s:AK}(hs:aT s∈aD log):bM s bx=(key,true):=by
 obtain⟨h1,h2,f,i,l,p⟩:=h;rw[<-h2] at hs f;obtain⟨k,hk,e⟩:=dh.1 hs;have a:k<bx.Boxes.length:=by simpa using hk
 have e:bx.Boxes[k].To=cZ (iG s):=by rw[fN] at e;rw[e];rfl
 have hd:(jG [aC log,key]).length<=12:=bS7 _ _;have n:gW bx.Boxes (iG s)=(jG [aC log,key],true):=by
  refine aQx (U0 s) (by omega) (R4 _) a (λj o d he=> ?_) ?_
  ·have:=eo.1 f j k (by simpa using o) (by simpa using a) d;rw[fN,fN] at this;exact this (by rw[he,e])
  ·obtain⟨q,hq,hb⟩:=l k a;rw[e] at hb;exact⟨q,hq,hb⟩
 have c:jU (jG [aC log,key]) 0 2=([aC log,key],((jG [aC log,key]).length:Int),true):=by
  have:=aQv [aC log,key] [] [] [] (λv hv=>by
   simp only[ba,fL,or_false] at hv;rcases hv with rfl|rfl
   ·omega
   ·exact bU9 i)
  simp only[bp,cV,bm,cg] at this;unfold jU;rw[show bK 2 0 100=true from rfl,gT (by omega) (by omega)];exact this
 unfold bM Ml;rw[n,c];show(bif !true||(!true||(((jG [aC log,key]).length:Int) !=((jG [aC log,key]).length:Int)||(aC log !=bx.Epoch|| !bL key))) then(0,false) else(key,true))=(key,true);rw[dr,h1,dr,i];rfl
def aQy {log:List AF}{bx:AN}{key:Int}(h:BoxIn log bx key)(hl:aZ log=true){d:AD}(he:dG log d.Log=true)(hs:aT d.Store∈aD log)
  {e v:Int} {b:AB} (hv:0<=v/\v<=1000000) (hb:aR b=true) (i:e=aC log) (ho:d.Epoch<e\/(d.Epoch=e/\d.Version<=v)) (hm:(dU d.aAD b).2=true):
  bR d log bx (gB key e v b)=(⟨d.Store,log,key,e,v,(dU d.aAD b).1⟩,0):=by
 have a:=Ni h hs;have j:=h.eps;have c:iB key (gB key e v b)=(b,true):=aYg h.kok (by omega) hv hb;have f:jY d log bx (gB key e v b)=0:=by
  unfold jY;rw[hl,he,lZ.2 hs,a,h.ep,c,hm,dr,show(gB key e v b).Epoch=e from rfl,show(gB key e v b).Version=v from rfl];have:(decide (e<aC log)||(decide (e<d.Epoch)||(e==d.Epoch&&decide (v<d.Version))))=false:=by
   rw[ao (show ¬e<aC log by omega),ao (show ¬e<d.Epoch by omega),cx,cx];rcases ho with ho|ho
   ·rw[cj.2 (show e≠d.Epoch by omega),e8]
   ·rw[ao (show ¬v<d.Version by omega),dl]
  rw[this];rfl
 unfold bR;rw[f,a,c];rfl
def bC7 (log:List AF):dG log []=true:=by unfold dG;simp[gM]
def bOo (a:AF):bJ2 a a=true:=by unfold bJ2;simp
def aLs (log r:List AF):dG (log++r) log=true:=by
 unfold dG;rw[ak (by simp),cw,bz];exact Nb λk hk=>by
  rw[cg,cR];have:(log++r).getD k default=log[k]:=by simp[List.getD,av hk,ae hk]
  rw[this];exact bOo _
def bC8 (log:List AF):dG log log=true:=by simpa using aLs log []
def bC9 {seed:Int}{n:Nat}(h0:1<=n)(hn:n<=6):BoxIn (aU seed n) (iQ seed n) (bY seed 0):=by
 obtain⟨h1,h2,s,h,j⟩:=rH seed n hn;have hl:aZ (aU seed n)=true:=j.resolve_left (by omega);have hlen:(aD (aU seed n)).length<=1000:=by rw[h2,bh,fc];omega
 have hk:bL (bY seed 0)=true:=by unfold bY;exact iR _ _
 obtain⟨u,l,f,o⟩:=aHr (key:=bY seed 0) (eph:=1000) hl hk (λp hp=>by
  rw[h2] at hp;obtain⟨i,_,rfl⟩:=cb.1 hp;exact aC6 _ _) hlen ⟨by decide,by decide⟩
 have a:(aD (aU seed n)).Nodup:=by rw[h2];exact bC3 hn
 refine⟨l,f,a,hk,λk c=> ?_,by rw[h];exact⟨by decide,by decide⟩⟩;have q:(iQ seed n).Boxes.length=(aD (aU seed n)).length:=by have:=congrArg List.length f;rw[bh] at this;exact this
 have d:k<(aD (aU seed n)).length:=by omega
 have hb:=o k c d;have e:(iQ seed n).Boxes[k].To=(aD (aU seed n))[k]:=by show(bJ (aU seed n) (bY seed 0) 1000).1.Boxes[k].To=_;rw[hb];rfl
 refine⟨1000+(k:Int),gT (by omega) (by omega),?_⟩;rw[e];exact hb
def nwB:Nat->AB
 |1=>⟨[⟨1464438180,0,1,false⟩,⟨1941999745,0,1,false⟩]⟩
 |2=>⟨[⟨1464438180,0,1,false⟩,⟨1464438180,1,1,false⟩,⟨1941999745,0,1,false⟩,⟨1941999745,1,1,false⟩]⟩
 |3=>⟨[⟨1464438180,0,1,false⟩,⟨1464438180,1,1,false⟩,⟨1464438180,2,1,false⟩,⟨1941999745,0,1,false⟩,⟨1941999745,1,1,false⟩,⟨1941999745,2,1,false⟩]⟩
 |_=>⟨[]⟩
def K4 (seed:Int)(n k:Nat)(v:Int)(b:AB):AD:=⟨aO seed (k:Int),aU seed n,bY seed 0,0,v,b⟩
def bOp {seed:Int}{n:Nat}(h0:1<=n)(hn:n<=6)(k:Nat):wP seed n (bG (aO seed (k:Int)))=K4 seed n k 0 ⟨[]⟩:=by
 obtain⟨h1,h2,d,a,c⟩:=rH seed n hn;have hl:aZ (aU seed n)=true:=c.resolve_left (by omega);have hk:bL (bY seed 0)=true:=by unfold bY;exact iR _ _
 unfold wP mU bG;rw[hl,bC7,hk,a];rfl
def bWw {n:Nat}(h:n=1\/n=2\/n=3)(s:AK)(l:List AF)(k e v:Int):Ig (aA 1) n (Ig (aA 0) n ⟨s,l,k,e,v,⟨[]⟩⟩)=⟨s,l,k,e,v,nwB n⟩:=by rcases h with rfl|rfl|rfl<;>kernel_rfl
def bFp {n:Nat}(h:n=1\/n=2\/n=3):aR (nwB n)=true/\dU ⟨[]⟩ (nwB n)=(nwB n,true)/\dU (nwB n) (nwB n)=(nwB n,true):=by rcases h with rfl|rfl|rfl<;>exact⟨by kernel_rfl,by kernel_rfl,by kernel_rfl⟩
def bKw {seed:Int}{n:Nat}(h:n=1\/n=2\/n=3):lU seed n=K4 seed n 0 0 (nwB n):=by unfold lU;rw[show(0:Int)=((0:Nat):Int) from rfl,bOp (by omega) (by omega)];exact bWw h _ _ _ _ _
def bOq {seed:Int}{n:Nat}(h:n=1\/n=2\/n=3):nwW seed n=(K4 seed n 0 1 (nwB n),gB (bY seed 0) 0 1 (nwB n),true):=by
 have hk:bL (bY seed 0)=true:=by unfold bY;exact iR _ _
 unfold nwW;rw[bKw h];unfold cK qC K4;simp only[];rw[show IntKind.i64.wrap (0+1)=1 from by decide,hk,(bFp h).1];rfl
def aQ0 {seed:Int}{n k:Nat}(h:n=1\/n=2\/n=3)(hk:k<n):sO seed n (bG (aO seed (k:Int)))=K4 seed n k 1 (nwB n):=by
 obtain⟨h1,h2,f,c,e⟩:=rH seed n (by omega);obtain⟨b1,a,i⟩:=bFp h;unfold sO;rw[bOp (by omega) (by omega),bOq h];rw[aQy (bC9 (by omega) (by omega)) (e.resolve_left (by omega)) (d:=K4 seed n k 0 ⟨[]⟩) (bC8 _) (by
  rw[h2];exact cb.2 ⟨k,gl.2 hk,rfl⟩) ⟨by decide,by decide⟩ b1 c.symm (.inr ⟨rfl,by show(0:Int)<=1;decide⟩) (by show(dU ⟨[]⟩ (nwB n)).2=true;rw[a])]
 show(AD.mk (aO seed (k:Int)) (aU seed n) (bY seed 0) 0 1 (dU ⟨[]⟩ (nwB n)).1)=_;rw[a];rfl
def bDa {seed:Int}{n:Nat}(h:n=1\/n=2\/n=3):jH seed n=(List.range n).map λk=>K4 seed n k 1 (nwB n):=by
 unfold jH dM;rw[bOq h];rcases h with rfl|rfl|rfl
 ·rfl
 ·show[_,sO seed 2 (bG (aO seed ((1:Nat):Int)))]=_;rw[aQ0 (.inr (.inl rfl)) (by decide)];rfl
 ·show[_,sO seed 3 (bG (aO seed ((1:Nat):Int))),sO seed 3 (bG (aO seed ((2:Nat):Int)))]=_;rw[aQ0 (.inr (.inr rfl)) (by decide),aQ0 (.inr (.inr rfl)) (by decide)];rfl
def aYh {seed:Int}{n:Nat}(h:n=1\/n=2\/n=3):jL seed n=⟨aU seed n,iQ seed n,[gB (bY seed 0) 0 1 (nwB n)]⟩:=by
 obtain⟨h1,h2,_⟩:=U1 (seed:=seed) (n:=n) (by omega) (by omega);have a:=(rH seed n (by omega)).ep;have e:fO (aU seed n) (iQ seed n)=(⟨aU seed n,iQ seed n,[]⟩,true):=by unfold fO;rw[h1,h2];rfl
 unfold jL;rw[e,bOq h];show(cB ⟨aU seed n,iQ seed n,[]⟩ (gB (bY seed 0) 0 1 (nwB n))).1=_;unfold cB;rw[show(gB (bY seed 0) 0 1 (nwB n)).Epoch=0 from rfl,a];rfl
def aLt (w:AA)(d j:Int)(o:AQ):(iP w d j o).1.Hosts=w.Hosts:=by
 unfold iP;cases !dV w d j with
 |true=>rfl
 |false=>
  cases !(aBA w j).2.2.2 with
  |true=>rfl
  |false=>cases !((Tg w d j o).2.1==0)<;>rfl
def vO (w:AA)(d b:Int):(aM w d b).1.Hosts=w.Hosts:=by unfold aM;cases aQ w&&aL w d<;>rfl
def bDb (w:AA)(d:Int):(Tc w d).1.Hosts=w.Hosts:=by unfold Tc;cases(cK (aG w d)).2.2&&(cB w.aAC (cK (aG w d)).2.1).2<;>rfl
def U3 (w:AA)(d:Int):(eX w d).1.Hosts=w.Hosts:=by
 unfold eX;cases(aM w d 0).2==0&&(Tc (aM w d 0).1 d).2 with
 |false=>rfl
 |true=>exact(bDb _ _).trans (vO _ _ _)
def aQ1 (w:AA)(d:Int)(n:ByteArray)(a:Int)(r:Bool):(rF w d n a r).1.Hosts=w.Hosts:=by
 unfold rF;cases aQ w&&aL w d with
 |false=>rfl
 |true=>cases(dQ (aG w d) n a r).2<;>rfl
def aLu (w:AA)(b k p:Int)(key:List AF->Int):(jP w b k p key).1.Hosts=w.Hosts:=by unfold jP;simp only[];generalize eY w.aAC.Log k p (aG w b).Store=l;generalize bJ l.1 (key l.1) (IntKind.i64.wrap (1000+IntKind.i64.wrap (10*(l.1.length:Int))))=e;cases l.2&&(e.2&&(kK w.aAC l.1 e.1).2)<;>rfl
def aYi (w:AA)(b:Int):(fK w b).1.Hosts=w.Hosts:=by
 unfold fK;cases Ie w b with
 |false=>rfl
 |true=>
  show(Af w b).1.Hosts=w.Hosts;have a:(rV w b).1.Hosts=w.Hosts:=by unfold rV;rw[U3];exact(aLu _ _ _ _ _).trans (vO _ _ _)
  unfold Af
  first
   |exact a
   |exact(vO _ _ _).trans a
def aLv (w:AA)(d:Int):(oK w d).1.Hosts=w.Hosts:=by unfold oK;cases dV w d 0&& !eT w d<;>rfl
def aQ2 (w:AA):(uD w).1.Hosts=w.Hosts:=by unfold uD;cases aQ (sP w)<;>rfl
def aYj (w:AA)(b t:Int):(fH w b t).1.Hosts=w.Hosts:=by
 unfold fH;generalize((aM w b 0).2==0&&(!eT w b&&(!(b==t)&&bC w t)))=q;cases q with
 |false=>rfl
 |true=>
  show(oZ w b t).1.Hosts=w.Hosts;have h1:(nG w b t).1.Hosts=w.Hosts:=(aLu _ _ _ _ _).trans (vO _ _ _);have a:(Mv w b t).1.Hosts=w.Hosts:=(bDb _ _).trans h1;unfold oZ;cases(nG w b t).2&&((Mt w b t).2&&(Mv w b t).2) with
  |false=>rfl
  |true=>exact a
def bDc (w:AA)(pin:Int):(wF w pin).1.Hosts.length=w.Hosts.length:=by
 show(fP w (vN w) pin).1.Hosts.length=_;unfold fP;cases aQ w with
 |false=>rfl
 |true=>exact(bHx ..).1
def bDd (w:AA):(eO w).1.Hosts.length<=w.Hosts.length:=by
 unfold eO;cases aQ w&&(fC w.Hosts (aCu w)).2 with
 |false=>exact ai _
 |true=>exact(K3 ..).1
def bFq (w:AA)(i b:Int):(fT w i b).1.Hosts.length=w.Hosts.length:=by
 unfold fT;cases !aQ w||(decide (i<0)||decide (i>=(w.Hosts.length:Int))) with
 |true=>rfl
 |false=>cases(fM (w.Hosts.getD i.toNat default) b).2 with
  |false=>rfl
  |true=>exact ax ..
def bOr (w:AA)(d:Int):(oK w d).1.sz=w.sz:=by
 unfold oK;cases dV w d 0&& !eT w d with
 |false=>rfl
 |true=>simp only[ac,AA.sz,ax]
structure KeptH (w v:AA):Prop where
 kept:Kept w v
 hosts:v.Hosts.length<=w.Hosts.length
def KeptH.of {w v:AA}(h:Kept w v)(e:v.Hosts=w.Hosts):KeptH w v:=⟨h,by rw[e];exact ai _⟩
def bFr {w:AA}(h:WIn w.Devices.length w)(a:w.Hosts.length<=400)(k d o v:Int)(f:Bool):KeptH w (R9 w k d o v f).1:=by
 have tr:∀b d j o,KeptH w (bif b then qJ w d j o else(w,1)).1:=λb d j o=>by
  refine .of (bOl h b d j o) ?_;cases b with
  |true=>exact aLt _ _ _ _
  |false=>rfl
 unfold R9;rw[h.ok];simp only[ay,aa];cases k==1 with
 |true=>exact .of (.of h.tick (ca (bRo w) (cM _ _))) (aQ2 w)
 |false=>
 simp only[aa];cases k==2 with
 |true=>exact tr _ _ _ _
 |false=>
 simp only[aa];cases k==3 with
 |true=>exact tr _ _ _ _
 |false=>
 simp only[aa];cases k==4 with
 |true=>exact .of (.of (h.aCB d) (by rw[ac,bOr];omega)) (aLv w d)
 |false=>
 simp only[aa];cases k==5 with
 |true=>exact tr _ _ _ _
 |false=>
 simp only[aa];cases k==6 with
 |true=>exact .of ⟨(h.add d).1,(h.add d).2,by have:=add_add h d;rw[ac];omega⟩ (aYi w d)
 |false=>
 simp only[aa];cases k==7 with
 |true=>exact .of (.of (h.cut d o) (by have:=bRn h d o;rw[ac];omega)) (aYj w d o)
 |false=>
 simp only[aa];cases k==8 with
 |true=>exact .of (.of ⟨h.aDG d aZ5 v f,aHs w d aZ5 v f⟩ (by have:=bOj w d aZ5 v f;rw[ac];omega)) (aQ1 w d aZ5 v f)
 |false=>
 simp only[aa];cases k==9 with
 |true=>exact .of (.of ⟨h.push d,(Yz w d).1,(Yz w d).2.2.1⟩ (by have:=bOk h d;rw[ac];omega)) (U3 w d)
 |false=>
 simp only[aa];cases k==10 with
 |true=>exact .of (.of ⟨h.sync d v,(kT w d v).1,(kT w d v).2.2.1⟩ (by have:=bC5 h d v;rw[ac];show(aM w d v).1.sz<=_;omega)) (vO w d v)
 |false=>
 simp only[aa];cases k==11 with
 |true=>exact⟨.of (h.aCO v) (by
   have h1:=bRi w (vN w) v;have h2:=aQo w;show(fP w (vN w) v).1.sz<=_;omega),Nat.le_of_eq (bDc w v)⟩
 |false=>
 simp only[aa];cases k==12 with
 |true=>exact⟨.of h.renew (ca (aUq w) (cM _ _)),bDd w⟩
 |false=>
 simp only[aa];cases k==13 with
 |true=>exact⟨.of (h.roll o v) (ca (bOm w o v) (cM _ _)),Nat.le_of_eq (bFq w o v)⟩
 |false=>exact⟨.refl h,ai _⟩
def same (s h:Int)(e:AH):Bool:=e.Site==s&&e.Handle==h
def lk (l:List AH)(s h:Int):Option AH:=l.find? (same s h)
def bOs:Option AH->Option AH->Option AH
 |none,y=>y
 |some e,none=>some e
 |some e,some x=>some (pJ e x)
def same_iff {s h:Int}{e:AH}:same s h e=true↔e.Site=s/\e.Handle=h:=by simp[same]
def zP (e:AH):same e.Site e.Handle e=true:=same_iff.2 ⟨rfl,rfl⟩
def Za {a b:AH}(h:eF a b=true):¬(a.Site=b.Site/\a.Handle=b.Handle):=by grind[vF]
def bFs {a b:AH}(h:eF a b=true):eF b a=false:=by
 grind[vF]
def nN:∀(n:Nat) {a b:List AH} {e:AH},a.length+b.length<=n->e∈bH a b->e∈a\/e∈b
 |_,[],b,e,_,h=>by rw[jX] at h;exact .inr h
 |_,a::xs,[],e,_,h=>by rw[fF] at h;exact .inl h
 |0,a::xs,b::bs,e,h,_=>by simp at h
 |n+1,a::xs,b::bs,e,hn,h=>by
  simp only[au] at hn;rw[vG] at h;cases h1:eF a b with
  |true=>
   rw[h1,ac] at h;rcases ba.1 h with rfl|h
   ·exact .inl (cA ..)
   ·rcases nN n (by simp only[au];omega) h with h|h
    ·exact .inl (cn _ h)
    ·exact .inr h
  |false=>
   rw[h1,aa] at h;cases h2:eF b a with
   |true=>
    rw[h2,ac] at h;rcases ba.1 h with rfl|h
    ·exact .inr (cA ..)
    ·rcases nN n (by simp only[au];omega) h with h|h
     ·exact .inl h
     ·exact .inr (cn _ h)
   |false=>
    rw[h2,aa] at h;rcases ba.1 h with rfl|h
    ·rcases bHk a b with e|e
     ·rw[e];exact .inl (cA ..)
     ·rw[e];exact .inr (cA ..)
    ·rcases nN n (by omega) h with h|h
     ·exact .inl (cn _ h)
     ·exact .inr (cn _ h)
def Zb:∀(n:Nat) {a b:List AH},a.length+b.length<=n->Ym a->Ym b->Ym (bH a b)
 |_,[],b,_,_,h=>by rw[jX];exact h
 |_,a::xs,[],_,h,_=>by rw[fF];exact h
 |0,a::xs,b::bs,h,_,_=>by simp at h
 |n+1,a::xs,b::bs,hn,e,hb=>by
  simp only[au] at hn;obtain⟨d,f⟩:=cp.1 e;obtain⟨b1,i⟩:=cp.1 hb;rw[vG];cases h1:eF a b with
  |true=>
   rw[ac];refine cp.2 ⟨λy c=> ?_,Zb n (by simp only[au];omega) f hb⟩;rcases nN _ (ai _) c with c|c
   ·exact d y c
   ·rcases ba.1 c with rfl|c
    ·exact h1
    ·exact oG h1 (b1 y c)
  |false=>
   rw[aa];cases h2:eF b a with
   |true=>
    rw[ac];refine cp.2 ⟨λy c=> ?_,Zb n (by simp only[au];omega) e i⟩;rcases nN _ (ai _) c with c|c
    ·rcases ba.1 c with rfl|c
     ·exact h2
     ·exact oG h2 (d y c)
    ·exact b1 y c
   |false=>
    rw[aa];have hk:=Ad h1 h2;have hp:=aCr hk;refine cp.2 ⟨λy c=> ?_,Zb n (by omega) f i⟩;rw[Ib hp];rcases nN _ (ai _) c with c|c
    ·rw[<-Ib hk];exact d y c
    ·exact b1 y c
def nV (a:AH)(l:List AH)(s h:Int):lk (a::l) s h=bif same s h a then some a else lk l s h:=by unfold lk;rw[List.find?_cons];cases same s h a<;>rfl
def aC7 {l:List AH}{s h:Int}(hl:∀e∈l,same s h e=false):lk l s h=none:=by
 grind[List.find?_eq_none,lk]
def xK {l:List AH}{s h:Int}{e:AH}(hl:lk l s h=some e):e∈l/\e.Site=s/\e.Handle=h:=by
 grind[List.mem_of_find?_eq_some,same_iff,List.find?_some,lk]
def aZ8 {a:AH}{l:List AH}(hs:Ym (a::l)){s h:Int}(c:same s h a=true):∀e∈l,same s h e=false:=λe he=>by
 have:=Za ((cp.1 hs).1 e he)
 grind[trans,same_iff]
def bDe {l:List AH}(hs:Ym l){e:AH}(he:e∈l):lk l e.Site e.Handle=some e:=by
 induction l with
 |nil=>simp at he
 |cons a l c=>
  rw[nV];rcases ba.1 he with rfl|he
  ·rw[zP];rfl
  ·cases hq:same e.Site e.Handle a with
   |true=>grind[zP,aZ8]
   |false=>exact c (cp.1 hs).2 he
def bFt:∀{a b:List AH},Ym a->Ym b->(∀s h,lk a s h=lk b s h)->a=b
 |[],[],_,_,_=>rfl
 |[],b::bs,_,_,h=>by have:=h b.Site b.Handle;rw[nV,zP] at this;cases this
 |a::xs,[],_,_,h=>by have:=h a.Site a.Handle;rw[nV,zP] at this;cases this
 |a::xs,b::bs,c,hb,h=>by
  have d:a=b:=by
   have h1:=h a.Site a.Handle;have h2:=h b.Site b.Handle;rw[nV,zP,ac] at h1;rw[nV b,zP,ac] at h2;have f:=(xK h1.symm).1;have i:=(xK h2).1;rcases ba.1 f with e|f
   ·exact e
   ·rcases ba.1 i with e|i
    ·exact e.symm
    ·have q1:=(cp.1 hb).1 a f;have q2:=(cp.1 c).1 b i;rw[bFs q1] at q2;cases q2
  subst d;congr 1;refine bFt (cp.1 c).2 (cp.1 hb).2 λs j=> ?_
  have:=h s j;rw[nV,nV] at this;cases hq:same s j a with
  |true=>rw[aC7 (aZ8 c hq),aC7 (aZ8 hb hq)]
  |false=>rw[hq] at this;exact this
def bKx {a b:AH}(hk:a.Site=b.Site/\a.Handle=b.Handle)(s h:Int):same s h (pJ a b)=same s h b:=by have:=aCr hk;unfold same;rw[this.1,this.2]
def aC8:∀(n:Nat) {a b:List AH},a.length+b.length<=n->Ym a->Ym b->∀s h,lk (bH a b) s h=bOs (lk a s h) (lk b s h)
 |_,[],b,_,_,_,s,h=>by rw[jX];rfl
 |_,a::xs,[],_,_,_,s,h=>by
  rw[fF];show _=bOs (lk (a::xs) s h) none;cases lk (a::xs) s h<;>rfl
 |0,a::xs,b::bs,h,_,_,_,_=>by simp at h
 |n+1,a::xs,b::bs,hn,d,hb,s,h=>by
  simp only[au] at hn;obtain⟨i,e⟩:=cp.1 d;obtain⟨b1,f⟩:=cp.1 hb;rw[vG];cases h1:eF a b with
  |true=>
   rw[ac,nV,nV a xs,aC8 n (by grind) e hb];cases hq:same s h a with
   |false=>rfl
   |true=>have c:lk (b::bs) s h=none:=(by grind[aC7,eF,ba,oG,Za,same_iff,trans]);rw[c];rfl
  |false=>
   rw[aa];cases h2:eF b a with
   |true=>
    rw[ac,nV,nV b bs,aC8 n (by grind) d f];cases hq:same s h b with
    |false=>rfl
    |true=>have c:lk (a::xs) s h=none:=(by grind[aC7,eF,ba,oG,Za,same_iff,trans]);rw[c];rfl
   |false=>
    have hk:=Ad h1 h2;rw[aa,nV,nV a xs,nV b bs,aC8 n (by omega) e f,bKx hk];have:same s h a=same s h b:=by unfold same;rw[hk.1,hk.2]
    rw[this];cases same s h b<;>rfl
def lkM {a b:List AH}(c:Ym a)(hb:Ym b)(s h:Int):lk (bH a b) s h=bOs (lk a s h) (lk b s h):=aC8 _ (ai _) c hb s h
def bVa {a b:List AH}(c:Ym a)(hb:Ym b):Ym (bH a b):=Zb _ (ai _) c hb
def rk (e:AH):Int:=2*e.Version+(bif e.Deleted then 1 else 0)
def bS8 {x e:AH}(hk:x.Site=e.Site/\x.Handle=e.Handle)(h:rk x=rk e):x=e:=by obtain⟨s,a,v,d⟩:=x;obtain⟨s2,h2,c,d2⟩:=e;simp only[rk] at h hk;obtain⟨rfl,rfl⟩:=hk;cases d<;>cases d2<;>simp at h ⊢<;>omega
def bOt {x e:AH}:pO x e=true↔rk e<rk x\/(rk e=rk x/\x.Deleted=true):=by unfold pO rk;simp only[cz,ab,bq,cH];cases x.Deleted<;>cases e.Deleted<;>simp only[ac,aa,jl,and_false,and_true,or_false]<;>omega
def aOn {e x:AH}(hk:x.Site=e.Site/\x.Handle=e.Handle):pJ e x=if rk e<rk x then x else e:=by
 grind[pO,bOt,absurd,bS8,rk,pJ]
def Tw (a b:List AH):Prop:=∀e∈a,∃x∈b,x.Site=e.Site/\x.Handle=e.Handle/\rk e<=rk x
def Tw.refl (a:List AH):Tw a a:=λe he=>(by grind)
def Tw.trans {a b c:List AH}(h:Tw a b)(k:Tw b c):Tw a c:=λe he=>by
 obtain⟨x,d,x1,x2,f⟩:=h e he;obtain⟨y,i,j,l,n⟩:=k x d
 grind
def Tw.nil (b:List AH):Tw [] b:=λe he=>by simp at he
def Tw.merge {a b:List AH}(f:Ym a)(hb:Ym b)(h:Tw a b):bH b a=b:=by
 refine bFt (bVa hb f) hb λs c=> ?_;rw[lkM hb f];cases hq:lk a s c with
 |none=>cases lk b s c<;>rfl
 |some e=>
  obtain⟨i,j,k⟩:=xK hq;obtain⟨x,l,x1,x2,n⟩:=h e i;have d:lk b s c=some x:=by
   grind[bDe]
  rw[d];show some (pJ x e)=some x;rw[aOn ⟨x1.symm,x2.symm⟩,dk (by omega)]
def Tw.left {a b:List AH}(c:Ym a)(hb:Ym b):Tw a (bH a b):=λe he=>by
 have h1:=lkM c hb e.Site e.Handle;rw[bDe c he] at h1;cases hq:lk b e.Site e.Handle with
 |none=>rw[hq] at h1;exact⟨e,(xK h1).1,rfl,rfl,cJ _⟩
 |some x=>rw[hq] at h1;obtain⟨d,f,h⟩:=xK h1;obtain⟨_,q2,q3⟩:=xK hq;refine⟨_,d,f,h,?_⟩;rw[aOn ⟨q2,q3⟩];split<;>omega
def Tw.right {a b:List AH}(c:Ym a)(hb:Ym b):Tw b (bH a b):=λe he=>by
 have h1:=lkM c hb e.Site e.Handle;rw[bDe hb he] at h1;cases hq:lk a e.Site e.Handle with
 |none=>rw[hq] at h1;exact⟨e,(xK h1).1,rfl,rfl,cJ _⟩
 |some x=>rw[hq] at h1;obtain⟨d,f,h⟩:=xK h1;obtain⟨_,q2,q3⟩:=xK hq;refine⟨_,d,f,h,?_⟩;rw[aOn ⟨q2.symm,q3.symm⟩];split<;>omega
def Tw.lub {a b c:List AH}(h1:Tw a c)(h2:Tw b c):Tw (bH a b) c:=λe he=>by
 rcases nN _ (ai _) he with he|he
 ·exact h1 e he
 ·exact h2 e he
def Tw.merge' {a b:List AH}(d:Ym a)(hb:Ym b)(h:Tw a b):bH a b=b:=by
 refine bFt (bVa d hb) hb λs f=> ?_;rw[lkM d hb];cases hq:lk a s f with
 |none=>rfl
 |some e=>
  obtain⟨i,j,k⟩:=xK hq;obtain⟨x,l,x1,x2,n⟩:=h e i;have c:lk b s f=some x:=by
   grind[bDe]
  rw[c];show some (pJ e x)=some x
  grind[bS8,aOn]
def bOu {α:Type}[BEq α][LawfulBEq α]:∀{l S:List α},l.Nodup->(∀x∈l,x∈S)->l.length<=S.length
 |[],S,_,_=>by simp
 |x::l,S,hn,hs=>by
  obtain⟨h1,h2⟩:=cE.1 hn;have c:=hs x (cA ..);have:=bOu (l:=l) (S:=S.erase x) h2 λy d=>by
   have a:y≠x:=λe=>h1 (e▸d);exact(List.mem_erase_of_ne a).2 (hs y (cn _ d))
  rw[List.length_erase_of_mem c] at this;have:0<S.length:=List.length_pos_of_mem c;simp only[au];omega
structure KeyS (S:List (Int×Int)):Prop where
 len:S.length<=20
 rg:∀p∈S,(0<=p.1/\p.1<=2147483646)/\(0<=p.2/\p.2<=1000000)
structure BunIn (S:List (Int×Int)) (V:Int) (b:List AH):Prop where
 st:Ym b
 key:∀e∈b,(e.Site,e.Handle)∈S
 ver:∀e∈b,1<=e.Version/\e.Version<=V
def BunIn.mono {S:List (Int×Int)}{V W:Int}{b:List AH}(h:BunIn S V b)(hv:V<=W):BunIn S W b:=⟨h.st,h.key,λe he=>⟨(h.ver e he).1,fk (h.ver e he).2 hv⟩⟩
def BunIn.nil (S:List (Int×Int))(V:Int):BunIn S V []:=⟨List.Pairwise.nil,(by simp),(by simp)⟩
def BunIn.len {S:List (Int×Int)}{V:Int}{b:List AH}(h:BunIn S V b):b.length<=S.length:=by
 have hn:(b.map λe=>(e.Site,e.Handle)).Nodup:=by rw[kl,gS];exact h.st.imp (by grind[Za])
 have:=bOu hn λp hp=>by
  obtain⟨e,he,rfl⟩:=cb.1 hp;exact h.key e he
 rwa [bh] at this
def BunIn.ok {S:List (Int×Int)}{V:Int}{b:List AH}(a:KeyS S)(c:V<=1000000)(h:BunIn S V b):aR ⟨b⟩=true:=by
 have hl:=h.len;have:=a.len;unfold aR;rw[ak (show((⟨b⟩:AB).Entries.length:Int)<=20 by show(b.length:Int)<=20;omega),cw,bz];refine Nb λk hk=> ?_;have hk:k<b.length:=hk;show aP0 b (0+k) b[k]=false;have hm:=cf hk;have r:=a.rg _ (h.key _ hm);have v:=h.ver _ hm;unfold aP0;rw[gT r.1.1 r.1.2,gT r.2.1 r.2.2,gT v.1 (by omega)];simp only[ay,cx,cg];by_cases h0:0<k
 ·have:b.getD (k-1) default=b[k-1]'(by omega):=by rw[List.getD,ae (by omega),ci]
  rw[this,eo.1 h.st (k-1) k (by omega) hk (by omega)];simp
 simp[*]
def BunIn.merge {S:List (Int×Int)}{V:Int}{a b:List AH}(c:BunIn S V a)(hb:BunIn S V b):BunIn S V (bH a b):=
 ⟨bVa c.st hb.st,λe he=>(nN _ (ai _) he).elim (c.key e) (hb.key e),λe he=>(nN _ (ai _) he).elim (c.ver e) (hb.ver e)⟩
def Zc {S:List (Int×Int)}{V:Int}{a b:AB}(c:KeyS S)(d:V<=1000000)(e:BunIn S V a.Entries)(hb:BunIn S V b.Entries):dU a b=(⟨bH a.Entries b.Entries⟩,true):=by unfold dU;rw[show aR a=true from e.ok c d,show aR b=true from hb.ok c d,(e.merge hb).ok c d];rfl
def aOo {l:List AH}(hs:Ym l)(s h:Int):(aP ⟨l⟩ s h<0/\lk l s h=none)\/(0<=aP ⟨l⟩ s h/\∃e,lk l s h=some e/\l.getD (aP ⟨l⟩ s h).toNat default=e/\(aP ⟨l⟩ s h).toNat<l.length):=by
 by_cases d:aP ⟨l⟩ s h<0
 ·exact .inl ⟨d,aC7 λe he=>Sr (p:=same s h) d e he⟩
 ·refine .inr ⟨by omega,?_⟩;obtain⟨l1,e,l2,c,f,a⟩:=Yo (p:=same s h) (l:=l) (i:=0) (by show 0<=aP ⟨l⟩ s h;omega);have a:aP ⟨l⟩ s h=((0+l1.length:Nat):Int):=a;have hm:e∈l:=by rw[c];simp
  have:=bDe hs hm;have h2:=same_iff.1 f;rw[h2.1,h2.2] at this;refine⟨e,this,?_,?_⟩
  ·rw[a,c];simp
  ·rw[a,c];simp
def bOv {x e:AH}(h:x.Version>e.Version):pO x e=true:=by unfold pO;rw[ak h];rfl
def aYk {l:List AH}(hs:Ym l){x:AH}(h:∀e,lk l x.Site x.Handle=some e->x.Version>e.Version):(zH ⟨l⟩ x).Entries=bH l [x]:=by
 rw[<-bB8 hs];rcases aOo hs x.Site x.Handle with⟨h1,h2⟩|⟨h1,e,h2,a,c⟩
 ·rw[ak h1];rfl
 ·rw[a,bOv (h e h2),jq];rfl
def bVb (x:AH):Ym [x]:=cp.2 ⟨λy a=>by simp at a,List.Pairwise.nil⟩
def BunIn.one {S:List (Int×Int)}{V:Int}{x:AH}(hk:(x.Site,x.Handle)∈S)(hv:1<=x.Version/\x.Version<=V):BunIn S V [x]:=
 ⟨bVb x,λe he=>by rw[cm.1 he];exact hk,λe he=>by rw[cm.1 he];exact hv⟩
def Ol (l:List AH)(s h:Int):Bool:=match lk l s h with|some e=> !e.Deleted|none=>false
def aBG (l:List AH)(s h:Int):Int:=match lk l s h with|some e=>e.Version|none=>0
def BunIn.aBG {S:List (Int×Int)}{V:Int}{l:List AH}(h:BunIn S V l)(a:0<=V)(s q:Int):0<=aBG l s q/\aBG l s q<=V:=by
 unfold VK.aBG;cases hq:lk l s q with
 |none=>exact⟨cJ _,a⟩
 |some e=>have:=h.ver e (xK hq).1;show 0<=e.Version/\e.Version<=V;omega
def bVc {S:List (Int×Int)}{V:Int}(j:KeyS S)(k:0<=V/\V<1000000){b:AB}(h:BunIn S V b.Entries){s q:Int}(hk:(s,q)∈S):
  aUo b s q=bif Ol b.Entries s q then(b,false) else(⟨bH b.Entries [⟨s,q,aBG b.Entries s q+1,false⟩]⟩,true):=by
 obtain⟨l⟩:=b;have h:BunIn S V l:=h;have hv:=h.aBG k.1 s q;have c:(aP ⟨l⟩ s q<0->lk l s q=none)/\R3 ⟨l⟩ s q=⟨s,q,aBG l s q+1,false⟩:=by
  unfold R3 bQ7;rcases aOo h.st s q with⟨h1,h2⟩|⟨h1,e,h2,d,n⟩
  ·refine⟨λ_=>h2,?_⟩;rw[ao (by omega)];unfold aBG;rw[h2];rfl
  ·refine⟨λh0=>by omega,?_⟩;have f:aBG l s q=e.Version:=by unfold aBG;rw[h2]
   show(⟨s,q,bif decide (aP ⟨l⟩ s q>=0) then IntKind.i64.wrap ((l.getD (aP ⟨l⟩ s q).toNat default).Version+1) else 1,false⟩:AH)=_;rw[ak h1,d,ac,f,aI (by omega) (by omega)]
 have a:(zH ⟨l⟩ (R3 ⟨l⟩ s q))=⟨bH l [⟨s,q,aBG l s q+1,false⟩]⟩:=by
  rw[c.2];have:(zH ⟨l⟩ ⟨s,q,aBG l s q+1,false⟩).Entries=bH l [⟨s,q,aBG l s q+1,false⟩]:=aYk h.st λe he=>by
   have:aBG l s q=e.Version:=by unfold aBG;rw[show lk l s q=some e from he]
   show aBG l s q+1>e.Version;omega
  rw[<-this]
 have i:aR ⟨bH l [⟨s,q,aBG l s q+1,false⟩]⟩=true:=((h.mono (W:=V+1) (by omega)).merge (.one (x:=⟨s,q,aBG l s q+1,false⟩) hk ⟨by show 1<=aBG l s q+1;omega,by show aBG l s q+1<=V+1;omega⟩)).ok j (by omega);unfold aUo;rw[a,i,h.ok j (by omega)];rcases aOo h.st s q with⟨h1,h2⟩|⟨h1,e,h2,d,n⟩
 ·rw[ao (show ¬aP ⟨l⟩ s q>=0 by omega)];unfold Ol;rw[h2];rfl
 ·rw[ak (show aP ⟨l⟩ s q>=0 from h1)];show(bif !(true&& !(l.getD (aP ⟨l⟩ s q).toNat default).Deleted)&&(true&&true) then _ else _)=_;have hl:Ol l s q= !e.Deleted:=by unfold Ol;rw[h2]
  show _=bif Ol l s q then _ else _;rw[d,hl];cases e.Deleted<;>rfl
def bVd {S:List (Int×Int)}{V:Int}(i:KeyS S)(j:0<=V/\V<1000000){b:AB}(h:BunIn S V b.Entries){s q:Int}:
  aUp b s q=bif Ol b.Entries s q then(⟨bH b.Entries [⟨s,q,aBG b.Entries s q+1,true⟩]⟩,true) else(b,false):=by
 obtain⟨l⟩:=b;have h:BunIn S V l:=h;have hv:=h.aBG j.1 s q;unfold aUp;rw[h.ok i (by omega)];rcases aOo h.st s q with⟨h1,h2⟩|⟨h1,e,h2,f,k⟩
 ·rw[ak (show aP ⟨l⟩ s q<0 by omega)];unfold Ol;rw[h2];rfl
 ·have c:aBG l s q=e.Version:=by unfold aBG;rw[h2]
  have he:=h.ver e (xK h2).1;have hd:bJ0 ⟨l⟩ s q=⟨s,q,aBG l s q+1,true⟩:=by unfold bJ0;show(⟨s,q,IntKind.i64.wrap ((l.getD (aP ⟨l⟩ s q).toNat default).Version+1),true⟩:AH)=_;rw[f,c,aI (by omega) (by omega)]
  have a:(zH ⟨l⟩ (bJ0 ⟨l⟩ s q))=⟨bH l [⟨s,q,aBG l s q+1,true⟩]⟩:=by
   rw[hd];have:(zH ⟨l⟩ ⟨s,q,aBG l s q+1,true⟩).Entries=bH l [⟨s,q,aBG l s q+1,true⟩]:=aYk h.st λe' d=>by
    have:aBG l s q=e'.Version:=by unfold aBG;rw[show lk l s q=some e' from d]
    show aBG l s q+1>e'.Version;omega
   rw[<-this]
  rw[a,ao (show ¬aP ⟨l⟩ s q<0 by omega)];show(bif !true||(false||((l.getD (aP ⟨l⟩ s q).toNat default).Deleted||(l.getD (aP ⟨l⟩ s q).toNat default).Version==1000000)) then _ else _)=_;have hl:Ol l s q= !e.Deleted:=by unfold Ol;rw[h2]
  show _=bif Ol l s q then _ else _;rw[f,cj.2 (show e.Version≠1000000 by omega),hl];cases e.Deleted<;>rfl
structure ChgIn (S:List (Int×Int)) (V:Int) (d x:AD):Prop where
 store:x.Store=d.Store
 log:x.Log=d.Log
 key:x.Key=d.Key
 ep:x.Epoch=d.Epoch
 ver:x.Version=d.Version
 bun:BunIn S V x.aAD.Entries
 sub:Tw d.aAD.Entries x.aAD.Entries
def ChgIn.rfl' {S:List (Int×Int)}{V W:Int}{d:AD}(h:BunIn S V d.aAD.Entries)(hv:V<=W):ChgIn S W d d:=⟨rfl,rfl,rfl,rfl,rfl,h.mono hv, .refl _⟩
def ChgIn.trans {S:List (Int×Int)}{V W:Int}{a b c:AD}(h:ChgIn S V a b)(k:ChgIn S W b c):ChgIn S W a c:=
 ⟨k.store.trans h.store,k.log.trans h.log,k.key.trans h.key,k.ep.trans h.ep,k.ver.trans h.ver,k.bun,h.sub.trans k.sub⟩
def aHu {S:List (Int×Int)}{V:Int}(c:KeyS S)(a:0<=V/\V<1000000){d:AD}(h:BunIn S V d.aAD.Entries){n:ByteArray}{q:Int}(hk:(bI n,q)∈S)(rm:Bool):ChgIn S (V+1) d (dQ d n q rm).1:=by
 have hv:=h.aBG a.1 (bI n) q;unfold dQ sG;have one:∀f,BunIn S (V+1) (bH d.aAD.Entries [⟨bI n,q,aBG d.aAD.Entries (bI n) q+1,f⟩]):=λf=>(h.mono (by omega)).merge (.one hk ⟨by show 1<=aBG _ _ _+1;omega,by show aBG _ _ _+1<=V+1;omega⟩);cases rm with
 |true=>
  rw[ac,bVd c a h];cases Ol d.aAD.Entries (bI n) q with
  |true=>exact⟨rfl,rfl,rfl,rfl,rfl,one _, .left h.st (bVb _)⟩
  |false=>exact .rfl' h (by omega)
 |false=>
  rw[aa,bVc c a h hk];cases Ol d.aAD.Entries (bI n) q with
  |false=>exact⟨rfl,rfl,rfl,rfl,rfl,one _, .left h.st (bVb _)⟩
  |true=>exact .rfl' h (by omega)
def bOw {S:List (Int×Int)}{V:Int}(a:KeyS S)(e:0<=V/\V+1<1000000){d:AD}(h:BunIn S V d.aAD.Entries){q:Int}(h0:(bI (aA 0),q)∈S)(h1:(bI (aA 1),q)∈S)(rm:Bool):ChgIn S (V+2) d (kL d q rm):=by unfold kL;have c:=aHu a (by omega) h h0 rm;exact c.trans (by have:=aHu a (V:=V+1) (by omega) c.bun h1 rm;rwa [show V+1+1=V+2 by omega] at this)
end Go.VK
set_option maxRecDepth 100000
namespace Go.VK
open D
structure Dv (S:List (Int×Int)) (T:Int) (log:List AF) (K ep v:Int) (d:AD):Prop where
 pre:∃r,log=d.Log++r
 at_:d.Epoch<ep\/(d.Epoch=ep/\d.Version<=v)
 key:d.Epoch=ep->d.Key=K
 bun:BunIn S T d.aAD.Entries
structure Hs (S:List (Int×Int)) (T:Int) (K ep v:Int) (s:AJ):Prop where
 low:s.Epoch<=ep
 own:s.Epoch=ep->∃v' b',s=gB K ep v' b'/\0<=v'/\v'<=v/\BunIn S T b'.Entries
structure Net (S:List (Int×Int)) (t m:Nat) (w:AA) (K v:Int) (r:List AJ) (b:AB):Prop where
 wi:WIn m w
 bx:BoxIn w.aAC.Log w.aAC.Boxes K
 devs:∀p∈aD w.aAC.Log,∃k,k<m/\p=mH w.Seed k
 rem:∀p,dY w.aAC.Log p=true->∃k,k<m/\p=mH w.Seed k
 hist:w.aAC.History=r++[gB K (aC w.aAC.Log) v b]
 old:∀s∈r,Hs S (t:Int) K (aC w.aAC.Log) v s
 bun:BunIn S (t:Int) b.Entries
 ver:0<=v/\v<=(t:Int)
 dev:∀k (h:k<w.Devices.length),Dv S (t:Int) w.aAC.Log K (aC w.aAC.Log) v w.Devices[k]
def Dv.mono {S:List (Int×Int)}{T U:Int}{log:List AF}{K ep v u:Int}{d:AD}(h:Dv S T log K ep v d)(a:T<=U)(hv:v<=u):Dv S U log K ep u d:=
 ⟨h.pre,h.at_.imp id (by omega),h.key,h.bun.mono a⟩
def Hs.mono {S:List (Int×Int)}{T U:Int}{K ep v u:Int}{s:AJ}(h:Hs S T K ep v s)(a:T<=U)(hv:v<=u):Hs S U K ep u s:=
 ⟨h.low,λe=>let ⟨v',b',h1,h2,c,d⟩:=h.own e;⟨v',b',h1,h2,fk c hv,d.mono a⟩⟩
section
variable {S:List (Int×Int)} {t m:Nat} {w:AA} {K v:Int} {r:List AJ} {b:AB}
def Net.last (h:Net S t m w K v r b):Hs S (t:Int) K (aC w.aAC.Log) v (gB K (aC w.aAC.Log) v b):=
 ⟨cJ _,λ_=>⟨v,b,rfl,h.ver.1,cJ _,h.bun⟩⟩
def Net.hs (h:Net S t m w K v r b){s:AJ}(hs:s∈w.aAC.History):Hs S (t:Int) K (aC w.aAC.Log) v s:=by
 rw[h.hist] at hs;rcases bu.1 hs with hs|hs
 ·exact h.old s hs
 ·rw[cm.1 hs];exact h.last
def Net.pub (h:Net S t m w K v r b){k:Nat}(hk:k<w.Devices.length):aT w.Devices[k].Store=mH w.Seed k:=by unfold mH aT iG;rw[(h.wi.dev k hk).key]
def bKy (K:Int):(iB K ⟨0,0,[],0⟩).2=false:=by
 unfold iB;cases !(bL K&&(bK (AJ.mk 0 0 [] 0).Epoch 0 1000000&&bK (AJ.mk 0 0 [] 0).Version 0 1000000))||(AJ.mk 0 0 [] 0).MAC !=jB K ⟨0,0,[],0⟩ with
 |true=>rfl
 |false=>rfl
def bS9 {d:AD}{log:List AF}{bx:AN}{s:AJ}(h:(jY d log bx s==0)=true):
  dG log d.Log=true/\aT d.Store∈aD log/\aC log<=s.Epoch/\(iB (bM d.Store bx).1 s).2=true/\(dU d.aAD (iB (bM d.Store bx).1 s).1).2=true:=by
 have h:=eq_of_beq h;unfold jY at h
 grind[aZ,dG,jJ,aD,aT,aC,bM,bx,decide,iB,dU,bo,cR,cu,lZ]
def Net.set (h:Net S t m w K v r b){i:Nat}{x:AD}(hi:i<w.Devices.length)(a:Dv S (t:Int) w.aAC.Log K (aC w.aAC.Log) v x):∀k (hk:k<(w.Devices.set i x).length),Dv S (t:Int) w.aAC.Log K (aC w.aAC.Log) v (w.Devices.set i x)[k]:=λk hk=>by
 rw[eR];rw[ax] at hk;split
 ·exact a
 ·exact h.dev k hk
def Net.upd (h:Net S t m w K v r b){u:AA}(h1:u.Seed=w.Seed)(h2:u.aAC=w.aAC)(c:u.Devices.length=w.Devices.length)(a:WIn m u)
  (d:∀k (hk:k<u.Devices.length),Dv S (t:Int) w.aAC.Log K (aC w.aAC.Log) v u.Devices[k]):Net S t m u K v r b where
 wi:=a
 bx:=by rw[h2];exact h.bx
 devs:=by rw[h1,h2];exact h.devs
 rem:=by rw[h1,h2];exact h.rem
 hist:=by rw[h2];exact h.hist
 old:=by rw[h2];exact h.old
 bun:=h.bun
 ver:=h.ver
 dev:=by simp[*]
def Net.mono (h:Net S t m w K v r b){u:Nat}(a:t<=u):Net S u m w K v r b where
 wi:=h.wi
 bx:=h.bx
 devs:=h.devs
 rem:=h.rem
 hist:=h.hist
 old:=λs hs=>(h.old s hs).mono (by omega) (cJ _)
 bun:=h.bun.mono (by omega)
 ver:=by have:=h.ver;omega
 dev:=λk hk=>(h.dev k hk).mono (by omega) (cJ _)
def Net.aDN (h:Net S t m w K v r b)(j:KeyS S)(ht:t<=900000){d:AD}(hd:Dv S (t:Int) w.aAC.Log K (aC w.aAC.Log) v d)(c:Int):Dv S (t:Int) w.aAC.Log K (aC w.aAC.Log) v (bR d w.aAC.Log w.aAC.Boxes (fA w.aAC c).1).1:=by
 unfold bR;cases h0:jY d w.aAC.Log w.aAC.Boxes (fA w.aAC c).1==0 with
 |false=>exact hd
 |true=>
  obtain⟨q1,q2,q3,q4,q5⟩:=bS9 h0;have ho:=Ni h.bx q2;rw[ho] at q4 q5;rw[ac,ho];have k:=h.bx.eps;have a:(fA w.aAC c).1=⟨0,0,[],0⟩\/(fA w.aAC c).1∈w.aAC.History:=by
   grind[decide,bo,cu,default,List.getD,ae,ci,cf,fA]
  rcases a with a|a
  ·grind[q4,bKy]
  ·obtain⟨l1,l2⟩:=h.hs a;obtain⟨v',b',e,n,l,f⟩:=l2 (by omega);have hv:=h.ver;have i:iB K (gB K (aC w.aAC.Log) v' b')=(b',true):=aYg h.bx.kok (by omega) (by omega) (f.ok j (by omega));rw[e,i,Zc j (by omega) hd.bun f];exact⟨⟨[],by simp⟩, .inr ⟨rfl,l⟩,λ_=>rfl,hd.bun.merge f⟩
def Net.sync (h:Net S t m w K v r b)(f:KeyS S)(ht:t<=900000)(d c:Int):Net S t m (aM w d c).1 K v r b:=by
 have a:=h.wi.sync d c;unfold aM at a ⊢;cases hb:aQ w&&aL w d with
 |false=>exact h
 |true=>rw[hb] at a;rw[ab] at hb;obtain⟨hd,e⟩:=iY hb.2;exact h.upd rfl rfl (ax ..) a (h.set hd (h.aDN f ht (by rw[e];exact h.dev _ hd) c))
def bVe (h:Net S t m w K v r b):(fA w.aAC 0).1=gB K (aC w.aAC.Log) v b:=by unfold fA;rw[ao (show ¬(0:Int)<0 by decide),ao (show ¬(0:Int)>=(w.aAC.History.length:Int) by rw[h.hist,aw,cr];omega)];show w.aAC.History.getD _ default=_;rw[h.hist];simp
def Net.aDH (h:Net S t m w K v r b){d:Int}(hd:aL w d=true):bC w d=jJ (aD w.aAC.Log) (mH w.Seed d.toNat):=by obtain⟨hl,e⟩:=iY hd;unfold bC;rw[hd,e,h.pub hl];rfl
def nJ (w:AA)(K v:Int)(b:AB)(d:AD):AD:=⟨d.Store,w.aAC.Log,K,aC w.aAC.Log,v,⟨bH d.aAD.Entries b.Entries⟩⟩
def Net.aBR (h:Net S t m w K v r b)(a:KeyS S)(ht:t<=900000){d:AD}(h1:∃r',w.aAC.Log=d.Log++r')(h2:d.Epoch<aC w.aAC.Log\/(d.Epoch=aC w.aAC.Log/\d.Version<=v))(c:BunIn S (t:Int) d.aAD.Entries)(e:aT d.Store∈aD w.aAC.Log):
  bR d w.aAC.Log w.aAC.Boxes (fA w.aAC 0).1=(nJ w K v b d,0):=by
 have hm:=Zc a (by omega) c h.bun;have hv:=h.ver;obtain⟨r',hr⟩:=h1;have hs:bR d w.aAC.Log w.aAC.Boxes (gB K (aC w.aAC.Log) v b)=(⟨d.Store,w.aAC.Log,K,aC w.aAC.Log,v,(dU d.aAD b).1⟩,0):=
  aQy h.bx h.wi.log (by grind[aLs]) e (by omega) (h.bun.ok a (by omega)) rfl h2 (by rw[hm])
 rw[bVe h,hs,hm];rfl
def Net.aBV (h:Net S t m w K v r b)(f:KeyS S)(ht:t<=900000){d:Int}(hd:bC w d=true):
  aM w d 0=({w with Devices:=w.Devices.set d.toNat (nJ w K v b (aG w d))},0):=by
 have a:aL w d=true:=by grind[bC]
 obtain⟨hl,e⟩:=iY a;have c:=h.dev _ hl;rw[<-e] at c;have hs:=h.aBR f ht c.pre c.at_ c.bun (by
  grind[lZ,bC])
 unfold aM;rw[h.wi.ok,a,hs];rfl
def Net.aCF (h:Net S t m w K v r b){d:Int}(hd:bC w d=false)(c:Int):((aM w d c).2==0)=false:=by
 grind[aQ,aL,bR,jY,aG,fA,bS9,bC,lZ,aM]
def aLw (w:AA)(K v:Int)(b:AB)(d:AD):AD:={nJ w K v b d with Version:=v+1}
def aBK (w:AA)(K v:Int)(b:AB)(d:Int):AA:=
 {w with Devices:=w.Devices.set d.toNat (aLw w K v b (aG w d)),aAC:={w.aAC with History:=w.aAC.History++[gB K (aC w.aAC.Log) (v+1) ⟨bH (aG w d).aAD.Entries b.Entries⟩]}}
def bDf {S:List (Int×Int)}{d:AD}(a:KeyS S){T:Int}(c:T<=1000000)(h1:bL d.Key=true)(h2:0<=d.Epoch/\d.Epoch<=1000000)(f: -1<=d.Version/\d.Version<1000000)(e:BunIn S T d.aAD.Entries):
  cK d=({d with Version:=d.Version+1},gB d.Key d.Epoch (d.Version+1) d.aAD,true):=by
 have hs:qC d.Key d.Epoch (IntKind.i64.wrap (d.Version+1)) d.aAD=(gB d.Key d.Epoch (d.Version+1) d.aAD,true):=by rw[aI (by omega) (by omega)];unfold qC;rw[h1,gT h2.1 h2.2,gT (by omega) (by omega),show aR d.aAD=true from e.ok a c];rfl
 grind[aI,cK]
def aYl {c:AM}{s:AJ}(h1:s.Epoch=aC c.Log)(h2:c.History.length<60)(a:∀l,c.History.getLast? =some l->pQ s l=true):cB c s=({c with History:=c.History++[s]},true):=by
 grind[dr,ao,cB,decide,pQ,default,List.getLast?_eq_getElem?,List.getD,ae,ci]
def Net.aBI (h:Net S t m w K v r b)(i:KeyS S)(ht:t<=900000)(hr:r.length<=58){d:Int}(hd:bC w d=true):eX w d=(aBK w K v b d,true):=by
 have a:aL w d=true:=by grind[bC]
 obtain⟨hl,e⟩:=iY a;have hs:=h.aBV i (by omega) hd;have hv:=h.ver;have k:=h.bx.eps;have j:=h.dev _ hl;rw[<-e] at j;have c:aG (aM w d 0).1 d=nJ w K v b (aG w d):=by
  grind[List.getD,bg,default,aG,hs]
 have n:cK (nJ w K v b (aG w d))=(aLw w K v b (aG w d),gB K (aC w.aAC.Log) (v+1) ⟨bH (aG w d).aAD.Entries b.Entries⟩,true):=
  bDf i (T:=(t:Int)) (by omega) h.bx.kok (show 0<=aC w.aAC.Log/\aC w.aAC.Log<=1000000 by omega) (show-1<=v/\v<1000000 by omega) (j.bun.merge h.bun)
 have f:cB w.aAC (gB K (aC w.aAC.Log) (v+1) ⟨bH (aG w d).aAD.Entries b.Entries⟩)=({w.aAC with History:=w.aAC.History++[gB K (aC w.aAC.Log) (v+1) ⟨bH (aG w d).aAD.Entries b.Entries⟩]},true):=by
  refine aYl rfl ?_ λl hl=> ?_
  ·rw[h.hist];simp;omega
  ·rw[h.hist,List.getLast?_append] at hl
   grind[ak,decide,aC,pQ,gB]
 unfold eX Tc;rw[c,n];rw[show(aM w d 0).1.aAC=w.aAC by rw[hs]];rw[f,hs];show(bif (0:Int)==0&&(bif true&&true then _ else _:AA×Bool).2 then _ else _)=_;simp only[du,ac,ex,gj];rfl
def Net.aCQ (h:Net S t m w K v r b){d:Int}(hd:bC w d=false):eX w d=(w,false):=by unfold eX;rw[h.aCF hd 0];rfl
def Net.aBK (h:Net S t m w K v r b)(i:KeyS S)(ht:t<=900000)(hr:r.length<=58){d:Int}(hd:bC w d=true):
  Net S (t+1) m (VK.aBK w K v b d) K (v+1) (r++[gB K (aC w.aAC.Log) v b]) ⟨bH (aG w d).aAD.Entries b.Entries⟩:=by
 have c:aL w d=true:=by grind[bC]
 obtain⟨hl,e⟩:=iY c;have a:=h.wi.push d;rw[h.aBI i ht hr hd] at a;have hv:=h.ver;have hlen:(VK.aBK w K v b d).Devices.length=w.Devices.length:=ax ..;have f:=h.dev _ hl;rw[<-e] at f;refine⟨a,h.bx,h.devs,h.rem,?_,λs hs=> ?_,(f.bun.merge h.bun).mono (by omega),by omega,λk hk=> ?_⟩
 ·show w.aAC.History++[_]=_;rw[h.hist];rfl
 ·rcases bu.1 hs with hs|hs
  ·exact(h.old s hs).mono (by omega) (by omega)
  ·rw[cm.1 hs];exact h.last.mono (by omega) (by omega)
 ·have:∀k (hk:k<(w.Devices.set d.toNat (aLw w K v b (aG w d))).length),Dv S ((t+1:Nat):Int) w.aAC.Log K (aC w.aAC.Log) (v+1) (w.Devices.set d.toNat (aLw w K v b (aG w d)))[k]:=λk hk=>by
   rw[eR];rw[ax] at hk;split
   ·exact⟨⟨[],by show w.aAC.Log=w.aAC.Log++[];simp⟩, .inr ⟨rfl,cJ _⟩,λ_=>rfl,(f.bun.merge h.bun).mono (by omega)⟩
   ·exact(h.dev k hk).mono (by omega) (by omega)
  exact this k hk
def Net.aDG (h:Net S t m w K v r b)(l:KeyS S)(ht:t<=900000)(d:Int){n:ByteArray}{a:Int}(hk:(bI n,a)∈S)(f:Bool):Net S (t+1) m (rF w d n a f).1 K v r b:=by
 have j:=h.wi.aDG d n a f;unfold rF at j ⊢;cases hb:aQ w&&aL w d with
 |false=>exact h.mono (by omega)
 |true=>
  rw[hb] at j;rw[ab] at hb;obtain⟨hd,e⟩:=iY hb.2;have i:=h.dev _ hd;rw[<-e] at i;have c:=aHu l (by omega) i.bun hk f;cases hc:(dQ (aG w d) n a f).2 with
  |false=>exact h.mono (by omega)
  |true=>rw[hc] at j;have k:=h.mono (u:=t+1) (by omega);exact k.upd rfl rfl (ax ..) j (k.set hd ⟨by rw[c.log];exact i.pre,by rw[c.ep,c.ver];exact i.at_,by rw[c.ep,c.key];exact i.key,c.bun.mono (by omega)⟩)
end
end Go.VK
set_option maxRecDepth 100000
namespace Go.VK
open D
def aQ3 {l:List AF}{e:AF}(h:aZ (l++[e])=true):lC l e=true/\(l=[]\/aZ l=true)/\l.length<40:=by
 unfold aZ at h;rw[ab,bz] at h;have hr:=iC h.1;have hlen:(l++[e]).length=l.length+1:=by simp
 rw[hlen] at hr;have h1:=T9 h.2 l.length (by simp)
 grind[List.length_pos_iff,aZ,gT,bz,Nb,T9,ib,ke]
def aC9 {α:Type}{P:List α->Prop}(h0:P [])(hs:∀l a,P l->P (l++[a])):∀(n:Nat) (l:List α),l.length=n->P l
 |0,l,h=>by rw[ij.1 h];exact h0
 |n+1,l,h=>by
  have c:l≠[]:=by rintro rfl;simp at h
  rw[<-List.dropLast_concat_getLast c];exact hs _ _ (aC9 h0 hs n _ (by rw[List.length_dropLast];omega))
def bVf (l:List AF):(aD l).Nodup:=
 aC9 (P:=λl=>(aD l).Nodup) gk (by grind[Tt,aQg]) l.length l rfl
def bDg (l:List AF):l.length<=1000->0<=aC l/\aC l<=(l.length:Int):=
 aC9 (P:=λl=>l.length<=1000->0<=aC l/\aC l<=(l.length:Int)) (λ_=>⟨cJ 0,cJ 0⟩) (by grind[aw,Nh,aI]) l.length l rfl
def bOx (l:List AF)(e:AF)(h:l.length<=999)(hk:e.Kind=2):aC (l++[e])=aC l+1:=by have:=bDg l (by omega);rw[Nh,hk,show((2:Int)==2)=true from rfl,ac,aI (by omega) (by omega)]
def bRq {l:List AF}:(l=[]\/aZ l=true)->∀p,dY l p=true->p∉aD l:=
 aC9 (P:=λl=>(l=[]\/aZ l=true)->∀p,dY l p=true->p∉aD l) (by simp[dY]) (λl e a h p hp=>by
  have hl:aZ (l++[e])=true:=h.resolve_left (by simp);obtain⟨h1,h2,_⟩:=aQ3 hl;rw[zJ,cz] at hp
  grind[aD,gy,dr,bz,jl,bu,cm,jK,lC,Tt]) l.length l rfl
def bVg {log:List AF}{key eph:Int}(hl:aZ log=true)(hk:bL key=true)(hp:∀p∈aD log,bL p=true)(d:(aD log).length<=1000)(h:1<=eph/\eph<=1000000):(bJ log key eph).2=true/\BoxIn log (bJ log key eph).1 key:=by
 obtain⟨i,j,e,l⟩:=aHr hl hk hp d h;have f:log.length<=40:=by unfold aZ at hl;rw[ab] at hl;have:=iC hl.1;omega
 refine⟨i,j,e,bVf log,hk,λk a=> ?_,by have:=bDg log (by omega);omega⟩;have n:(bJ log key eph).1.Boxes.length=(aD log).length:=by have:=congrArg List.length e;rwa [bh] at this
 have c:k<(aD log).length:=by omega
 have o:(aD log).length<=1000:=d;have hb:=l k a c;refine⟨eph+(k:Int),gT (by omega) (by omega),?_⟩
 grind
def bOy (l:List AF):(aD l).length<=l.length:=iD l
def bOz {log:List AF}{k d:Int}{s:AK}(h:(eY log k d s).2=true):eY log k d s=(log++[Mr log k d s],true)/\aZ (log++[Mr log k d s])=true:=by
 grind[decide,aZ,Mr,bo,cR,eY]
def bO0 {log:List AF}{key e:Int}(h:(bJ log key e).2=true):bL key=true:=by
 grind[aZ,bL,gX,jG,aC,aD,bo,cR,bJ]
def bRr {c:AM}{log:List AF}{e:AN}(h:(kK c log e).2=true):kK c log e=({c with Log:=log,Boxes:=e},true):=by
 grind[aZ,dG,jV,kK]
def bH6 {w:AA}{b k p:Int}{key:List AF->Int}{l:List AF}(hl:l=w.aAC.Log++[Mr w.aAC.Log k p (aG w b).Store])(h:(jP w b k p key).2=true):
  ∃bx,jP w b k p key=({w with aAC:={w.aAC with Log:=l,Boxes:=bx}},true)/\aZ l=true/\bL (key l)=true/\((∀q∈aD l,bL q=true)->BoxIn l bx (key l))/\(eY w.aAC.Log k p (aG w b).Store).1=l:=by
 have h0:(eY w.aAC.Log k p (aG w b).Store).2=true/\(bJ (eY w.aAC.Log k p (aG w b).Store).1 (key (eY w.aAC.Log k p (aG w b).Store).1) (IntKind.i64.wrap (1000+IntKind.i64.wrap (10*((eY w.aAC.Log k p (aG w b).Store).1.length:Int))))).2=true/\(kK w.aAC (eY w.aAC.Log k p (aG w b).Store).1 (bJ (eY w.aAC.Log k p (aG w b).Store).1 (key (eY w.aAC.Log k p (aG w b).Store).1) (IntKind.i64.wrap (1000+IntKind.i64.wrap (10*((eY w.aAC.Log k p (aG w b).Store).1.length:Int))))).1).2=true:=by
  grind[eY,aG,bJ,kK,jP]
 obtain⟨h1,h2,a⟩:=h0;obtain⟨c,d⟩:=bOz h1;rw[c,<-hl] at h2 a;rw[<-hl] at c d;have e:=bRr a;have hlen:l.length<=40:=by have:=d;unfold aZ at this;rw[ab] at this;have:=iC this.1;omega
 grind[jP,aI,bVg,bO0,bOy,bJ]
end Go.VK
set_option maxRecDepth 100000
namespace Go.VK
open D
structure KeyD (S:List (Int×Int)):Prop where
 ks:KeyS S
 dv:∀q:Nat,q<6->(bI (aA 0),(q:Int))∈S/\(bI (aA 1),(q:Int))∈S
section
variable {S:List (Int×Int)} {t m:Nat} {w:AA} {K v:Int} {r:List AJ} {b:AB}
def Net.keys (h:Net S t m w K v r b):∀q∈aD w.aAC.Log,bL q=true:=λq hq=>by
 obtain⟨k,_,rfl⟩:=h.devs q hq;exact aC6 _ _
def gL {w:AA}{c:Int}(h:bC w c=true):aL w c=true:=by
 grind[bC]
def Net.inl (h:Net S t m w K v r b){c:Int}(hc:((aM w c 0).2==0)=true):bC w c=true:=by
 cases hl:bC w c with
 |true=>rfl
 |false=>rw[h.aCF hl 0] at hc;cases hc
def vP (w:AA)(c:Int):List AF:=w.aAC.Log++[Mr w.aAC.Log 1 (mH w.Seed w.Devices.length) (aG w c).Store]
def aZ9 {w:AA}{c:Int}(hl:aZ (vP w c)=true):
  aD (vP w c)=aD w.aAC.Log++[mH w.Seed w.Devices.length]/\(∀p,dY (vP w c) p=dY w.aAC.Log p)/\aC (vP w c)=aC w.aAC.Log:=by
 obtain⟨h1,_,_⟩:=aQ3 hl;have hk:(Mr w.aAC.Log 1 (mH w.Seed w.Devices.length) (aG w c).Store).Kind=1:=rfl;have hd:(Mr w.aAC.Log 1 (mH w.Seed w.Devices.length) (aG w c).Store).Device=mH w.Seed w.Devices.length:=rfl
 grind[vP,Nh,zJ,Tt,jK,aD,mH,lZ,jJ,bz,lC]
def Net.aAU (h:Net S t w.Devices.length w K v r b)(o:KeyD S)(ht:t<=900000){c:Int}(h0:((aM w c 0).2==0)=true)(h1:(add1 w c).2=true)(hn:w.Devices.length<6):
  Net S (t+2) (w.Devices.length+1) (VK.aAU w c) K v r b/\(VK.aAU w c).Devices=w.Devices.set c.toNat (kL (nJ w K v b (aG w c)) (w.Devices.length:Int) false)/\(VK.aAU w c).aAC.Log=vP w c/\(VK.aAU w c).Seed=w.Seed:=by
 have f:=h.inl h0;have a:=gL f;obtain⟨hl,e⟩:=iY a;have hs:=h.aBV o.ks ht f;have A:=h.dev _ hl;rw[<-e] at A;have i:aG (aM w c 0).1 c=nJ w K v b (aG w c):=by
  grind[List.getD,bg,default,aG,hs]
 obtain⟨bx,x,F,J,u,_⟩:=bH6 (w:=(aM w c 0).1) (b:=c) (k:=1) (p:=aT (aO w.Seed (w.Devices.length:Int))) (key:=λ_=>(aG (aM w c 0).1 c).Key) (l:=vP w c) (by rw[i,hs];rfl) h1;obtain⟨D,G,y⟩:=aZ9 F;have x:add1 w c=({(aM w c 0).1 with aAC:={(aM w c 0).1.aAC with Log:=vP w c,Boxes:=bx}},true):=x;have u:(∀q∈aD (vP w c),bL q=true)->BoxIn (vP w c) bx (aG (aM w c 0).1 c).Key:=u;rw[i] at u;have j:=u λq hq=>by
  rw[D] at hq;rcases bu.1 hq with hq|hq
  ·exact h.keys q hq
  grind[cm,aC6]
 have H:(VK.aAU w c).Devices=w.Devices.set c.toNat (kL (nJ w K v b (aG w c)) (w.Devices.length:Int) false):=by
  show(add1 w c).1.Devices.set c.toNat (kL (aG (add1 w c).1 c) (w.Devices.length:Int) false)=_
  grind[gj,hs,aM,aG,add1,nJ]
 have d:(VK.aAU w c).aAC={w.aAC with Log:=vP w c,Boxes:=bx}:=by show(add1 w c).1.aAC=_;rw[x];show({(aM w c 0).1.aAC with Log:=vP w c,Boxes:=bx}:AM)=_;rw[hs]
 obtain⟨I,z,L⟩:=h.wi.aCT hn a;have n:ChgIn S ((t:Int)+2) (nJ w K v b (aG w c)) (kL (nJ w K v b (aG w c)) (w.Devices.length:Int) false):=bOw o.ks (by omega) (A.bun.merge h.bun) (o.dv _ hn).1 (o.dv _ hn).2 false;have hv:=h.ver;refine⟨⟨I,by rw[d];exact j,λp hp=> ?_,λp hp=> ?_,?_,λs hs=> ?_,h.bun.mono (by omega),by omega,?_⟩,H,by rw[d],z⟩
 ·rw[d] at hp;rw[z];have hp:p∈aD (vP w c):=hp;rw[D] at hp;rcases bu.1 hp with hp|hp
  ·obtain⟨k,hk,e⟩:=h.devs p hp;grind
  grind
 ·rw[d] at hp;rw[z];have hp:dY (vP w c) p=true:=hp;rw[G] at hp;obtain⟨k,hk,e⟩:=h.rem p hp;grind
 ·rw[d];show w.aAC.History=r++[gB K (aC (vP w c)) v b];rw[y];exact h.hist
 ·rw[d];show Hs S _ K (aC (vP w c)) v s;rw[y];exact(h.old s hs).mono (by omega) (cJ _)
 ·rw[d];show ∀k (hk:k<(VK.aAU w c).Devices.length),Dv S _ (vP w c) K (aC (vP w c)) v (VK.aAU w c).Devices[k];rw[y];have:∀k (hk:k<(w.Devices.set c.toNat (kL (nJ w K v b (aG w c)) (w.Devices.length:Int) false)).length),Dv S ((t+2:Nat):Int) (vP w c) K (aC w.aAC.Log) v (w.Devices.set c.toNat (kL (nJ w K v b (aG w c)) (w.Devices.length:Int) false))[k]:=λk hk=>by
   rw[eR];rw[ax] at hk;split
   ·refine⟨⟨[Mr w.aAC.Log 1 (mH w.Seed w.Devices.length) (aG w c).Store],?_⟩, .inr ⟨?_,?_⟩,λ_=> ?_,n.bun.mono (by omega)⟩
    ·rw[n.log];rfl
    ·rw[n.ep];rfl
    ·rw[n.ver];exact cJ _
    ·rw[n.key];rfl
   ·have q:=(h.dev k hk).mono (U:=((t+2:Nat):Int)) (by omega) (cJ v);obtain⟨r',hr⟩:=q.pre;exact⟨⟨r'++[Mr w.aAC.Log 1 (mH w.Seed w.Devices.length) (aG w c).Store],by unfold vP;rw[<-cl,<-hr]⟩,q.at_,q.key,q.bun⟩
  simp_all
def bVh (U:AA)(K v:Int)(B:AB)(n:Nat):AD:=⟨aO U.Seed (n:Int),U.aAC.Log,K,aC U.aAC.Log,v,⟨bH [] B.Entries⟩⟩
def bKz (U:AA)(K v:Int)(B:AB):AA:={U with Devices:=U.Devices++[bVh U K v B U.Devices.length],Stolen:=U.Stolen++[false]}
def Net.app (h:Net S t (w.Devices.length+1) w K v r b)(o:KeyS S)(ht:t<=900000)(hn:w.Devices.length<6)(i:mH w.Seed w.Devices.length∈aD w.aAC.Log):
  aM (appW w (bG (aO w.Seed (w.Devices.length:Int)))) (w.Devices.length:Int) 0=(bKz w K v b,0)/\Net S t (w.Devices.length+1) (bKz w K v b) K v r b:=by
 have hv:=h.ver;have p:=h.bx.eps;have a:=h.wi.app hn;have hs:=h.aBR o ht (d:=bG (aO w.Seed (w.Devices.length:Int))) ⟨w.aAC.Log,rfl⟩ (by
  show(0:Int)<_\/((0:Int)=_/\(0:Int)<=v);omega) (BunIn.nil S _) i
 have c:aL (appW w (bG (aO w.Seed (w.Devices.length:Int)))) (w.Devices.length:Int)=true:=by
  grind[aL,appW]
 have j:aG (appW w (bG (aO w.Seed (w.Devices.length:Int)))) (w.Devices.length:Int)=bG (aO w.Seed (w.Devices.length:Int)):=by simp[aG,appW]
 have e:∀x,(w.Devices++[bG (aO w.Seed (w.Devices.length:Int))]).set w.Devices.length x=w.Devices++[x]:=(by simp);have he:aM (appW w (bG (aO w.Seed (w.Devices.length:Int)))) (w.Devices.length:Int) 0=(bKz w K v b,0):=by unfold aM;rw[a.ok,c,j];show(({appW w (bG (aO w.Seed (w.Devices.length:Int))) with Devices:=(w.Devices++[bG (aO w.Seed (w.Devices.length:Int))]).set ((w.Devices.length:Int)).toNat (bR (bG (aO w.Seed (w.Devices.length:Int))) w.aAC.Log w.aAC.Boxes (fA w.aAC 0).1).1}:AA),(bR (bG (aO w.Seed (w.Devices.length:Int))) w.aAC.Log w.aAC.Boxes (fA w.aAC 0).1).2)=_;rw[hs,bv,e];rfl
 have f:=a.sync (w.Devices.length:Int) 0;rw[he] at f;refine⟨he,⟨f,h.bx,h.devs,h.rem,h.hist,h.old,h.bun,h.ver,λk hk=> ?_⟩⟩;have l:k<(w.Devices++[bVh w K v b w.Devices.length]).length:=hk;show Dv S _ w.aAC.Log K (aC w.aAC.Log) v ((w.Devices++[bVh w K v b w.Devices.length])[k]'l);rw[List.getElem_append];split
 ·rename_i n;exact h.dev k n
 ·rw[List.getElem_singleton];exact⟨⟨[],by show w.aAC.Log=w.aAC.Log++[];simp⟩, .inr ⟨rfl,cJ _⟩,λ_=>rfl,(BunIn.nil S _).merge h.bun⟩
def Net.tell (h:Net S t m w K v r b)(k:Int):Net S t m (qD w k) K v r b:=h.upd rfl rfl rfl (h.wi.tell k) h.dev
def Tx (w:AA)(K v:Int)(b:AB)(c:Int):AA:=VK.aBK (VK.aAU w c) K v b c
def bFu (w:AA)(K v:Int)(b:AB)(c:Int):AB:=⟨bH (kL (nJ w K v b (aG w c)) (w.Devices.length:Int) false).aAD.Entries b.Entries⟩
def Net.add (h:Net S t w.Devices.length w K v r b)(p:KeyD S)(ht:t<=800000)(hr:r.length<=58){c:Int}(d:Ie w c=true):
  Net S (t+3) (w.Devices.length+1) (Tx w K v b c) K (v+1) (r++[gB K (aC w.aAC.Log) v b]) (bFu w K v b c)/\(Tx w K v b c).Devices.length=w.Devices.length/\(Tx w K v b c).Seed=w.Seed/\
  Net S (t+3) (w.Devices.length+1) (fK w c).1 K (v+1) (r++[gB K (aC w.aAC.Log) v b]) (bFu w K v b c)/\(fK w c).1=qD (bKz (Tx w K v b c) K (v+1) (bFu w K v b c)) 2/\(Tx w K v b c).aAC.Log=vP w c/\bC w c=true/\
  (Tx w K v b c).Devices=w.Devices.set c.toNat (aLw (VK.aAU w c) K v b (kL (nJ w K v b (aG w c)) (w.Devices.length:Int) false)):=by
 have j:=d;unfold Ie at d;simp only[ab,bz,cu] at d;obtain⟨⟨k1,k2,k3,k4⟩,k5,k6,k7,k8,k9⟩:=d;have hn:w.Devices.length<6:=by omega
 obtain⟨n1,n2,n3,n4⟩:=h.aAU p (by omega) k5 k6 hn;have a:=h.inl k5;obtain⟨hl,e⟩:=iY (gL a);have n5:(VK.aAU w c).Devices.length=w.Devices.length:=by rw[n2,ax]
 have q:c.toNat<(VK.aAU w c).Devices.length:=by omega
 have k:aZ (vP w c)=true:=by rw[<-n3];exact n1.wi.log
 obtain⟨s,y,u⟩:=aZ9 k;have i:aL (VK.aAU w c) c=true:=xJ (gL a) n5;have f:bC (VK.aAU w c) c=true:=by rw[n1.aDH i,n3,n4,s,lZ];rw[h.aDH (gL a),lZ] at a;simp[*]
 have l:aG (VK.aAU w c) c=kL (nJ w K v b (aG w c)) (w.Devices.length:Int) false:=by
  grind[n2,List.getD,bg,aG]
 have hp:=n1.aBI p.ks (by omega) hr f;have n:=n1.aBK p.ks (by omega) hr f;rw[l,n3,u] at n;have z:rV w c=(Tx w K v b c,true):=hp;have u1:(Tx w K v b c).Devices.length=w.Devices.length:=by show((VK.aAU w c).Devices.set _ _).length=_;rw[ax,n5]
 have u2:(Tx w K v b c).Seed=w.Seed:=n4;have u3:(Tx w K v b c).aAC.Log=vP w c:=n3;have u4:(Tx w K v b c).Devices=w.Devices.set c.toNat (aLw (VK.aAU w c) K v b (kL (nJ w K v b (aG w c)) (w.Devices.length:Int) false)):=by show(VK.aAU w c).Devices.set c.toNat (aLw (VK.aAU w c) K v b (aG (VK.aAU w c) c))=_;rw[l,n2,gj]
 have n:Net S (t+3) (w.Devices.length+1) (Tx w K v b c) K (v+1) (r++[gB K (aC w.aAC.Log) v b]) (bFu w K v b c):=n;have o:=n;rw[<-u1] at o;obtain⟨s1,s2⟩:=o.app p.ks (by omega) (by omega) (by simp[*]);have x:Af w c=(bKz (Tx w K v b c) K (v+1) (bFu w K v b c),0):=by
  grind[s1,u2,u1,Af]
 have eA:(fK w c).1=qD (bKz (Tx w K v b c) K (v+1) (bFu w K v b c)) 2:=by unfold fK;rw[j,ac,x]
 rw[u1] at s2;exact⟨n,u1,u2,by rw[eA];exact s2.tell 2,eA,u3,a,u4⟩
end
end Go.VK
set_option maxRecDepth 100000
namespace Go.VK
open D
def mZ (w:AA)(c x:Int):List AF:=w.aAC.Log++[Mr w.aAC.Log 2 (aT (aG w x).Store) (aG w c).Store]
def aHv (w:AA)(c x:Int):Int:=mV (aG w c).Store (mZ w c x)
def bH7 {w:AA}{c x:Int}(hl:aZ (mZ w c x)=true):
  aD (mZ w c x)=(aD w.aAC.Log).filter (λd=>d !=aT (aG w x).Store)/\(∀p,dY (mZ w c x) p=(dY w.aAC.Log p||aT (aG w x).Store==p))/\aC (mZ w c x)=aC w.aAC.Log+1:=by
 obtain⟨_,_,h1⟩:=aQ3 hl;have hk:(Mr w.aAC.Log 2 (aT (aG w x).Store) (aG w c).Store).Kind=2:=rfl;have hd:(Mr w.aAC.Log 2 (aT (aG w x).Store) (aG w c).Store).Device=aT (aG w x).Store:=rfl;refine⟨?_,λp=> ?_,?_⟩
 all_goals grind[mZ,bOx,zJ,Tt,jK]
def bRs {d:AD}{log:List AF}{key:Int}(h:(mU d log key).2=true):(mU d log key).1={d with Log:=log,Key:=key,Epoch:=aC log,Version:=0}:=by
 grind[aZ,dG,decide,aC,bL,mU]
section
variable {S:List (Int×Int)} {t m:Nat} {w:AA} {K v:Int} {r:List AJ} {b:AB}
def Ha (w:AA)(K v:Int)(b:AB)(c x:Int):AD:=kL {nJ w K v b (aG w c) with Log:=mZ w c x,Key:=aHv w c x,Epoch:=aC (mZ w c x),Version:=0} x true
def bK0 (w:AA)(K v:Int)(b:AB)(bx:AN)(c x:Int):AA:=
 {w with Devices:=w.Devices.set c.toNat {Ha w K v b c x with Version:=1},Sites:=w.Sites.map (gZ x),aAC:=⟨mZ w c x,bx,w.aAC.History++[gB (aHv w c x) (aC (mZ w c x)) 1 (Ha w K v b c x).aAD]⟩}
def bO1 {w:AA}{c x:Int}(h:(fH w c x).2=false):fH w c x=(w,false):=by
 grind[aM,eT,bC,oZ,nG,Mt,Mv,fH]
def bH8 {w:AA}{c x:Int}(h:(fH w c x).2=true):((aM w c 0).2==0)=true/\eT w c=false/\(c==x)=false/\bC w x=true/\(nG w c x).2=true/\(Mt w c x).2=true/\(Mv w c x).2=true/\fH w c x=(qD (Mv w c x).1 4,true):=by
 unfold fH at h ⊢
 grind[aM,eT,bC,oZ,nG,Mt,Mv,bz]
def Net.cutAt (h:Net S t m w K v r b)(d:KeyD S)(ht:t<=900000){c:Int}(a:bC w c=true):aM w c 0=({w with Devices:=w.Devices.set c.toNat (nJ w K v b (aG w c))},0)/\aG (jD w c) c=nJ w K v b (aG w c):=by
 have hs:=h.aBV d.ks ht a
 grind[List.getD,bg,default,aG,hs,jD,iY,gL]
def Net.aDS (h:Net S t m w K v r b)(d:KeyD S){T:Int}(l:0<=T/\T<=900000)(ht:(t:Int)<=T){c x:Int}(a:bC w c=true)(f:bC w x=true):
  ChgIn S (T+2) {nJ w K v b (aG w c) with Log:=mZ w c x,Key:=aHv w c x,Epoch:=aC (mZ w c x),Version:=0} (Ha w K v b c x):=by
 obtain⟨hl,e⟩:=iY (gL a);obtain⟨j,n⟩:=iY (gL f);have i:=h.dev _ hl;rw[<-e] at i;obtain⟨k,_,_⟩:=pU (gL f);have hd:=h.wi.dlen;have hk:=d.dv x.toNat (by omega);rw[fS k] at hk;exact bOw d.ks (by omega) ((i.bun.merge h.bun).mono (by omega)) hk.1 hk.2 true
def Net.aDR (h:Net S t m w K v r b)(y:KeyD S)(ht:t<=800000)(hr:r.length<=58){c x:Int}(j:bC w c=true)(k2:eT w c=false)(k3:(c==x)=false)(k4:bC w x=true)(k5:(nG w c x).2=true)(k6:(Mt w c x).2=true):
  ∃bx,fH w c x=(qD (bK0 w K v b bx c x) 4,true)/\Net S (t+3) m (qD (bK0 w K v b bx c x) 4) (aHv w c x) 1 (r++[gB K (aC w.aAC.Log) v b]) (Ha w K v b c x).aAD:=by
 obtain⟨hl,e⟩:=iY (gL j);obtain⟨z,J⟩:=iY (gL k4);obtain⟨hs,n⟩:=h.cutAt y (by omega) j;have o:jD w c={w with Devices:=w.Devices.set c.toNat (nJ w K v b (aG w c))}:=by unfold jD;rw[hs]
 obtain⟨bx,A,L,Z,M,N⟩:=bH6 (w:=jD w c) (b:=c) (k:=2) (p:=aT (aG w x).Store) (key:=mV (aG (jD w c) c).Store) (l:=mZ w c x) (by rw[n,o];rfl) k5;obtain⟨g1,O,g3⟩:=bH7 L;have i:∀q∈aD (mZ w c x),q∈aD w.aAC.Log:=(by simp_all);have f:BoxIn (mZ w c x) bx (aHv w c x):=by have:=M λq hq=>h.keys q (i q hq);rw[n] at this;exact this
 have D:R6 w c x=mZ w c x:=N;have h2:(Mt w c x).1={nJ w K v b (aG w c) with Log:=mZ w c x,Key:=aHv w c x,Epoch:=aC (mZ w c x),Version:=0}:=by have:=bRs k6;unfold Mt;rw[this,D,n];rfl
 have a:=h.aDS y (T:=(t:Int)) (by omega) (cJ _) j k4;have Q:=f.eps;have hv:=h.ver;have R:cK (Ha w K v b c x)=({Ha w K v b c x with Version:=1},gB (aHv w c x) (aC (mZ w c x)) 1 (Ha w K v b c x).aAD,true):=by
  have:=bDf (d:=Ha w K v b c x) y.ks (T:=(t:Int)+2) (by omega) (by rw[a.key];exact f.kok) (by rw[a.ep];grind) (by rw[a.ver];simp) a.bun;have V:(Ha w K v b c x).Key=aHv w c x:=a.key;have W:(Ha w K v b c x).Epoch=aC (mZ w c x):=a.ep;have f3:(Ha w K v b c x).Version+1=1:=by rw[show(Ha w K v b c x).Version=0 from a.ver];rfl
  refine this.trans ?_;rw[f3,<-V,<-W]
 have F:cB {w.aAC with Log:=mZ w c x,Boxes:=bx} (gB (aHv w c x) (aC (mZ w c x)) 1 (Ha w K v b c x).aAD)=({w.aAC with Log:=mZ w c x,Boxes:=bx,History:=w.aAC.History++[gB (aHv w c x) (aC (mZ w c x)) 1 (Ha w K v b c x).aAD]},true):=by
  refine aYl rfl ?_ λl hl=> ?_
  ·show w.aAC.History.length<60;rw[h.hist];simp;omega
  ·have hl:w.aAC.History.getLast? =some l:=hl;rw[h.hist,List.getLast?_append] at hl
   grind[ak,decide,aC,mZ,pQ,gB]
 have G:Zm w c x={w with Devices:=w.Devices.set c.toNat (Ha w K v b c x),Sites:=w.Sites.map (gZ x),aAC:={w.aAC with Log:=mZ w c x,Boxes:=bx}}:=by unfold Zm;rw[h2];have A:nG w c x=({jD w c with aAC:={(jD w c).aAC with Log:=mZ w c x,Boxes:=bx}},true):=A;rw[A,o];show(AA.mk _ _ ((w.Devices.set c.toNat _).set c.toNat _) _ _ _ _ _ _ _)=_;rw[gj];rfl
 have h3:Mv w c x=(bK0 w K v b bx c x,true):=by
  unfold Mv Tc;have:aG (Zm w c x) c=Ha w K v b c x:=by
   grind[List.getD,bg,default,aG]
  rw[this,R,G];show(bif true&&(cB {w.aAC with Log:=mZ w c x,Boxes:=bx} _).2 then(({w with Devices:=(w.Devices.set c.toNat _).set c.toNat _,Sites:=_,aAC:=(cB {w.aAC with Log:=mZ w c x,Boxes:=bx} _).1}:AA),true) else _)=_;rw[F,gj];rfl
 have I:fH w c x=(qD (bK0 w K v b bx c x) 4,true):=by
  grind[aM,hs,k2,k3,k4,k5,k6,fH,oZ]
 have u:=(h.wi.cut c x).1;rw[I] at u;refine⟨bx,I,u,f,λp hp=>h.devs p (i p hp),λp hp=> ?_,?_,λs hs=> ?_,a.bun.mono (by omega),by omega,?_⟩
 ·have hp:dY (mZ w c x) p=true:=hp;rw[O,cz] at hp;rcases hp with hp|hp
  ·exact h.rem p hp
  ·rw[<-eq_of_beq hp];have:=(h.aDH (gL k4)).symm.trans k4;rw[lZ] at this;rw[J,h.pub z];exact h.devs _ this
 ·show w.aAC.History++[_]=_;rw[h.hist];rfl
 ·have X:s.Epoch<=aC w.aAC.Log:=by
   rcases bu.1 hs with hs|hs
   ·exact(h.old s hs).low
   ·rw[cm.1 hs];exact cJ _
  refine⟨?_,λhe=> ?_⟩
  ·show s.Epoch<=aC (mZ w c x);omega
  ·have he:s.Epoch=aC (mZ w c x):=he;omega
 ·have:∀k (hk:k<(w.Devices.set c.toNat {Ha w K v b c x with Version:=1}).length),Dv S ((t+3:Nat):Int) (mZ w c x) (aHv w c x) (aC (mZ w c x)) 1 (w.Devices.set c.toNat {Ha w K v b c x with Version:=1})[k]:=λk hk=>by
   rw[eR];rw[ax] at hk;split
   ·exact⟨⟨[],by show mZ w c x=(Ha w K v b c x).Log++[];rw[a.log];simp⟩, .inr ⟨a.ep,cJ 1⟩,λ_=>a.key,a.bun.mono (by omega)⟩
   ·have q:=h.dev k hk;obtain⟨r',hr⟩:=q.pre;have H:w.Devices[k].Epoch<aC (mZ w c x):=by rcases q.at_ with q|q<;>omega
    exact⟨⟨r'++[Mr w.aAC.Log 2 (aT (aG w x).Store) (aG w c).Store],by unfold mZ;rw[<-cl,<-hr]⟩, .inl H,λhe=>by omega,q.bun.mono (by omega)⟩
  exact this
def Net.cut (h:Net S t m w K v r b)(d:KeyD S)(ht:t<=800000)(hr:r.length<=58){c x:Int}(a:(fH w c x).2=true):
  ∃bx,fH w c x=(qD (bK0 w K v b bx c x) 4,true)/\Net S (t+3) m (qD (bK0 w K v b bx c x) 4) (aHv w c x) 1 (r++[gB K (aC w.aAC.Log) v b]) (Ha w K v b c x).aAD:=by
 obtain⟨k1,k2,k3,k4,k5,k6,k7,k8⟩:=bH8 a;exact h.aDR d ht hr (h.inl k1) k2 k3 k4 k5 k6
end
end Go.VK
set_option maxRecDepth 100000
namespace Go.VK
open D
def aLx (w:AA)(d j:Int)(o:AQ):((iP w d j o).1=w/\(iP w d j o).2.2=1)\/(dV w d j=true/\(aBA w j).2.2.2=true/\(iP w d j o).1=aUt w d j o/\(iP w d j o).2.2=2/\((Tg w d j o).2.1==0)=false)\/
  (dV w d j=true/\(aBA w j).2.2.2=true/\(iP w d j o).1=qD (aUt w d j o) 1/\(iP w d j o).2.2=0/\((Tg w d j o).2.1==0)=true):=by
 grind[dV,aBA,Tg,iP]
def Zd {w:AA}{d j:Int}(h:dV w d j=true):aQ w=true/\aL w d=true/\qA w j=true:=by
 grind[dV]
section
variable {S:List (Int×Int)} {t m:Nat} {w:AA} {K v:Int} {r:List AJ} {b:AB}
def Net.visit (h:Net S t m w K v r b)(d j:Int)(o:AQ):Net S t m (iP w d j o).1 K v r b:=by
 have c:=h.wi.visit d j o;have key:∀u,WIn m u->dV w d j=true->u.Seed=w.Seed->u.aAC=w.aAC->u.Devices=(aUt w d j o).Devices->Net S t m u K v r b:=λu i ht k l f=>by
  obtain⟨hl,e⟩:=iY (Zd ht).2.1;have a:=h.dev _ hl;rw[<-e] at a;refine h.upd k l (by rw[f];exact ax ..) i (by rw[f];exact h.set hl ⟨a.pre,a.at_,a.key,a.bun⟩)
 rcases aLx w d j o with⟨e,_⟩|⟨ht,_,e,_,_⟩|⟨ht,_,e,_,_⟩
 ·simp[*]
 ·rw[e] at c ⊢;exact key _ c ht rfl rfl rfl
 ·rw[e] at c ⊢;exact key _ c ht rfl rfl rfl
def Net.same (h:Net S t m w K v r b){u:AA}(c:WIn m u)(d:u.Seed=w.Seed)(e:u.aAC=w.aAC)(a:u.Devices=w.Devices):Net S t m u K v r b:=
 h.upd d e (by rw[a]) c (by rw[a];exact h.dev)
def Net.aCB (h:Net S t m w K v r b)(d:Int):Net S t m (oK w d).1 K v r b:=by
 have:=(h.wi.aCB d).1;unfold oK at this ⊢;cases hb:dV w d 0&& !eT w d with
 |false=>exact h
 |true=>rw[hb] at this;exact h.same this rfl rfl rfl
def Net.tick (h:Net S t m w K v r b):Net S t m (uD w).1 K v r b:=by
 have:=h.wi.tick.1;unfold uD at this ⊢;cases hb:aQ (sP w) with
 |false=>exact h
 |true=>rw[hb] at this;exact h.same this rfl rfl rfl
def Net.aCR (h:Net S t m w K v r b)(a:List Int)(pin:Int):Net S t m (fP w a pin).1 K v r b:=by
 have:=(h.wi.aCR a pin).1;unfold fP at this ⊢;cases hb:aQ w with
 |false=>exact h
 |true=>rw[hb] at this;exact h.same this rfl rfl rfl
def Net.renew (h:Net S t m w K v r b):Net S t m (eO w).1 K v r b:=by
 have:=h.wi.renew.1;unfold eO at this ⊢;cases hb:aQ w&&(fC w.Hosts (aCu w)).2 with
 |false=>exact h
 |true=>rw[hb] at this;exact h.same this rfl rfl rfl
def Net.roll (h:Net S t m w K v r b)(i c:Int):Net S t m (fT w i c).1 K v r b:=by
 have:=(h.wi.roll i c).1;unfold fT at this ⊢;cases hb: !aQ w||(decide (i<0)||decide (i>=(w.Hosts.length:Int))) with
 |true=>exact h
 |false=>
  rw[hb] at this;cases hc:(fM (w.Hosts.getD i.toNat default) c).2 with
  |false=>exact h
  |true=>simp only[hc,aa,ac] at this ⊢;exact h.same this rfl rfl rfl
end
def aYm (Q:AV->Prop)(s:AC):Prop:=∀a∈s.Accounts,∀c∈a.Credentials,Q c
def bAa (P:Int->Prop)(s:AC):Prop:=aYm (λc=>P c.Handle->c.Cut=true) s
def aHw (log:List AF)(seed q:Int):Prop:=dY log (mH seed q.toNat)=true
def wQ (w:AA):Prop:=∀s∈w.Sites,bAa (aHw w.aAC.Log w.Seed) s
def bRt {a:AI}{x:AY}{z:ByteArray}{q:Int}{d:AV}(h:d∈(jZ a x z q).1.Credentials):∃c∈a.Credentials,c.Handle=d.Handle/\(c.Cut=true->d.Cut=true):=by
 unfold jZ at h
 grind[bB,decide,aS,gH,id,bo,Aj,List.getD,ae,bv,et,cf,kM]
def bAa.finish {P:Int->Prop}{seed j:Int}{n:Nat}{s:AC}(hs:SiteIn seed j n s)(h:bAa P s)(c t:Int)(x:AY):bAa P (pE s 1 c t x).1:=by
 have k:=hs.find;obtain⟨l,e,hl,hn⟩:=hs.acc;have o:fU s 0=⟨1,3,l⟩:=by grind[fU]
 have d:bAa P {s with Accounts:=s.Accounts.set (0:Int).toNat (jZ ⟨1,3,l⟩ x s.Name (fJ s.Book c)).1}:=λa f y i hp=>by
  have f:a∈s.Accounts.set (0:Int).toNat (jZ ⟨1,3,l⟩ x s.Name (fJ s.Book c)).1:=f;rw[e] at f;have f:a=(jZ ⟨1,3,l⟩ x s.Name (fJ s.Book c)).1:=by simp_all
  subst f;obtain⟨p,q,z,u⟩:=bRt i;exact u (h ⟨1,3,l⟩ (by grind) p q (by simp[*]))
 unfold pE;rw[k];cases !dK s||decide ((0:Int)<0) with
 |true=>exact h
 |false=>
  simp only[aa];cases !(qE s.Book c 1 t).2 with
  |true=>exact h
  |false=>
   simp only[aa];cases !sM (fU s 0) 3 with
   |true=>exact h
   |false=>
    simp only[aa,o];cases !((jZ ⟨1,3,l⟩ x s.Name (fJ s.Book c)).2==0) with
    |true=>exact d
    |false=>exact d
def bFv (s:AC)(i n:Int):(lY s i n).1.Accounts=s.Accounts/\(lY s i n).1.Logins=s.Logins/\(lY s i n).1.Name=s.Name:=by unfold lY;cases dK s&&(!decide (aF s i<0)&&(eH s.Book i n).2.2)<;>exact⟨rfl,rfl,rfl⟩
section
variable {m:Nat} {w:AA}
def bAb (h:WIn m w){j:Int}(a:qA w j=true):∃hl:j.toNat<w.Sites.length,fB w j=w.Sites[j.toNat]/\(j=0\/j=1)/\SiteIn w.Seed j m (fB w j):=by
 simp only[qA,ab,bq] at a;have h2:=h.two;have hl:j.toNat<w.Sites.length:=by omega
 have e:fB w j=w.Sites[j.toNat]:=by unfold fB;rw[List.getD,ae hl,ci]
 refine⟨hl,e,by omega,?_⟩;have:=h.site _ hl
 grind
def wQ.visit (h:WIn m w)(hc:wQ w)(d j:Int)(o:AQ):wQ (iP w d j o).1:=by
 have key:dV w d j=true->wQ (aUt w d j o):=λht=>by
  obtain⟨hl,e,f,hs⟩:=bAb h (Zd ht).2.2;intro s hm;have hm:s∈w.Sites.set j.toNat (Tg w d j o).1:=hm;show bAa (aHw w.aAC.Log w.Seed) s;rcases et hm with hm|rfl
  ·exact hc s hm
  ·have hb:=hs.begin 1 w.Now;refine bAa.finish hb (λa c=> ?_) _ _ _;have c:a∈(lY (fB w j) 1 w.Now).1.Accounts:=c;rw[(bFv _ _ _).1] at c;exact hc (fB w j) (by simp[*]) a c
 rcases aLx w d j o with⟨e,_⟩|⟨ht,_,e,_,_⟩|⟨ht,_,e,_,_⟩
 ·simp[*]
 ·simp[*]
 ·rw[e];exact key ht
def wQ.same (hc:wQ w){u:AA}(d:u.Seed=w.Seed)(f:u.aAC.Log=w.aAC.Log)(h:∀s∈u.Sites,∃s'∈w.Sites,s.Accounts=s'.Accounts):wQ u:=λs hs=>by
 obtain⟨s',hm,e⟩:=h s hs;rw[d,f];intro a c;rw[e] at c;exact hc s' hm a c
def wQ.keep (hc:wQ w){u:AA}(a:u.Seed=w.Seed)(c:u.aAC.Log=w.aAC.Log)(d:u.Sites=w.Sites):wQ u:=hc.same a c λs hs=>(by grind)
def wQ.tick (hc:wQ w):wQ (uD w).1:=by
 unfold uD;cases aQ (sP w) with
 |false=>exact hc
 |true=>
  refine hc.same rfl rfl λs hs=> ?_
  grind
def bRu {Q:AV->Prop}{s:AC}(h:aYm Q s){id q p:Int}(hq:Q ⟨q,p,0,false⟩):aYm Q (gD s id q p).1:=by
 unfold gD;cases hb: !dK s||decide (aF s id<0) with
 |true=>exact h
 |false=>
  rw[aa];cases h2:(iN (s.Accounts.getD (aF s id).toNat default) q p).2 with
  |false=>exact h
  |true=>
   intro a d c hc;rw[bo] at hb;obtain⟨k,hk,e,j⟩:=Aj (l:=s.Accounts) hb.2;have f:aF s id=(k:Int):=e.trans (by simp);have i:s.Accounts.getD (aF s id).toNat default=s.Accounts[k]:=by rw[f,bv,List.getD,ae hk,ci]
   have d:a∈s.Accounts.set (aF s id).toNat (iN (s.Accounts.getD (aF s id).toNat default) q p).1:=d;rcases et d with d|d
   ·exact h a d c hc
   ·rw[i] at d;have hm:c∈s.Accounts[k].Credentials\/c=⟨q,p,0,false⟩:=by
     grind[bB,aHg,Zl,bu,cm,fb,cX,iN]
    rcases hm with hm|rfl
    ·exact h _ (cf hk) c hm
    ·exact hq
def aQ4 {Q:AV->Prop}{st:AK}{q:Int}(hq:∀p,Q ⟨q,p,0,false⟩):∀{l:List AC} {j:Nat},(∀s∈l,aYm Q s)->∀s∈(gK st q j l).1,aYm Q s
 |[],j,_,s,hs=>by simp[gK] at hs
 |x::l,j,h,s,hs=>by
  unfold gK at hs;cases hb:(gD x 1 q (fD st (aA (j:Int)) q)).2&&(gK st q (j+1) l).2 with
  |false=>rw[hb] at hs;simp at hs
  |true=>
   rw[hb,ac] at hs;rcases ba.1 hs with rfl|hs
   ·exact bRu (h x (cA ..)) (hq _)
   ·exact aQ4 hq (λs hs=>h s (cn _ hs)) s hs
def bH9 {seed j:Int}{l:List AV}(h:Nc seed j l){k:Nat}(hk:k<l.length):aS ⟨1,3,l⟩ (k:Int)=(k:Int):=by
 have hd:decide (aS ⟨1,3,l⟩ (k:Int)<0)=false:=by rw[cu];intro hn;have:=Sr (p:=λc:AV=>c.Handle==(k:Int)) hn l[k] (cf hk);rw[(h k hk).1,ex] at this;cases this
 obtain⟨i,hi,a,d⟩:=Aj (l:=l) hd;have:=(h i hi).1
 grind[aS]
def bO2 {seed j:Int}{n:Nat}{s:AC}(x:j=0\/j=1)(hn:n<=6)(hs:SiteIn seed j n s){k:Nat}(hk:k<n):∃l l',s.Accounts=[⟨1,3,l⟩]/\(gZ (k:Int) s).Accounts=[⟨1,3,l'⟩]/\l'.length=l.length/\Nc seed j l/\Nc seed j l'/\
  (∀c∈l',c.Handle=(k:Int)->c.Cut=true)/\(∀i (h1:i<l.length) (h2:i<l'.length),i≠k->l'[i]=l[i])/\(∀d∈l',∃c∈l,c.Handle=d.Handle/\c.Counter=d.Counter/\(c.Cut=true->d.Cut=true))/\(gZ (k:Int) s).Logins=s.Logins/\(gZ (k:Int) s).Book=s.Book:=by
 have A:=hs.find;obtain⟨l,e,hl,f⟩:=hs.acc;subst f;have D:fU s 0=⟨1,3,l⟩:=by grind[fU]
 have o:=bH9 hl hk;have p:gH ⟨1,3,l⟩ (k:Int)=l[k]:=by grind[List.getD,ae,gH]
 have q:=aQr (m:=3) x hl hn (by grind);have y:gZ (k:Int) s={s with Accounts:=[(nE ⟨1,3,l⟩ (k:Int)).1]}:=by unfold gZ;simp[*]
 have z:∀{l':List AV},Nc seed j l'->∀c∈l',c.Handle=(k:Int)->∃h:k<l'.length,c=l'[k]:=λa c hc F=>by
  obtain⟨i,hi,e⟩:=dh.1 hc;have:=(a i hi).1
  grind
 rw[y];unfold nE;rw[q,o,p,ao (show ¬(k:Int)<0 by omega)];cases u:l[k].Cut with
 |true=>
  grind
 |false=>
  have a:Nc seed j (l.set k {l[k] with Cut:=true}):=hl.set hk rfl rfl (hl k hk).2.2
  grind
end
end Go.VK
set_option maxRecDepth 100000
namespace Go.VK
open D
def aUx:List (Int×Int):=[(1941999745,0),(1941999745,1),(1941999745,2),(1941999745,3),(1941999745,4),(1941999745,5),(1464438180,0),(1464438180,1),(1464438180,2),(1464438180,3),(1464438180,4),(1464438180,5)]
def bRv {x:List (Int×Int)}(h:x.length<=8)(a:∀p∈x,(0<=p.1/\p.1<=2147483646)/\(0<=p.2/\p.2<=1000000)):KeyD (aUx++x):=by
 refine⟨⟨by rw[aw];show 12+x.length<=20;omega,λp hp=> ?_⟩,λq hq=> ?_⟩
 ·rcases bu.1 hp with hp|hp
  ·have:∀p∈aUx,(0<=p.1/\p.1<=2147483646)/\(0<=p.2/\p.2<=1000000):=by decide
   simp[*]
  simp[*]
 simp_all[bWu,bWv,aUx,List.mem_append_left];omega
def bO3 {x:List (Int×Int)}{n:Nat}(h:n=1\/n=2\/n=3):BunIn (aUx++x) 3 (nwB n).Entries:=by
 refine⟨(aHe (bFp h).1).2,λe he=>List.mem_append_left _ ?_,λe he=> ?_⟩
 ·rcases h with rfl|rfl|rfl<;>revert e<;>decide
 ·rcases h with rfl|rfl|rfl<;>revert e<;>decide
def bRw {x:List (Int×Int)}{n k t pin seed:Int}(h:Tn n k t pin seed=true):Net (aUx++x) 3 (bZ n k t pin seed).Devices.length (bZ n k t pin seed) (bY seed 0) 1 [] (nwB n.toNat):=by
 obtain⟨a,c,l⟩:=aLr h;have hn:n.toNat=1\/n.toNat=2\/n.toNat=3:=by unfold Tn at h;simp only[ab] at h;have:=iC h.1;omega
 obtain⟨h1,h2,o,d,q⟩:=rH seed n.toNat (by omega);have f:(bZ n k t pin seed).aAC=⟨aU seed n.toNat,iQ seed n.toNat,[gB (bY seed 0) 0 1 (nwB n.toNat)]⟩:=by
  grind[aYh,bZ]
 have s:(bZ n k t pin seed).Devices=(List.range n.toNat).map λk=>K4 seed n.toNat k 1 (nwB n.toNat):=by
  grind[bDa,bZ]
 rw[c];refine⟨a,by grind[bC9],λp hp=> ?_,λp hp=> ?_,?_,(by simp),bO3 hn,by decide,λi hi=> ?_⟩
 ·grind
 ·simp_all
 ·simp[*]
 ·rw[f];show Dv _ _ (aU seed n.toNat) _ (aC (aU seed n.toNat)) 1 (bZ n k t pin seed).Devices[i];have j:i<((List.range n.toNat).map λk=>K4 seed n.toNat k 1 (nwB n.toNat)).length:=by simp_all
  have e:(bZ n k t pin seed).Devices[i]=K4 seed n.toNat i 1 (nwB n.toNat):=by simp[*]
  rw[e,d];exact⟨⟨[],by show _=aU seed n.toNat++[];simp⟩, .inr ⟨rfl,cJ _⟩,λ_=>rfl,bO3 hn⟩
def bRx {n k t pin seed:Int}(h:Tn n k t pin seed=true):wQ (bZ n k t pin seed):=λs hs a e c hc hp=>by
 have hn:n.toNat=1\/n.toNat=2\/n.toNat=3:=by unfold Tn at h;simp only[ab] at h;have:=iC h.1;omega
 have d:(bZ n k t pin seed).aAC.Log=aU seed n.toNat:=by unfold bZ;rw[h];show(jL seed n.toNat).Log=_;rw[aYh hn]
 unfold aHw at hp;rw[d,(rH seed n.toNat (by omega)).rem] at hp;cases hp
section
variable {S:List (Int×Int)} {t m:Nat} {w:AA} {K v:Int} {r:List AJ} {b:AB}
def bIa {w:AA}{c:Int}(h:(fK w c).2=false):fK w c=(w,false):=by
 grind[Ie,fK]
def aQ5 {w:AA}{c:Int}(h:(fK w c).2=true):Ie w c=true:=by
 grind[Ie,fK]
def wQ.add (h:Net S t w.Devices.length w K v r b)(f:KeyD S)(ht:t<=800000)(hr:r.length<=58)(hc:wQ w)(a:Int):wQ (fK w a).1:=by
 cases hk:(fK w a).2 with
 |false=>grind[bIa]
 |true=>
  obtain⟨n1,u1,u2,n2,eA,u3,i,u4⟩:=h.add f ht hr (aQ5 hk);have d:aZ (vP w a)=true:=by rw[<-u3];exact n1.wi.log
  obtain⟨p,j,u⟩:=aZ9 d;have hd:=h.wi.dlen;have l:=n1.wi.mle;have eP:aHw (vP w a) w.Seed=aHw w.aAC.Log w.Seed:=by funext q;unfold aHw;rw[j]
  have n:¬aHw (vP w a) w.Seed (w.Devices.length:Int):=λhq=>by
   rw[eP] at hq;obtain⟨k,hk,e⟩:=h.rem _ hq
   grind[aOm,bv]
  rw[eA];intro s hs;show bAa (aHw (Tx w K v b a).aAC.Log (Tx w K v b a).Seed) s;rw[u3,u2];have hs:s∈(aHh w a).1:=hs;have es:(add1 w a).1.Sites=w.Sites:=by obtain⟨x,y,z,o,_⟩:=Nf (aM w a 0).1 a 1 (aT (aO w.Seed (w.Devices.length:Int))) (λ_=>(aG (aM w a 0).1 a).Key);exact o.trans (kT w a 0).2.2.2.1
  unfold aHh at hs;rw[es] at hs;exact aQ4 (Q:=λc=>aHw (vP w a) w.Seed c.Handle->c.Cut=true) (by simp[*]) (λs hs=>by rw[eP];exact hc s hs) s hs
def wQ.cut (h:Net S t m w K v r b)(hm:m=w.Devices.length)(F:KeyD S)(ht:t<=800000)(hr:r.length<=58)(hc:wQ w)(c x:Int):wQ (fH w c x).1:=by
 cases hk:(fH w c x).2 with
 |false=>rw[bO1 hk];exact hc
 |true=>
  obtain⟨bx,e,n1⟩:=h.cut F ht hr hk;obtain⟨k1,k2,k3,k4,_⟩:=bH8 hk;obtain⟨q,G⟩:=iY (gL k4);obtain⟨H,_,_⟩:=pU (gL k4);have n:aZ (mZ w c x)=true:=n1.wi.log;obtain⟨V,I,W⟩:=bH7 n;have hd:=h.wi.dlen;have A:=h.wi.mle;rw[e];intro s hs;have hs:s∈w.Sites.map (gZ x):=hs;obtain⟨s',o,rfl⟩:=cb.1 hs;obtain⟨j,J,es⟩:=dh.1 o;have h2:=h.wi.two;have f:=h.wi.site j J;rw[es] at f;obtain⟨l,l',q1,q2,q3,q4,q5,q6,q7,q8,_⟩:=bO2 (j:=(j:Int)) (by omega) h.wi.mle f (k:=x.toNat) (by omega);rw[fS H] at q2 q6;show bAa (aHw (mZ w c x) w.Seed) _;intro a p u d hp;rw[q2] at p;have p:a=⟨1,3,l'⟩:=by simpa using p
  subst p;have d:u∈l':=d;unfold aHw at hp;rw[I,cz] at hp;rcases hp with hp|hp
  ·obtain⟨L,M,N,_,O⟩:=q8 u d;exact O (hc s' o ⟨1,3,l⟩ (by rw[q1];simp) L M (by unfold aHw;rw[N];exact hp))
  ·have hp:=eq_of_beq hp;rw[G,h.pub q] at hp;obtain⟨i,hi,Q⟩:=dh.1 d;have y:=(q5 i hi).1;rw[Q] at y;have hl:=f.acc;obtain⟨R,D,X,Z⟩:=hl;rw[q1] at D;have:l=R:=by simpa using D
   subst this;rw[y,bv] at hp;have T:x.toNat=i:=Decidable.byContradiction λz=>aOm (by omega) (by omega) z hp;exact q6 u d (by rw[y];omega)
end
def bFw (M:Int)(k:AZ):Prop:=k.Guesses<=k.Limit/\kG k<=M
def Nj (h:AG):Prop:=bFw h.Monotonic h.State/\∀k∈h.Saved,bFw h.Monotonic k
def bFw.mono {M N:Int}{k:AZ}(h:bFw M k)(hm:M<=N):bFw N k:=⟨h.1,fk h.2 hm⟩
def aHx {k:AZ}(h:kC k=true):(0<=k.Epoch/\k.Epoch<=1000000)/\(1<=k.Limit/\k.Limit<=10)/\(0<=k.Guesses/\k.Guesses<=k.Limit)/\kG k=k.Epoch*1000+k.Guesses:=by unfold kC at h;simp only[ab] at h;have h1:=iC h.2.1;have h2:=iC h.2.2.1;have a:=iC h.2.2.2;refine⟨h1,h2,a,?_⟩;unfold kG;rw[aI (show-9223372036854775808<=k.Epoch*1000 by omega) (by omega),aI (by omega) (by omega)]
def Nj.ask {h:AG}(c:Nj h)(e:Int):Nj (Oh h e).1:=by
 unfold Oh;cases hb:decide (kG h.State<h.Monotonic)|| !(nI h.State e).2.2 with
 |true=>exact c
 |false=>
  rw[bo,cu,cR] at hb;have hk:nI h.State e=({h.State with Guesses:=h.State.Guesses+1},Yv h.State.aAQ e,true)/\kC h.State=true/\h.State.Guesses≠h.State.Limit:=by
   have d:=hb.2;unfold nI at d ⊢;cases hq:kC h.State&&(!(h.State.Guesses==h.State.Limit)&&(Db e&& !(e==1))) with
   |false=>simp_all
   |true=>simp only[ab,bz,cj] at hq;obtain⟨i,j,l,_⟩:=aHx hq.1;refine⟨?_,hq.1,hq.2.1⟩;rw[ac,aI (by omega) (by omega)]
  obtain⟨k1,k2,k3⟩:=hk;obtain⟨i,j,l,n⟩:=aHx k2;have hm:kG {h.State with Guesses:=h.State.Guesses+1}=h.State.Epoch*1000+h.State.Guesses+1:=by
   grind[aI,kG]
  rw[aa,k1,hm];have f:=c.1;refine⟨⟨by show h.State.Guesses+1<=h.State.Limit;omega,by rw[hm];exact cJ _⟩,λk hk=> ?_⟩;have hk:k∈bN1 (h.Saved++[h.State]):=hk;have hk:k∈h.Saved++[h.State]:=by
   grind[decide,cX,bN1]
  have a:h.Monotonic<=h.State.Epoch*1000+h.State.Guesses+1:=by omega
  rcases bu.1 hk with hk|hk
  ·exact(c.2 k hk).mono a
  ·rw[cm.1 hk];exact f.mono a
def gP (l:List AG):Prop:=∀h∈l,Nj h
def bDh {l:List AG}(h:gP l){i:Nat}{x:AG}(c:i<l.length->Nj x):gP (l.set i x):=λy a=>by
 by_cases hi:i<l.length
 ·rcases et a with a|rfl
  ·exact h y a
  simp[*]
 ·rw[kr (by omega)] at a;exact h y a
def gP.ask {e:Int}:∀(a:List Int) (s:List AG×List Int×List Int),gP s.1->gP (a.foldl (bFj e) s).1
 |[],s,h=>h
 |c::a,s,h=>by
  rw[de];refine gP.ask a _ (bDh h λhi=> ?_);have:s.1.getD c.toNat default=s.1[c.toNat]:=by rw[List.getD,ae hi,ci]
  rw[this];exact(h _ (cf hi)).ask e
def gP.aEA {hs:List AG}(h:gP hs)(v:A4)(a:List Int)(pin b:Int):gP (Ih v hs a pin b).1:=by
 unfold Ih;cases !bN3 hs a pin b with
 |true=>exact h
 |false=>have:gP (qR v hs a pin b).1:=gP.ask a _ h;simp only[aa];cases decide ((a.length:Int)<v.Threshold)||(decide ((qR v hs a pin b).2.2.length<a.length)|| !(aC4 (qR v hs a pin b).2.1 (qR v hs a pin b).2.2).2)<;>exact this
def Nj.reset {h:AG}(a:Nj h){s:AU}(hb:jO h s=false):Nj (qP h s):=by
 unfold jO at hb;simp only[bo,cR,cu,cj] at hb;obtain⟨b1,d,e,_⟩:=hb;obtain⟨f,i,j,l⟩:=aHx b1;have c:IntKind.i64.wrap (h.State.Epoch+1)=h.State.Epoch+1:=aI (by omega) (by omega);have hm:kG ⟨s,IntKind.i64.wrap (h.State.Epoch+1),0,h.State.Limit⟩=(h.State.Epoch+1)*1000:=by rw[c];unfold kG;show IntKind.i64.wrap (IntKind.i64.wrap ((h.State.Epoch+1)*1000)+0)=_;rw[aI (show-9223372036854775808<=(h.State.Epoch+1)*1000 by omega) (by omega),aI (by omega) (by omega)];omega
 unfold qP;refine⟨⟨by show(0:Int)<=h.State.Limit;omega,cJ _⟩,λk hk=> ?_⟩
 show bFw (kG ⟨s,IntKind.i64.wrap (h.State.Epoch+1),0,h.State.Limit⟩) k;rw[hm];refine(a.2 k hk).mono ?_;omega
def gP.renew {hs:List AG}(h:gP hs)(c:List Int):gP (fC hs c).1:=by
 unfold fC aZ0;generalize lF (hs.map λh=>h.State.aAQ) c=f;cases hb:((f.length:Int)==0)||(hs.zip f).any (λp=>jO p.1 p.2) with
 |true=>exact h
 |false=>rw[bo] at hb;intro y e;have e:y∈List.zipWith qP hs f:=e;rw[<-List.map_uncurry_zip_eq_zipWith] at e;obtain⟨⟨a,s⟩,hp,rfl⟩:=cb.1 e;have d:=ia.1 hb.2 (a,s) hp;exact(h a (List.of_mem_zip hp).1).reset (by simpa using d)
def gP.roll {hs:List AG}(h:gP hs){i:Nat}(b:Int):gP (hs.set i (fM (hs.getD i default) b).1):=by
 refine bDh h λhi=> ?_;have:hs.getD i default=hs[i]:=by rw[List.getD,ae hi,ci]
 rw[this];have a:=h _ (cf hi);unfold fM;cases hb:decide (b<0)||decide (b>=(hs[i].Saved.length:Int)) with
 |true=>exact a
 |false=>
  rw[bo,cu,cu] at hb;have hl:hs[i].Saved.length-1-b.toNat<hs[i].Saved.length:=by omega
  refine⟨?_,a.2⟩;show bFw _ (hs[i].Saved.getD (hs[i].Saved.length-1-b.toNat) default);rw[List.getD,ae hl,ci];exact a.2 _ (cf hl)
def gP.within {w:AA}(h:gP w.Hosts):jN w=true:=by unfold jN;rw[bz,ia];intro x a;obtain⟨h1,h2⟩:=(h x a).1;rw[ao (show ¬x.State.Guesses>x.State.Limit by omega),ao (show ¬kG x.State>x.Monotonic by omega)];exact eW
def bK1 {k:AZ}(h:k.Guesses<=k.Limit):Nj (Dy k):=⟨⟨h,cJ _⟩,λk hk=>by simp[Dy] at hk⟩
end Go.VK
set_option maxRecDepth 100000
namespace Go.VK
open D
structure All (S:List (Int×Int)) (t:Nat) (w:AA):Prop where
 net:∃K v r b,Net S (3+3*t) w.Devices.length w K v r b/\r.length<=t
 cut:wQ w
 hosts:gP w.Hosts
def All.wi {S:List (Int×Int)}{t:Nat}{w:AA}(h:All S t w):WIn w.Devices.length w:=let ⟨_,_,_,_,n,_⟩:=h.net;n.wi
def All.mono {S:List (Int×Int)}{t u:Nat}{w:AA}(h:All S t w)(a:t<=u):All S u w:=
 let ⟨K,v,r,b,n,hr⟩:=h.net;⟨⟨K,v,r,b,n.mono (by omega),by omega⟩,h.cut,h.hosts⟩
def bK2 {n k t pin seed:Int}:gP (bZ n k t pin seed).Hosts:=by
 unfold bZ;cases Tn n k t pin seed with
 |false=>intro h a;simp[bHu] at a
 |true=>
  intro h a;have a:h∈(Yu seed t pin k).2.1:=a;unfold Yu Mx at a;generalize IntKind.i64.wrap (1+(aY seed [293]).tmod 1018)=q at a;cases hb:aOi pin 7 (aY seed [283]) q 5&& !((vM q (Tj seed t) k).length==0) with
  |false=>rw[hb] at a;simp at a
  |true=>rw[hb] at a;have a:h∈(vM q (Tj seed t) k).map (λs=>Dy ⟨s,0,0,5⟩):=a;obtain⟨s,_,rfl⟩:=cb.1 a;exact bK1 (by show(0:Int)<=5;decide)
def bRy {x:List (Int×Int)}{n k t pin seed:Int}(h:Tn n k t pin seed=true):All (aUx++x) 0 (bZ n k t pin seed):=
 ⟨⟨_,_,_,_,bRw (x:=x) h,ai _⟩,bRx h,bK2⟩
section
variable {S:List (Int×Int)} {t:Nat} {w:AA}
def All.of (h:All S t w){u:AA}{t':Nat}(ht:t<=t')(hn:∀K v r b,Net S (3+3*t) w.Devices.length w K v r b->Net S (3+3*t') w.Devices.length u K v r b)(hl:u.Devices.length=w.Devices.length)(hc:wQ u)(a:gP u.Hosts):All S t' u:=
 let ⟨K,v,r,b,n,hr⟩:=h.net;⟨⟨K,v,r,b,by rw[hl];exact hn K v r b n,by omega⟩,hc,a⟩
def All.visit (h:All S t w)(d j:Int)(o:AQ):All S t (iP w d j o).1:=
 h.of (ai _) (λK v r b n=>n.visit d j o) (aQu w d j o).2 (h.cut.visit h.wi d j o) (by rw[aLt];exact h.hosts)
def All.aBA (h:All S t w)(q:Bool)(d j:Int)(o:AQ):All S t (bif q then qJ w d j o else(w,1)).1:=by
 cases q with
 |true=>exact h.visit d j o
 |false=>exact h
def All.aCB (h:All S t w)(d:Int):All S t (oK w d).1:=
 h.of (ai _) (λK v r b n=>n.aCB d) (h.wi.aCB d).2.2 (by
  unfold oK;cases dV w d 0&& !eT w d with
  |false=>exact h.cut
  |true=>exact h.cut.keep rfl rfl rfl) (by rw[aLv];exact h.hosts)
def All.tick (h:All S t w):All S t (uD w).1:=
 h.of (ai _) (λK v r b n=>n.tick) h.wi.tick.2.2 h.cut.tick (by rw[aQ2];exact h.hosts)
def All.sync (h:All S t w)(a:KeyD S)(ht:t<=58)(d c:Int):All S t (aM w d c).1:=
 h.of (ai _) (λK v r b n=>n.sync a.ks (by omega) d c) (kT w d c).2.2.1 (h.cut.keep (kT w d c).1 (by rw[(kT w d c).2.2.2.2.2]) (kT w d c).2.2.2.1) (by rw[vO];exact h.hosts)
def aQ6 (w:AA)(d:Int)(n:ByteArray)(a:Int)(f:Bool):(rF w d n a f).1.aAC=w.aAC/\(rF w d n a f).1.Sites=w.Sites:=by
 unfold rF;cases aQ w&&aL w d with
 |false=>exact⟨rfl,rfl⟩
 |true=>simp only[ac];cases(dQ (aG w d) n a f).2<;>exact⟨rfl,rfl⟩
def All.aDG (h:All S t w)(c:KeyD S)(ht:t<=58)(d:Int){n:ByteArray}{a:Int}(hk:(bI n,a)∈S)(f:Bool):All S (t+1) (rF w d n a f).1:=
 h.of (dy _) (λK v r b q=>(q.aDG c.ks (by omega) d hk f).mono (by omega)) (aHs w d n a f).2 (h.cut.keep (aHs w d n a f).1 (by rw[(aQ6 w d n a f).1]) (aQ6 w d n a f).2) (by rw[aQ1];exact h.hosts)
def All.push (h:All S t w)(a:KeyD S)(ht:t<=58)(d:Int):All S (t+1) (eX w d).1:=by
 obtain⟨K,v,r,b,n,hr⟩:=h.net;obtain⟨c,k,e,f,l,i⟩:=Yz w d;have hc:wQ (eX w d).1:=h.cut.keep c i f;have j:gP (eX w d).1.Hosts:=by rw[U3];exact h.hosts
 cases hl:bC w d with
 |false=>rw[n.aCQ hl];exact h.mono (by omega)
 |true=>
  have:=n.aBK a.ks (by omega) (by omega) hl;refine⟨⟨K,v+1,r++[gB K (aC w.aAC.Log) v b],⟨bH (aG w d).aAD.Entries b.Entries⟩,?_,by simp;omega⟩,hc,j⟩
  ·rw[e,n.aBI a.ks (by omega) (by omega) hl];exact this.mono (by omega)
def All.add (h:All S t w)(a:KeyD S)(ht:t<=58)(d:Int):All S (t+1) (fK w d).1:=by
 obtain⟨K,v,r,b,n,hr⟩:=h.net;cases hk:(fK w d).2 with
 |false=>rw[bIa hk];exact h.mono (by omega)
 |true=>
  obtain⟨n1,u1,u2,n2,eA,u3,c,u4⟩:=n.add a (by omega) (by omega) (aQ5 hk);refine⟨⟨K,v+1,r++[gB K (aC w.aAC.Log) v b],bFu w K v b d,?_,by simp;omega⟩,wQ.add n a (by omega) (by omega) h.cut d,by rw[aYi];exact h.hosts⟩
  ·have hl:(fK w d).1.Devices.length=w.Devices.length+1:=by rw[eA];show((Tx w K v b d).Devices++[_]).length=_;rw[aw,u1];rfl
   rw[hl];exact n2.mono (by omega)
def All.aDY (h:All S t w)(a:KeyD S)(ht:t<=58)(d x:Int):All S (t+1) (fH w d x).1:=by
 obtain⟨K,v,r,b,n,hr⟩:=h.net;cases hk:(fH w d x).2 with
 |false=>rw[bO1 hk];exact h.mono (by omega)
 |true=>obtain⟨bx,e,n1⟩:=n.cut a (by omega) (by omega) hk;refine⟨⟨aHv w d x,1,r++[gB K (aC w.aAC.Log) v b],(Ha w K v b d x).aAD,?_,by simp;omega⟩,wQ.cut n rfl a (by omega) (by omega) h.cut d x,by rw[aYj];exact h.hosts⟩;rw[(h.wi.cut d x).2.2,e];exact n1.mono (by omega)
def All.aCO (h:All S t w)(g:Int):All S t (wF w g).1:=by
 have hk:=h.wi.aCO g;refine h.of (ai _) (λK v r b n=>n.aCR (vN w) g) hk.2.2 ?_ ?_
 ·show wQ (fP w (vN w) g).1;unfold fP;cases aQ w with
  |false=>exact h.cut
  |true=>exact h.cut.keep rfl rfl rfl
 ·show gP (fP w (vN w) g).1.Hosts;unfold fP;cases aQ w with
  |false=>exact h.hosts
  |true=>exact h.hosts.aEA _ _ _ _
def All.renew (h:All S t w):All S t (eO w).1:=by
 refine h.of (ai _) (λK v r b n=>n.renew) h.wi.renew.2.2 ?_ ?_<;>unfold eO<;>cases aQ w&&(fC w.Hosts (aCu w)).2
 ·exact h.cut
 ·exact h.cut.keep rfl rfl rfl
 ·exact h.hosts
 ·exact h.hosts.renew _
def All.roll (h:All S t w)(i c:Int):All S t (fT w i c).1:=by
 refine h.of (ai _) (λK v r b n=>n.roll i c) (h.wi.roll i c).2.2 ?_ ?_<;>unfold fT<;>cases !aQ w||(decide (i<0)||decide (i>=(w.Hosts.length:Int)))
 ·simp only[aa];cases(fM (w.Hosts.getD i.toNat default) c).2
  ·exact h.cut
  ·exact h.cut.keep rfl rfl rfl
 ·exact h.cut
 ·simp only[aa];cases(fM (w.Hosts.getD i.toNat default) c).2
  ·exact h.hosts
  ·exact h.hosts.roll c
 ·exact h.hosts
def All.apply (h:All S t w)(a:KeyD S)(ht:t<=58)(k d o v:Int)(f:Bool)(hk:k=8->(bI aZ5,v)∈S):All S (t+1) (R9 w k d o v f).1:=by
 unfold R9;rw[h.wi.ok];simp only[ay,aa];cases k==1 with
 |true=>exact h.tick.mono (by omega)
 |false=>
 simp only[aa];cases k==2 with
 |true=>exact(h.aBA _ _ _ _).mono (by omega)
 |false=>
 simp only[aa];cases k==3 with
 |true=>exact(h.aBA _ _ _ _).mono (by omega)
 |false=>
 simp only[aa];cases k==4 with
 |true=>exact(h.aCB d).mono (by omega)
 |false=>
 simp only[aa];cases k==5 with
 |true=>exact(h.aBA _ _ _ _).mono (by omega)
 |false=>
 simp only[aa];cases k==6 with
 |true=>exact h.add a ht d
 |false=>
 simp only[aa];cases k==7 with
 |true=>exact h.aDY a ht d o
 |false=>
 simp only[aa];cases c:k==8 with
 |true=>exact h.aDG a ht d (hk (eq_of_beq c)) f
 |false=>
 simp only[aa];cases k==9 with
 |true=>exact h.push a ht d
 |false=>
 simp only[aa];cases k==10 with
 |true=>exact(h.sync a (by omega) d v).mono (by omega)
 |false=>
 simp only[aa];cases k==11 with
 |true=>exact(h.aCO v).mono (by omega)
 |false=>
 simp only[aa];cases k==12 with
 |true=>exact h.renew.mono (by omega)
 |false=>
 simp only[aa];cases k==13 with
 |true=>exact(h.roll o v).mono (by omega)
 |false=>exact h.mono (by omega)
def All.final (h:All S t w){d:Int}(hd:aL w d=true):Mk w d=true->bC w d=false/\(w.Sites.take 2).any (Yk d)=false:=λhc=>by
 obtain⟨K,v,r,b,n,hr⟩:=h.net;obtain⟨hl,e⟩:=iY hd;obtain⟨d0,_,_⟩:=pU hd;have hr:dY w.aAC.Log (mH w.Seed d.toNat)=true:=by unfold Mk at hc;rw[hd,e,n.pub hl] at hc;exact hc
 refine⟨?_,?_⟩
 ·rw[n.aDH hd,fv,Ne,lZ];exact bRq (.inr n.wi.log) _ hr
 ·rw[ia];intro s hs hb;have hs:=fb hs;obtain⟨j,i,es⟩:=dh.1 hs;have a:=n.wi.site j i;rw[es] at a;obtain⟨l,f,k,o⟩:=a.acc;unfold Yk at hb;rw[a.find,f,ab] at hb;obtain⟨c,hc1,hc2⟩:=ey.1 hb.2;rw[ab,bz] at hc2;have hc1:c∈l:=hc1;have:=h.cut s hs ⟨1,3,l⟩ (by rw[f];simp) c hc1 (by unfold aHw;rw[eq_of_beq hc2.1];exact hr);rw[this] at hc2;cases hc2.2
def All.aCN (h:All S t w){d:Int}(hd:aL w d=true):rD w d=true:=by
 unfold rD;cases hc:Mk w d with
 |false=>rfl
 |true=>obtain⟨h1,h2⟩:=h.final hd hc;rw[h1,h2];rfl
def All.aCJ (h:All S t w){d:Int}(hd:aL w d=true):qO w d=true:=by
 obtain⟨K,v,r,b,n,hr⟩:=h.net;obtain⟨hl,e⟩:=iY hd;unfold qO;rw[hd];cases hi:bC w d with
 |false=>rfl
 |true=>
  have a:=hi;unfold bC at hi;rw[hd,cw,lZ] at hi;rw[Ni n.bx hi];cases he:(aG w d).Epoch !=aC w.aAC.Log with
  |true=>rfl
  |false=>rw[bne_eq_false_iff_eq] at he;have:=(n.dev _ hl).key (by rw[<-e];exact he);rw[<-e] at this;rw[this];simp
def bIb {k:Nat}(h:k<w.Devices.length):aL w (k:Int)=true:=by unfold aL;rw[ak (by omega),ak (by omega)];rfl
def All.aDQ (h:All S t w):aHd w=true:=by
 unfold aHd;rw[h.wi.ok,h.hosts.within,cw,cw,bz];exact Nb λk hk=>by
  rw[cg];unfold aPz;rw[h.aCN (bIb hk),h.aCJ (bIb hk)];rfl
end
end Go.VK
set_option maxRecDepth 100000
namespace Go.VK
open D
section
variable {S:List (Int×Int)} {t m:Nat} {w:AA} {K v:Int} {r:List AJ} {b:AB}
def at_set {l:List AD}{x:AD}{c d:Int}(hc:0<=c)(hd:0<=d)(h:d≠c):(l.set c.toNat x).getD d.toNat default=l.getD d.toNat default:=by rw[List.getD,List.getD,bl (by omega)]
def bIc {l:List AD}{x:AD}{c:Nat}(hc:c<l.length):(l.set c x).getD c default=x:=by rw[List.getD,bg hc];rfl
def bO4 {w:AA}{K v:Int}{b:AB}{d:Int}(hd:aL w d=true):aG (aBK w K v b d) d=aLw w K v b (aG w d)/\∀c,aL w c=true->c≠d->aG (aBK w K v b d) c=aG w c:=by obtain⟨d0,d1,_⟩:=pU hd;refine⟨bIc d1,λc hc a=> ?_⟩;obtain⟨e,_,_⟩:=pU hc;exact at_set d0 e a
def Net.aBS (h:Net S t m w K v r b){t':Nat}{u:AA}{d v':Int}{r':List AJ}{b':AB}(e:Net S t' m u d v' r' b')(f:u.Devices.length=w.Devices.length)(i:u.Seed=w.Seed)(j:u.aAC.Log=w.aAC.Log)(c:Int):bC u c=bC w c:=by
 have a:aL u c=aL w c:=by unfold aL;rw[f]
 cases hd:aL w c with
 |false=>unfold bC;rw[a,hd];rfl
 |true=>rw[h.aDH hd,e.aDH (a.trans hd),i,j]
def aQ7 (s:KeyS S):∀(l:List Int) (t:Nat) (w:AA) (v:Int) (r:List AJ) (b:AB),Net S t m w K v r b->(∀d∈l,bC w d=true)->t+l.length<=900000->r.length+l.length<=58->
  ∃u v' r' b',lT l w=(u,true)/\(Net S (t+l.length) m u K v' r' b'/\r'.length=r.length+l.length)/\u.aAC.Log=w.aAC.Log/\u.Seed=w.Seed/\u.Stolen=w.Stolen/\u.Devices.length=w.Devices.length/\u.Sites=w.Sites/\u.Hosts=w.Hosts/\Tw b.Entries b'.Entries/\
   (∀d,aL w d=true->(d∈l\/Tw (aG w d).aAD.Entries b.Entries)->Tw (aG u d).aAD.Entries b'.Entries)/\(∀d∈l,Tw (aG w d).aAD.Entries b'.Entries)/\
   (∀e∈b'.Entries,e∈b.Entries\/∃d∈l,e∈(aG w d).aAD.Entries)/\(∀d,aL w d=true->(aG u d).Store=(aG w d).Store/\(d∉l->aG u d=aG w d))
 |[],t,w,v,r,b,h,_,_,_=>⟨w,v,r,b,rfl,⟨h,rfl⟩,rfl,rfl,rfl,rfl,rfl,rfl, .refl _,λd _ hd=>hd.resolve_left (by simp),λd hd=>by simp at hd,λe he=> .inl he,λd _=>⟨rfl,λ_=>rfl⟩⟩
 |d::l,t,w,v,r,b,h,hl,ht,y=>by
  simp only[au] at ht y;have k:=hl d (cA ..);have hd:=gL k;obtain⟨A,e⟩:=iY hd;have D:=h.dev _ A;rw[<-e] at D;have J:=h.aBK s (by omega) (by omega) k;have hlen:(aBK w K v b d).Devices.length=w.Devices.length:=ax ..;obtain⟨F,p⟩:=bO4 (K:=K) (v:=v) (b:=b) hd;obtain⟨u,v',r',b',N,L,O,Q,R,i6,T,i8,M,n,G,H,I⟩:=aQ7 s l (t+1) _ _ _ _ J (λc hc=>by
   rw[h.aBS J hlen rfl rfl];exact hl c (cn _ hc)) (by omega) (by simp;omega)
  have i:Tw b.Entries (bH (aG w d).aAD.Entries b.Entries):= .right D.bun.st h.bun.st;refine⟨u,v',r',b',?_,⟨by rw[au,show t+(l.length+1)=t+1+l.length by omega];exact L.1,by rw[L.2];simp;omega⟩,O,Q,R,i6.trans hlen,T,i8,i.trans M,λc hc f=> ?_,λc hc=> ?_,λx j=> ?_,λc hc=> ?_⟩
  ·rw[lT,h.aBI s (by omega) (by omega) k];exact N
  ·have o:aL (aBK w K v b d) c=true:=xJ hc hlen;by_cases a:c=d
   ·subst a;exact n c o (.inr (by rw[F];exact .refl _))
   ·refine n c o ?_;rw[p c hc a];rcases f with f|f
    ·exact .inl ((ba.1 f).resolve_left a)
    ·exact .inr (f.trans i)
  ·by_cases a:c=d
   ·subst a;exact(Tw.left D.bun.st h.bun.st).trans M
   ·have f:=(ba.1 hc).resolve_left a;have:=G c f;rw[p c (gL (hl c hc)) a] at this;exact this
  ·have dec:∀e∈bH (aG w d).aAD.Entries b.Entries,e∈b.Entries\/∃c∈d::l,e∈(aG w c).aAD.Entries:=λe he=>
    (nN _ (ai _) he).elim (λq=> .inr ⟨d,cA ..,q⟩) .inl
   rcases H x j with j|⟨c,hc,j⟩
   ·exact dec x j
   ·by_cases a:c=d
    ·subst a;rw[F] at j;exact dec x j
    ·rw[p c (gL (hl c (cn _ hc))) a] at j;exact .inr ⟨c,cn _ hc,j⟩
  ·obtain⟨q1,q2⟩:=I c (xJ hc hlen);by_cases a:c=d
   ·subst a;rw[F] at q1;exact⟨q1,λq=>absurd (cA ..) q⟩
   ·rw[p c hc a] at q1 q2;exact⟨q1,λq=>q2 λz=>q (cn _ z)⟩
def aQ8 (p:KeyS S):∀(l:List Int) (w:AA),Net S t m w K v r b->(∀d∈l,bC w d=true)->t<=900000->(∀d∈l,Tw (aG w d).aAD.Entries b.Entries)->
  ∃u,sI l w=(u,true)/\Net S t m u K v r b/\u.aAC=w.aAC/\u.Seed=w.Seed/\u.Stolen=w.Stolen/\u.Devices.length=w.Devices.length/\u.Sites=w.Sites/\u.Hosts=w.Hosts/\
   (∀d,aL w d=true->d∉l->aG u d=aG w d)/\(∀d∈l,aG u d=⟨(aG w d).Store,w.aAC.Log,K,aC w.aAC.Log,v,b⟩)
 |[],w,h,_,_,_=>⟨w,rfl,h,rfl,rfl,rfl,rfl,rfl,rfl,λd _ _=>rfl,λd hd=>by simp at hd⟩
 |d::l,w,h,hl,ht,hs=>by
  have k:=hl d (cA ..);have hd:=gL k;obtain⟨n,e⟩:=iY hd;obtain⟨d0,_,_⟩:=pU hd;have z:=h.dev _ n;rw[<-e] at z;have hX:nJ w K v b (aG w d)=⟨(aG w d).Store,w.aAC.Log,K,aC w.aAC.Log,v,b⟩:=by unfold nJ;rw[(hs d (cA ..)).merge' z.bun.st h.bun.st]
  have i:=h.aBV p ht k;rw[hX] at i;have s:=h.sync p ht d 0;rw[i] at s;have hlen:(w.Devices.set d.toNat (⟨(aG w d).Store,w.aAC.Log,K,aC w.aAC.Log,v,b⟩:AD)).length=w.Devices.length:=ax;have x:aG ({w with Devices:=w.Devices.set d.toNat ⟨(aG w d).Store,w.aAC.Log,K,aC w.aAC.Log,v,b⟩}:AA) d=⟨(aG w d).Store,w.aAC.Log,K,aC w.aAC.Log,v,b⟩:=bIc n;have y:∀c,aL w c=true->c≠d->aG ({w with Devices:=w.Devices.set d.toNat ⟨(aG w d).Store,w.aAC.Log,K,aC w.aAC.Log,v,b⟩}:AA) c=aG w c:=λc hc j=>by
   obtain⟨D,_,_⟩:=pU hc;exact at_set d0 D j
  obtain⟨u,F,G,H,I,J,i6,L,i8,A,o⟩:=aQ8 p l _ s (λc hc=>by
   rw[h.aBS s hlen rfl rfl];exact hl c (cn _ hc)) ht (λc hc=>by
   by_cases f:c=d
   ·subst f;rw[x];exact .refl _
   ·rw[y c (gL (hl c (cn _ hc))) f];exact hs c (cn _ hc))
  refine⟨u,?_,G,H,I,J,i6.trans hlen,L,i8,λc hc a=> ?_,λc hc=> ?_⟩
  ·rw[sI,i];exact F
  ·have j:c≠d:=λq=>a (q▸cA ..);rw[A c (xJ hc hlen) (λq=>a (cn _ q)),y c hc j]
  ·by_cases f:c=d
   ·subst f;by_cases a:c∈l
    ·rw[o c a,x]
    ·rw[A c (xJ hd hlen) a,x]
   ·have a:=(ba.1 hc).resolve_left f;rw[o c a,y c (gL (hl c hc)) f]
def Nk {w:AA}{d:Int}(h:d∈aX w):bC w d=true:=by unfold aX at h;obtain⟨k,hk,rfl⟩:=cb.1 h;have:=(gy.1 hk).2;unfold oF at this;rw[ab] at this;exact this.1
def bO5 (w:AA):(aX w).length<=w.Devices.length:=by unfold aX;rw[bh];exact ca (e9 ..) (by simp)
def bO6 {w u:AA}(h1:u.Devices.length=w.Devices.length)(h2:u.Stolen=w.Stolen)(a:∀c,bC u c=bC w c):aX u=aX w:=by
 unfold aX;rw[h1];have:oF u=oF w:=by funext i;unfold oF;rw[a,h2]
 rw[this]
def bTa (f:KeyS S){T:Int}(i:T<=1000000){w:AA}{c:List AH}:∀(l:List Int) (e:List AH),(∀d∈l,BunIn S T (aG w d).aAD.Entries/\Tw (aG w d).aAD.Entries c)->BunIn S T e->Tw e c->∃o,uS w l e= .inr o/\BunIn S T o/\Tw o c
 |[],e,_,h1,h2=>⟨e,rfl,h1,h2⟩
 |d::l,e,h,h1,h2=>by
  obtain⟨b1,j⟩:=h d (cA ..);have hm:=Zc (a:=⟨e⟩) (b:=(aG w d).aAD) f i h1 b1;obtain⟨o,k,n,p⟩:=bTa f i l (bH e (aG w d).aAD.Entries) (λc hc=>h c (cn _ hc)) (h1.merge b1) (Tw.lub h2 j);refine⟨o,?_,n,p⟩;rw[uS,hm];exact k
def bRz (a:AH):AH.eqB a a=true:=by unfold AH.eqB;simp
def bR0 (b:AB):mP b b=true:=by
 unfold mP;rw[ex,cw,cG];intro x c;obtain⟨l⟩:=b;have c:x∈List.zipWith AH.eqB l l:=c;induction l with
 |nil=>simp at c
 |cons a l d=>
  rw[List.zipWith_cons_cons] at c;rcases ba.1 c with rfl|c
  ·rw[bRz];rfl
  ·exact d c c
def bO7 {w:AA}(h:aX w≠[]):(aX w).getD 0 0∈aX w:=by
 cases hr:aX w with
 |nil=>exact absurd hr h
 |cons a l=>exact cA ..
structure Settled (S:List (Int×Int)) (t:Nat) (w:AA) (K:Int) (r:List AJ) (b:AB) (y:AA) (v':Int) (r':List AJ) (b':AB):Prop where
 eq:kS w=(y,true)
 net:Net S (t+w.Devices.length) w.Devices.length y K v' r' b'
 rlen:r'.length<=r.length+w.Devices.length
 log:y.aAC.Log=w.aAC.Log
 seed:y.Seed=w.Seed
 stolen:y.Stolen=w.Stolen
 len:y.Devices.length=w.Devices.length
 sites:y.Sites=w.Sites
 hosts:y.Hosts=w.Hosts
 reach:aX y=aX w
 own:∀d∈aX w,(aG y d).aAD=b'/\(aG y d).Epoch=aC w.aAC.Log/\(aG y d).Version=v'/\(aG y d).Key=K
 other:∀d,aL w d=true->(aG y d).Store=(aG w d).Store/\(d∉aX w->aG y d=aG w d)
 sub:∀d∈aX w,Tw (aG w d).aAD.Entries b'.Entries
 last:Tw b.Entries b'.Entries
 mem:∀e∈b'.Entries,e∈b.Entries\/∃d∈aX w,e∈(aG w d).aAD.Entries
def bDi (x:KeyS S)(n:Net S t w.Devices.length w K v r b)(ht:t<=800000)(hr:r.length+w.Devices.length<=58):∃y v' r' b',Settled S t w K r b y v' r' b':=by
 have I:=bO5 w;have J:=n.wi.dlen;obtain⟨u,v',r',b',L,⟨h,i2r⟩,i,z,A,i6,M,i8,N,j,k,l,o⟩:=aQ7 x (aX w) t w v r b n (λd hd=>Nk hd) (by omega) (by omega);have a:∀c,bC u c=bC w c:=n.aBS h i6 z i;obtain⟨y,O,D,F,G,H,p,Q,R,T,f⟩:=aQ8 x (aX w) u h (λd hd=>by rw[a];exact Nk hd) (by omega) (λd hd=>j d (gL (Nk hd)) (.inl hd));have e:∀c,bC y c=bC w c:=λc=>(h.aBS D p G (by rw[F]) c).trans (a c);refine⟨y,v',r',b',⟨?_,D.mono (by omega),by omega,by rw[F,i],G.trans z,H.trans A,p.trans i6,Q.trans M,R.trans i8,bO6 (p.trans i6) (H.trans A) e,λd hd=> ?_,λd hd=> ?_,k,N,l⟩⟩
 ·unfold kS;rw[n.wi.ok,L,O];rfl
 ·rw[f d hd];exact⟨rfl,by rw[i],rfl,rfl⟩
 ·obtain⟨q1,q2⟩:=o d hd;have s:aL u d=true:=xJ hd i6;by_cases hr:d∈aX w
  ·exact⟨by rw[f d hr];exact q1,λq=>absurd hr q⟩
  ·rw[T d s hr];exact⟨q1,q2⟩
def bK3 (f:KeyD S)(h:All S t w)(ht:t<=52):(Gy w).2=true/\(kS w).2=true/\All S (t+w.Devices.length) (kS w).1/\aXt (kS w).1=true/\aX (kS w).1=aX w/\(kS w).1.Devices.length=w.Devices.length/\(kS w).1.aAC.Log=w.aAC.Log/\(kS w).1.Sites=w.Sites/\
  ∀d∈aX w,(dU (aG (kS w).1 d).aAD (Gy w).1)=((aG (kS w).1 d).aAD,true):=by
 obtain⟨K,v,r,b,n,hr⟩:=h.net;have k:=n.wi.dlen;obtain⟨y,v',r',b',s⟩:=bDi f.ks n (by omega) (by omega);have hb':=s.net.bun;obtain⟨o,l,j,p⟩:=bTa (w:=w) (c:=b'.Entries) (T:=((3+3*t:Nat):Int)) f.ks (by omega) (aX w) [] (λd hd=>by
  obtain⟨hl,e⟩:=iY (gL (Nk hd));rw[e];refine⟨(n.dev _ hl).bun,?_⟩;rw[<-e];exact s.sub d hd) (BunIn.nil ..) (Tw.nil _)
 have i:Gy w=(⟨o⟩,true):=by unfold Gy;rw[l]
 rw[s.eq,i];refine⟨rfl,rfl,⟨⟨K,v',r',b',?_,by have:=s.rlen;omega⟩,?_,?_⟩,?_,s.reach,s.len,s.log,s.sites,λd hd=> ?_⟩
 ·rw[show y.Devices.length=w.Devices.length from s.len];exact s.net.mono (by omega)
 ·exact h.cut.keep s.seed s.log s.sites
 ·show gP y.Hosts;rw[s.hosts];exact h.hosts
 ·unfold aXt;rw[s.reach,cG];intro d hd;have h0:=bO7 (w:=w) (λe=>by rw[e] at hd;simp at hd);obtain⟨q,u,x,z⟩:=s.own d hd;obtain⟨A,D,F,G⟩:=s.own _ h0;unfold aPv;rw[q,u,x,z,A,D,F,G];simp[bR0]
 ·show dU (aG y d).aAD ⟨o⟩=((aG y d).aAD,true);rw[(s.own d hd).1];have:=Zc (a:=b') (b:=⟨o⟩) f.ks (V:=((3+3*t+w.Devices.length:Nat):Int)) (by omega) hb' (j.mono (by omega));rw[this,p.merge j.st hb'.st]
end
end Go.VK
set_option maxRecDepth 100000
namespace Go.VK
open D
def bO8 (s:AK)(o:AQ)(z:ByteArray)(i c:Int)(p:Bool):iO s o z i c p=(s,bJ8,false)\/(mW o z=true/\lG s=true/\s.Counter<1000000/\iO s o z i c p=({s with Counter:=s.Counter+1},{Gz s o z i c p with Counter:=s.Counter+1,Signature:=sD (dH s z i) (bT (Gz s o z i c p)++[s.Counter+1])},true)):=by
 unfold iO;cases hm:mW o z with
 |false=>exact .inl rfl
 |true=>
  unfold gN;cases hs:lG s&& !(s.Counter==1000000) with
  |false=>exact .inl rfl
  |true=>
   simp only[ab,bz,cj] at hs;have hc:=hs.1;unfold lG at hc;simp only[ab] at hc;have hr:=iC hc.2.2.2;have hn:bHs s={s with Counter:=s.Counter+1}:=by unfold bHs;rw[aI (by omega) (by omega)]
   refine .inr ⟨rfl,hs.1,by omega,?_⟩;simp only[cw,ac,hn]
def bR1 {s:AK}{o:AQ}{z:ByteArray}{i c:Int}{p:Bool}(h1:mW o z=true)(h2:lG s=true)(a:s.Counter<1000000):iO s o z i c p=({s with Counter:=s.Counter+1},{Gz s o z i c p with Counter:=s.Counter+1,Signature:=sD (dH s z i) (bT (Gz s o z i c p)++[s.Counter+1])},true):=by
 rcases bO8 s o z i c p with e|⟨_,_,_,e⟩
 ·have:(iO s o z i c p).2.2=true:=by unfold iO gN;rw[h1,h2,cj.2 (show s.Counter≠1000000 by omega)];rfl
  rw[e] at this;cases this
 ·exact e
def bWx {seed:Int}{k:Nat}{s:AK}(h:StIn seed k s)(hk:k<6):lG s=true:=by unfold lG;rw[h.ven,h.ser,h.key,gT (show(0:Int)<=(k:Int) by omega) (by omega),gT h.cnt.1 h.cnt.2];show(true&&(true&&(bL (aY seed [277,(k:Int)])&&true)))=true;rw[iR];rfl
def bFx {b:AP}(h:BookIn b)(hn:b.Next<1000000){now:Int}(ht:0<=now/\now<=999900):eH b 1 now=((eH b 1 now).1,⟨b.Next,1,now+5⟩,true)/\(eH b 1 now).1.Next=b.Next+1/\(qE (eH b 1 now).1 b.Next 1 now).2=true:=by
 have q:=Yy h.ok;have hq:=(bC0 h 1 now).1;have s:IntKind.i64.wrap (now+5)=now+5:=aI (by omega) (by omega);have u:0<=b.Next:=by have:=h.ok;unfold eQ at this;simp only[ab] at this;exact(iC this.1.1).1
 have f:eH b 1 now=(⟨b.Seed,b.Next+1,(bif decide ((b.Open.length:Int)>=16) then b.Open.drop 1 else b.Open)++[⟨b.Next,1,now+5⟩]⟩,⟨b.Next,1,now+5⟩,true):=by unfold eH aC0;rw[h.ok,cj.2 (show b.Next≠1000000 by omega),gT (show(0:Int)<=1 by decide) (by decide),gT ht.1 (by omega),s,aI (show-9223372036854775808<=b.Next+1 by omega) (by omega)];rfl
 refine⟨by rw[f],by rw[f],?_⟩;have a:∀c∈b.Open,c.Id<=b.Next-1:=λc hc=>by
  have:=h.ok;unfold eQ at this;simp only[ab,bz] at this;obtain⟨i,hi,e⟩:=dh.1 hc;have h2:=T9 this.2 i hi;unfold iJ at h2;simp only[bo,cR] at h2;have:=(iC h2.1).2;rw[aI (by omega) (by omega),e] at this;exact this
 have hm:∀c∈(eH b 1 now).1.Open,c.Id=b.Next->c=⟨b.Next,1,now+5⟩:=λc hc he=>by
  rw[f] at hc;have hc:c∈(bif decide ((b.Open.length:Int)>=16) then b.Open.drop 1 else b.Open)++[(⟨b.Next,1,now+5⟩:A0)]:=hc;rcases bu.1 hc with hc|hc
  ·have:c∈b.Open:=by
    cases hd:decide ((b.Open.length:Int)>=16) with
    |true=>rw[hd] at hc;exact cX hc
    |false=>rw[hd] at hc;exact hc
   have:=a c this;omega
  ·exact cm.1 hc
 have j:(⟨b.Next,1,now+5⟩:A0)∈(eH b 1 now).1.Open:=by rw[f];show _∈_++[_];simp
 have o:decide (dS (eH b 1 now).1 b.Next<0)=false:=by rw[cu];intro d;have:=Sr (p:=λc:A0=>c.Id==b.Next) d _ j;simp at this
 obtain⟨k,hk,n,x⟩:=Aj (l:=(eH b 1 now).1.Open) o;have y:aHj (eH b 1 now).1 (dS (eH b 1 now).1 b.Next)=⟨b.Next,1,now+5⟩:=by have n:dS (eH b 1 now).1 b.Next=((0+k:Nat):Int):=n;rw[n];unfold aHj;rw[cg,bv,List.getD,ae hk,ci];exact hm _ (cf hk) (eq_of_beq x)
 unfold qE;rw[hq.ok,o,y];show((1:Int)==1&&decide (now<=now+5))=true;rw[ak (by omega)];rfl
section
variable {m:Nat} {w:AA}
def bO9 (h:WIn m w){d j:Int}{o:AQ}(ht:dV w d j=true)(hm:d.toNat<m)(ho:mW o (aA j)=true)(hn:(fB w j).Book.Next<1000000)(hc:(aG w d).Store.Counter<1000000)
  (N:∀a∈(fB w j).Accounts,∀(hk:d.toNat<a.Credentials.length),a.Credentials[d.toNat].Cut=false/\a.Credentials[d.toNat].Counter<=(aG w d).Store.Counter):(iP w d j o).2.2=0:=by
 obtain⟨W,t2,O⟩:=Zd ht;obtain⟨hl,es,z,hs⟩:=bAb h O;obtain⟨d0,d1,_⟩:=pU t2;have J:=h.mle;have hb:=Yy hs.book;obtain⟨Q,X,R⟩:=bFx hb hn h.now;have y:aBA w j=({fB w j with Book:=(eH (fB w j).Book 1 w.Now).1},(fB w j).Book.Next,fJ (eH (fB w j).Book 1 w.Now).1 (fB w j).Book.Next,true):=by unfold aBA lY;rw[hs.ok z h.mle,hs.find,Q];rfl
 have k:=h.aBZ t2;have n:=bWx k (by omega);have L:aC1 w d j o=({(aG w d).Store with Counter:=(aG w d).Store.Counter+1},{Gz (aG w d).Store o (aA j) d (aBA w j).2.2.1 true with Counter:=(aG w d).Store.Counter+1,Signature:=sD (dH (aG w d).Store (aA j) d) (bT (Gz (aG w d).Store o (aA j) d (aBA w j).2.2.1 true)++[(aG w d).Store.Counter+1])},true):=bR1 ho n hc;have f:=hs.begin 1 w.Now;rw[show(lY (fB w j) 1 w.Now)=aBA w j from rfl] at f;obtain⟨l,e,i,A⟩:=hs.acc;subst A;have D:=i d.toNat hm;obtain⟨u1,u2⟩:=N ⟨1,3,l⟩ (by rw[e];simp) hm;have u2:l[d.toNat].Counter<=(aG w d).Store.Counter:=u2;have u1:l[d.toNat].Cut=false:=u1;have p:fU (aBA w j).1 0=⟨1,3,l⟩:=by rw[y];unfold fU;show((fB w j).Accounts.getD _ _)=_;rw[e];rfl
 have q:=aQr (m:=3) z i h.mle ⟨by decide,by decide⟩;have F:aS ⟨1,3,l⟩ d=(d.toNat:Int):=by have:=bH9 i hm;rwa [fS d0] at this ⊢
 have G:gH ⟨1,3,l⟩ (d.toNat:Int)=l[d.toNat]:=by unfold gH;rw[bv];show l.getD d.toNat default=_;rw[List.getD,ae hm,ci]
 have s:dH (aG w d).Store (aA j) d=dH (aO w.Seed (d.toNat:Int)) (aA j) (d.toNat:Int):=by rw[dH,dH,k.key,fS d0]
 have hv:∀M,iI (cZ (dH (aO w.Seed (d.toNat:Int)) (aA j) (d.toNat:Int))) M (sD (dH (aO w.Seed (d.toNat:Int)) (aA j) (d.toNat:Int)) M)=true:=λM=>bC2 (by unfold dH;exact iR _ _) M;have u:kM l[d.toNat].Public (aC1 w d j o).2.1 (aBA w j).1.Name (fJ (aBA w j).1.Book (aBA w j).2.1) l[d.toNat].Counter=0:=by rw[f.name,L,y];unfold kM;show(bif !((aA j).toList==(aA j).toList) then(1:Int) else bif !true then 2 else bif !(fJ (eH (fB w j).Book 1 w.Now).1 (fB w j).Book.Next==fJ (eH (fB w j).Book 1 w.Now).1 (fB w j).Book.Next) then 3 else bif !iI l[d.toNat].Public (bT (Gz (aG w d).Store o (aA j) d (fJ (eH (fB w j).Book 1 w.Now).1 (fB w j).Book.Next) true)++[(aG w d).Store.Counter+1]) (sD (dH (aG w d).Store (aA j) d) (bT (Gz (aG w d).Store o (aA j) d (fJ (eH (fB w j).Book 1 w.Now).1 (fB w j).Book.Next) true)++[(aG w d).Store.Counter+1])) then 5 else bif decide ((aG w d).Store.Counter+1<=l[d.toNat].Counter) then 4 else 0)=0;rw[D.2.1,s,show Qa w.Seed j d.toNat=cZ (dH (aO w.Seed (d.toNat:Int)) (aA j) (d.toNat:Int)) from rfl,hv,ao (show ¬(aG w d).Store.Counter+1<=l[d.toNat].Counter by omega)];simp
 have T:(Tg w d j o).2.1=0:=by
  unfold Tg pE;rw[f.ok z h.mle,f.find];have H:(qE (aBA w j).1.Book (aBA w j).2.1 1 w.Now).2=true:=by rw[y];exact R
  have I:sM (fU (aBA w j).1 0) 3=true:=by rw[p];unfold sM;rw[q];have:(l.any λc=> !c.Cut)=true:=ey.2 ⟨l[d.toNat],cf hm,by rw[u1];rfl⟩;show(true&&(true&&(true&&(false||l.any λc=> !c.Cut))))=true;rw[this];rfl
  have V:(aC1 w d j o).2.1.Handle=d:=by rw[L];rfl
  have x:(jZ (fU (aBA w j).1 0) (aC1 w d j o).2.1 (aBA w j).1.Name (fJ (aBA w j).1.Book (aBA w j).2.1)).2=0:=by rw[p];unfold jZ;rw[q,V,F,G,u1,ao (show ¬(d.toNat:Int)<0 by omega)];exact u
  rw[H,I,x];rfl
 unfold iP;rw[ht,T,y];rfl
end
end Go.VK
set_option maxRecDepth 100000
namespace Go.VK
open D
def bPa (w:AA)(k:Nat):Int:=(w.Devices.getD k default).Store.Counter
def bTb (w:AA)(k:Nat):Prop:=dY w.aAC.Log (mH w.Seed k)=true
def CrU (cnt:Nat->Int)(rem:Nat->Prop)(c:AV):Prop:=c.Counter<=cnt c.Handle.toNat/\(c.Cut=true->rem c.Handle.toNat)
structure Us (B:Int) (w:AA):Prop where
 cnt:∀k,k<w.Devices.length->bPa w k<=B
 next:∀s∈w.Sites,s.Book.Next<=B
 cred:∀s∈w.Sites,aYm (CrU (bPa w) (bTb w)) s
def CrU.mono {cnt cnt':Nat->Int}{rem rem':Nat->Prop}(hc:∀k,cnt k<=cnt' k)(hr:∀k,rem k->rem' k){c:AV}(h:CrU cnt rem c):CrU cnt' rem' c:=⟨fk h.1 (hc _),λq=>hr _ (h.2 q)⟩
section
variable {m:Nat} {w:AA} {B:Int}
end
section
variable {S:List (Int×Int)} {t m:Nat} {w:AA} {K v:Int} {r:List AJ} {b:AB} {B:Int}
end
section
variable {m:Nat} {w:AA} {B:Int}
def Us.ok (p:WIn m w)(h:Us B w)(u:B<1000000){d j:Int}{o:AQ}(ht:dV w d j=true)(hm:d.toNat<m)(ho:mW o (aA j)=true)(hr:¬bTb w d.toNat):(iP w d j o).2.2=0:=by
 obtain⟨x,t2,q⟩:=Zd ht;obtain⟨hl,es,y,hs⟩:=bAb p q;obtain⟨k,z⟩:=iY t2;have c:bPa w d.toNat=(aG w d).Store.Counter:=rfl;have e:fB w j∈w.Sites:=by rw[es];exact cf hl
 have hn:=h.next _ e;have hc:=h.cnt _ k;rw[c] at hc;refine bO9 p ht hm ho (by omega) (by omega) λa f hk=> ?_;have hq:=h.cred _ e a f _ (cf hk);obtain⟨l,el,n,_⟩:=hs.acc;rw[el] at f;have f:a=⟨1,3,l⟩:=by simpa using f
 subst f;have s:(AI.mk 1 3 l).Credentials[d.toNat].Handle=(d.toNat:Int):=(n d.toNat hk).1;unfold CrU at hq;rw[s,bv] at hq;refine⟨?_,by have:=hq.1;rw[c] at this;exact this⟩;cases i:(AI.mk 1 3 l).Credentials[d.toNat].Cut with
 |false=>rfl
 |true=>exact absurd (hq.2 i) hr
end
end Go.VK
