import Derived.Test.YtchppgifkkcfpaaGreatDoorXcFF
/- Printed by wip/tools: models, walks, proofs. -/
set_option linter.all false
set_option maxRecDepth 100000
namespace Go.VK
open D
def tV {h:Int}(v:Int)(h0:0<=h/\h<2147483647):∃q,hstep h v=h*1000003+v+13-2147483647*q/\(0<=hstep h v/\hstep h v<2147483647):=by
 obtain⟨h0,h1⟩:=h0;have hm:=lS (p:=v) (q:=2147483647) (by decide);have hv:bQ v 2147483647=v%2147483647:=cu (by decide);have e:hstep h v=(h*1000003+v+13)%2147483647:=by
  grind[aI,bQ,Int.tmod_eq_emod_of_nonneg,hstep]
 grind
def bXg (k a b c:Int):∃q,bN k [a,b,c]=k*1000012000054000108000082+a*1000009000027000027+b*1000006000009+c*1000003+11000178001159003802006301004246-2147483647*q:=by simp only[bN,Yd,cM,hC,ey,cH,bp,db,fp];obtain⟨q0,e0,j⟩:=tV k (h:=11) (by grind);generalize hstep 11 k=d at*;obtain⟨q1,o,l⟩:=tV a (h:=d) j;generalize hstep d a=e at*;obtain⟨q2,p,m⟩:=tV b (h:=e) l;generalize hstep e b=f at*;obtain⟨q3,r,n⟩:=tV c (h:=f) m;generalize hstep f c=i at*;obtain⟨q4,s,t⟩:=tV k (h:=i) n;generalize hstep i k=u at*;exact⟨q0*1000012000054000108000081+q1*1000009000027000027+q2*1000006000009+q3*1000003+q4*1,by omega⟩
def bXh (k a b c d:Int):∃q,bN k [a,b,c,d]=k*1000015000090000270000405000244+a*1000012000054000108000081+b*1000009000027000027+c*1000006000009+d*1000003+11000211001693007279017707023149012751-2147483647*q:=by simp only[bN,Yd,cM,hC,ey,cH,bp,db,fp];obtain⟨q0,e0,m⟩:=tV k (h:=11) (by grind);generalize hstep 11 k=e at*;obtain⟨q1,s,n⟩:=tV a (h:=e) m;generalize hstep e a=f at*;obtain⟨q2,t,o⟩:=tV b (h:=f) n;generalize hstep f b=i at*;obtain⟨q3,u,p⟩:=tV c (h:=i) o;generalize hstep i c=j at*;obtain⟨q4,v,r⟩:=tV d (h:=j) p;generalize hstep j d=l at*;obtain⟨q5,w,x⟩:=tV k (h:=l) r;generalize hstep l k=y at*;exact⟨q0*1000015000090000270000405000243+q1*1000012000054000108000081+q2*1000009000027000027+q3*1000006000009+q4*1000003+q5*1,by omega⟩
def aYh (n:Int):∃e,jF n=n+e/\0<=e/\e<=1:=by
 unfold jF;by_cases h:n=0
 ·simp[*]
 ·rw[cp.2 h];exact⟨0,by simp,by decide,by decide⟩
def bXi (s i:Int):(aX s i).Seed=jF (bN s [151,277,i]):=by rfl
def bR7 (s:AN)(n:ByteArray)(i:Int):dV s n i=jF (bN s.Seed [151,179,cO n,i]):=by rfl
def bXj (s i k:Int):∃e q,(aX s i).Seed-(aX s k).Seed=(i-k)*1000003+e+2147483647*q/\-1<=e/\e<=1:=by have hi:(aX s i).Seed=jF (bN s [151,277,i]):=bXi s i;have hk:(aX s k).Seed=jF (bN s [151,277,k]):=bXi s k;obtain⟨a,b,h,j⟩:=aYh (bN s [151,277,i]);obtain⟨c,b1,l,m⟩:=aYh (bN s [151,277,k]);obtain⟨q1,d⟩:=bXg s 151 277 i;obtain⟨q2,f⟩:=bXg s 151 277 k;rw[hi,hk,b,b1,d,f];exact⟨a-c,q2-q1,by omega,by omega,by omega⟩
def dfs:List Int:=[-5,-4,-3,-2,-1,0,1,2,3,4,5]
def bZq:List Int:=[-1,0,1]
theorem bZr {d:Int}(h1: -5<=d)(h2:d<=5):d∈dfs:=by simp only[dfs,bl,gO,or_false];omega
def bNs {d:Int}(h1: -1<=d)(h2:d<=1):d∈bZq:=by grind[bZq]
def hs1:Int:=1464438180
def cFj:cO (aC 0)=1941999745:=by kernel_rfl
def cFk:cO (aC 1)=1464438180:=by kernel_rfl
def bXk:(dfs.all λd=>[0,477561565,-477561565].all λ(g:Int)=>(d==0&&g==0)||bZq.all λe=>bZq.all λz=> !((d*1000003+e)*1000015000090000270000405000244+g*1000006000009+d*1000003-z)%2147483647==0)=true:=by kernel_rfl
def bNt {s i k j l:Int}(hi:0<=i/\i<6)(hk:0<=k/\k<6)(d:j=0\/j=1)(hl:l=0\/l=1)(h:i≠k\/j≠l):dV (aX s i) (aC j) i≠dV (aX s k) (aC l) k:=by
 intro he;obtain⟨e,q,d1,d2,d3⟩:=bXj s i k;have h1:dV (aX s i) (aC j) i=jF (bN (aX s i).Seed [151,179,cO (aC j),i]):=bR7 _ _ _;have h2:dV (aX s k) (aC l) k=jF (bN (aX s k).Seed [151,179,cO (aC l),k]):=bR7 _ _ _;obtain⟨b,f,o,p⟩:=aYh (bN (aX s i).Seed [151,179,cO (aC j),i]);obtain⟨c,b1,r,t⟩:=aYh (bN (aX s k).Seed [151,179,cO (aC l),k]);obtain⟨q1,m⟩:=bXh (aX s i).Seed 151 179 (cO (aC j)) i;obtain⟨q2,n⟩:=bXh (aX s k).Seed 151 179 (cO (aC l)) k;rw[h1,h2,f,b1,m,n] at he;obtain⟨g,hg,a⟩:∃g,cO (aC j)-cO (aC l)=g/\(g∈[0,477561565,(-477561565:Int)]/\(j≠l->g≠0)):=by
  rcases d with rfl|rfl<;>rcases hl with rfl|rfl<;>simp only[cFj,cFk]
  all_goals simp
 have u:(((i-k)*1000003+e)*1000015000090000270000405000244+g*1000006000009+(i-k)*1000003-(c-b))%2147483647=0:=by omega
 have:=cI.1 (cI.1 bXk (i-k) (by grind[bZr])) g a.1;rw[show(i-k==0&&g==0)=false by
  rcases h with h|h
  ·rw[cp.2 (show i-k≠0 by omega)];rfl
  ·rw[cp.2 (a.2 h),dm],cy] at this
 have:=cI.1 (cI.1 this e (bNs d2 d3)) (c-b) (bNs (by omega) (by omega));simp_all
def bUg {n:Int}(h:0<=n/\n<2147483647):dH (jF n)=true:=by
 grind[beq_eq_false_iff_ne,decide_eq_true,jF,dH,bE]
def Xd (s:Int)(l:List Int):dH (bJ s l)=true:=bUg (lU _ _)
theorem bR8 {k:Int}(h:dH k=true):1<=k/\k<=2147483646:=sG h
theorem cAl {k:Int}(h:dH k=true):gX k=k*48271%2147483647:=by have:=bR8 h;unfold gX;rw[h,ah,ac,aI (by omega) (by omega),bv (by omega)]
theorem bZs {k:Int}(h:dH k=true):dH (gX k)=true:=by
 grind[decide_eq_true,dH,bE,cAl,bR8]
def bAr {k:Int}(h:dH k=true):iF (gX k)=k:=by
 have:=bR8 h
 grind[bZs,Bool.not_true,cAl,iF]
def bZt {a b:Int}(c:dH a=true)(hb:dH b=true)(h:gX a=gX b):a=b:=by rw[<-bAr c,h,bAr hb]
def bP0 {s i k j l:Int}(hi:0<=i/\i<6)(hk:0<=k/\k<6)(a:j=0\/j=1)(hl:l=0\/l=1)(h:i≠k\/j≠l):gL (aX s i) (aC j) i≠gL (aX s k) (aC l) k:=
 λhe=>bNt hi hk a hl h (bZt (Xd _ _) (Xd _ _) he)
theorem bKu {α:Type}{p:Nat->α->Bool}:∀{l:List α} {i:Nat},(∀k (h:k<l.length),p (i+k) l[k]=false)->dR p i l=false
 |[],i,_=>rfl
 |x::l,i,h=>by
  have h0:=h 0 (by simp);have a:=bKu (p:=p) (l:=l) (i:=i+1) (λk hk=>by
   have:=h (k+1) (by simpa using hk);rw[show i+1+k=i+(k+1) by omega];simpa using this)
  simp only[dR,dg,fN] at h0 ⊢;rw[h0,a];rfl
def bXl {α:Type}{p:Nat->α->Bool}:∀{l:List α} {i:Nat},dR p i l=false->∀k (h:k<l.length),p (i+k) l[k]=false
 |x::l,i,h,0,_=>by simp only[dR,bu] at h;simpa using h.1
 |x::l,i,h,k+1,hk=>by
  simp only[dR,bu] at h;have:=bXl h.2 k (by simpa using hk);rw[show i+(k+1)=i+1+k by omega];simpa using this
def aDr (seed j:Int)(k:Nat):Int:=gL (aX seed (k:Int)) (aC j) (k:Int)
def bE2 (seed j:Int)(l:List AV):Prop:=∀k (h:k<l.length),l[k].Handle=(k:Int)/\l[k].Public=aDr seed j k/\0<=l[k].Counter/\l[k].Counter<=1000000
theorem aIl {x a b:Int}(h1:a<=x)(h2:x<=b):bE x a b=true:=by grind[decide_eq_true,bE]
theorem bZu {seed j l:Int}{i k:Nat}(hi:i<6)(hk:k<6)(a:j=0\/j=1)(hl:l=0\/l=1)(h:i≠k\/j≠l):aDr seed j i≠aDr seed l k:=
 bP0 (by omega) (by omega) a hl (by omega)
def bUh (seed j:Int)(k:Nat):iF (aDr seed j k)=dV (aX seed (k:Int)) (aC j) (k:Int):=by simp[bAr,dV,Xd,aDr,gL]
theorem bP1 {seed j m:Int}{l:List AV}(e:j=0\/j=1)(h:bE2 seed j l)(hl:l.length<=6)(hm:1<=m/\m<=3):aS ⟨1,m,l⟩=true:=by
 have f:dR (xN ⟨1,m,l⟩) 0 l=false:=bKu λk hk=>by
  obtain⟨h1,h2,b,c⟩:=h k hk;have hp:=bR8 (Xd (aX seed (k:Int)).Seed [179,cO (aC j),(k:Int)]);unfold xN;rw[cl,h1,aIl (by omega) (by omega),h2,bUh,cp.2 (show dV (aX seed (k:Int)) (aC j) (k:Int)≠0 by unfold dV;omega),aIl b c];have n:(decide (0<k)&&decide ((l.getD (k-1) default).Handle>=(k:Int)))=false:=by
   by_cases d:0<k
   ·have a:k-1<l.length:=by omega
    have:=(h (k-1) a).1;rw[List.getD,aa a,cV,this,av (show ¬((k-1:Nat):Int)>=(k:Int) by omega),dm]
   simp[*]
  have o:((l.take k).any λq=>q.Public==aDr seed j k)=false:=by
   rw[List.any_eq_false];intro q hq;obtain⟨i,hi,rfl⟩:=du.1 hq;rw[cb] at hi;rw[fb,(h i (by omega)).2.1]
   grind[bZu]
  simp_all
 grind[aIl,decide_eq_true,bE,decide,dR,xN,aS]
structure SiteIn (seed j:Int) (n:Nat) (s:AB):Prop where
 name:s.Name=aC j
 book:dB s.Book=true
 key:dH s.Book.Seed=true
 acc:∃l,s.Accounts=[⟨1,3,l⟩]/\bE2 seed j l/\l.length=n
def bUi {j:Int}(a:j=0\/j=1):(fB (aC j)&&decide (2<=(bC (aC j)).length))=true:=by rcases a with rfl|rfl<;>kernel_rfl
def SiteIn.ok {seed j:Int}{n:Nat}{s:AB}(a:j=0\/j=1)(hn:n<=6)(h:SiteIn seed j n s):dN s=true:=by
 obtain⟨h1,h2,b,l,c,d,e⟩:=h;unfold dN nD;rw[h1,bUi a,b,h2,c];show(true&&true&&decide (1<=8)&&true&& !(Xa [⟨1,3,l⟩] 0 ⟨1,3,l⟩||false))=true
 grind[bP1,Xa]
def SiteIn.find {seed j:Int}{n:Nat}{s:AB}(h:SiteIn seed j n s):aF s 1=0:=by obtain⟨_,_,_,l,a,_⟩:=h;unfold aF;rw[a];rfl
theorem bIu {α:Type}{p:α->Bool}:∀{l:List α},(∀c∈l,p c=true)->l.takeWhile p=l
 |[],_=>rfl
 |x::l,h=>by rw[cR,h x (by simp),cu rfl,bIu (λc hc=>h c (by simp[hc]))]
def bXm {l:List AV}{p:Int}(h:∀k (h:k<l.length),l[k].Handle=(k:Int)):aQm l (l.length:Int) p=l++[⟨(l.length:Int),p,0,false⟩]:=by
 have:aId (l.length:Int) l=l.length:=by
  grind[decide_eq_true,List.mem_iff_getElem,bIu,aId]
 unfold aQm;rw[this,cq,dk,ey]
def bE2.snoc {seed j:Int}{l:List AV}(h:bE2 seed j l):bE2 seed j (l++[⟨(l.length:Int),aDr seed j l.length,0,false⟩]):=by
 intro k hk;by_cases a:k<l.length
 ·rw[List.getElem_append_left a];exact h k a
 grind
def SiteIn.reg {seed j:Int}{n:Nat}{s:AB}(b:j=0\/j=1)(hn:n<6)(h:SiteIn seed j n s):
  (gG s 1 (n:Int) (aDr seed j n)).2=true/\SiteIn seed j (n+1) (gG s 1 (n:Int) (aDr seed j n)).1:=by
 have c:=h.ok b (by omega);have d:=h.find;obtain⟨h1,h2,f,l,i,e,o⟩:=h;subst o;have q:(s.Accounts.getD (aF s 1).toNat default)=⟨1,3,l⟩:=by simp[*]
 have hi:=bXm (p:=aDr seed j l.length) (λk hk=>(e k hk).1);have hs:=e.snoc;have r:=bP1 (m:=3) b e (by omega) (by grind);have t:=bP1 (m:=3) b hs (by simp;omega) (by grind);have a:fV ⟨1,3,l⟩ (l.length:Int) (aDr seed j l.length)=(⟨1,3,l++[⟨(l.length:Int),aDr seed j l.length,0,false⟩]⟩,true):=by
  grind[aS,aQm,aDr,fV]
 unfold gG;rw[c,d,show decide ((0:Int)<0)=false from rfl,<-d,q,a,d,i];exact⟨rfl,h1,h2,f,_,rfl,hs,by simp⟩
theorem bNu {α:Type}{r:α->α->Prop}(ht:∀a b c,r a b->r b c->r a c):∀{l:List α},(∀k (h:k+1<l.length),r l[k] l[k+1])->l.Pairwise r
 |[],_=> .nil
 |[x],_=>List.pairwise_singleton r x
 |x::y::l,h=>by
  have e:=bNu (r:=r) ht (l:=y::l) (λk hk=>by have:=h (k+1) (by simpa using hk);simpa using this);refine cY.2 ⟨λz d=> ?_,e⟩;have h0:r x y:=by simpa using h 0 (by simp)
  rcases bl.1 d with rfl|d
  ·exact h0
  ·exact ht _ _ _ h0 ((cY.1 e).1 z d)
structure BookIn (b:AM):Prop where
 next:0<=b.Next/\b.Next<=1000000
 len:b.Open.length<=16
 ord:b.Open.Pairwise (λa c=>a.Id<c.Id)
 all:∀c∈b.Open,(0<=c.Id/\c.Id<b.Next)/\(0<=c.aAF/\c.aAF<=1000005)/\(0<=c.Until/\c.Until<=1000005)
def BookIn.ok {b:AM}(h:BookIn b):dB b=true:=by
 obtain⟨h1,h2,a,c⟩:=h;have d:dR (gQ b) 0 b.Open=false:=(by grind[bKu,List.getElem_mem,gQ,aI,aIl,decide,default,List.pairwise_iff_getElem,List.getD,List.getElem?_eq_getElem,decide_eq_false])
 grind[aIl,decide_eq_true,dB]
def bZv {b:AM}(h:dB b=true):BookIn b:=by
 unfold dB at h;simp only[ab,cg,cn] at h;obtain⟨⟨h1,h2⟩,f⟩:=h;have h1:=sG h1;have hg:∀k (hk:k<b.Open.length),((0<=b.Open[k].Id/\b.Open[k].Id<b.Next)/\(0<=b.Open[k].aAF/\b.Open[k].aAF<=1000005)/\(0<=b.Open[k].Until/\b.Open[k].Until<=1000005))/\(0<k->(b.Open.getD (k-1) default).Id<b.Open[k].Id):=λk hk=>by
  have:=bXl f k hk;unfold gQ at this;rw[cl,aI (by omega) (by omega)] at this;simp only[bu,dr,Bool.and_eq_false_iff,di] at this;obtain⟨a,i,d,e⟩:=this;have a:=sG a;have d:=sG d;have e:=sG e;omega
 refine⟨⟨h1.1,h1.2⟩,h2,(by grind[bNu,Int.lt_trans]),λc hc=> ?_⟩
 all_goals grind[List.mem_iff_getElem,Nat.add_sub_cancel,List.getD,List.getElem?_eq_getElem]
def bE2.set {seed j:Int}{l:List AV}(h:bE2 seed j l){k:Nat}(hk:k<l.length){c:AV}(h1:c.Handle=l[k].Handle)(h2:c.Public=l[k].Public)(a:0<=c.Counter/\c.Counter<=1000000):bE2 seed j (l.set k c):=by
 intro i hi;rw[List.getElem_set];rw[ay] at hi;split
 ·rename_i e;subst e;have:=h k hk;omega
 ·exact h i hi
def bNv {α:Type}{p:α->Bool}:∀{l:List α} {i:Nat},decide (jP p i l<0)=false->∃k,∃h:k<l.length,jP p i l=((i+k:Nat):Int)/\p l[k]=true
 |[],i,h=>by simp[jP] at h
 |x::l,i,h=>by
  unfold jP at h ⊢;cases hp:p x with
  |true=>exact⟨0,by simp,by simp,by simpa using hp⟩
  |false=>rw[hp,ac] at h;obtain⟨k,hk,a,b⟩:=bNv h;exact⟨k+1,by simpa using hk,by rw[ac,a];congr 1;omega,by simpa using b⟩
def SiteIn.aCF {seed j:Int}{n:Nat}{s:AB}(h:SiteIn seed j n s){l:List AV}(hl:bE2 seed j l)(hn:l.length=n)(g:List Int)(b:AM)(hb:BookIn b)(hs:b.Seed=s.Book.Seed):SiteIn seed j n {s with Book:=b,Accounts:=[⟨1,3,l⟩],Logins:=g}:=
 ⟨h.name,hb.ok,by show dH b.Seed=true;rw[hs];exact h.key,l,rfl,hl,hn⟩
structure StIn (seed:Int) (k:Nat) (s:AN):Prop where
 ven:s.Vendor=1
 ser:s.Serial=(k:Int)
 key:s.Seed=(aX seed (k:Int)).Seed
 cnt:0<=s.Counter/\s.Counter<=1000000
structure WIn (m:Nat) (w:AA):Prop where
 seed:dH w.Seed=true
 now:0<=w.Now/\w.Now<=999900
 dlen:1<=w.Devices.length/\w.Devices.length<=6
 slen:w.Stolen.length=w.Devices.length
 dev:∀k (h:k<w.Devices.length),StIn w.Seed k w.Devices[k].Store
 two:w.Sites.length=2
 mle:m<=6
 site:∀j (h:j<w.Sites.length),SiteIn w.Seed (j:Int) m w.Sites[j]
 mail:eH w.Mail=true
 log:bO w.aAH.Log=true
def WIn.ok {m:Nat}{w:AA}(h:WIn m w):aH w=true:=by
 have hs:dR mK 0 w.Sites=false:=bKu λk hk=>by
  have h2:=h.two;have:=h.site k hk;unfold mK;rw[this.ok (by omega) h.mle,this.name,cl];simp
 unfold aH;have h2:=h.two;have a:=h.slen;have b:=h.dlen;rw[hs,h.log,h.mail,h.seed,aIl h.now.1 h.now.2,aIl (by omega) (by omega),a,h2];simp
def WIn.upd {m:Nat}{w v:AA}(h:WIn m w)(h1:v.Seed=w.Seed)(h2:v.Now=w.Now)(a:v.Devices.length=w.Devices.length)(b:v.Stolen.length=w.Stolen.length)
  (f:∀k (h:k<v.Devices.length),StIn w.Seed k v.Devices[k].Store) (c:v.Sites.length=2) (i:∀j (h:j<v.Sites.length),SiteIn w.Seed (j:Int) m v.Sites[j]) (d:eH v.Mail=true) (e:bO v.aAH.Log=true):WIn m v where
 seed:=by rw[h1];exact h.seed
 now:=by rw[h2];exact h.now
 dlen:=by rw[a];exact h.dlen
 slen:=by rw[a,b];exact h.slen
 dev:=by simp[*]
 two:=c
 mle:=h.mle
 site:=by simp[*]
 mail:=d
 log:=e
def WIn.aBR {m:Nat}{w:AA}(h:WIn m w){i:Nat}{x:AF}(hi:i<w.Devices.length)(a:StIn w.Seed i x.Store):∀k (h:k<(w.Devices.set i x).length),StIn w.Seed k (w.Devices.set i x)[k].Store:=λk hk=>by
 rw[List.getElem_set];rw[ay] at hk;split
 ·simp_all
 ·exact h.dev k hk
def aQ2 {w:AA}{d:Int}(h:aJ w d=true):0<=d/\d.toNat<w.Devices.length/\aQ w d=w.Devices.getD d.toNat default:=by simp only[aJ,ab,cg] at h;exact⟨h.1,by omega,rfl⟩
def bZw {w:AA}{d:Int}(h:aJ w d=true):∃h:d.toNat<w.Devices.length,aQ w d=w.Devices[d.toNat]:=by simp_all[List.getD,aa,aQ2]
def WIn.aCA {m:Nat}{w:AA}(h:WIn m w){d:Int}(hd:aJ w d=true):StIn w.Seed d.toNat (aQ w d).Store:=by obtain⟨h1,h2⟩:=bZw hd;rw[h2];exact h.dev _ h1
def bUj {m:AU}(h:eH m=true)(k a t:Int):eH (rA m k a t).1=true:=by
 grind[eH,Rj,Bool.or_eq_false_iff,Bool.not_eq_false',rA]
def WIn.tell {m:Nat}{w:AA}(h:WIn m w)(k:Int):WIn m (M9 w k):=
 h.upd rfl rfl rfl rfl h.dev h.two h.site (bUj h.mail _ _ _) h.log
def WIn.sync {m:Nat}{w:AA}(h:WIn m w)(d b:Int):WIn m (aG w d b).1:=by
 unfold aG;cases hb:aH w&&aJ w d with
 |false=>exact h
 |true=>rw[ab] at hb;obtain⟨e,a,_⟩:=aQ2 hb.2;refine h.upd rfl rfl (ay ..) rfl (h.aBR a ?_) h.two h.site h.mail h.log;have c:=h.aCA hb.2;unfold gK;cases Em (aQ w d) w.aAH.Log w.aAH.Boxes (kI w.aAH b).1==0<;>exact c
def bNw (d:AF):(dD d).1.Store=d.Store:=by unfold dD;cases(Fw d.Key d.Epoch (IntKind.i64.wrap (d.Version+1)) d.aAE).2<;>rfl
def WIn.up {m:Nat}{w:AA}(h:WIn m w){d:Int}(hd:aJ w d=true):WIn m (upF w d).1:=by
 unfold upF;cases(dD (aQ w d)).2.2&&(eU w.aAH (dD (aQ w d)).2.1).2 with
 |false=>exact h
 |true=>obtain⟨b,a,_⟩:=aQ2 hd;refine h.upd rfl rfl (ay ..) rfl (h.aBR a (by rw[bNw];exact h.aCA hd)) h.two h.site h.mail ?_;show bO (eU w.aAH (dD (aQ w d)).2.1).1.Log=true;rw[(aIc _ _).2];exact h.log
def WIn.push {m:Nat}{w:AA}(h:WIn m w)(d:Int):WIn m (fJ w d).1:=by
 unfold fJ;cases hb:(aG w d 0).2==0&&(upF (aG w d 0).1 d).2 with
 |false=>exact h
 |true=>
  rw[ab] at hb;have h0:=lW hb.1;exact(h.sync d 0).up (by
   grind[aJ])
theorem Ud (w:AA)(d b:Int):(aG w d b).1.Seed=w.Seed/\(aG w d b).1.Now=w.Now/\(aG w d b).1.Devices.length=w.Devices.length/\(aG w d b).1.Sites=w.Sites/\(aG w d b).1.Stolen=w.Stolen/\(aG w d b).1.aAH=w.aAH:=by
 grind[aH,aJ,List.length_set,aG]
theorem bR9 (w:AA)(d:Int):(upF w d).1.Seed=w.Seed/\(upF w d).1.Now=w.Now/\(upF w d).1.Devices.length=w.Devices.length/\(upF w d).1.Sites=w.Sites/\(upF w d).1.Stolen=w.Stolen/\(upF w d).1.aAH.Log=w.aAH.Log:=by
 grind[dD,aQ,eU,List.length_set,aIc,upF]
def bUk (w:AA)(d:Int):(fJ w d).1.Seed=w.Seed/\(fJ w d).1.Now=w.Now/\(fJ w d).1.Devices.length=w.Devices.length/\(fJ w d).1.Sites=w.Sites/\(fJ w d).1.Stolen=w.Stolen/\(fJ w d).1.aAH.Log=w.aAH.Log:=by
 grind[aG,upF,Ud,bR9,fJ]
def aIm (w:AA)(b k p:Int)(key:List AG->Int):(jG w b k p key).1.Seed=w.Seed/\(jG w b k p key).1.Now=w.Now/\(jG w b k p key).1.Devices=w.Devices/\(jG w b k p key).1.Sites=w.Sites/\(jG w b k p key).1.Stolen=w.Stolen/\(jG w b k p key).1.Mail=w.Mail/\(bO w.aAH.Log=true->bO (jG w b k p key).1.aAH.Log=true):=by
 unfold jG
 grind[mZ,bO,eX,sO,iI,gY,aQ]
def WIn.aCR {m:Nat}{w:AA}(h:WIn m w)(b k p:Int)(key:List AG->Int):WIn m (jG w b k p key).1:=by obtain⟨d,e,a,c,f,i,j⟩:=aIm w b k p key;exact h.upd d e (by rw[a]) (by rw[f]) (by rw[a];exact h.dev) (by rw[c];exact h.two) (by rw[c];exact h.site) (by rw[i];exact h.mail) (j h.log)
def bIv {seed:Int}{m:Nat}(hm:m<6):∀(l:List AB) (j:Nat),j+l.length<=2->(∀i (h:i<l.length),SiteIn seed ((j+i:Nat):Int) m l[i])->
  (fO (aX seed (m:Int)) (m:Int) j l).2=true/\(fO (aX seed (m:Int)) (m:Int) j l).1.length=l.length/\∀i (h:i<(fO (aX seed (m:Int)) (m:Int) j l).1.length),SiteIn seed ((j+i:Nat):Int) (m+1) (fO (aX seed (m:Int)) (m:Int) j l).1[i]
 |[],j,_,_=>⟨rfl,rfl,λi h=>by simp[fO] at h⟩
 |s::l,j,a,h=>by
  have h0:SiteIn seed (j:Int) m s:=h 0 (by simp);simp only[aw] at a;obtain⟨b,c⟩:=h0.reg (by omega) hm;obtain⟨d,f,k⟩:=bIv hm l (j+1) (by omega) (λi hi=>by
   have:=h (i+1) (by simpa using hi);rw[show j+1+i=j+(i+1) by omega];simpa using this)
  have e:gL (aX seed (m:Int)) (aC (j:Int)) (m:Int)=aDr seed (j:Int) m:=by unfold aDr;rfl
  have n:fO (aX seed (m:Int)) (m:Int) j (s::l)=((gG s 1 (m:Int) (aDr seed (j:Int) m)).1::(fO (aX seed (m:Int)) (m:Int) (j+1) l).1,true):=by rw[fO,e,b,d];rfl
  rw[n];refine⟨rfl,by simp[f],λi hi=> ?_⟩;cases i with
  |zero=>simpa using c
  |succ i=>simp only[aw] at hi;have:=k i (by omega);rw[show j+1+i=j+(i+1) by omega] at this;simpa using this
def aL9 (d:AF)(n:ByteArray)(h:Int)(r:Bool):(cB d n h r).1.Store=d.Store:=by unfold cB;cases(Xb d n h r).2<;>rfl
def bAs (d:AF)(h:Int)(r:Bool):(mM d h r).Store=d.Store:=by unfold mM;rw[aL9,aL9]
theorem aQ3 {w v:AA}{d:Int}(h:aJ w d=true)(e:v.Devices.length=w.Devices.length):aJ v d=true:=by
 grind[aJ]
def WIn.app {m:Nat}{w:AA}(h:WIn m w)(hl:w.Devices.length<6):WIn m (appW w (gT (aX w.Seed (w.Devices.length:Int)))) where
 seed:=h.seed
 now:=h.now
 dlen:=by grind[List.length_append,List.length_cons,List.length_nil,appW]
 slen:=by unfold appW;simp only[az,aw,bj,h.slen]
 dev:=λk hk=>by
  have a:k<(w.Devices++[gT (aX w.Seed (w.Devices.length:Int))]).length:=hk;show StIn w.Seed k ((w.Devices++[gT (aX w.Seed (w.Devices.length:Int))])[k]'a).Store;rw[List.getElem_append];split
  ·rename_i b;exact h.dev k b
  ·simp only[az,aw,bj] at a;have e:k=w.Devices.length:=by omega
   subst e;simp only[fL,fN];exact⟨rfl,rfl,rfl,Int.le_refl 0,show(0:Int)<=1000000 by decide⟩
 two:=h.two
 mle:=h.mle
 site:=h.site
 mail:=h.mail
 log:=h.log
def WIn.aCN {w:AA}(h:WIn w.Devices.length w){b:Int}(hn:w.Devices.length<6)(k2:aJ w b=true):WIn (w.Devices.length+1) (jY w b)/\(jY w b).Seed=w.Seed/\(jY w b).Devices.length=w.Devices.length:=by
 obtain⟨s1,s2,s3,s4,s5,s6⟩:=Ud w b 0;have h0:=h.sync b 0;have h1:WIn w.Devices.length (add1 w b).1:=h0.aCR _ _ _ _;obtain⟨d,m,e,n,o,p,q⟩:=aIm (aG w b 0).1 b 1 (bI (aX w.Seed (w.Devices.length:Int))) (λ_=>(aQ (aG w b 0).1 b).Key);have a:(add1 w b).1.Seed=w.Seed:=d.trans s1;have c:(add1 w b).1.Devices.length=w.Devices.length:=by show(jG _ _ _ _ _).1.Devices.length=_;rw[e,s3]
 obtain⟨r,f,k⟩:=bIv (seed:=w.Seed) hn (add1 w b).1.Sites 0 (by rw[h1.two];omega) (λi hi=>by
  have:=h1.site i hi;simp_all)
 have hd:aJ (add1 w b).1 b=true:=aQ3 k2 c;obtain⟨d0,d1,_⟩:=aQ2 hd;refine⟨{
  seed:=by show dH (add1 w b).1.Seed=true;exact h1.seed
  now:=h1.now
  dlen:=by show 1<=((add1 w b).1.Devices.set _ _).length/\((add1 w b).1.Devices.set _ _).length<=6;rw[ay];exact h1.dlen
  slen:=by show(add1 w b).1.Stolen.length=((add1 w b).1.Devices.set _ _).length;rw[ay];exact h1.slen
  dev:=h1.aBR d1 (by rw[bAs];exact h1.aCA hd)
  two:=by show(aQn w b).1.length=2;exact f.trans h1.two
  mle:=by omega
  site:=λj l=>by
   have:=k j l;rw[cl] at this;show SiteIn (add1 w b).1.Seed (j:Int) _ _;rw[a];exact this
  mail:=h1.mail
  log:=h1.log},a,?_⟩
 show((add1 w b).1.Devices.set _ _).length=_;rw[ay,c]
theorem WIn.add {w:AA}(h:WIn w.Devices.length w)(b:Int):WIn (iJ w b).1.Devices.length (iJ w b).1/\(iJ w b).1.Seed=w.Seed:=by
 unfold iJ;cases a:aUp w b with
 |false=>simp[*]
 |true=>
  unfold aUp at a;simp only[ab,cn,di] at a;obtain⟨⟨k1,k2,k3,k4⟩,k5,k6,k7,k8,k9⟩:=a;have hn:w.Devices.length<6:=by omega
  obtain⟨h2,f,i⟩:=h.aCN hn k2;have j:WIn (w.Devices.length+1) (oK w b).1:=h2.push b;obtain⟨c,n,d,o,p,q⟩:=bUk (jY w b) b;have c:(oK w b).1.Seed=w.Seed:=c.trans f;have d:(oK w b).1.Devices.length=w.Devices.length:=d.trans i;have e:=j.app (by omega);rw[c,d] at e;have k:WIn (w.Devices.length+1) (Qn w b).1:=e.sync _ _;obtain⟨q1,q2,q3,q4,q5,q6⟩:=Ud (appW (oK w b).1 (gT (aX w.Seed (w.Devices.length:Int)))) (w.Devices.length:Int) 0;have l:(M9 (Qn w b).1 2).Devices.length=w.Devices.length+1:=by
   show(Qn w b).1.Devices.length=_;refine q3.trans ?_
   grind[List.length_append,List.length_cons,List.length_nil,appW]
  have m:=k.tell 2;simp only[ae];rw[l];exact⟨m,q1.trans c⟩
def cFl (seed:Int)(k:Nat):Int:=bI (aX seed (k:Int))
structure NewLog (seed:Int) (n:Nat) (l:List AG):Prop where
 len:l.length=n
 devs:aK l=(List.range n).map (cFl seed)
 rem:∀p,qA l p=false
 ep:bA l=0
 ok:n=0\/bO l=true
def bNx (d:AF)(l:List AG)(k:Int):(wU d l k).1.Store=d.Store:=by unfold wU;cases !bO l||(!eX l d.Log||(decide (bA l<d.Epoch)|| !dH k))<;>rfl
theorem SiteIn.cut {seed j:Int}{n:Nat}{s:AB}(h:SiteIn seed j n s)(t:Int):SiteIn seed j n (jZ t s):=by
 have a:=h.find;obtain⟨l,e,hl,hn⟩:=h.acc;have b:iK s 0=⟨1,3,l⟩:=by grind[iK]
 unfold jZ;rw[a,show decide ((0:Int)>=0)=true from rfl,ae,b,show(0:Int).toNat=0 from rfl,e];have key:∃l',(nT ⟨1,3,l⟩ t).1=⟨1,3,l'⟩/\bE2 seed j l'/\l'.length=l.length:=by
  unfold nT;cases hb: !aS ⟨1,3,l⟩||(decide (aU ⟨1,3,l⟩ t<0)||(iX ⟨1,3,l⟩ (aU ⟨1,3,l⟩ t)).Cut) with
  |true=>simp[*]
  |false=>
   simp only[bu] at hb;obtain⟨k,hk,c,i⟩:=bNv (l:=l) hb.2.1;have d:aU ⟨1,3,l⟩ t=(k:Int):=c.trans (by simp);have f:iX ⟨1,3,l⟩ (k:Int)=l[k]:=by grind[List.getD,List.getElem?_eq_getElem,iX]
   rw[d,f,ac,ci];exact⟨_,rfl,hl.set hk rfl rfl (hl k hk).2.2,ay⟩
 obtain⟨l',q1,q2,q3⟩:=key;rw[q1];have:=h.aCF q2 (q3.trans hn) s.Logins s.Book (bZv h.book) rfl;exact this
def cB9 {α β:Type}{P:Nat->β->Prop}{f:α->β}{l:List α}(h:∀j (a:j<l.length),P j (f l[j])):∀j (a:j<(l.map f).length),P j (l.map f)[j]:=(by simp[*])
theorem WIn.cut {m:Nat}{w:AA}(h:WIn m w)(b t:Int):WIn m (gZ w b t).1/\(gZ w b t).1.Seed=w.Seed/\(gZ w b t).1.Devices.length=w.Devices.length:=by
 unfold gZ;cases hq:(aG w b 0).2==0&&(!bU w b&&(!(b==t)&&jS w t)) with
 |false=>simp[*]
 |true=>
  simp only[ab] at hq;have h0:=(lW hq.1).1;simp only[ae];unfold xP;cases(nV w b t).2&&((aQp w b t).2&&(aVf w b t).2) with
  |false=>simp[*]
  |true=>
   obtain⟨s1,s2,s3,s4,s5,s6⟩:=Ud w b 0;have e:WIn m (nU w b):=h.sync b 0;have h1:WIn m (nV w b t).1:=e.aCR _ _ _ _;obtain⟨f,o,i,p,q,r,u⟩:=aIm (nU w b) b 2 (bI (aQ w t).Store) (kS (aQ (nU w b) b).Store);have d:(nV w b t).1.Devices=(nU w b).Devices:=i;have hd:aJ (nV w b t).1 b=true:=aQ3 h0.2 (by rw[d];exact s3);obtain⟨d0,d1,_⟩:=aQ2 hd;have a:StIn (nV w b t).1.Seed b.toNat (mM (aQp w b t).1 t true).Store:=by
    rw[bAs];unfold aQp;rw[bNx];have:=h1.aCA hd
    grind[aQ,nV,nU]
   have k:WIn m (aZ7 w b t):=by refine h1.upd rfl rfl (ay ..) rfl (h1.aBR d1 a) (by show((nV w b t).1.Sites.map (jZ t)).length=2;rw[bn];exact h1.two) (cB9 (P:=λj s=>SiteIn (nV w b t).1.Seed ((j:Nat):Int) m s) λj l=>(h1.site j l).cut t) h1.mail h1.log
   have c:aJ (aZ7 w b t) b=true:=aQ3 hd (ay ..);have n:WIn m (aVf w b t).1:=k.up c;obtain⟨u1,u2,u3,u4,u5,u6⟩:=bR9 (aZ7 w b t) b;refine⟨n.tell 4,?_,?_⟩
   ·show(aVf w b t).1.Seed=w.Seed;exact u1.trans (f.trans s1)
   ·show(aVf w b t).1.Devices.length=w.Devices.length;refine u3.trans ?_;show((nV w b t).1.Devices.set _ _).length=_;rw[ay,d];exact s3
def X7 {α:Type}[Inhabited α]{f:α->Nat}{K:Nat}{x:α}:∀{l:List α} {i:Nat},i<l.length->f x<=f (l.getD i default)+K->((l.set i x).map f).sum<=(l.map f).sum+K
 |y::l,0,_,h=>by
  simp only[List.getD,e8,cV] at h;simp only[gq,bw,dz];omega
 |y::l,i+1,hi,h=>by
  have:=X7 (f:=f) (l:=l) (i:=i) (x:=x) (K:=K) (by simpa using hi) (by simpa[List.getD] using h);simp only[fo,bw,dz];omega
def Ue {w:AA}{d:Int}(hd:aJ w d=true){x:AF}{K:Nat}(a:x.sz<=(aQ w d).sz+K):({w with Devices:=w.Devices.set d.toNat x}:AA).sz<=w.sz+K:=by
 obtain⟨h0,h1,h2⟩:=aQ2 hd;have:=X7 (f:=AF.sz) (K:=K) h1 (by assumption)
 grind[AA.sz,List.length_set]
def bP2 {w:AA}{j:Nat}(a:j<w.Sites.length){x:AB}{K:Nat}(b:x.sz<=(w.Sites.getD j default).sz+K):({w with Sites:=w.Sites.set j x}:AA).sz<=w.sz+K:=by
 have:=X7 (f:=AB.sz) (K:=K) a b
 grind[AA.sz,List.length_set]
def bXn (w:AA)(d:Int)(n:ByteArray)(a:Int)(r:Bool):(Ri w d n a r).1.sz<=w.sz+1:=by
 unfold Ri;cases hb:aH w&&aJ w d with
 |false=>simp
 |true=>
  rw[ab] at hb;simp only[ae];cases(cB (aQ w d) n a r).2 with
  |false=>simp
  |true=>simp_all[Ue,aC9]
structure Kept (w v:AA):Prop where
 wi:WIn v.Devices.length v
 seed:v.Seed=w.Seed
 sz:v.sz<=w.sz+3000
def Kept.of {w v:AA}(h:WIn w.Devices.length v/\v.Seed=w.Seed/\v.Devices.length=w.Devices.length)(a:v.sz<=w.sz+3000):Kept w v:=⟨by rw[h.2.2];exact h.1,h.2.1,a⟩
def bUl (s:AB)(i n:Int):(pQ s i n).1.sz<=s.sz+1:=by
 unfold pQ;cases dN s&&(!decide (aF s i<0)&&(lX s.Book i n).2.2) with
 |false=>exact dy _
 |true=>
  have hb:(lX s.Book i n).1.Open.length<=s.Book.Open.length+1:=by
   unfold lX;cases dB s.Book&&(!(s.Book.Next==1000000)&&(bE i 0 1000000&&bE n 0 1000000)) with
   |false=>simp only[ac];omega
   |true=>
    simp only[ae];cases decide ((s.Book.Open.length:Int)>=16) with
    |true=>simp only[ae,az,cr,aw,bj];omega
    |false=>simp only[ac,az,aw,bj];omega
  simp only[ae,AB.sz];omega
def bXo (w:AA)(i b:Int):(fU w i b).1.sz<=w.sz:=by
 unfold fU;cases hc: !aH w||(decide (i<0)||decide (i>=(w.Hosts.length:Int))) with
 |true=>exact ao _
 |false=>
  have hi:=Fv (bu.1 hc).2;simp only[ac];cases(eT (w.Hosts.getD i.toNat default) b).2 with
  |false=>exact ao _
  |true=>have:=X7 (f:=AC.sz) (K:=0) (l:=w.Hosts) (i:=i.toNat) (x:=(eT (w.Hosts.getD i.toNat default) b).1) (by omega) (by rw[bM5];exact ao _);simp only[ae,AA.sz,ay];omega
def bZx (w:AA):(Rm w).1.sz<=w.sz:=by
 unfold Rm;cases aH (uV w) with
 |false=>exact ao _
 |true=>
  have he:∀b n,(kD b n).Open.length<=b.Open.length:=λb n=>by
   unfold kD;cases dB b with
   |false=>exact ao _
   |true=>exact eC _ _
  have hs:∀(l:List AB) n,((l.map λs=>({s with Book:=kD s.Book n}:AB)).map AB.sz).sum<=(l.map AB.sz).sum:=λl n=>by
   induction l with
   |nil=>exact ao _
   |cons s l a=>have:=he s.Book n;simp only[bw,dz,AB.sz] at a ⊢;omega
  have:=hs w.Sites (uV w).Now;simp only[ae,AA.sz,uV,bn] at this ⊢;omega
def bNy (w:AA)(d j:Int)(o:AQ):(wW w d j o).1.Hosts=w.Hosts:=by
 unfold wW;cases !dA w d j with
 |true=>rfl
 |false=>
  cases !(wV w j).2.2.2 with
  |true=>rfl
  |false=>cases !((bEv w d j o).2.1==0)<;>rfl
def Ie (w:AA)(d b:Int):(aG w d b).1.Hosts=w.Hosts:=by unfold aG;cases aH w&&aJ w d<;>rfl
def bNz (w:AA)(d:Int):(upF w d).1.Hosts=w.Hosts:=by unfold upF;cases(dD (aQ w d)).2.2&&(eU w.aAH (dD (aQ w d)).2.1).2<;>rfl
def bAt (w:AA)(d:Int):(fJ w d).1.Hosts=w.Hosts:=by
 unfold fJ;cases(aG w d 0).2==0&&(upF (aG w d 0).1 d).2 with
 |false=>rfl
 |true=>exact(bNz _ _).trans (Ie _ _ _)
def bP3 (w:AA)(d:Int)(n:ByteArray)(a:Int)(r:Bool):(Ri w d n a r).1.Hosts=w.Hosts:=by
 unfold Ri;cases aH w&&aJ w d with
 |false=>rfl
 |true=>cases(cB (aQ w d) n a r).2<;>rfl
def aUu (w:AA)(b k p:Int)(key:List AG->Int):(jG w b k p key).1.Hosts=w.Hosts:=by unfold jG;simp only[];generalize gY w.aAH.Log k p (aQ w b).Store=l;generalize iI l.1 (key l.1) (IntKind.i64.wrap (1000+IntKind.i64.wrap (10*(l.1.length:Int))))=e;cases l.2&&(e.2&&(mZ w.aAH l.1 e.1).2)<;>rfl
def bUm (w:AA)(b:Int):(iJ w b).1.Hosts=w.Hosts:=by
 unfold iJ;cases aUp w b with
 |false=>rfl
 |true=>
  show(Qn w b).1.Hosts=w.Hosts;have a:(oK w b).1.Hosts=w.Hosts:=by unfold oK;rw[bAt];exact(aUu _ _ _ _ _).trans (Ie _ _ _)
  unfold Qn
  first
   |exact a
   |exact(Ie _ _ _).trans a
def bN0 (w:AA)(d:Int):(wX w d).1.Hosts=w.Hosts:=by unfold wX;cases dA w d 0&& !bU w d<;>rfl
def bP4 (w:AA):(Rm w).1.Hosts=w.Hosts:=by unfold Rm;cases aH (uV w)<;>rfl
def bUn (w:AA)(b t:Int):(gZ w b t).1.Hosts=w.Hosts:=by
 unfold gZ;generalize((aG w b 0).2==0&&(!bU w b&&(!(b==t)&&jS w t)))=q;cases q with
 |false=>rfl
 |true=>
  show(xP w b t).1.Hosts=w.Hosts;have h1:(nV w b t).1.Hosts=w.Hosts:=(aUu _ _ _ _ _).trans (Ie _ _ _);have a:(aVf w b t).1.Hosts=w.Hosts:=(bNz _ _).trans h1;unfold xP;cases(nV w b t).2&&((aQp w b t).2&&(aVf w b t).2) with
  |false=>rfl
  |true=>exact a
def bN1 (w:AA)(pin:Int):(xQ w pin).1.Hosts.length=w.Hosts.length:=by
 show(iN w (Fx w) pin).1.Hosts.length=_;unfold iN;cases aH w with
 |false=>rfl
 |true=>exact(bR3 ..).1
def bN2 (w:AA):(fD w).1.Hosts.length<=w.Hosts.length:=by
 unfold fD;cases aH w&&(fC w.Hosts (bIe w)).2 with
 |false=>exact ao _
 |true=>exact(aGf ..).1
def bP5 (w:AA)(i b:Int):(fU w i b).1.Hosts.length=w.Hosts.length:=by
 unfold fU;cases !aH w||(decide (i<0)||decide (i>=(w.Hosts.length:Int))) with
 |true=>rfl
 |false=>cases(eT (w.Hosts.getD i.toNat default) b).2 with
  |false=>rfl
  |true=>exact ay ..
def bXp (w:AA)(d:Int):(wX w d).1.sz=w.sz:=by
 unfold wX;cases dA w d 0&& !bU w d with
 |false=>rfl
 |true=>simp only[ae,AA.sz,ay]
structure KeptH (w v:AA):Prop where
 kept:Kept w v
 hosts:v.Hosts.length<=w.Hosts.length
def KeptH.of {w v:AA}(h:Kept w v)(e:v.Hosts=w.Hosts):KeptH w v:=⟨h,by rw[e];exact ao _⟩
theorem aMa {w:AA}(h:aH w=true):w.aAH.Log.length<=40:=by unfold aH at h;simp only[ab] at h;obtain⟨⟨⟨⟨⟨⟨⟨q1,q2⟩,q3⟩,q4⟩,q5⟩,q6⟩,q7⟩,q8⟩:=h;unfold bO at q6;rw[ab] at q6;have:=sG q6.1;omega
def ok_two {w:AA}(h:aH w=true):w.Sites.length=2:=by
 grind[q4,q1,q2,q3,q5,q6,q7,q8,aH]
def bIw (w:AA)(d b:Int):(aG w d b).1.sz<=w.sz+60:=by
 unfold aG;cases hb:aH w&&aJ w d with
 |false=>simp
 |true=>rw[ab] at hb;have hl:=aMa hb.1;simp only[ae];have:=bPo (aQ w d) w.aAH.Log w.aAH.Boxes (kI w.aAH b).1;exact Ue hb.2 (by omega)
def bUo (w:AA)(d:Int):(fJ w d).1.sz<=w.sz+561:=by
 grind[fJ,aYc,aG,aMa,lW,upF]
def bXq (w:AA)(b:Int):(iJ w b).1.sz<=w.sz+2500:=by
 unfold iJ;cases a:aUp w b with
 |false=>simp only[ac];omega
 |true=>
  unfold aUp at a;simp only[ab,cn,di] at a;obtain⟨⟨k1,k2,k3,k4⟩,k5,k6,k7,k8,k9⟩:=a;have hl:=aMa k1;obtain⟨s1,s2,s3,s4,s5,s6⟩:=Ud w b 0;have a0:=bIw w b 0;obtain⟨c,e,i,k⟩:=aLs (aG w b 0).1 b 1 (bI (aX w.Seed (w.Devices.length:Int))) (λ_=>(aQ (aG w b 0).1 b).Key);rw[s6] at c e;have c:(add1 w b).1.sz<=(aG w b 0).1.sz+14*(w.aAH.Log.length+1):=c;have e:(add1 w b).1.aAH.Log.length<=w.aAH.Log.length+1:=e;have hd:aJ (add1 w b).1 b=true:=aQ3 k2 (by show(jG _ _ _ _ _).1.Devices.length=_;rw[i,s3]);obtain⟨p,r⟩:=aQo (st:=aX w.Seed (w.Devices.length:Int)) (n:=(w.Devices.length:Int)) (j:=0) (l:=(add1 w b).1.Sites);have s:(add1 w b).1.Sites.length=2:=by rw[show(add1 w b).1.Sites=(aG w b 0).1.Sites from k,s4];exact ok_two k1
  have m:(jY w b).sz<=(add1 w b).1.sz+4:=by have q:=Ue (w:=(add1 w b).1) hd (x:=mM (aQ (add1 w b).1 b) (w.Devices.length:Int) false) (K:=2) (aYd _ _ _);unfold jY aQn;simp only[AA.sz] at q ⊢;omega
  have h:=(aYc (w:=jY w b) (d:=b) k8).2;have h:(oK w b).1.sz<=(jY w b).sz+(jY w b).aAH.Log.length+521:=h;have pl:=(aYc (w:=jY w b) (d:=b) k8).1;have pl:(oK w b).1.aAH.Log=(jY w b).aAH.Log:=pl;have o:(jY w b).aAH.Log.length=(add1 w b).1.aAH.Log.length:=rfl;have ap:=aYe (oK w b).1 (gT (aX w.Seed (w.Devices.length:Int)));have nd:(gT (aX w.Seed (w.Devices.length:Int))).sz=0:=rfl;have f:=(lW (w:=appW (oK w b).1 (gT (aX w.Seed (w.Devices.length:Int)))) k9).2.2.2;have f:(Qn w b).1.sz<=(appW (oK w b).1 (gT (aX w.Seed (w.Devices.length:Int)))).sz+(oK w b).1.aAH.Log.length+20:=f;have tl:=aYf (Qn w b).1 2;simp only[ae];rw[pl,o] at f;omega
def bXr (w:AA)(b t:Int):(gZ w b t).1.sz<=w.sz+2500:=by
 unfold gZ;cases hq:(aG w b 0).2==0&&(!bU w b&&(!(b==t)&&jS w t)) with
 |false=>simp
 |true=>
  simp only[ab] at hq;obtain⟨q1,q2,q3,q4⟩:=lW hq.1;have hl:=aMa q1.1;simp only[ae];unfold xP;cases(nV w b t).2&&((aQp w b t).2&&(aVf w b t).2) with
  |false=>simp
  |true=>
   obtain⟨c,e,a,h⟩:=aLs (nU w b) b 2 (bI (aQ w t).Store) (kS (aQ (nU w b) b).Store);have e0:(nU w b).aAH.Log=w.aAH.Log:=by show(aG w b 0).1.aAH.Log=_;rw[q2]
   rw[e0] at c e;have c:(nV w b t).1.sz<=(nU w b).sz+14*(w.aAH.Log.length+1):=c;have a:(nV w b t).1.Devices=(nU w b).Devices:=a;have q4:(nU w b).sz<=w.sz+w.aAH.Log.length+20:=q4;have hd:aJ (nV w b t).1 b=true:=aQ3 q1.2 (by rw[a];exact q3);have i:(aVe w b t).length<=w.aAH.Log.length+1:=by
    grind[qN,nU,bI,aQ,aVe]
   have d:aQ (nV w b t).1 b=aQ (nU w b) b:=by unfold aQ;rw[a]
   have f:(mM (aQp w b t).1 t true).sz<=(aQ (nV w b t).1 b).sz+(w.aAH.Log.length+3):=by
    grind[aQp,aQ,nU,aVe,bNo,kS,aYd]
   have j:(aZ7 w b t).sz<=(nV w b t).1.sz+(w.aAH.Log.length+3):=by
    have q:=Ue (w:=(nV w b t).1) hd f
    grind[AA.sz,List.length_map,aZ7,bNp,nV]
   grind[aYf,aVf,aZ7,cAg,aJ,aQ3,List.length_set]
def bP6 (s:AB)(a c t:Int)(x:A0):(qH s a c t x).1.sz<=s.sz+1:=by
 have hb:(yD s.Book c a t).1.Open.length<=s.Book.Open.length:=by
  grind[dB,decide,bP,List.length_append,List.length_take,List.length_drop,yD]
 have b:∀a x z q,(nW a x z q).1.sz=a.sz:=(by grind[nW,aS,decide,aU,iX,AH.sz,kX]);have hs:∀y:AH,y.sz=(iK s (aF s a)).sz->((s.Accounts.set (aF s a).toNat y).map AH.sz).sum<=(s.Accounts.map AH.sz).sum:=λy d=>by
  by_cases hl:(aF s a).toNat<s.Accounts.length
  ·exact X7 (f:=AH.sz) (K:=0) hl (by grind[iK,aF])
  grind[List.set_eq_of_length_le]
 have hs:=hs (nW (iK s (aF s a)) x s.Name (iY s.Book c)).1 (b ..);unfold qH
 grind[dN,decide,aF,yD,AB.sz,sQ,iK,nW,iY,List.length_set,List.length_append,List.length_cons,List.length_nil]
def bP7 (w:AA)(d j:Int)(o:AQ):(wW w d j o).1.sz<=w.sz+3:=by
 unfold wW;cases ht:dA w d j with
 |false=>simp
 |true=>
  have a:=ht;simp only[dA,ab] at a;have hq:=a.2.2;simp only[iT,ab,cg] at hq;have b:j.toNat<w.Sites.length:=by omega
  have es:qO w j=w.Sites[j.toNat]:=by grind[List.getD,List.getElem?_eq_getElem,qO]
  have c:(wV w j).1.sz<=(qO w j).sz+1:=bUl _ _ _;have e:(bEv w d j o).1.sz<=(wV w j).1.sz+1:=bP6 _ _ _ _ _;have f:(bW5 w d j o).sz<=w.sz+2:=by
   have q1:=Ue (w:=w) a.2.1 (x:={aQ w d with Store:=(aQr w d j o).1}) (K:=0) (ao _);have q2:=bP2 (w:=w) b (x:=(bEv w d j o).1) (K:=2) (by grind)
   grind[AA.sz,q1,q2,bW5]
  grind[wV,bEv,aYf,bW5,Bool.not_true]
def cCa {Q:AA->Prop}{w:AA}(h0:Q w)(h1:Q (Rm w).1)(h2:∀d j o,Q (wW w d j o).1)(c:∀d,Q (wX w d).1)(m:∀d,Q (iJ w d).1)(p:∀d o,Q (gZ w d o).1)
  (q:∀d n a f,Q (Ri w d n a f).1) (r:∀d,Q (fJ w d).1) (h:∀d v,Q (aG w d v).1) (i:∀v,Q (xQ w v).1) (k:Q (fD w).1) (l:∀o v,Q (fU w o v).1) (e:AS):Q (evF w e).1:=by
 have tr:∀(b:Bool) (d j:Int) (o:AQ),Q (bif b then oO w d j o else(w,1)).1:=λb d j o=>by
  cases b with
  |true=>exact h2 d j o
  |false=>exact h0
 unfold evF bKo;cases !aH w with
 |true=>exact h0
 |false=>
 cases e.Kind==1 with
 |true=>exact h1
 |false=>
 cases e.Kind==2 with
 |true=>exact tr _ _ _ _
 |false=>
 cases e.Kind==3 with
 |true=>exact tr _ _ _ _
 |false=>
 cases e.Kind==4 with
 |true=>exact c _
 |false=>
 cases e.Kind==5 with
 |true=>exact tr _ _ _ _
 |false=>
 grind
def cCb (w:AA)(e:AS):(evF w e).1.sz<=w.sz+(2502+w.Hosts.length)/\(evF w e).1.Hosts.length<=w.Hosts.length:=by have eq:∀v:AA,v.sz<=w.sz+2500->v.Hosts=w.Hosts->v.sz<=w.sz+(2502+w.Hosts.length)/\v.Hosts.length<=w.Hosts.length:=λv h1 h2=>⟨by omega,by rw[h2];exact ao _⟩;refine cCa (Q:=λv=>v.sz<=w.sz+(2502+w.Hosts.length)/\v.Hosts.length<=w.Hosts.length) (eq _ (by omega) rfl) (eq _ (bo (bZx w) (by omega)) (bP4 w)) (λd j o=>eq _ (bo (bP7 w d j o) (by omega)) (bNy ..)) (λd=>eq _ (by rw[bXp];omega) (bN0 ..)) (λd=>eq _ (bXq w d) (bUm ..)) (λd o=>eq _ (bXr w d o) (bUn ..)) (λd n a f=>eq _ (bo (bXn w d n a f) (by omega)) (bP3 ..)) (λd=>eq _ (bo (bUo w d) (by omega)) (bAt ..)) (λd v=>eq _ (bo (bIw w d v) (by omega)) (Ie ..)) (λv=>⟨?_,Nat.le_of_eq (bN1 w v)⟩) ⟨bo (bEt w) (by omega),bN2 w⟩ (λo v=>⟨bo (bXo w o v) (by omega),Nat.le_of_eq (bP5 w o v)⟩) e;have h1:=bZl w (Fx w) v;have h2:=aIg w;show(iN w (Fx w) v).1.sz<=_;omega
def bSa (w:AA)(l:List AS):∀k,(runN w l k).sz<=w.sz+k*(2502+w.Hosts.length)/\(runN w l k).Hosts.length<=w.Hosts.length
 |0=>⟨by show w.sz<=_;omega,ao _⟩
 |k+1=>by
  obtain⟨h1,h2⟩:=bSa w l k;obtain⟨k1,k2⟩:=cCb (runN w l k) (l.getD k default);rw[Nat.succ_mul];exact⟨by show(evF (runN w l k) (l.getD k default)).1.sz<=_;omega,bo k2 h2⟩
def cCc {w:AA}(h:w.sz<=1048576)(l:List AS){k:Nat}(hk:k<=60):(runN w l k).sz<=65000000:=by
 have h1:=(bSa w l k).1;have h2:k*(2502+w.Hosts.length)<=60*(2502+w.Hosts.length):=dt _ hk;have a:w.Hosts.length<=w.sz:=by simp only[AA.sz];omega
 omega
def cCd {w:AA}(h:w.sz<=1048576)(l:List AS):Yi w l:=
 ⟨by omega,λk hk=>bo (cCc h l (by omega)) (by decide)⟩
end Go.VK
