import Derived.Test.YtpnhnhhcncnldaaGreatDoorXtFF
/- Printed by wip/tools: models, walks, proofs. -/
set_option linter.all false
set_option maxRecDepth 100000
namespace Go.VK
open D
def mW {h:Int}(v:Int)(h0:0<=h/\h<2147483647):∃q,hstep h v=h*1000003+v+13-2147483647*q/\(0<=hstep h v/\hstep h v<2147483647):=by
 obtain⟨h0,h1⟩:=h0;have hm:=uY (p:=v) (q:=2147483647) (by decide);have hv:dW v 2147483647=v%2147483647:=cQ (by decide);have e:hstep h v=(h*1000003+v+13)%2147483647:=by
  grind[aJ,dW,Int.tmod_eq_emod_of_nonneg,hstep]
 grind
def bN8 (k a b:Int):∃q,bP k [a,b]=k*1000009000027000028+a*1000006000009+b*1000003+11000145000724001630001411-2147483647*q:=by simp only[bP,xP,cR,gl,cY,cN,bu,dh,ir];obtain⟨q0,e0,f⟩:=mW k (h:=11) (by grind);generalize hstep 11 k=c at*;obtain⟨q1,l,i⟩:=mW a (h:=c) f;generalize hstep c a=d at*;obtain⟨q2,n,j⟩:=mW b (h:=d) i;generalize hstep d b=e at*;obtain⟨q3,o,p⟩:=mW k (h:=e) j;generalize hstep e k=s at*;exact⟨q0*1000009000027000027+q1*1000006000009+q2*1000003+q3*1,by omega⟩
def bN9 (k a b c:Int):∃q,bP k [a,b,c]=k*1000012000054000108000082+a*1000009000027000027+b*1000006000009+c*1000003+11000178001159003802006301004246-2147483647*q:=by simp only[bP,xP,cR,gl,cY,cN,bu,dh,ir];obtain⟨q0,e0,j⟩:=mW k (h:=11) (by grind);generalize hstep 11 k=d at*;obtain⟨q1,p,l⟩:=mW a (h:=d) j;generalize hstep d a=e at*;obtain⟨q2,s,n⟩:=mW b (h:=e) l;generalize hstep e b=f at*;obtain⟨q3,u,o⟩:=mW c (h:=f) n;generalize hstep f c=i at*;obtain⟨q4,x,y⟩:=mW k (h:=i) o;generalize hstep i k=z at*;exact⟨q0*1000012000054000108000081+q1*1000009000027000027+q2*1000006000009+q3*1000003+q4*1,by omega⟩
def bOa (k a b c d:Int):∃q,bP k [a,b,c,d]=k*1000015000090000270000405000244+a*1000012000054000108000081+b*1000009000027000027+c*1000006000009+d*1000003+11000211001693007279017707023149012751-2147483647*q:=by simp only[bP,xP,cR,gl,cY,cN,bu,dh,ir];obtain⟨q0,e0,n⟩:=mW k (h:=11) (by grind);generalize hstep 11 k=e at*;obtain⟨q1,x,o⟩:=mW a (h:=e) n;generalize hstep e a=f at*;obtain⟨q2,y,p⟩:=mW b (h:=f) o;generalize hstep f b=i at*;obtain⟨q3,z,s⟩:=mW c (h:=i) p;generalize hstep i c=j at*;obtain⟨q4,A,u⟩:=mW d (h:=j) s;generalize hstep j d=l at*;obtain⟨q5,D,F⟩:=mW k (h:=l) u;generalize hstep l k=G at*;exact⟨q0*1000015000090000270000405000243+q1*1000012000054000108000081+q2*1000009000027000027+q3*1000006000009+q4*1000003+q5*1,by omega⟩
def Yp (n:Int):∃e,kF n=n+e/\0<=e/\e<=1:=by
 unfold kF;by_cases h:n=0
 ·simp[*]
 ·rw[cf.2 h];exact⟨0,by simp,by decide,by decide⟩
def bOb (s i:Int):(aO s i).Seed=kF (bP s [151,277,i]):=by rfl
def bOc (s:AK):iT s=kF (bP s.Seed [151,181]):=by rfl
def bHw (s:AK)(n:ByteArray)(i:Int):dK s n i=kF (bP s.Seed [151,179,bM n,i]):=by rfl
def bCt (s i k:Int):∃e q,(aO s i).Seed-(aO s k).Seed=(i-k)*1000003+e+2147483647*q/\-1<=e/\e<=1:=by have hi:(aO s i).Seed=kF (bP s [151,277,i]):=bOb s i;have hk:(aO s k).Seed=kF (bP s [151,277,k]):=bOb s k;obtain⟨a,c,j,l⟩:=Yp (bP s [151,277,i]);obtain⟨d,b1,n,o⟩:=Yp (bP s [151,277,k]);obtain⟨q1,f⟩:=bN9 s 151 277 i;obtain⟨q2,h⟩:=bN9 s 151 277 k;rw[hi,hk,c,b1,f,h];exact⟨a-d,q2-q1,by omega,by omega,by omega⟩
def dfs:List Int:=[-5,-4,-3,-2,-1,0,1,2,3,4,5]
def bKg:List Int:=[-1,0,1]
theorem bHx {d:Int}(h1: -5<=d)(h2:d<=5):d∈dfs:=by simp only[dfs,ba,gR,or_false];omega
def aC0 {d:Int}(h1: -1<=d)(h2:d<=1):d∈bKg:=by grind[bKg]
def bRk:(dfs.all λd=>d==0||bKg.all λe=>bKg.all λz=> !((d*1000003+e)*1000009000027000028-z)%2147483647==0)=true:=by kernel_rfl
def bKh {s i k:Int}(hi:0<=i/\i<6)(hk:0<=k/\k<6)(h:i≠k):iT (aO s i)≠iT (aO s k):=by
 intro he;obtain⟨e,q,d1,d2,d3⟩:=bCt s i k;have h1:iT (aO s i)=kF (bP (aO s i).Seed [151,181]):=bOc _;have h2:iT (aO s k)=kF (bP (aO s k).Seed [151,181]):=bOc _;obtain⟨a,d,l,n⟩:=Yp (bP (aO s i).Seed [151,181]);obtain⟨c,b1,o,p⟩:=Yp (bP (aO s k).Seed [151,181]);obtain⟨q1,f⟩:=bN8 (aO s i).Seed 151 181;obtain⟨q2,j⟩:=bN8 (aO s k).Seed 151 181;rw[h1,h2,d,b1,f,j] at he;have u:(((i-k)*1000003+e)*1000009000027000028-(c-a))%2147483647=0:=by omega
 have:=cG.1 bRk (i-k) (bHx (by omega) (by omega));rw[cf.2 (show i-k≠0 by omega),cu] at this;have:=cG.1 (cG.1 this e (aC0 d2 d3)) (c-a) (aC0 (by omega) (by omega));simp_all
def hs1:Int:=1464438180
def bWu:bM (aA 0)=1941999745:=by kernel_rfl
def bWv:bM (aA 1)=1464438180:=by kernel_rfl
def bOd:(dfs.all λd=>[0,477561565,-477561565].all λ(g:Int)=>(d==0&&g==0)||bKg.all λe=>bKg.all λz=> !((d*1000003+e)*1000015000090000270000405000244+g*1000006000009+d*1000003-z)%2147483647==0)=true:=by kernel_rfl
def bCu {s i k j l:Int}(hi:0<=i/\i<6)(hk:0<=k/\k<6)(f:j=0\/j=1)(hl:l=0\/l=1)(h:i≠k\/j≠l):dK (aO s i) (aA j) i≠dK (aO s k) (aA l) k:=by
 intro he;obtain⟨e,q,d1,d2,d3⟩:=bCt s i k;have h1:dK (aO s i) (aA j) i=kF (bP (aO s i).Seed [151,179,bM (aA j),i]):=bHw _ _ _;have h2:dK (aO s k) (aA l) k=kF (bP (aO s k).Seed [151,179,bM (aA l),k]):=bHw _ _ _;obtain⟨c,n,u,x⟩:=Yp (bP (aO s i).Seed [151,179,bM (aA j),i]);obtain⟨d,b1,y,z⟩:=Yp (bP (aO s k).Seed [151,179,bM (aA l),k]);obtain⟨q1,o⟩:=bOa (aO s i).Seed 151 179 (bM (aA j)) i;obtain⟨q2,p⟩:=bOa (aO s k).Seed 151 179 (bM (aA l)) k;rw[h1,h2,n,b1,o,p] at he;obtain⟨g,hg,a⟩:∃g,bM (aA j)-bM (aA l)=g/\(g∈[0,477561565,(-477561565:Int)]/\(j≠l->g≠0)):=by
  rcases f with rfl|rfl<;>rcases hl with rfl|rfl<;>simp only[bWu,bWv]
  all_goals simp
 have A:(((i-k)*1000003+e)*1000015000090000270000405000244+g*1000006000009+(i-k)*1000003-(d-c))%2147483647=0:=by omega
 have:=cG.1 (cG.1 bOd (i-k) (by grind[bHx])) g a.1;rw[show(i-k==0&&g==0)=false by
  rcases h with h|h
  ·rw[cf.2 (show i-k≠0 by omega)];rfl
  ·rw[cf.2 (a.2 h),dl],cu] at this
 have:=cG.1 (cG.1 this e (aC0 d2 d3)) (d-c) (aC0 (by omega) (by omega));simp_all
def bKi {n:Int}(h:0<=n/\n<2147483647):bK (kF n)=true:=by
 grind[beq_eq_false_iff_ne,decide_eq_true,kF,bK,bI]
def iM (s:Int)(l:List Int):bK (aZ s l)=true:=bKi (mK _ _)
theorem aQl {k:Int}(h:bK k=true):1<=k/\k<=2147483646:=iA h
theorem bS6 {k:Int}(h:bK k=true):dP k=k*48271%2147483647:=by have:=aQl h;unfold dP;rw[h,ay,aa,aJ (by omega) (by omega),cr (by omega)]
theorem bHy {k:Int}(h:bK k=true):bK (dP k)=true:=by
 grind[decide_eq_true,bK,bI,bS6,aQl]
theorem Te {k:Int}(h:bK k=true):gP (dP k)=k:=by
 have:=aQl h
 grind[bHy,Bool.not_true,bS6,gP]
def bHz {a b:Int}(c:bK a=true)(hb:bK b=true)(h:dP a=dP b):a=b:=by rw[<-Te c,h,Te hb]
def bFi {s i k j l:Int}(hi:0<=i/\i<6)(hk:0<=k/\k<6)(a:j=0\/j=1)(hl:l=0\/l=1)(h:i≠k\/j≠l):fC (aO s i) (aA j) i≠fC (aO s k) (aA l) k:=
 λhe=>bCu hi hk a hl h (bHz (iM _ _) (iM _ _) he)
def bKj {s i k:Int}(hi:0<=i/\i<6)(hk:0<=k/\k<6)(h:i≠k):aT (aO s i)≠aT (aO s k):=
 λhe=>bKh hi hk h (bHz (iM _ _) (iM _ _) he)
theorem Mv {α:Type}{p:Nat->α->Bool}:∀{l:List α} {i:Nat},(∀k (h:k<l.length),p (i+k) l[k]=false)->gM p i l=false
 |[],i,_=>rfl
 |x::l,i,h=>by
  have h0:=h 0 (by simp);have a:=Mv (p:=p) (l:=l) (i:=i+1) (λk hk=>by
   have:=h (k+1) (by simpa using hk);rw[show i+1+k=i+(k+1) by omega];simpa using this)
  simp only[gM,eg,ic] at h0 ⊢;rw[h0,a];rfl
theorem R5 {α:Type}{p:Nat->α->Bool}:∀{l:List α} {i:Nat},gM p i l=false->∀k (h:k<l.length),p (i+k) l[k]=false
 |x::l,i,h,0,_=>by simp only[gM,bn] at h;simpa using h.1
 |x::l,i,h,k+1,hk=>by
  simp only[gM,bn] at h;have:=R5 h.2 k (by simpa using hk);rw[show i+(k+1)=i+1+k by omega];simpa using this
def Tf (seed j:Int)(k:Nat):Int:=fC (aO seed (k:Int)) (aA j) (k:Int)
def Mw (seed j:Int)(l:List AV):Prop:=∀k (h:k<l.length),l[k].Handle=(k:Int)/\l[k].Public=Tf seed j k/\0<=l[k].Counter/\l[k].Counter<=1000000
theorem iN {x a b:Int}(h1:a<=x)(h2:x<=b):bI x a b=true:=by grind[decide_eq_true,bI]
theorem bRl {seed j l:Int}{i k:Nat}(hi:i<6)(hk:k<6)(a:j=0\/j=1)(hl:l=0\/l=1)(h:i≠k\/j≠l):Tf seed j i≠Tf seed l k:=
 bFi (by omega) (by omega) a hl (by omega)
def bKk (seed j:Int)(k:Nat):gP (Tf seed j k)=dK (aO seed (k:Int)) (aA j) (k:Int):=by simp[Te,dK,iM,Tf,fC]
theorem aQm {seed j m:Int}{l:List AV}(f:j=0\/j=1)(h:Mw seed j l)(hl:l.length<=6)(hm:1<=m/\m<=3):bB ⟨1,m,l⟩=true:=by
 have n:gM (vZ ⟨1,m,l⟩) 0 l=false:=Mv λk hk=>by
  obtain⟨h1,h2,c,d⟩:=h k hk;have hp:=aQl (iM (aO seed (k:Int)).Seed [179,bM (aA j),(k:Int)]);unfold vZ;rw[cj,h1,iN (by omega) (by omega),h2,bKk,cf.2 (show dK (aO seed (k:Int)) (aA j) (k:Int)≠0 by unfold dK;omega),iN c d];have o:(decide (0<k)&&decide ((l.getD (k-1) default).Handle>=(k:Int)))=false:=by
   by_cases e:0<k
   ·have a:k-1<l.length:=by omega
    have:=(h (k-1) a).1;rw[List.getD,ae a,ck,this,ao (show ¬((k-1:Nat):Int)>=(k:Int) by omega),dl]
   simp[*]
  have p:((l.take k).any λq=>q.Public==Tf seed j k)=false:=by
   rw[gA];intro q hq;obtain⟨i,hi,rfl⟩:=df.1 hq;rw[bv] at hi;rw[e9,(h i (by omega)).2.1]
   grind[bRl]
  simp_all
 grind[iN,decide_eq_true,bI,decide,gM,vZ,bB]
structure SiteIn (seed j:Int) (n:Nat) (s:AC):Prop where
 name:s.Name=aA j
 book:eQ s.Book=true
 key:bK s.Book.Seed=true
 acc:∃l,s.Accounts=[⟨1,3,l⟩]/\Mw seed j l/\l.length=n
theorem aHm {j:Int}(a:j=0\/j=1):(iG (aA j)&&decide (2<=(bO (aA j)).length))=true:=by rcases a with rfl|rfl<;>kernel_rfl
def SiteIn.ok {seed j:Int}{n:Nat}{s:AC}(a:j=0\/j=1)(hn:n<=6)(h:SiteIn seed j n s):dI s=true:=by
 obtain⟨h1,h2,c,l,d,e,f⟩:=h;unfold dI kZ;rw[h1,aHm a,c,h2,d];show(true&&true&&decide (1<=8)&&true&& !(Mk [⟨1,3,l⟩] 0 ⟨1,3,l⟩||false))=true
 grind[aQm,Mk]
def SiteIn.find {seed j:Int}{n:Nat}{s:AC}(h:SiteIn seed j n s):aF s 1=0:=by obtain⟨_,_,_,l,a,_⟩:=h;unfold aF;rw[a];rfl
theorem aX9 {α:Type}{p:α->Bool}:∀{l:List α},(∀c∈l,p c=true)->l.takeWhile p=l
 |[],_=>rfl
 |x::l,h=>by rw[dn,h x (by simp),cQ rfl,aX9 (λc hc=>h c (by simp[hc]))]
def bOe {l:List AV}{p:Int}(h:∀k (h:k<l.length),l[k].Handle=(k:Int)):aHb l (l.length:Int) p=l++[⟨(l.length:Int),p,0,false⟩]:=by
 have:Zg (l.length:Int) l=l.length:=by
  grind[decide_eq_true,List.mem_iff_getElem,aX9,Zg]
 unfold aHb;rw[this,dg,dp,cY]
def Mw.snoc {seed j:Int}{l:List AV}(h:Mw seed j l):Mw seed j (l++[⟨(l.length:Int),Tf seed j l.length,0,false⟩]):=by
 intro k hk;by_cases a:k<l.length
 ·rw[gC a];exact h k a
 grind
def SiteIn.reg {seed j:Int}{n:Nat}{s:AC}(c:j=0\/j=1)(hn:n<6)(h:SiteIn seed j n s):
  (gD s 1 (n:Int) (Tf seed j n)).2=true/\SiteIn seed j (n+1) (gD s 1 (n:Int) (Tf seed j n)).1:=by
 have d:=h.ok c (by omega);have e:=h.find;obtain⟨h1,h2,i,l,o,f,q⟩:=h;subst q;have u:(s.Accounts.getD (aF s 1).toNat default)=⟨1,3,l⟩:=by simp[*]
 have hi:=bOe (p:=Tf seed j l.length) (λk hk=>(f k hk).1);have hs:=f.snoc;have x:=aQm (m:=3) c f (by omega) (by grind);have y:=aQm (m:=3) c hs (by simp;omega) (by grind);have a:iJ ⟨1,3,l⟩ (l.length:Int) (Tf seed j l.length)=(⟨1,3,l++[⟨(l.length:Int),Tf seed j l.length,0,false⟩]⟩,true):=by
  grind[bB,aHb,Tf,iJ]
 unfold gD;rw[d,e,show decide ((0:Int)<0)=false from rfl,<-e,u,a,e,o];exact⟨rfl,h1,h2,i,_,rfl,hs,by simp⟩
def bFj {seed j:Int}(c:j=0\/j=1):SiteIn seed j 0 (oJ (iH (aA j) (aZ seed [281,j])) 1 3).1:=by
 have hk:=iM seed [281,j];generalize aZ seed [281,j]=q at*;have hn:iH (aA j) q=⟨aA j,[],⟨q,0,[]⟩,[]⟩:=by
  grind[aHm,iH,kZ]
 have hb:eQ ⟨q,0,[]⟩=true:=rfl;have a:SiteIn seed j 0 (qG ⟨aA j,[],⟨q,0,[]⟩,[]⟩ 1 3):=
  ⟨rfl,hb,hk,[],rfl,λk hk=>by simp at hk,rfl⟩
 have h0:dI ⟨aA j,[],⟨q,0,[]⟩,[]⟩=true:=by unfold dI kZ;rw[aHm c,hk];rfl
 unfold oJ;rw[hn,h0,a.ok c (by omega)];exact a
def aQn {seed j:Int}(a:j=0\/j=1):∀(m i:Nat) (s:AC),SiteIn seed j i s->i+m<=6->
  SiteIn seed j (i+m) (wC (aA j) i ((List.range' i m).map λ(k:Nat)=>bG (aO seed (k:Int))) s)
 |0,i,s,h,_=>h
 |m+1,i,s,h,hm=>by
  have:=aQn a m (i+1) _ (h.reg a (by omega)).2 (by omega);rw[show i+1+m=i+(m+1) by omega] at this;exact this
theorem bCv {seed j:Int}(a:j=0\/j=1){n:Nat}(hn:n<=6):SiteIn seed j n (Ta seed (dR seed n) j):=by have:=aQn a n 0 _ (bFj (seed:=seed) a) (by omega);rw[cj,<-List.range_eq_range'] at this;exact this
theorem bCw {α:Type}{r:α->α->Prop}(ht:∀a b c,r a b->r b c->r a c):∀{l:List α},(∀k (h:k+1<l.length),r l[k] l[k+1])->l.Pairwise r
 |[],_=> .nil
 |[x],_=>List.pairwise_singleton r x
 |x::y::l,h=>by
  have e:=bCw (r:=r) ht (l:=y::l) (λk hk=>by have:=h (k+1) (by simpa using hk);simpa using this);refine cn.2 ⟨λz d=> ?_,e⟩;have h0:r x y:=by simpa using h 0 (by simp)
  rcases ba.1 d with rfl|d
  ·exact h0
  ·exact ht _ _ _ h0 ((cn.1 e).1 z d)
structure BookIn (b:AP):Prop where
 next:0<=b.Next/\b.Next<=1000000
 len:b.Open.length<=16
 ord:b.Open.Pairwise (λa c=>a.Id<c.Id)
 all:∀c∈b.Open,(0<=c.Id/\c.Id<b.Next)/\(0<=c.aAH/\c.aAH<=1000005)/\(0<=c.Until/\c.Until<=1000005)
def BookIn.ok {b:AP}(h:BookIn b):eQ b=true:=by
 obtain⟨h1,h2,a,c⟩:=h;have d:gM (iF b) 0 b.Open=false:=(by grind[Mv,List.getElem_mem,iF,aJ,iN,decide,default,List.pairwise_iff_getElem,List.getD,List.getElem?_eq_getElem,decide_eq_false])
 grind[iN,decide_eq_true,eQ]
def Yq {b:AP}(h:eQ b=true):BookIn b:=by
 unfold eQ at h;simp only[ab,bp,ca] at h;obtain⟨⟨h1,h2⟩,f⟩:=h;have h1:=iA h1;have hg:∀k (hk:k<b.Open.length),((0<=b.Open[k].Id/\b.Open[k].Id<b.Next)/\(0<=b.Open[k].aAH/\b.Open[k].aAH<=1000005)/\(0<=b.Open[k].Until/\b.Open[k].Until<=1000005))/\(0<k->(b.Open.getD (k-1) default).Id<b.Open[k].Id):=λk hk=>by
  have:=R5 f k hk;unfold iF at this;rw[cj,aJ (by omega) (by omega)] at this;simp only[bn,cL,Bool.and_eq_false_iff,ct] at this;obtain⟨a,i,d,e⟩:=this;have a:=iA a;have d:=iA d;have e:=iA e;omega
 refine⟨⟨h1.1,h1.2⟩,h2,(by grind[bCw,Int.lt_trans]),λc hc=> ?_⟩
 all_goals grind[List.mem_iff_getElem,Nat.add_sub_cancel,List.getD,List.getElem?_eq_getElem]
def bCx {b:AP}(h:BookIn b)(a n:Int):BookIn (eH b a n).1/\(eH b a n).1.Seed=b.Seed/\b.Next<=(eH b a n).1.Next/\(eH b a n).1.Next<=b.Next+1:=by
 unfold eH;rw[h.ok];by_cases hn:b.Next=1000000
 ·simp[*]
 ·rw[cf.2 hn];cases hr:bI a 0 1000000&&bI n 0 1000000 with
  |false=>grind
  |true=>
   rw[ab] at hr;have f:=iA hr.1;have i:=iA hr.2;obtain⟨h1,h2,j,k⟩:=h;have d:IntKind.i64.wrap (b.Next+1)=b.Next+1:=(by grind[aJ]);have e:IntKind.i64.wrap (n+5)=n+5:=(by grind[aJ]);have key:∀l:List A3,l.length<=15->l.Pairwise (λa c=>a.Id<c.Id)->(∀c∈l,c∈b.Open)->BookIn ⟨b.Seed,IntKind.i64.wrap (b.Next+1),l++[aCu b a n]⟩:=λl hl ho hm=>by
    rw[d];refine⟨(by grind),by simp;omega,?_,λc hc=> ?_⟩
    all_goals grind[q1,q2,q3,List.mem_singleton,aCu]
   grind
def bRm {b:AP}(h:BookIn b)(c a n:Int):BookIn (qE b c a n).1/\(qE b c a n).1.Seed=b.Seed:=by
 unfold qE;rw[h.ok];cases decide (dQ b c<0) with
 |true=>simp[*]
 |false=>
  obtain⟨h1,h2,e,f⟩:=h;have d:(b.Open.take (dQ b c).toNat++b.Open.drop ((dQ b c).toNat+1)).Sublist b.Open:=by
   grind[List.drop_sublist,List.drop_drop,List.Sublist.append,List.take_append_drop,dQ]
  exact⟨⟨h1,bz d.length_le h2,e.sublist d,λc hc=>f c (d.subset hc)⟩,rfl⟩
def SiteIn.aBM {seed j:Int}{n:Nat}{s:AC}(h:SiteIn seed j n s){b:AP}(hb:BookIn b)(hs:b.Seed=s.Book.Seed):SiteIn seed j n {s with Book:=b}:=
 ⟨h.name,hb.ok,by show bK b.Seed=true;rw[hs];exact h.key,h.acc⟩
def SiteIn.begin {seed j:Int}{n:Nat}{s:AC}(h:SiteIn seed j n s)(i t:Int):SiteIn seed j n (lX s i t).1:=by
 unfold lX;cases dI s&&(!decide (aF s i<0)&&(eH s.Book i t).2.2) with
 |false=>exact h
 |true=>have:=bCx (Yq h.book) i t;exact h.aBM this.1 this.2.1
def Mw.set {seed j:Int}{l:List AV}(h:Mw seed j l){k:Nat}(hk:k<l.length){c:AV}(h1:c.Handle=l[k].Handle)(h2:c.Public=l[k].Public)(a:0<=c.Counter/\c.Counter<=1000000):Mw seed j (l.set k c):=by
 intro i hi;rw[eR];rw[aw] at hi;split
 ·rename_i e;subst e;have:=h k hk;omega
 ·exact h i hi
theorem Ah {α:Type}{p:α->Bool}:∀{l:List α} {i:Nat},decide (kD p i l<0)=false->∃k,∃h:k<l.length,kD p i l=((i+k:Nat):Int)/\p l[k]=true
 |[],i,h=>by simp[kD] at h
 |x::l,i,h=>by
  unfold kD at h ⊢;cases hp:p x with
  |true=>exact⟨0,by simp,by simp,by simpa using hp⟩
  |false=>rw[hp,aa] at h;obtain⟨k,hk,a,c⟩:=Ah h;exact⟨k+1,by simpa using hk,by rw[aa,a];congr 1;omega,by simpa using c⟩
def Mw.use {seed j:Int}{l:List AV}(h:Mw seed j l)(x:AY)(z:ByteArray)(c:Int)(y:0<=x.Counter/\x.Counter<=1000000):
  ∃l',(jX ⟨1,3,l⟩ x z c).1=⟨1,3,l'⟩/\Mw seed j l'/\l'.length=l.length/\∀k (h1:k<l.length) (h2:k<l'.length),l[k].Cut=true->l'[k].Cut=true:=by
 unfold jX;cases hb: !bB ⟨1,3,l⟩||(decide (aS ⟨1,3,l⟩ x.Handle<0)||(gG ⟨1,3,l⟩ (aS ⟨1,3,l⟩ x.Handle)).Cut) with
 |true=>simp[*]
 |false=>
  simp only[bn] at hb;obtain⟨k,hk,d,A⟩:=Ah (l:=l) hb.2.1;have f:aS ⟨1,3,l⟩ x.Handle=(k:Int):=d.trans (by simp);have n:gG ⟨1,3,l⟩ (k:Int)=l[k]:=by grind[List.getD,List.getElem?_eq_getElem,gG]
  rw[f,n,aa,bq];have a:∀c:AV,c.Handle=l[k].Handle->c.Public=l[k].Public->0<=c.Counter/\c.Counter<=1000000->(l[k].Cut=true->c.Cut=true)->
    ∃l',(AJ.mk 1 3 (l.set k c))=⟨1,3,l'⟩/\Mw seed j l'/\l'.length=l.length/\∀i (h1:i<l.length) (h2:i<l'.length),l[i].Cut=true->l'[i].Cut=true:=λc o p s u=>
   ⟨_,rfl,h.set hk o p s,aw,λi h1 h2 e=>by
    rw[eR];split
    ·rename_i q;subst q;exact u e
    ·exact e⟩
  cases kJ l[k].Public x z c l[k].Counter==0 with
  |true=>simp_all
  |false=>
   cases kJ l[k].Public x z c l[k].Counter==4 with
   |true=>exact a _ rfl rfl (h k hk).2.2 (λ_=>rfl)
   |false=>simp[*]
def SiteIn.aBZ {seed j:Int}{n:Nat}{s:AC}(h:SiteIn seed j n s){l:List AV}(hl:Mw seed j l)(hn:l.length=n)(g:List Int)(b:AP)(hb:BookIn b)(hs:b.Seed=s.Book.Seed):SiteIn seed j n {s with Book:=b,Accounts:=[⟨1,3,l⟩],Logins:=g}:=
 ⟨h.name,hb.ok,by show bK b.Seed=true;rw[hs];exact h.key,l,rfl,hl,hn⟩
def SiteIn.finish {seed j:Int}{n:Nat}{s:AC}(h:SiteIn seed j n s)(c t:Int)(x:AY)(a:0<=x.Counter/\x.Counter<=1000000):SiteIn seed j n (pE s 1 c t x).1:=by
 have d:=h.find;have hk:=bRm (Yq h.book) c 1 t;unfold pE;rw[d];cases !dI s||decide ((0:Int)<0) with
 |true=>exact h
 |false=>
  simp only[aa];cases !(qE s.Book c 1 t).2 with
  |true=>exact h.aBM hk.1 hk.2
  |false=>
   simp only[aa];cases !sM (fU s 0) 3 with
   |true=>exact h.aBM hk.1 hk.2
   |false=>
    obtain⟨l,e,hl,hn⟩:=h.acc;have f:fU s 0=⟨1,3,l⟩:=by grind[fU]
    obtain⟨l',q1,q2,q3,_⟩:=hl.use x s.Name (fJ s.Book c) a;simp only[aa,f,q1];rw[show s.Accounts.set (0:Int).toNat ⟨1,3,l'⟩=[⟨1,3,l'⟩] by rw[e];rfl];cases !((jX ⟨1,3,l⟩ x s.Name (fJ s.Book c)).2==0) with
    |true=>exact h.aBZ q2 (q3.trans hn) s.Logins _ hk.1 hk.2
    |false=>exact h.aBZ q2 (q3.trans hn) (s.Logins++[1]) _ hk.1 hk.2
def bOf (s:AK)(z:ByteArray)(i:Int)(m:List Int):(jH s z i m).1.Seed=s.Seed/\(jH s z i m).1.Vendor=s.Vendor/\(jH s z i m).1.Serial=s.Serial/\((jH s z i m).2.2=true->(jH s z i m).1.Counter=s.Counter+1/\0<=s.Counter/\s.Counter<1000000)/\((jH s z i m).2.2=false->(jH s z i m).1=s):=by
 unfold jH;cases hb:lD s&& !(s.Counter==1000000) with
 |false=>simp
 |true=>
  simp only[ab,ca,cf] at hb;have hs:=hb.1;unfold lD at hs;simp only[ab] at hs;have hc:=iA hs.2.2.2;refine⟨rfl,rfl,rfl,⟨λ_=> ?_,λh=>by cases h⟩⟩
  have:IntKind.i64.wrap (s.Counter+1)=s.Counter+1:=(by grind[aJ]);exact⟨this,by omega,by have:=hb.2;omega⟩
def bCy (s:AK)(o:AQ)(z:ByteArray)(i c:Int)(p:Bool):(iW s o z i c p).1.Seed=s.Seed/\(iW s o z i c p).1.Vendor=s.Vendor/\(iW s o z i c p).1.Serial=s.Serial/\(0<=s.Counter/\s.Counter<=1000000->(0<=(iW s o z i c p).1.Counter/\(iW s o z i c p).1.Counter<=1000000)/\(0<=(iW s o z i c p).2.1.Counter/\(iW s o z i c p).2.1.Counter<=1000000)):=by
 obtain⟨h1,h2,a,d,e⟩:=bOf s z i (dG (Sy s o z i c p));unfold iW;cases hb:mU o z&&(jH s z i (dG (Sy s o z i c p))).2.2 with
 |false=>exact⟨rfl,rfl,rfl,λh=>⟨h,cP 0,show(0:Int)<=1000000 by decide⟩⟩
 |true=>
  grind
structure StIn (seed:Int) (k:Nat) (s:AK):Prop where
 ven:s.Vendor=1
 ser:s.Serial=(k:Int)
 key:s.Seed=(aO seed (k:Int)).Seed
 cnt:0<=s.Counter/\s.Counter<=1000000
structure WIn (m:Nat) (w:AA):Prop where
 seed:bK w.Seed=true
 now:0<=w.Now/\w.Now<=999900
 dlen:1<=w.Devices.length/\w.Devices.length<=6
 slen:w.Stolen.length=w.Devices.length
 dev:∀k (h:k<w.Devices.length),StIn w.Seed k w.Devices[k].Store
 two:w.Sites.length=2
 mle:m<=6
 site:∀j (h:j<w.Sites.length),SiteIn w.Seed (j:Int) m w.Sites[j]
 mail:gJ w.Mail=true
 log:aY w.aAC.Log=true
def WIn.ok {m:Nat}{w:AA}(h:WIn m w):aP w=true:=by
 have hs:gM nA 0 w.Sites=false:=Mv λk hk=>by
  have h2:=h.two;have:=h.site k hk;unfold nA;rw[this.ok (by omega) h.mle,this.name,cj];simp
 unfold aP;have h2:=h.two;have a:=h.slen;have c:=h.dlen;rw[hs,h.log,h.mail,h.seed,iN h.now.1 h.now.2,iN (by omega) (by omega),a,h2];simp
def WIn.upd {m:Nat}{w v:AA}(h:WIn m w)(h1:v.Seed=w.Seed)(h2:v.Now=w.Now)(a:v.Devices.length=w.Devices.length)(c:v.Stolen.length=w.Stolen.length)
  (i:∀k (h:k<v.Devices.length),StIn w.Seed k v.Devices[k].Store) (d:v.Sites.length=2) (l:∀j (h:j<v.Sites.length),SiteIn w.Seed (j:Int) m v.Sites[j]) (e:gJ v.Mail=true) (f:aY v.aAC.Log=true):WIn m v where
 seed:=by rw[h1];exact h.seed
 now:=by rw[h2];exact h.now
 dlen:=by rw[a];exact h.dlen
 slen:=by rw[a,c];exact h.slen
 dev:=by simp[*]
 two:=d
 mle:=h.mle
 site:=by simp[*]
 mail:=e
 log:=f
def WIn.aBS {m:Nat}{w:AA}(h:WIn m w){i:Nat}{x:AD}(hi:i<w.Devices.length)(a:StIn w.Seed i x.Store):∀k (h:k<(w.Devices.set i x).length),StIn w.Seed k (w.Devices.set i x)[k].Store:=λk hk=>by
 rw[eR];rw[aw] at hk;split
 ·simp_all
 ·exact h.dev k hk
def WIn.aDK {m:Nat}{w:AA}(h:WIn m w){i:Nat}{x:AC}(hi:i<2)(a:SiteIn w.Seed (i:Int) m x):∀k (h:k<(w.Sites.set i x).length),SiteIn w.Seed (k:Int) m (w.Sites.set i x)[k]:=λk hk=>by
 rw[eR];rw[aw] at hk;split
 ·simp_all
 ·exact h.site k hk
def pU {w:AA}{d:Int}(h:aL w d=true):0<=d/\d.toNat<w.Devices.length/\aG w d=w.Devices.getD d.toNat default:=by simp only[aL,ab,bp] at h;exact⟨h.1,by omega,rfl⟩
theorem iX {w:AA}{d:Int}(h:aL w d=true):∃h:d.toNat<w.Devices.length,aG w d=w.Devices[d.toNat]:=by simp_all[List.getD,ae,pU]
def WIn.aCB {m:Nat}{w:AA}(h:WIn m w){d:Int}(hd:aL w d=true):StIn w.Seed d.toNat (aG w d).Store:=by obtain⟨h1,h2⟩:=iX hd;rw[h2];exact h.dev _ h1
def bKl {m:AS}(h:gJ m=true)(k a t:Int):gJ (Du m k a t).1=true:=by
 grind[gJ,Ny,Bool.or_eq_false_iff,Bool.not_eq_false',Du]
def WIn.tell {m:Nat}{w:AA}(h:WIn m w)(k:Int):WIn m (qD w k):=
 h.upd rfl rfl rfl rfl h.dev h.two h.site (bKl h.mail _ _ _) h.log
def StIn.make {seed:Int}{k:Nat}{s:AK}(h:StIn seed k s)(o:AQ)(z:ByteArray)(i c:Int)(p:Bool):StIn seed k (iW s o z i c p).1:=by obtain⟨h1,h2,a,d⟩:=bCy s o z i c p;exact⟨h2.trans h.ven,a.trans h.ser,h1.trans h.key,(d h.cnt).1⟩
def WIn.visit {m:Nat}{w:AA}(h:WIn m w)(d j:Int)(o:AQ):WIn m (iK w d j o).1:=by
 unfold iK;cases ht:dU w d j with
 |false=>exact h
 |true=>
  have a:=ht;simp only[dU,ab] at a;have h2:=h.two;have hq:=a.2.2;simp only[qA,ab,bp] at hq;have k:j.toNat<w.Sites.length:=by omega
  have es:fA w j=w.Sites[j.toNat]:=by grind[List.getD,List.getElem?_eq_getElem,fA]
  have hs:=h.site _ k;rw[<-es,show((j.toNat:Nat):Int)=j by omega] at hs;have c:=h.aCB a.2.1;have hm:=bCy (aG w d).Store o (aA j) d (aBA w j).2.2.1 true;have hb:SiteIn w.Seed j m (aBA w j).1:=hs.begin 1 w.Now;have f:SiteIn w.Seed j m (Sz w d j o).1:=hb.finish _ _ _ (hm.2.2.2 c.cnt).2;have i:WIn m (aUp w d j o):=by obtain⟨l,e,_⟩:=pU a.2.1;refine h.upd rfl rfl (aw ..) rfl (h.aBS e (c.make o (aA j) d (aBA w j).2.2.1 true)) (by show(w.Sites.set _ _).length=2;rw[aw,h2]) (h.aDK (by omega) (by grind)) h.mail h.log
  simp only[ay,aa];cases !(aBA w j).2.2.2 with
  |true=>exact h
  |false=>
   cases !((Sz w d j o).2.1==0) with
   |true=>exact i
   |false=>exact i.tell 1
def WIn.sync {m:Nat}{w:AA}(h:WIn m w)(d b:Int):WIn m (aM w d b).1:=by
 unfold aM;cases hb:aP w&&aL w d with
 |false=>exact h
 |true=>rw[ab] at hb;obtain⟨e,a,_⟩:=pU hb.2;refine h.upd rfl rfl (aw ..) rfl (h.aBS a ?_) h.two h.site h.mail h.log;have c:=h.aCB hb.2;unfold bR;cases jW (aG w d) w.aAC.Log w.aAC.Boxes (eZ w.aAC b).1==0<;>exact c
def WIn.aDL {m:Nat}{w:AA}(h:WIn m w)(d:Int)(n:ByteArray)(a:Int)(r:Bool):WIn m (rF w d n a r).1:=by
 unfold rF;cases hb:aP w&&aL w d with
 |false=>exact h
 |true=>
  rw[ab] at hb;obtain⟨f,c,_⟩:=pU hb.2;have e:=h.aCB hb.2;simp only[ac];cases(dO (aG w d) n a r).2 with
  |false=>exact h
  |true=>refine h.upd rfl rfl (aw ..) rfl (h.aBS c ?_) h.two h.site h.mail h.log;unfold dO;cases(sF (aG w d) n a r).2<;>exact e
theorem aLl (d:AD):(cB d).1.Store=d.Store:=by unfold cB;cases(qC d.Key d.Epoch (IntKind.i64.wrap (d.Version+1)) d.aAD).2<;>rfl
def WIn.up {m:Nat}{w:AA}(h:WIn m w){d:Int}(hd:aL w d=true):WIn m (Sq w d).1:=by
 unfold Sq;cases(cB (aG w d)).2.2&&(bZ w.aAC (cB (aG w d)).2.1).2 with
 |false=>exact h
 |true=>obtain⟨c,a,_⟩:=pU hd;refine h.upd rfl rfl (aw ..) rfl (h.aBS a (by rw[aLl];exact h.aCB hd)) h.two h.site h.mail ?_;show aY (bZ w.aAC (cB (aG w d)).2.1).1.Log=true;rw[(vI _ _).2];exact h.log
def WIn.push {m:Nat}{w:AA}(h:WIn m w)(d:Int):WIn m (fH w d).1:=by
 unfold fH;cases hb:(aM w d 0).2==0&&(Sq (aM w d 0).1 d).2 with
 |false=>exact h
 |true=>
  rw[ab] at hb;have h0:=mP hb.1;exact(h.sync d 0).up (by
   grind[aL])
theorem kR (w:AA)(d b:Int):(aM w d b).1.Seed=w.Seed/\(aM w d b).1.Now=w.Now/\(aM w d b).1.Devices.length=w.Devices.length/\(aM w d b).1.Sites=w.Sites/\(aM w d b).1.Stolen=w.Stolen/\(aM w d b).1.aAC=w.aAC:=by
 grind[aP,aL,List.length_set,aM]
theorem bH0 (w:AA)(d:Int):(Sq w d).1.Seed=w.Seed/\(Sq w d).1.Now=w.Now/\(Sq w d).1.Devices.length=w.Devices.length/\(Sq w d).1.Sites=w.Sites/\(Sq w d).1.Stolen=w.Stolen/\(Sq w d).1.aAC.Log=w.aAC.Log:=by
 grind[cB,aG,bZ,List.length_set,vI,Sq]
def Yr (w:AA)(d:Int):(fH w d).1.Seed=w.Seed/\(fH w d).1.Now=w.Now/\(fH w d).1.Devices.length=w.Devices.length/\(fH w d).1.Sites=w.Sites/\(fH w d).1.Stolen=w.Stolen/\(fH w d).1.aAC.Log=w.aAC.Log:=by
 grind[aM,Sq,kR,bH0,fH]
def Mx (w:AA)(b k p:Int)(key:List AF->Int):(jM w b k p key).1.Seed=w.Seed/\(jM w b k p key).1.Now=w.Now/\(jM w b k p key).1.Devices=w.Devices/\(jM w b k p key).1.Sites=w.Sites/\(jM w b k p key).1.Stolen=w.Stolen/\(jM w b k p key).1.Mail=w.Mail/\(aY w.aAC.Log=true->aY (jM w b k p key).1.aAC.Log=true):=by
 unfold jM
 grind[lH,aY,cZ,jT,bJ,eX,aG]
def WIn.aDC {m:Nat}{w:AA}(h:WIn m w)(b k p:Int)(key:List AF->Int):WIn m (jM w b k p key).1:=by obtain⟨d,e,a,c,f,i,j⟩:=Mx w b k p key;exact h.upd d e (by rw[a]) (by rw[f]) (by rw[a];exact h.dev) (by rw[c];exact h.two) (by rw[c];exact h.site) (by rw[i];exact h.mail) (j h.log)
def aYa {seed:Int}{m:Nat}(hm:m<6):∀(l:List AC) (j:Nat),j+l.length<=2->(∀i (h:i<l.length),SiteIn seed ((j+i:Nat):Int) m l[i])->
  (gK (aO seed (m:Int)) (m:Int) j l).2=true/\(gK (aO seed (m:Int)) (m:Int) j l).1.length=l.length/\∀i (h:i<(gK (aO seed (m:Int)) (m:Int) j l).1.length),SiteIn seed ((j+i:Nat):Int) (m+1) (gK (aO seed (m:Int)) (m:Int) j l).1[i]
 |[],j,_,_=>⟨rfl,rfl,λi h=>by simp[gK] at h⟩
 |s::l,j,a,h=>by
  have h0:SiteIn seed (j:Int) m s:=h 0 (by simp);simp only[au] at a;obtain⟨c,d⟩:=h0.reg (by omega) hm;obtain⟨f,k,n⟩:=aYa hm l (j+1) (by omega) (λi hi=>by
   have:=h (i+1) (by simpa using hi);rw[show j+1+i=j+(i+1) by omega];simpa using this)
  have e:fC (aO seed (m:Int)) (aA (j:Int)) (m:Int)=Tf seed (j:Int) m:=by unfold Tf;rfl
  have o:gK (aO seed (m:Int)) (m:Int) j (s::l)=((gD s 1 (m:Int) (Tf seed (j:Int) m)).1::(gK (aO seed (m:Int)) (m:Int) (j+1) l).1,true):=by rw[gK,e,c,f];rfl
  rw[o];refine⟨rfl,by simp[k],λi hi=> ?_⟩;cases i with
  |zero=>simpa using d
  |succ i=>simp only[au] at hi;have:=n i (by omega);rw[show j+1+i=j+(i+1) by omega] at this;simpa using this
def Na (d:AD)(n:ByteArray)(h:Int)(r:Bool):(dO d n h r).1.Store=d.Store:=by unfold dO;cases(sF d n h r).2<;>rfl
def aQo (d:AD)(h:Int)(r:Bool):(kI d h r).Store=d.Store:=by unfold kI;rw[Na,Na]
theorem xI {w v:AA}{d:Int}(h:aL w d=true)(e:v.Devices.length=w.Devices.length):aL v d=true:=by
 grind[aL]
def WIn.app {m:Nat}{w:AA}(h:WIn m w)(hl:w.Devices.length<6):WIn m (appW w (bG (aO w.Seed (w.Devices.length:Int)))) where
 seed:=h.seed
 now:=h.now
 dlen:=by grind[List.length_append,List.length_cons,List.length_nil,appW]
 slen:=by unfold appW;simp only[ax,au,bl,h.slen]
 dev:=λk hk=>by
  have a:k<(w.Devices++[bG (aO w.Seed (w.Devices.length:Int))]).length:=hk;show StIn w.Seed k ((w.Devices++[bG (aO w.Seed (w.Devices.length:Int))])[k]'a).Store;rw[List.getElem_append];split
  ·rename_i c;exact h.dev k c
  ·simp only[ax,au,bl] at a;have e:k=w.Devices.length:=by omega
   subst e;simp only[ga,ic];exact⟨rfl,rfl,rfl,cP 0,show(0:Int)<=1000000 by decide⟩
 two:=h.two
 mle:=h.mle
 site:=h.site
 mail:=h.mail
 log:=h.log
def WIn.aCW {w:AA}(h:WIn w.Devices.length w){b:Int}(hn:w.Devices.length<6)(k2:aL w b=true):WIn (w.Devices.length+1) (aAU w b)/\(aAU w b).Seed=w.Seed/\(aAU w b).Devices.length=w.Devices.length:=by
 obtain⟨s1,s2,s3,s4,s5,s6⟩:=kR w b 0;have h0:=h.sync b 0;have h1:WIn w.Devices.length (add1 w b).1:=h0.aDC _ _ _ _;obtain⟨d,n,e,o,p,q,s⟩:=Mx (aM w b 0).1 b 1 (aT (aO w.Seed (w.Devices.length:Int))) (λ_=>(aG (aM w b 0).1 b).Key);have a:(add1 w b).1.Seed=w.Seed:=d.trans s1;have c:(add1 w b).1.Devices.length=w.Devices.length:=by show(jM _ _ _ _ _).1.Devices.length=_;rw[e,s3]
 obtain⟨u,f,k⟩:=aYa (seed:=w.Seed) hn (add1 w b).1.Sites 0 (by rw[h1.two];omega) (λi hi=>by
  have:=h1.site i hi;simp_all)
 have hd:aL (add1 w b).1 b=true:=xI k2 c;obtain⟨d0,d1,_⟩:=pU hd;refine⟨{
  seed:=by show bK (add1 w b).1.Seed=true;exact h1.seed
  now:=h1.now
  dlen:=by show 1<=((add1 w b).1.Devices.set _ _).length/\((add1 w b).1.Devices.set _ _).length<=6;rw[aw];exact h1.dlen
  slen:=by show(add1 w b).1.Stolen.length=((add1 w b).1.Devices.set _ _).length;rw[aw];exact h1.slen
  dev:=h1.aBS d1 (by rw[aQo];exact h1.aCB hd)
  two:=by show(aHc w b).1.length=2;exact f.trans h1.two
  mle:=by omega
  site:=λj l=>by
   have:=k j l;rw[cj] at this;show SiteIn (add1 w b).1.Seed (j:Int) _ _;rw[a];exact this
  mail:=h1.mail
  log:=h1.log},a,?_⟩
 show((add1 w b).1.Devices.set _ _).length=_;rw[aw,c]
theorem WIn.add {w:AA}(h:WIn w.Devices.length w)(b:Int):WIn (fK w b).1.Devices.length (fK w b).1/\(fK w b).1.Seed=w.Seed:=by
 unfold fK;cases a:Ib w b with
 |false=>simp[*]
 |true=>
  unfold Ib at a;simp only[ab,ca,ct] at a;obtain⟨⟨k1,k2,k3,k4⟩,k5,k6,k7,k8,k9⟩:=a;have hn:w.Devices.length<6:=by omega
  obtain⟨h2,f,i⟩:=h.aCW hn k2;have j:WIn (w.Devices.length+1) (sK w b).1:=h2.push b;obtain⟨c,o,d,p,q,s⟩:=Yr (aAU w b) b;have c:(sK w b).1.Seed=w.Seed:=c.trans f;have d:(sK w b).1.Devices.length=w.Devices.length:=d.trans i;have e:=j.app (by omega);rw[c,d] at e;have k:WIn (w.Devices.length+1) (Cz w b).1:=e.sync _ _;obtain⟨q1,q2,q3,q4,q5,q6⟩:=kR (appW (sK w b).1 (bG (aO w.Seed (w.Devices.length:Int)))) (w.Devices.length:Int) 0;have l:(qD (Cz w b).1 2).Devices.length=w.Devices.length+1:=by
   show(Cz w b).1.Devices.length=_;refine q3.trans ?_
   grind[List.length_append,List.length_cons,List.length_nil,appW]
  have n:=k.tell 2;simp only[ac];rw[l];exact⟨n,q1.trans c⟩
def bCz {k:Int}(h:bK k=true)(l:List Int):iE (dP k) l (rZ k l)=true:=by
 have:=aQl h
 grind[Te,bne,beq_eq_false_iff_ne,iE]
def bOg {l:List AF}{e:AF}(h:l=[]\/aY l=true)(hs:kY l e=true)(hl:l.length<40):aY (l++[e])=true:=by
 grind[iN,Bool.not_eq_true',aY,gM,kY,Mv,List.getElem_append_left,R5]
theorem Tg (l:List AF)(e:AF):aC (l++[e])=jF (aC l) e:=by simp[fp,aC]
theorem Nb (l:List AF)(e:AF):aD (l++[e])=bif e.Kind==2 then IntKind.i64.wrap (aD l+1) else aD l:=by simp[fp,aD]
theorem zI (l:List AF)(e:AF)(p:Int):dX (l++[e]) p=(dX l p||(e.Kind==2&&e.Device==p)):=by simp[ig,dX]
def mG (seed:Int)(k:Nat):Int:=aT (aO seed (k:Int))
theorem aOi {seed:Int}{i k:Nat}(hi:i<6)(hk:k<6)(h:i≠k):mG seed i≠mG seed k:=bKj (by omega) (by omega) (by omega)
def R6 (s:AK):bK (iT s)=true:=by simp[iM,iT]
theorem lY {l:List Int}{x:Int}:jE l x=true↔x∈l:=by
 grind[List.any_eq_true,jE]
structure NewLog (seed:Int) (n:Nat) (l:List AF):Prop where
 len:l.length=n
 devs:aC l=(List.range n).map (mG seed)
 rem:∀p,dX l p=false
 ep:aD l=0
 ok:n=0\/aY l=true
def rH (seed:Int):∀n,n<=6->NewLog seed n (aU seed n)
 |0,_=>⟨rfl,rfl,λ_=>rfl,rfl, .inl rfl⟩
 |n+1,hn=>by
  obtain⟨h1,h2,h,j,c⟩:=rH seed n (by omega);have a:jE (aC (aU seed n)) (mG seed n)=false:=by rw[fq,Ne,lY,h2];intro hm;obtain⟨i,hi,e⟩:=cg.1 hm;have hi:=iq.1 hi;exact aOi (by omega) (by omega) (by omega) e
  have d:kY (aU seed n) (Mo (aU seed n) 1 (mG seed n) (aO seed 0))=true:=by
   unfold kY;have v:iE (aT (aO seed 0)) [dF (bE5 (aU seed n) 1 (mG seed n) (aO seed 0))] (sI (aO seed 0) [dF (bE5 (aU seed n) 1 (mG seed n) (aO seed 0))])=true:=by unfold sI aT;exact bCz (R6 _) _
   show(((aU seed n).length:Int)==((aU seed n).length:Int)&&(iY (aU seed n)==iY (aU seed n)&&((jE (aC (aU seed n)) (aT (aO seed 0))||(((aU seed n).length:Int)==0&&aT (aO seed 0)==mG seed n))&&(iE (aT (aO seed 0)) [dF (bE5 (aU seed n) 1 (mG seed n) (aO seed 0))] (sI (aO seed 0) [dF (bE5 (aU seed n) 1 (mG seed n) (aO seed 0))])&&
    (!dX (aU seed n) (mG seed n)&&(true&&(!jE (aC (aU seed n)) (mG seed n)&&decide (((aC (aU seed n)).length:Int)<6))))))))=true
   rw[v,h,a,h2,h1];have f:(jE ((List.range n).map (mG seed)) (aT (aO seed 0))||((n:Int)==0&&aT (aO seed 0)==mG seed n))=true:=by
    cases n with
    |zero=>simp[mG]
    |succ n=>rw[show jE ((List.range (n+1)).map (mG seed)) (aT (aO seed 0))=true from lY.2 (cg.2 ⟨0,by simp,rfl⟩)];rfl
   rw[f];simp;omega
  have hl:=bOg (l:=aU seed n) (by
   rcases c with c|c
   ·subst c;exact .inl rfl
   ·exact .inr c) d (by omega)
  have e:aU seed (n+1)=aU seed n++[Mo (aU seed n) 1 (mG seed n) (aO seed 0)]:=by
   show(eX (aU seed n) 1 (aT (aO seed (n:Int))) (aO seed 0)).1=_;unfold eX;have hq:(decide (((aU seed n).length:Int)>0)&& !aY (aU seed n))=false:=by
    rcases c with c|c
    ·subst c;rfl
    ·rw[c];simp
   rw[hq,show aT (aO seed (n:Int))=mG seed n from rfl,hl];rfl
  rw[e];refine⟨by simp[h1],?_,λp=> ?_,?_, .inr hl⟩
  ·rw[Tg,fi,cX,<-h2];unfold jF;have hc:(aC (aU seed n)).contains (mG seed n)=false:=by rw[fq] at a ⊢;intro hc;exact a (lY.2 (by simpa using hc))
   show(bif (1:Int)==1 then(bif (aC (aU seed n)).contains (mG seed n) then _ else _) else _)=_;rw[hc];rfl
  ·rw[zI,h];rfl
  ·rw[Nb,j];rfl
theorem aYb {e:Int}{d:List Int}(hd:d.length<=200):∀(l:List Int) (i:Nat),(∀p∈l,bK p=true)->1<=e+(i:Int)->e+(i:Int)+(l.length:Int)<=2147483646->
  (gV e d i l).2=true/\(gV e d i l).1.length=l.length/\(gV e d i l).1.map (·.To)=l/\∀k (h:k<(gV e d i l).1.length) (h2:k<l.length),(gV e d i l).1[k]=nC l[k] (e+((i+k:Nat):Int)) d
 |[],i,_,_,_=>⟨rfl,rfl,rfl,λk h _=>by simp[gV] at h⟩
 |p::l,i,hp,h1,h2=>by
  simp only[au] at h2;obtain⟨j,n,o,s⟩:=aYb (e:=e) hd l (i+1) (λq hq=>hp q (by simp[hq])) (by push_cast;omega) (by push_cast at h2 ⊢;omega);have hk:=hp p (by simp);have hq:=aQl hk;have u:IntKind.i64.wrap (e+(i:Int))=e+(i:Int):=aJ (by omega) (by push_cast at h2;omega);have a:gP p≠0:=by unfold gP;rw[hk,ay,aa];omega
  have hb:iI p (IntKind.i64.wrap (e+(i:Int))) d=(nC p (e+(i:Int)) d,true):=by unfold iI;rw[u,cf.2 a,show bK (e+(i:Int))=true from iN (by omega) (by push_cast at h2;omega),ao (show ¬(d.length:Int)>200 by omega)];rfl
  have x:gV e d i (p::l)=(nC p (e+(i:Int)) d::(gV e d (i+1) l).1,true):=by rw[gV,hb,j];rfl
  rw[x];refine⟨rfl,by simp[n],?_,λk c f=> ?_⟩
  ·simp only[bo,o];rfl
  ·cases k with
   |zero=>rfl
   |succ k=>simp only[au] at c f;have:=s k (by omega) (by omega);simp only[fb];rw[this];congr 1;push_cast;omega
def bOh {l:List AO}{p:Int}:∀(n:Int),0<=n->n+(l.length:Int)<=1000000->l.foldl (λn b=>bif b.To==p then IntKind.i64.wrap (n+1) else n) n=n+((l.filter λb=>b.To==p).length:Int):=by induction l<;>grind[List.length_cons,aJ]
def bKm {l:List AO}(h:(l.map (·.To)).Nodup){p:Int}(hp:p∈l.map (·.To)):(l.filter λb=>b.To==p).length=1:=by induction l<;>grind[List.nodup_cons,List.filter_eq_nil_iff,absurd,beq_eq_false_iff_ne]
def bKn {log:List AF}{bx:AN}(h1:bx.Epoch=aD log)(h2:bx.Boxes.map (·.To)=aC log)(a:(aC log).Nodup)(c:(aC log).length<=1000):jT bx log=true:=by
 have hl:bx.Boxes.length=(aC log).length:=by rw[<-h2,bg]
 unfold jT;rw[h1,hl,eM,eM,du,cx,cG];intro p hp;unfold sJ;rw[bOh 0 (by omega) (by omega),bKm (by rw[h2];exact a) (by rw[h2];exact hp)];rfl
theorem bS7 (a b:Int):(jG [a,b]).length<=12:=by
 grind[List.flatten_cons,List.flatten_nil,List.length_append,jG,aCn]
def aHn {log:List AF}{key eph:Int}(h1:aY log=true)(h2:bK key=true)(a:∀p∈aC log,bK p=true)(c:(aC log).length<=1000)(d:1<=eph/\eph<=1000000):
  (bJ log key eph).2=true/\(bJ log key eph).1.Epoch=aD log/\(bJ log key eph).1.Boxes.map (·.To)=aC log/\∀k (h:k<(bJ log key eph).1.Boxes.length) (h2:k<(aC log).length),(bJ log key eph).1.Boxes[k]=nC (aC log)[k] (eph+(k:Int)) (jG [aD log,key]):=by
 grind[s4,s3,bJ,aD,gV,jG,aC,s1,s2,aYb,bS7]
theorem aC1 (seed:Int)(k:Nat):bK (mG seed k)=true:=by simp[bHy,R6,mG,aT]
def bC0 {seed:Int}{n:Nat}(hn:n<=6):((List.range n).map (mG seed)).Nodup:=by
 rw[kf,gz];refine(List.pairwise_lt_range).imp_of_mem ?_
 grind[aOi]
theorem R7 {seed:Int}{n:Nat}(h0:1<=n)(hn:n<=6):jT (iL seed n) (aU seed n)=true/\aY (aU seed n)=true/\(iL seed n).Epoch=0:=by
 obtain⟨h1,h2,f,c,d⟩:=rH seed n hn;have hl:aY (aU seed n)=true:=d.resolve_left (by omega);have hlen:(aC (aU seed n)).length<=1000:=by grind
 obtain⟨h,a,e,j⟩:=aHn (key:=bX seed 0) (eph:=1000) hl (by unfold bX;exact iM _ _) (λp hp=>by
  rw[h2] at hp;obtain⟨i,_,rfl⟩:=cg.1 hp;exact aC1 _ _) hlen ⟨by decide,by decide⟩
 refine⟨bKn a e (by rw[h2];exact bC0 hn) hlen,hl,?_⟩;unfold iL;rw[a,c]
def bC1 {seed:Int}{n:Nat}(h0:1<=n)(hn:n<=6):(jI seed n).Log=aU seed n:=by
 grind[fO,vI,jI,R7]
theorem aLm (d:AD)(l:List AF)(k:Int):(mQ d l k).1.Store=d.Store:=by unfold mQ;cases !aY l||(!cZ l d.Log||(decide (aD l<d.Epoch)|| !bK k))<;>rfl
theorem aUs (d:AD)(l:List AF)(b:AN)(s:AI):(bR d l b s).1.Store=d.Store:=by unfold bR;cases jW d l b s==0<;>rfl
theorem aQp (nm:ByteArray):∀(i:Nat) (d:AD),(Ic nm i d).Store=d.Store
 |0,d=>rfl
 |i+1,d=>by
  show(dO (Ic nm i d) nm (i:Int) false).1.Store=_;rw[Na,aQp nm i d]
def bKo {seed:Int}{n:Nat}(h0:1<=n):(jZ seed n).length=n/\∀k (h:k<(jZ seed n).length),(jZ seed n)[k].Store=aO seed (k:Int):=by
 have hl:(jZ seed n).length=n:=by
  grind[List.length_cons,List.length_map,List.length_drop,List.length_range,jZ,dR]
 grind[nwW,aLl,lT,xH,aQp,aLm,dR,Ae,jZ,aUs,bG]
def aLn {n k t pin seed:Int}(h:Tc n k t pin seed=true):WIn n.toNat (bY n k t pin seed)/\(bY n k t pin seed).Devices.length=n.toNat/\(bY n k t pin seed).Seed=seed:=by
 have hb:=h;unfold Tc at hb;simp only[ab] at hb;obtain⟨b1,f,i,l,d⟩:=hb;have r:=iA b1;unfold bY;rw[h,ac];obtain⟨d1,d2⟩:=bKo (seed:=seed) (n:=n.toNat) (by omega);have a:=bC1 (seed:=seed) (n:=n.toNat) (by omega) (by omega);have e:=(R7 (seed:=seed) (n:=n.toNat) (by omega) (by omega)).2.1;refine⟨{seed:=d,now:=⟨cP 0,show(0:Int)<=999900 by decide⟩,dlen:= ?_,slen:= ?_,dev:= ?_,two:=rfl,mle:=by omega,site:= ?_,mail:=rfl,log:= ?_},d1,rfl⟩
 ·grind
 ·show(List.replicate n.toNat false).length=(jZ seed n.toNat).length;rw[fm,d1]
 ·intro j c;show StIn seed j ((jZ seed n.toNat)[j]'c).Store;rw[d2 j c];exact⟨rfl,rfl,rfl,cP 0,show(0:Int)<=1000000 by decide⟩
 all_goals grind[aY,jI,Ad,dR,bCv]
def SiteIn.cut {seed j:Int}{n:Nat}{s:AC}(h:SiteIn seed j n s)(t:Int):SiteIn seed j n (gX t s):=by
 have a:=h.find;obtain⟨l,e,hl,hn⟩:=h.acc;have c:fU s 0=⟨1,3,l⟩:=by grind[fU]
 unfold gX;rw[a,show decide ((0:Int)>=0)=true from rfl,ac,c,show(0:Int).toNat=0 from rfl,e];have key:∃l',(nD ⟨1,3,l⟩ t).1=⟨1,3,l'⟩/\Mw seed j l'/\l'.length=l.length:=by
  unfold nD;cases hb: !bB ⟨1,3,l⟩||(decide (aS ⟨1,3,l⟩ t<0)||(gG ⟨1,3,l⟩ (aS ⟨1,3,l⟩ t)).Cut) with
  |true=>simp[*]
  |false=>
   simp only[bn] at hb;obtain⟨k,hk,d,o⟩:=Ah (l:=l) hb.2.1;have f:aS ⟨1,3,l⟩ t=(k:Int):=d.trans (by simp);have i:gG ⟨1,3,l⟩ (k:Int)=l[k]:=by grind[List.getD,List.getElem?_eq_getElem,gG]
   rw[f,i,aa,bq];exact⟨_,rfl,hl.set hk rfl rfl (hl k hk).2.2,aw⟩
 obtain⟨l',q1,q2,q3⟩:=key;rw[q1];have:=h.aBZ q2 (q3.trans hn) s.Logins s.Book (Yq h.book) rfl;exact this
def bOi {α β:Type}{P:Nat->β->Prop}{f:α->β}{l:List α}(h:∀j (a:j<l.length),P j (f l[j])):∀j (a:j<(l.map f).length),P j (l.map f)[j]:=(by simp[*])
def WIn.cut {m:Nat}{w:AA}(h:WIn m w)(b t:Int):WIn m (fG w b t).1/\(fG w b t).1.Seed=w.Seed/\(fG w b t).1.Devices.length=w.Devices.length:=by
 unfold fG;cases hq:(aM w b 0).2==0&&(!eT w b&&(!(b==t)&&bC w t)) with
 |false=>simp[*]
 |true=>
  simp only[ab] at hq;have h0:=(mP hq.1).1;simp only[ac];unfold oZ;cases(nE w b t).2&&((Pv w b t).2&&(Pw w b t).2) with
  |false=>simp[*]
  |true=>
   obtain⟨s1,s2,s3,s4,s5,s6⟩:=kR w b 0;have e:WIn m (jN w b):=h.sync b 0;have h1:WIn m (nE w b t).1:=e.aDC _ _ _ _;obtain⟨f,o,i,p,q,u,x⟩:=Mx (jN w b) b 2 (aT (aG w t).Store) (mR (aG (jN w b) b).Store);have d:(nE w b t).1.Devices=(jN w b).Devices:=i;have hd:aL (nE w b t).1 b=true:=xI h0.2 (by rw[d];exact s3);obtain⟨d0,d1,_⟩:=pU hd;have a:StIn (nE w b t).1.Seed b.toNat (kI (Pv w b t).1 t true).Store:=by
    rw[aQo];unfold Pv;rw[aLm];have:=h1.aCB hd
    grind[aG,nE,jN]
   have k:WIn m (aCt w b t):=by refine h1.upd rfl rfl (aw ..) rfl (h1.aBS d1 a) (by show((nE w b t).1.Sites.map (gX t)).length=2;rw[bg];exact h1.two) (bOi (P:=λj s=>SiteIn (nE w b t).1.Seed ((j:Nat):Int) m s) λj l=>(h1.site j l).cut t) h1.mail h1.log
   have c:aL (aCt w b t) b=true:=xI hd (aw ..);have n:WIn m (Pw w b t).1:=k.up c;obtain⟨u1,u2,u3,u4,u5,u6⟩:=bH0 (aCt w b t) b;refine⟨n.tell 4,?_,?_⟩
   ·show(Pw w b t).1.Seed=w.Seed;exact u1.trans (f.trans s1)
   ·show(Pw w b t).1.Devices.length=w.Devices.length;refine u3.trans ?_;show((nE w b t).1.Devices.set _ _).length=_;rw[aw,d];exact s3
def WIn.aCE {m:Nat}{w:AA}(h:WIn m w)(d:Int):WIn m (oK w d).1/\(oK w d).1.Seed=w.Seed/\(oK w d).1.Devices.length=w.Devices.length:=by
 unfold oK;cases dU w d 0&& !eT w d with
 |false=>simp[*]
 |true=>exact⟨h.upd rfl rfl rfl (aw ..) h.dev h.two h.site h.mail h.log,rfl,rfl⟩
def bKp {b:AP}(h:BookIn b)(now:Int):BookIn (nU b now)/\(nU b now).Seed=b.Seed:=by unfold nU;rw[h.ok];have hs:(b.Open.filter λc=>decide (c.Until>=now)).Sublist b.Open:=List.filter_sublist;exact⟨⟨h.next,bz hs.length_le h.len,h.ord.sublist hs,λc hc=>h.all c (hs.subset hc)⟩,rfl⟩
def WIn.tick {m:Nat}{w:AA}(h:WIn m w):WIn m (uC w).1/\(uC w).1.Seed=w.Seed/\(uC w).1.Devices.length=w.Devices.length:=by
 unfold uC;cases a:aP (sO w) with
 |false=>simp[*]
 |true=>
  refine⟨?_,rfl,rfl⟩;have hn:0<=(sO w).Now/\(sO w).Now<=999900:=by unfold aP at a;simp only[ab] at a;have:=iA a.1.1.1.1.1.1.1;assumption
  exact {
   seed:=h.seed
   now:=hn
   dlen:=h.dlen
   slen:=h.slen
   dev:=h.dev
   two:=by show(w.Sites.map _).length=2;rw[bg];exact h.two
   mle:=h.mle
   site:=bOi (P:=λj s=>SiteIn w.Seed ((j:Nat):Int) m s) λj c=>by
    have hs:=h.site j c;have he:=bKp (Yq hs.book) (sO w).Now;exact hs.aBM he.1 he.2
   mail:=h.mail
   log:=h.log}
def WIn.aCU {m:Nat}{w:AA}(h:WIn m w)(a:List Int)(pin:Int):WIn m (fP w a pin).1/\(fP w a pin).1.Seed=w.Seed/\(fP w a pin).1.Devices.length=w.Devices.length:=by
 unfold fP;cases !aP w with
 |true=>simp[*]
 |false=>have h1:WIn m {w with Hosts:=(Ie w.aAO w.Hosts a pin (bCp w)).1}:=h.upd rfl rfl rfl rfl h.dev h.two h.site h.mail h.log;exact⟨h1.tell 5,rfl,rfl⟩
def WIn.aCR {m:Nat}{w:AA}(h:WIn m w)(pin:Int):WIn m (wD w pin).1/\(wD w pin).1.Seed=w.Seed/\(wD w pin).1.Devices.length=w.Devices.length:=h.aCU _ _
def WIn.renew {m:Nat}{w:AA}(h:WIn m w):WIn m (eO w).1/\(eO w).1.Seed=w.Seed/\(eO w).1.Devices.length=w.Devices.length:=by
 unfold eO;cases aP w&&(fB w.Hosts (aCm w)).2 with
 |false=>simp[*]
 |true=>exact⟨h.upd rfl rfl rfl rfl h.dev h.two h.site h.mail h.log,rfl,rfl⟩
def WIn.roll {m:Nat}{w:AA}(h:WIn m w)(i b:Int):WIn m (fT w i b).1/\(fT w i b).1.Seed=w.Seed/\(fT w i b).1.Devices.length=w.Devices.length:=by
 unfold fT;cases !aP w||(decide (i<0)||decide (i>=(w.Hosts.length:Int))) with
 |true=>simp[*]
 |false=>
  simp only[aa];cases(fM (w.Hosts.getD i.toNat default) b).2 with
  |false=>simp[*]
  |true=>exact⟨h.upd rfl rfl rfl rfl h.dev h.two h.site h.mail h.log,rfl,rfl⟩
def aQq (w:AA)(d j:Int)(o:AQ):(iK w d j o).1.Seed=w.Seed/\(iK w d j o).1.Devices.length=w.Devices.length:=by
 unfold iK;cases !dU w d j with
 |true=>simp
 |false=>
  cases !(aBA w j).2.2.2 with
  |true=>simp
  |false=>
   cases !((Sz w d j o).2.1==0) with
   |true=>exact⟨rfl,aw ..⟩
   |false=>exact⟨rfl,aw ..⟩
def aHo (w:AA)(d:Int)(n:ByteArray)(a:Int)(r:Bool):(rF w d n a r).1.Seed=w.Seed/\(rF w d n a r).1.Devices.length=w.Devices.length:=by
 grind[aP,aL,dO,aG,List.length_set,rF]
def Ti {α:Type}[Inhabited α]{f:α->Nat}{K:Nat}{x:α}:∀{l:List α} {i:Nat},i<l.length->f x<=f (l.getD i default)+K->((l.set i x).map f).sum<=(l.map f).sum+K
 |y::l,0,_,h=>by
  simp only[List.getD,fY,ck] at h;simp only[jb,bo,de];omega
 |y::l,i+1,hi,h=>by
  have:=Ti (f:=f) (l:=l) (i:=i) (x:=x) (K:=K) (by simpa using hi) (by simpa[List.getD] using h);simp only[gx,bo,de];omega
def Ig {w:AA}{d:Int}(hd:aL w d=true){x:AD}{K:Nat}(a:x.sz<=(aG w d).sz+K):({w with Devices:=w.Devices.set d.toNat x}:AA).sz<=w.sz+K:=by
 obtain⟨h0,h1,h2⟩:=pU hd;have:=Ti (f:=AD.sz) (K:=K) h1 (by assumption)
 grind[AA.sz,List.length_set]
def bFk {w:AA}{j:Nat}(a:j<w.Sites.length){x:AC}{K:Nat}(c:x.sz<=(w.Sites.getD j default).sz+K):({w with Sites:=w.Sites.set j x}:AA).sz<=w.sz+K:=by
 have:=Ti (f:=AC.sz) (K:=K) a c
 grind[AA.sz,List.length_set]
def WIn.aCS {m:Nat}{w:AA}(h:WIn m w):w.aAC.Log.length<=40:=by have:=h.log;unfold aY at this;rw[ab] at this;have:=iA this.1;omega
def bC2 {m:Nat}{w:AA}(h:WIn m w)(d b:Int):(aM w d b).1.sz<=w.sz+60:=by
 have hl:=h.aCS;unfold aM;cases hb:aP w&&aL w d with
 |false=>simp
 |true=>rw[ab] at hb;simp only[ac];have:=aP5 (aG w d) w.aAC.Log w.aAC.Boxes (eZ w.aAC b).1;exact Ig hb.2 (by omega)
def bOj (w:AA)(d:Int)(n:ByteArray)(a:Int)(r:Bool):(rF w d n a r).1.sz<=w.sz+1:=by
 unfold rF;cases hb:aP w&&aL w d with
 |false=>simp
 |true=>
  rw[ab] at hb;simp only[ac];cases(dO (aG w d) n a r).2 with
  |false=>simp
  |true=>simp_all[Ig,Ia]
def bOk {m:Nat}{w:AA}(h:WIn m w)(d:Int):(fH w d).1.sz<=w.sz+561:=by
 have hl:=h.aCS
 grind[fH,Yi,aM,Sq]
def add_add {w:AA}(h:WIn w.Devices.length w)(b:Int):(fK w b).1.sz<=w.sz+2500:=by
 have hl:=h.aCS;unfold fK;cases a:Ib w b with
 |false=>simp
 |true=>
  unfold Ib at a;simp only[ab,ca,ct] at a;obtain⟨⟨k1,k2,k3,k4⟩,k5,k6,k7,k8,k9⟩:=a;obtain⟨s1,s2,s3,s4,s5,s6⟩:=kR w b 0;have a0:=bC2 h b 0;have h0:=h.sync b 0;have h1:WIn w.Devices.length (add1 w b).1:=h0.aDC _ _ _ _;obtain⟨c,e,i,o⟩:=aCr (aM w b 0).1 b 1 (aT (aO w.Seed (w.Devices.length:Int))) (λ_=>(aG (aM w b 0).1 b).Key);rw[s6] at c e;have c:(add1 w b).1.sz<=(aM w b 0).1.sz+14*(w.aAC.Log.length+1):=c;have e:(add1 w b).1.aAC.Log.length<=w.aAC.Log.length+1:=e;have hd:aL (add1 w b).1 b=true:=xI k2 (by show(jM _ _ _ _ _).1.Devices.length=_;rw[i,s3]);obtain⟨p,s⟩:=aHd (st:=aO w.Seed (w.Devices.length:Int)) (n:=(w.Devices.length:Int)) (j:=0) (l:=(add1 w b).1.Sites);have u:=h1.two;have k:(aAU w b).sz<=(add1 w b).1.sz+4:=by
   have q:=Ig (w:=(add1 w b).1) hd (x:=kI (aG (add1 w b).1 b) (w.Devices.length:Int) false) (K:=2) (aOb _ _ _)
   grind[AA.sz,aAU,aHc]
  have f:=(Yi (w:=aAU w b) (d:=b) k8).2;have f:(sK w b).1.sz<=(aAU w b).sz+(aAU w b).aAC.Log.length+521:=f;have pl:=(Yi (w:=aAU w b) (d:=b) k8).1;have pl:(sK w b).1.aAC.Log=(aAU w b).aAC.Log:=pl;have y:(aAU w b).aAC.Log.length=(add1 w b).1.aAC.Log.length:=rfl;have ap:=aCs (sK w b).1 (bG (aO w.Seed (w.Devices.length:Int)));have nd:(bG (aO w.Seed (w.Devices.length:Int))).sz=0:=rfl;have z:=(mP (w:=appW (sK w b).1 (bG (aO w.Seed (w.Devices.length:Int)))) k9).2.2.2
  grind[aOc,Cz,appW,sK,bG,aO]
def bRn {m:Nat}{w:AA}(h:WIn m w)(b t:Int):(fG w b t).1.sz<=w.sz+2500:=by
 have hl:=h.aCS;unfold fG;cases hq:(aM w b 0).2==0&&(!eT w b&&(!(b==t)&&bC w t)) with
 |false=>simp
 |true=>
  simp only[ab] at hq;obtain⟨q1,q2,q3,q4⟩:=mP hq.1;simp only[ac];unfold oZ;cases(nE w b t).2&&((Pv w b t).2&&(Pw w b t).2) with
  |false=>simp
  |true=>
   obtain⟨c,e,a,i⟩:=aCr (jN w b) b 2 (aT (aG w t).Store) (mR (aG (jN w b) b).Store);have e0:(jN w b).aAC.Log=w.aAC.Log:=by show(aM w b 0).1.aAC.Log=_;rw[q2]
   rw[e0] at c e;have c:(nE w b t).1.sz<=(jN w b).sz+14*(w.aAC.Log.length+1):=c;have a:(nE w b t).1.Devices=(jN w b).Devices:=a;have q4:(jN w b).sz<=w.sz+w.aAC.Log.length+20:=q4;have hd:aL (nE w b t).1 b=true:=xI q1.2 (by rw[a];exact q3);have j:(aHe w b t).length<=w.aAC.Log.length+1:=by
    grind[vK,jN,aT,aG,aHe]
   have d:aG (nE w b t).1 b=aG (jN w b) b:=by unfold aG;rw[a]
   have f:(kI (Pv w b t).1 t true).sz<=(aG (nE w b t).1 b).sz+(w.aAC.Log.length+3):=by
    grind[Pv,aG,jN,aHe,aP7,mR,aOb]
   have k:(aCt w b t).sz<=(nE w b t).1.sz+(w.aAC.Log.length+3):=by
    have q:=Ig (w:=(nE w b t).1) hd f
    grind[AA.sz,List.length_map,aCt,bCl,nE]
   grind[aOc,Pw,aCt,bS2,aL,xI,List.length_set]
structure Kept (w v:AA):Prop where
 wi:WIn v.Devices.length v
 seed:v.Seed=w.Seed
 sz:v.sz<=w.sz+3000
def Kept.of {w v:AA}(h:WIn w.Devices.length v/\v.Seed=w.Seed/\v.Devices.length=w.Devices.length)(a:v.sz<=w.sz+3000):Kept w v:=⟨by rw[h.2.2];exact h.1,h.2.1,a⟩
def bKq (s:AC)(c t:Int)(x:AY)(h:aF s 1=0)(h0:0<s.Accounts.length):(pE s 1 c t x).1.sz<=s.sz+1:=by
 have hb:(qE s.Book c 1 t).1.Open.length<=s.Book.Open.length:=by
  unfold qE;cases !eQ s.Book||decide (dQ s.Book c<0) with
  |true=>exact ai _
  |false=>simp only[aa,ax,bv,cz];omega
 have d:∀a x z q,(jX a x z q).1.sz=a.sz:=λa x z q=>by
  unfold jX;cases !bB a||(decide (aS a x.Handle<0)||(gG a (aS a x.Handle)).Cut) with
  |true=>rfl
  |false=>simp only[aa,AJ.sz];cases kJ (gG a (aS a x.Handle)).Public x z q (gG a (aS a x.Handle)).Counter==0<;>cases kJ (gG a (aS a x.Handle)).Public x z q (gG a (aS a x.Handle)).Counter==4<;>simp
 have hs:=Ti (f:=AJ.sz) (K:=0) (l:=s.Accounts) (i:=0) (x:=(jX (fU s 0) x s.Name (fJ s.Book c)).1) h0 (by rw[d];exact ai _);unfold pE;rw[h];cases !dI s||decide ((0:Int)<0) with
 |true=>exact dy _
 |false=>
  simp only[aa];cases !(qE s.Book c 1 t).2 with
  |true=>simp only[ac,AC.sz];omega
  |false=>
   simp only[aa];cases !sM (fU s 0) 3 with
   |true=>simp only[ac,AC.sz];omega
   |false=>
    simp only[aa];cases !((jX (fU s 0) x s.Name (fJ s.Book c)).2==0) with
    |true=>simp only[ac,AC.sz,show(0:Int).toNat=0 from rfl,aw];omega
    |false=>simp only[aa,AC.sz,show(0:Int).toNat=0 from rfl,aw,ax,au,bl];omega
def bKr (s:AC)(i n:Int):(lX s i n).1.sz<=s.sz+1:=by
 unfold lX;cases dI s&&(!decide (aF s i<0)&&(eH s.Book i n).2.2) with
 |false=>exact dy _
 |true=>
  have hb:(eH s.Book i n).1.Open.length<=s.Book.Open.length+1:=by
   unfold eH;cases eQ s.Book&&(!(s.Book.Next==1000000)&&(bI i 0 1000000&&bI n 0 1000000)) with
   |false=>simp only[aa];omega
   |true=>
    simp only[ac];cases decide ((s.Book.Open.length:Int)>=16) with
    |true=>simp only[ac,ax,cz,au,bl];omega
    |false=>simp only[aa,ax,au,bl];omega
  simp only[ac,AC.sz];omega
def bKs {m:Nat}{w:AA}(h:WIn m w)(d j:Int)(o:AQ):(iK w d j o).1.sz<=w.sz+3:=by
 unfold iK;cases ht:dU w d j with
 |false=>simp only[db,ac];omega
 |true=>
  have a:=ht;simp only[dU,ab] at a;have h2:=h.two;have hq:=a.2.2;simp only[qA,ab,bp] at hq;have c:j.toNat<w.Sites.length:=by omega
  have es:fA w j=w.Sites[j.toNat]:=by unfold fA;simp[List.getD,ae c]
  have hs:=h.site _ c;rw[<-es,show((j.toNat:Nat):Int)=j by omega] at hs;have hb:SiteIn w.Seed j m (aBA w j).1:=hs.begin 1 w.Now;have f:(aBA w j).1.sz<=(fA w j).sz+1:=bKr _ _ _;obtain⟨l,e,_⟩:=hb.acc;have i:(Sz w d j o).1.sz<=(aBA w j).1.sz+1:=bKq _ _ _ _ hb.find (by rw[e];simp);have k:(aUp w d j o).sz<=w.sz+2:=by have q1:=Ig (w:=w) a.2.1 (x:={aG w d with Store:=(aCv w d j o).1}) (K:=0) (ai _);have q2:=bFk (w:=w) c (x:=(Sz w d j o).1) (K:=2) (by show _<=(fA w j).sz+2;omega);unfold aUp;simp only[AA.sz] at q1 q2 ⊢;omega
  simp only[ay,aa];cases !(aBA w j).2.2.2 with
  |true=>simp only[ac];omega
  |false=>
   simp only[aa];cases !((Sz w d j o).2.1==0) with
   |true=>simp only[ac];omega
   |false=>have:=aOc (aUp w d j o) 1;simp only[aa];omega
def bFl {w:AA}(h:WIn w.Devices.length w)(d j:Int)(o:AQ):Kept w (iK w d j o).1:=by obtain⟨k1,k2⟩:=aQq w d j o;have:=bKs h d j o;exact .of ⟨h.visit d j o,k1,k2⟩ (by omega)
def Kept.refl {w:AA}(h:WIn w.Devices.length w):Kept w w:=⟨h,rfl,cM _ _⟩
def bOl {w:AA}(h:WIn w.Devices.length w)(b:Bool)(d j:Int)(o:AQ):Kept w (bif b then qJ w d j o else(w,1)).1:=by
 cases b with
 |true=>exact bFl h d j o
 |false=>exact .refl h
def bOm (w:AA)(i b:Int):(fT w i b).1.sz<=w.sz:=by
 unfold fT;cases hc: !aP w||(decide (i<0)||decide (i>=(w.Hosts.length:Int))) with
 |true=>exact ai _
 |false=>
  have hi:=Ml (bn.1 hc).2;simp only[aa];cases(fM (w.Hosts.getD i.toNat default) b).2 with
  |false=>exact ai _
  |true=>have:=Ti (f:=AG.sz) (K:=0) (l:=w.Hosts) (i:=i.toNat) (x:=(fM (w.Hosts.getD i.toNat default) b).1) (by omega) (by rw[bB7];exact ai _);simp only[ac,AA.sz,aw];omega
def bRo (w:AA):(uC w).1.sz<=w.sz:=by
 unfold uC;cases aP (sO w) with
 |false=>exact ai _
 |true=>
  have he:∀b n,(nU b n).Open.length<=b.Open.length:=λb n=>by
   unfold nU;cases eQ b with
   |false=>exact ai _
   |true=>exact eW _ _
  have hs:∀(l:List AC) n,((l.map λs=>({s with Book:=nU s.Book n}:AC)).map AC.sz).sum<=(l.map AC.sz).sum:=λl n=>by
   induction l with
   |nil=>exact ai _
   |cons s l a=>have:=he s.Book n;simp only[bo,de,AC.sz] at a ⊢;omega
  have:=hs w.Sites (sO w).Now;simp only[ac,AA.sz,sO,bg] at this ⊢;omega
def aHp {b:List Int}{p:Nat}{h:Int}{t:List Int}(e:b.drop p=h::t):p<b.length/\b.getD p 0=h/\b.drop (p+1)=t:=by
 grind[List.getD,List.getElem?_eq_getElem,List.drop_eq_getElem_cons,List.length,List.length_drop,List.length_cons]
def split_mul (r P:Int):r*P=r/128*(P*128)+r%128*P:=by
 have h:128*(r/128)+r%128=r:=Int.mul_ediv_add_emod r 128
 conv=>lhs;rw[<-h]
 rw[Int.add_mul,fe 128,eL,fe 128 P]
def bH1 {b y:List Int}{p:Nat}:∀(k i:Nat) (n r:Int),b.drop (p+i)=uvE k r++y->0<=r->r<128^(k+1)->(0<i->r≠0)->0<=n->n+r*128^i<=1000000000000->
  uvG b p (k+1) i n=(n+r*128^i,((p+i+(uvE k r).length:Nat):Int),true)
 |0,i,n,r,hd,h0,h1,hi,hn,hm=>by
  obtain⟨d1,d2,d3⟩:=aHp (show b.drop (p+i)=r::y from hd);have hr:r<128:=by simpa using h1
  unfold uvG;rw[cQ d1,d2,ak hr,ac,show r%128=r by omega,ao (show ¬n+r*128^i>1000000000000 by omega),gn];have:(decide (0<i)&&r==0)=false:=by
   by_cases c:0<i
   ·rw[cf.2 (hi c),dl]
   ·rw[ao c,fu]
  rw[this];rfl
 |k+1,i,n,r,hd,h0,h1,hi,hn,hm=>by
  have hp:(0:Int)<=128^i:=Int.pow_nonneg (by decide);have hs:=split_mul r (128^i);have a:(128:Int)^(i+1)=128^i*128:=fc ..;unfold uvE at hd ⊢;by_cases hb:r>127
  ·rw[ak hb,ac] at hd ⊢;obtain⟨d1,d2,d3⟩:=aHp (show b.drop (p+i)=(r%128+128)::(uvE k (r/128)++y) from hd);have hq:(r/128)<128^(k+1):=by have:(128:Int)^(k+1+1)=128^(k+1)*128:=fc ..;omega
   have e:0<=r%128*128^i:=iv (by omega) hp;have d:=bH1 k (i+1) (n+r%128*128^i) (r/128) (by rw[show p+(i+1)=p+i+1 by omega];exact d3) (by omega) hq (λ_=>by omega) (by omega) (by rw[a];omega);rw[uvG,cQ d1,d2,ao (show ¬r%128+128<128 by omega),aa,show(r%128+128)%128=r%128 by omega,d,a];simp only[au,cU,and_true];constructor
   ·omega
   ·congr 1;omega
  ·rw[ao hb,aa] at hd ⊢;obtain⟨d1,d2,d3⟩:=aHp (show b.drop (p+i)=r::y from hd);unfold uvG;rw[cQ d1,d2,ak (show r<128 by omega),ac,show r%128=r by omega,ao (show ¬n+r*128^i>1000000000000 by omega),gn];have:(decide (0<i)&&r==0)=false:=by
    by_cases c:0<i
    ·rw[cf.2 (hi c),dl]
    ·rw[ao c,fu]
   rw[this];rfl
def bH2 {x y:List Int}{n:Int}(h:0<=n/\n<=1000000000000):zC (x++(enc1 n++y)) (x.length:Int)=(n,((x.length+(enc1 n).length:Nat):Int),true):=by
 have e:=aOa h;unfold zC;rw[dk (by omega),bq,e];have hp:(128:Int)^(5+1)=4398046511104:=by decide
 have:=bH1 (b:=x++(uvE 5 n++y)) (y:=y) (p:=x.length) 5 0 0 n (by simp) h.1 (by omega) (λh=>by omega) (by decide) (by simp;omega);simp[*]
def aQr:∀(t x y s:List Int),aUn t->kX (x++(jG t++y)) t.length (x.length:Int) s=(s++t,((x.length+(jG t).length:Nat):Int),true)
 |[],x,y,s,_=>by simp[kX,jG]
 |n::t,x,y,s,h=>by
  have hn:=h n (by simp);have c:=bH2 (x:=x) (y:=jG t++y) hn;rw[vG,cq];show kX _ (t.length+1) _ _=_;rw[kX,c];simp only[ac];have a:=aQr t (x++enc1 n) y (s++[n]) (λv hv=>h v (by simp[hv]));rw[ax,cq] at a;rw[a];simp[gm]
def aQs:∀l:List AH,mF (kH l)=l/\lQ (kH l)=true
 |[]=>⟨rfl,rfl⟩
 |e::l=>by
  obtain⟨h1,h2⟩:=aQs l;have a:kH (e::l)=aUo e++kH l:=by simp[kH]
  rw[a];obtain⟨s,h,v,d⟩:=e;cases d with
  |true=>exact⟨by show(⟨s,h,v,(1:Int)==1⟩:AH)::mF (kH l)=_;rw[h1];rfl,by show(decide ((1:Int)<=1)&&lQ (kH l))=true;rw[h2];rfl⟩
  |false=>exact⟨by show(⟨s,h,v,(0:Int)==1⟩:AH)::mF (kH l)=_;rw[h1];rfl,by show(decide ((0:Int)<=1)&&lQ (kH l))=true;rw[h2];rfl⟩
def bKt {b:AB}(h:aR b=true):∀e∈b.Entries,(0<=e.Site/\e.Site<=2147483646)/\(0<=e.Handle/\e.Handle<=1000000)/\(1<=e.Version/\e.Version<=1000000):=λe he=>by
 unfold aR at h;rw[ab,ca] at h;obtain⟨i,hi,rfl⟩:=df.1 he;have:=R5 h.2 i hi;unfold aPv at this;simp only[bn,cL] at this;have h1:=iA this.1;have h2:=iA this.2.1;have a:=iA this.2.2.1;omega
def bRp {b:AB}(h:aR b=true):aUn (qB b):=λv hv=>by
 have hl:=mO h;unfold qB at hv;rcases bw.1 hv with hv|hv
 ·grind
 ·unfold kH at hv;obtain⟨e,he,hv⟩:=List.mem_flatMap.1 hv;obtain⟨h1,h2,a⟩:=bKt h e he
  grind[aUo]
def bKu {b:AB}(h:aR b=true):Dt (nS b)=(b,true):=by
 have hl:=mO h;have hv:=bRp h;have he:nS b=enc1 (b.Entries.length:Int)++jG (kH b.Entries):=by unfold nS qB;rw[h,ac];rfl
 have c:zC (nS b) 0=((b.Entries.length:Int),(((enc1 (b.Entries.length:Int)).length:Nat):Int),true):=by have:=bH2 (x:=[]) (y:=jG (kH b.Entries)) (n:=(b.Entries.length:Int)) (by omega);simp_all
 have hd:=aQr (kH b.Entries) (enc1 (b.Entries.length:Int)) [] [] (λv d=>hv v (by grind[qB]));rw[cY,<-he,vH,bu] at hd;have a:(((enc1 (b.Entries.length:Int)).length+(jG (kH b.Entries)).length:Nat):Int)=((nS b).length:Int):=by rw[he,ax]
 obtain⟨e,f⟩:=aQs b.Entries;unfold Dt;rw[c,show(4*(b.Entries.length:Int)).toNat=4*b.Entries.length by omega,hd,ao (show ¬(b.Entries.length:Int)>20 by omega)];simp_all[bCf]
theorem bH3 {α β:Type}{y:Nat->α->β}:∀{l:List α} {i k:Nat} (h:k<l.length) (h2:k<(Pq (λi x=>[y i x]) i l).length),(Pq (λi x=>[y i x]) i l)[k]=y (i+k) l[k]
 |x::l,i,0,_,_=>rfl
 |x::l,i,k+1,h,h2=>by
  have:=bH3 (y:=y) (l:=l) (i:=i+1) (k:=k) (by simpa using h) (by rw[rY];simpa using h);rw[show i+1+k=i+(k+1) by omega] at this;exact this
theorem bC3 {k:Int}{d:List Int}(h:∀z∈d,0<=z/\z<=255):Sa k (nT k d)=d:=by
 apply List.ext_getElem
 ·unfold Sa nT;rw[rY,rY]
 ·intro i h1 h2;have a:i<(nT k d).length:=by simp_all[rY,nT]
  grind[IntKind.wrap_u8,bP,aUi,bE4,List.getElem_mem,nT,bH3,Sa]
def aYc {k e v:Int}{b:AB}(hk:bK k=true)(he:0<=e/\e<=1000000)(hv:0<=v/\v<=1000000)(hb:aR b=true):gZ k (gB k e v b)=(b,true):=by
 have hm:(gB k e v b).MAC=jA k (gB k e v b):=by simp[gB,jA]
 unfold gZ;rw[hm,dr,hk,show(gB k e v b).Epoch=e from rfl,show(gB k e v b).Version=v from rfl,iN he.1 he.2,iN hv.1 hv.2];show Dt (Sa (lW k e v) (nT (lW k e v) (nS b)))=(b,true);rw[bC3 (Sm (aCq b)),bKu hb]
def bOn {p e:Int}{d:List Int}(hp:bK p=true)(he:bK e=true)(hl:d.length<=200)(hd:∀z∈d,0<=z/\z<=255):gH p (nC (dP p) e d)=(d,true):=by
 grind[Sr,bne_self_eq_false,decide_eq_false,bC3,gH,nC,dP,Zd,iU,Te,nT]
def bFm {p:Int}{b:AO}(h:b.To≠dP p):(gH p b).2=false:=by unfold gH;rw[bne,cf.2 h];cases bK p<;>rfl
def aQt {p:Int}{d:List Int}(hp:bK p=true)(hl:d.length<=200)(hd:∀z∈d,0<=z/\z<=255):∀{bs:List AO} {k:Nat} (hk:k<bs.length),(∀j (a:j<bs.length),j<k->bs[j].To≠dP p)->(∃e,bK e=true/\bs[k]=nC (dP p) e d)->gU bs p=(d,true)
 |b::bs,0,_,_,⟨e,he,hb⟩=>by
  have hb:b=nC (dP p) e d:=hb;rw[gU,hb,bOn hp he hl hd];rfl
 |b::bs,k+1,hk,hn,⟨e,he,hb⟩=>by
  have h0:b.To≠dP p:=hn 0 (by simp) (by omega);rw[gU,bFm h0,aa];exact aQt hp hl hd (by simpa using hk) (λj a c=>hn (j+1) (by simpa using a) (by omega)) ⟨e,he,hb⟩
structure BoxIn (log:List AF) (bx:AN) (key:Int):Prop where
 ep:bx.Epoch=aD log
 to:bx.Boxes.map (·.To)=aC log
 nd:(aC log).Nodup
 kok:bK key=true
 box:∀k (h:k<bx.Boxes.length),∃e,bK e=true/\bx.Boxes[k]=nC bx.Boxes[k].To e (jG [aD log,key])
 eps:0<=aD log/\aD log<=40
def bU9 {k:Int}(h:bK k=true):0<=k/\k<=1000000000000:=by have:=aQl h;omega
def Nc {log:List AF}{bx:AN}{key:Int}(h:BoxIn log bx key){s:AK}(hs:aT s∈aC log):bL s bx=(key,true):=by
 obtain⟨h1,h2,f,i,l,p⟩:=h;rw[<-h2] at hs f;obtain⟨k,hk,e⟩:=df.1 hs;have a:k<bx.Boxes.length:=by simpa using hk
 have e:bx.Boxes[k].To=dP (iT s):=by rw[jr] at e;rw[e];rfl
 have hd:(jG [aD log,key]).length<=12:=bS7 _ _;have n:gU bx.Boxes (iT s)=(jG [aD log,key],true):=by
  refine aQt (R6 s) (by omega) (Q5 _) a (λj o d he=> ?_) ?_
  ·have:=eo.1 f j k (by simpa using o) (by simpa using a) d;rw[jr,jr] at this;exact this (by rw[he,e])
  ·obtain⟨q,hq,hb⟩:=l k a;rw[e] at hb;exact⟨q,hq,hb⟩
 have c:jS (jG [aD log,key]) 0 2=([aD log,key],((jG [aD log,key]).length:Int),true):=by
  have:=aQr [aD log,key] [] [] [] (λv hv=>by
   simp only[ba,gR,or_false] at hv;rcases hv with rfl|rfl
   ·omega
   ·exact bU9 i)
  simp only[bu,cY,bl,cj] at this;unfold jS;rw[show bI 2 0 100=true from rfl,iN (by omega) (by omega)];exact this
 unfold bL Mj;rw[n,c];show(bif !true||(!true||(((jG [aD log,key]).length:Int) !=((jG [aD log,key]).length:Int)||(aD log !=bx.Epoch|| !bK key))) then(0,false) else(key,true))=(key,true);rw[dr,h1,dr,i];rfl
def aQu {log:List AF}{bx:AN}{key:Int}(h:BoxIn log bx key)(hl:aY log=true){d:AD}(he:cZ log d.Log=true)(hs:aT d.Store∈aC log)
  {e v:Int} {b:AB} (hv:0<=v/\v<=1000000) (hb:aR b=true) (i:e=aD log) (ho:d.Epoch<e\/(d.Epoch=e/\d.Version<=v)) (hm:(dS d.aAD b).2=true):
  bR d log bx (gB key e v b)=(⟨d.Store,log,key,e,v,(dS d.aAD b).1⟩,0):=by
 have a:=Nc h hs;have j:=h.eps;have c:gZ key (gB key e v b)=(b,true):=aYc h.kok (by omega) hv hb;have f:jW d log bx (gB key e v b)=0:=by
  unfold jW;rw[hl,he,lY.2 hs,a,h.ep,c,hm,dr,show(gB key e v b).Epoch=e from rfl,show(gB key e v b).Version=v from rfl];have:(decide (e<aD log)||(decide (e<d.Epoch)||(e==d.Epoch&&decide (v<d.Version))))=false:=by
   rw[ao (show ¬e<aD log by omega),ao (show ¬e<d.Epoch by omega),cu,cu];rcases ho with ho|ho
   ·rw[cf.2 (show e≠d.Epoch by omega),fu]
   ·rw[ao (show ¬v<d.Version by omega),dl]
  rw[this];rfl
 unfold bR;rw[f,a,c];rfl
def bC4 (log:List AF):cZ log []=true:=by unfold cZ;simp[gM]
def bOo (a:AF):bJ1 a a=true:=by unfold bJ1;simp
theorem aLo (log r:List AF):cZ (log++r) log=true:=by
 unfold cZ;rw[ak (by simp),cx,ca];exact Mv λk hk=>by
  rw[cj,cL];have:(log++r).getD k default=log[k]:=by simp[List.getD,av hk,ae hk]
  rw[this];exact bOo _
def bC5 (log:List AF):cZ log log=true:=by simpa using aLo log []
theorem bC6 {seed:Int}{n:Nat}(h0:1<=n)(hn:n<=6):BoxIn (aU seed n) (iL seed n) (bX seed 0):=by
 obtain⟨h1,h2,s,h,j⟩:=rH seed n hn;have hl:aY (aU seed n)=true:=j.resolve_left (by omega);have hlen:(aC (aU seed n)).length<=1000:=by rw[h2,bg,fo];omega
 have hk:bK (bX seed 0)=true:=by unfold bX;exact iM _ _
 obtain⟨u,l,f,o⟩:=aHn (key:=bX seed 0) (eph:=1000) hl hk (λp hp=>by
  rw[h2] at hp;obtain⟨i,_,rfl⟩:=cg.1 hp;exact aC1 _ _) hlen ⟨by decide,by decide⟩
 have a:(aC (aU seed n)).Nodup:=by rw[h2];exact bC0 hn
 refine⟨l,f,a,hk,λk c=> ?_,by rw[h];exact⟨by decide,by decide⟩⟩;have q:(iL seed n).Boxes.length=(aC (aU seed n)).length:=by have:=congrArg List.length f;rw[bg] at this;exact this
 have d:k<(aC (aU seed n)).length:=by omega
 have hb:=o k c d;have e:(iL seed n).Boxes[k].To=(aC (aU seed n))[k]:=by show(bJ (aU seed n) (bX seed 0) 1000).1.Boxes[k].To=_;rw[hb];rfl
 refine⟨1000+(k:Int),iN (by omega) (by omega),?_⟩;rw[e];exact hb
def nwB:Nat->AB
 |1=>⟨[⟨1464438180,0,1,false⟩,⟨1941999745,0,1,false⟩]⟩
 |2=>⟨[⟨1464438180,0,1,false⟩,⟨1464438180,1,1,false⟩,⟨1941999745,0,1,false⟩,⟨1941999745,1,1,false⟩]⟩
 |3=>⟨[⟨1464438180,0,1,false⟩,⟨1464438180,1,1,false⟩,⟨1464438180,2,1,false⟩,⟨1941999745,0,1,false⟩,⟨1941999745,1,1,false⟩,⟨1941999745,2,1,false⟩]⟩
 |_=>⟨[]⟩
def J5 (seed:Int)(n k:Nat)(v:Int)(b:AB):AD:=⟨aO seed (k:Int),aU seed n,bX seed 0,0,v,b⟩
def bOp {seed:Int}{n:Nat}(h0:1<=n)(hn:n<=6)(k:Nat):xH seed n (bG (aO seed (k:Int)))=J5 seed n k 0 ⟨[]⟩:=by
 obtain⟨h1,h2,d,a,c⟩:=rH seed n hn;have hl:aY (aU seed n)=true:=c.resolve_left (by omega);have hk:bK (bX seed 0)=true:=by unfold bX;exact iM _ _
 unfold xH mQ bG;rw[hl,bC4,hk,a];rfl
def bWw {n:Nat}(h:n=1\/n=2\/n=3)(s:AK)(l:List AF)(k e v:Int):Ic (aA 1) n (Ic (aA 0) n ⟨s,l,k,e,v,⟨[]⟩⟩)=⟨s,l,k,e,v,nwB n⟩:=by rcases h with rfl|rfl|rfl<;>kernel_rfl
def bFn {n:Nat}(h:n=1\/n=2\/n=3):aR (nwB n)=true/\dS ⟨[]⟩ (nwB n)=(nwB n,true)/\dS (nwB n) (nwB n)=(nwB n,true):=by rcases h with rfl|rfl|rfl<;>exact⟨by kernel_rfl,by kernel_rfl,by kernel_rfl⟩
def bKv {seed:Int}{n:Nat}(h:n=1\/n=2\/n=3):lT seed n=J5 seed n 0 0 (nwB n):=by unfold lT;rw[show(0:Int)=((0:Nat):Int) from rfl,bOp (by omega) (by omega)];exact bWw h _ _ _ _ _
def bOq {seed:Int}{n:Nat}(h:n=1\/n=2\/n=3):nwW seed n=(J5 seed n 0 1 (nwB n),gB (bX seed 0) 0 1 (nwB n),true):=by
 have hk:bK (bX seed 0)=true:=by unfold bX;exact iM _ _
 unfold nwW;rw[bKv h];unfold cB qC J5;simp only[];rw[show IntKind.i64.wrap (0+1)=1 from by decide,hk,(bFn h).1];rfl
def aQw {seed:Int}{n k:Nat}(h:n=1\/n=2\/n=3)(hk:k<n):Ae seed n (bG (aO seed (k:Int)))=J5 seed n k 1 (nwB n):=by
 obtain⟨h1,h2,f,c,e⟩:=rH seed n (by omega);obtain⟨b1,a,i⟩:=bFn h;unfold Ae;rw[bOp (by omega) (by omega),bOq h];rw[aQu (bC6 (by omega) (by omega)) (e.resolve_left (by omega)) (d:=J5 seed n k 0 ⟨[]⟩) (bC5 _) (by
  rw[h2];exact cg.2 ⟨k,iq.2 hk,rfl⟩) ⟨by decide,by decide⟩ b1 c.symm (.inr ⟨rfl,by show(0:Int)<=1;decide⟩) (by show(dS ⟨[]⟩ (nwB n)).2=true;rw[a])]
 show(AD.mk (aO seed (k:Int)) (aU seed n) (bX seed 0) 0 1 (dS ⟨[]⟩ (nwB n)).1)=_;rw[a];rfl
theorem bC7 {seed:Int}{n:Nat}(h:n=1\/n=2\/n=3):jZ seed n=(List.range n).map λk=>J5 seed n k 1 (nwB n):=by
 unfold jZ dR;rw[bOq h];rcases h with rfl|rfl|rfl
 ·rfl
 ·show[_,Ae seed 2 (bG (aO seed ((1:Nat):Int)))]=_;rw[aQw (.inr (.inl rfl)) (by decide)];rfl
 ·show[_,Ae seed 3 (bG (aO seed ((1:Nat):Int))),Ae seed 3 (bG (aO seed ((2:Nat):Int)))]=_;rw[aQw (.inr (.inr rfl)) (by decide),aQw (.inr (.inr rfl)) (by decide)];rfl
theorem aYd {seed:Int}{n:Nat}(h:n=1\/n=2\/n=3):jI seed n=⟨aU seed n,iL seed n,[gB (bX seed 0) 0 1 (nwB n)]⟩:=by
 obtain⟨h1,h2,_⟩:=R7 (seed:=seed) (n:=n) (by omega) (by omega);have a:=(rH seed n (by omega)).ep;have e:fO (aU seed n) (iL seed n)=(⟨aU seed n,iL seed n,[]⟩,true):=by unfold fO;rw[h1,h2];rfl
 unfold jI;rw[e,bOq h];show(bZ ⟨aU seed n,iL seed n,[]⟩ (gB (bX seed 0) 0 1 (nwB n))).1=_;unfold bZ;rw[show(gB (bX seed 0) 0 1 (nwB n)).Epoch=0 from rfl,a];rfl
def aLp (w:AA)(d j:Int)(o:AQ):(iK w d j o).1.Hosts=w.Hosts:=by
 unfold iK;cases !dU w d j with
 |true=>rfl
 |false=>
  cases !(aBA w j).2.2.2 with
  |true=>rfl
  |false=>cases !((Sz w d j o).2.1==0)<;>rfl
def vM (w:AA)(d b:Int):(aM w d b).1.Hosts=w.Hosts:=by unfold aM;cases aP w&&aL w d<;>rfl
def bC8 (w:AA)(d:Int):(Sq w d).1.Hosts=w.Hosts:=by unfold Sq;cases(cB (aG w d)).2.2&&(bZ w.aAC (cB (aG w d)).2.1).2<;>rfl
def R8 (w:AA)(d:Int):(fH w d).1.Hosts=w.Hosts:=by
 unfold fH;cases(aM w d 0).2==0&&(Sq (aM w d 0).1 d).2 with
 |false=>rfl
 |true=>exact(bC8 _ _).trans (vM _ _ _)
def aQx (w:AA)(d:Int)(n:ByteArray)(a:Int)(r:Bool):(rF w d n a r).1.Hosts=w.Hosts:=by
 unfold rF;cases aP w&&aL w d with
 |false=>rfl
 |true=>cases(dO (aG w d) n a r).2<;>rfl
def aLq (w:AA)(b k p:Int)(key:List AF->Int):(jM w b k p key).1.Hosts=w.Hosts:=by unfold jM;simp only[];generalize eX w.aAC.Log k p (aG w b).Store=l;generalize bJ l.1 (key l.1) (IntKind.i64.wrap (1000+IntKind.i64.wrap (10*(l.1.length:Int))))=e;cases l.2&&(e.2&&(lH w.aAC l.1 e.1).2)<;>rfl
def aYe (w:AA)(b:Int):(fK w b).1.Hosts=w.Hosts:=by
 unfold fK;cases Ib w b with
 |false=>rfl
 |true=>
  show(Cz w b).1.Hosts=w.Hosts;have a:(sK w b).1.Hosts=w.Hosts:=by unfold sK;rw[R8];exact(aLq _ _ _ _ _).trans (vM _ _ _)
  unfold Cz
  first
   |exact a
   |exact(vM _ _ _).trans a
def aLr (w:AA)(d:Int):(oK w d).1.Hosts=w.Hosts:=by unfold oK;cases dU w d 0&& !eT w d<;>rfl
def aQy (w:AA):(uC w).1.Hosts=w.Hosts:=by unfold uC;cases aP (sO w)<;>rfl
def aYf (w:AA)(b t:Int):(fG w b t).1.Hosts=w.Hosts:=by
 unfold fG;generalize((aM w b 0).2==0&&(!eT w b&&(!(b==t)&&bC w t)))=q;cases q with
 |false=>rfl
 |true=>
  show(oZ w b t).1.Hosts=w.Hosts;have h1:(nE w b t).1.Hosts=w.Hosts:=(aLq _ _ _ _ _).trans (vM _ _ _);have a:(Pw w b t).1.Hosts=w.Hosts:=(bC8 _ _).trans h1;unfold oZ;cases(nE w b t).2&&((Pv w b t).2&&(Pw w b t).2) with
  |false=>rfl
  |true=>exact a
def bC9 (w:AA)(pin:Int):(wD w pin).1.Hosts.length=w.Hosts.length:=by
 show(fP w (vL w) pin).1.Hosts.length=_;unfold fP;cases aP w with
 |false=>rfl
 |true=>exact(bHu ..).1
def bDa (w:AA):(eO w).1.Hosts.length<=w.Hosts.length:=by
 unfold eO;cases aP w&&(fB w.Hosts (aCm w)).2 with
 |false=>exact ai _
 |true=>exact(J4 ..).1
def bFo (w:AA)(i b:Int):(fT w i b).1.Hosts.length=w.Hosts.length:=by
 unfold fT;cases !aP w||(decide (i<0)||decide (i>=(w.Hosts.length:Int))) with
 |true=>rfl
 |false=>cases(fM (w.Hosts.getD i.toNat default) b).2 with
  |false=>rfl
  |true=>exact aw ..
def bOr (w:AA)(d:Int):(oK w d).1.sz=w.sz:=by
 unfold oK;cases dU w d 0&& !eT w d with
 |false=>rfl
 |true=>simp only[ac,AA.sz,aw]
structure KeptH (w v:AA):Prop where
 kept:Kept w v
 hosts:v.Hosts.length<=w.Hosts.length
def KeptH.of {w v:AA}(h:Kept w v)(e:v.Hosts=w.Hosts):KeptH w v:=⟨h,by rw[e];exact ai _⟩
def bFp {w:AA}(h:WIn w.Devices.length w)(a:w.Hosts.length<=400)(k d o v:Int)(f:Bool):KeptH w (R3 w k d o v f).1:=by
 have tr:∀b d j o,KeptH w (bif b then qJ w d j o else(w,1)).1:=λb d j o=>by
  refine .of (bOl h b d j o) ?_;cases b with
  |true=>exact aLp _ _ _ _
  |false=>rfl
 unfold R3;rw[h.ok];simp only[ay,aa];cases k==1 with
 |true=>exact .of (.of h.tick (bz (bRo w) (cM _ _))) (aQy w)
 |false=>
 simp only[aa];cases k==2 with
 |true=>exact tr _ _ _ _
 |false=>
 simp only[aa];cases k==3 with
 |true=>exact tr _ _ _ _
 |false=>
 simp only[aa];cases k==4 with
 |true=>exact .of (.of (h.aCE d) (by rw[ac,bOr];omega)) (aLr w d)
 |false=>
 simp only[aa];cases k==5 with
 |true=>exact tr _ _ _ _
 |false=>
 simp only[aa];cases k==6 with
 |true=>exact .of ⟨(h.add d).1,(h.add d).2,by have:=add_add h d;rw[ac];omega⟩ (aYe w d)
 |false=>
 simp only[aa];cases k==7 with
 |true=>exact .of (.of (h.cut d o) (by have:=bRn h d o;rw[ac];omega)) (aYf w d o)
 |false=>
 simp only[aa];cases k==8 with
 |true=>exact .of (.of ⟨h.aDL d aZ3 v f,aHo w d aZ3 v f⟩ (by have:=bOj w d aZ3 v f;rw[ac];omega)) (aQx w d aZ3 v f)
 |false=>
 simp only[aa];cases k==9 with
 |true=>exact .of (.of ⟨h.push d,(Yr w d).1,(Yr w d).2.2.1⟩ (by have:=bOk h d;rw[ac];omega)) (R8 w d)
 |false=>
 simp only[aa];cases k==10 with
 |true=>exact .of (.of ⟨h.sync d v,(kR w d v).1,(kR w d v).2.2.1⟩ (by have:=bC2 h d v;rw[ac];show(aM w d v).1.sz<=_;omega)) (vM w d v)
 |false=>
 simp only[aa];cases k==11 with
 |true=>exact⟨.of (h.aCR v) (by
   have h1:=bRi w (vL w) v;have h2:=aQj w;show(fP w (vL w) v).1.sz<=_;omega),Nat.le_of_eq (bC9 w v)⟩
 |false=>
 simp only[aa];cases k==12 with
 |true=>exact⟨.of h.renew (bz (aUm w) (cM _ _)),bDa w⟩
 |false=>
 simp only[aa];cases k==13 with
 |true=>exact⟨.of (h.roll o v) (bz (bOm w o v) (cM _ _)),Nat.le_of_eq (bFo w o v)⟩
 |false=>exact⟨.refl h,ai _⟩
def same (s h:Int)(e:AH):Bool:=e.Site==s&&e.Handle==h
def lk (l:List AH)(s h:Int):Option AH:=l.find? (same s h)
def bOs:Option AH->Option AH->Option AH
 |none,y=>y
 |some e,none=>some e
 |some e,some x=>some (pJ e x)
theorem same_iff {s h:Int}{e:AH}:same s h e=true↔e.Site=s/\e.Handle=h:=by simp[same]
theorem zO (e:AH):same e.Site e.Handle e=true:=same_iff.2 ⟨rfl,rfl⟩
theorem Yt {a b:AH}(h:dZ a b=true):¬(a.Site=b.Site/\a.Handle=b.Handle):=by grind[vE]
def bFq {a b:AH}(h:dZ a b=true):dZ b a=false:=by
 grind[vE]
def nM:∀(n:Nat) {a b:List AH} {e:AH},a.length+b.length<=n->e∈bH a b->e∈a\/e∈b
 |_,[],b,e,_,h=>by rw[jV] at h;exact .inr h
 |_,a::xs,[],e,_,h=>by rw[fE] at h;exact .inl h
 |0,a::xs,b::bs,e,h,_=>by simp at h
 |n+1,a::xs,b::bs,e,hn,h=>by
  simp only[au] at hn;rw[vF] at h;cases h1:dZ a b with
  |true=>
   rw[h1,ac] at h;rcases ba.1 h with rfl|h
   ·exact .inl (cC ..)
   ·rcases nM n (by simp only[au];omega) h with h|h
    ·exact .inl (cl _ h)
    ·exact .inr h
  |false=>
   rw[h1,aa] at h;cases h2:dZ b a with
   |true=>
    rw[h2,ac] at h;rcases ba.1 h with rfl|h
    ·exact .inr (cC ..)
    ·rcases nM n (by simp only[au];omega) h with h|h
     ·exact .inl h
     ·exact .inr (cl _ h)
   |false=>
    rw[h2,aa] at h;rcases ba.1 h with rfl|h
    ·rcases bHi a b with e|e
     ·rw[e];exact .inl (cC ..)
     ·rw[e];exact .inr (cC ..)
    ·rcases nM n (by omega) h with h|h
     ·exact .inl (cl _ h)
     ·exact .inr (cl _ h)
def Yu:∀(n:Nat) {a b:List AH},a.length+b.length<=n->Yg a->Yg b->Yg (bH a b)
 |_,[],b,_,_,h=>by rw[jV];exact h
 |_,a::xs,[],_,h,_=>by rw[fE];exact h
 |0,a::xs,b::bs,h,_,_=>by simp at h
 |n+1,a::xs,b::bs,hn,e,hb=>by
  simp only[au] at hn;obtain⟨d,f⟩:=cn.1 e;obtain⟨b1,i⟩:=cn.1 hb;rw[vF];cases h1:dZ a b with
  |true=>
   rw[ac];refine cn.2 ⟨λy c=> ?_,Yu n (by simp only[au];omega) f hb⟩;rcases nM _ (ai _) c with c|c
   ·exact d y c
   ·rcases ba.1 c with rfl|c
    ·exact h1
    ·exact oG h1 (b1 y c)
  |false=>
   rw[aa];cases h2:dZ b a with
   |true=>
    rw[ac];refine cn.2 ⟨λy c=> ?_,Yu n (by simp only[au];omega) e i⟩;rcases nM _ (ai _) c with c|c
    ·rcases ba.1 c with rfl|c
     ·exact h2
     ·exact oG h2 (d y c)
    ·exact b1 y c
   |false=>
    rw[aa];have hk:=Ab h1 h2;have hp:=aCj hk;refine cn.2 ⟨λy c=> ?_,Yu n (by omega) f i⟩;rw[Hz hp];rcases nM _ (ai _) c with c|c
    ·rw[<-Hz hk];exact d y c
    ·exact b1 y c
def nV (a:AH)(l:List AH)(s h:Int):lk (a::l) s h=bif same s h a then some a else lk l s h:=by unfold lk;rw[List.find?_cons];cases same s h a<;>rfl
theorem aC2 {l:List AH}{s h:Int}(hl:∀e∈l,same s h e=false):lk l s h=none:=by
 grind[List.find?_eq_none,lk]
def xJ {l:List AH}{s h:Int}{e:AH}(hl:lk l s h=some e):e∈l/\e.Site=s/\e.Handle=h:=by
 grind[List.mem_of_find?_eq_some,same_iff,lk]
theorem aZ5 {a:AH}{l:List AH}(hs:Yg (a::l)){s h:Int}(c:same s h a=true):∀e∈l,same s h e=false:=λe he=>by
 have:=Yt ((cn.1 hs).1 e he)
 grind[trans,same_iff]
theorem bDb {l:List AH}(hs:Yg l){e:AH}(he:e∈l):lk l e.Site e.Handle=some e:=by
 induction l with
 |nil=>simp at he
 |cons a l c=>
  rw[nV];rcases ba.1 he with rfl|he
  ·rw[zO];rfl
  ·cases hq:same e.Site e.Handle a with
   |true=>grind[zO,aZ5]
   |false=>exact c (cn.1 hs).2 he
def bFr:∀{a b:List AH},Yg a->Yg b->(∀s h,lk a s h=lk b s h)->a=b
 |[],[],_,_,_=>rfl
 |[],b::bs,_,_,h=>by have:=h b.Site b.Handle;rw[nV,zO] at this;cases this
 |a::xs,[],_,_,h=>by have:=h a.Site a.Handle;rw[nV,zO] at this;cases this
 |a::xs,b::bs,c,hb,h=>by
  have d:a=b:=by
   have h1:=h a.Site a.Handle;have h2:=h b.Site b.Handle;rw[nV,zO,ac] at h1;rw[nV b,zO,ac] at h2;have f:=(xJ h1.symm).1;have i:=(xJ h2).1;rcases ba.1 f with e|f
   ·exact e
   ·rcases ba.1 i with e|i
    ·exact e.symm
    ·have q1:=(cn.1 hb).1 a f;have q2:=(cn.1 c).1 b i;rw[bFq q1] at q2;cases q2
  subst d;congr 1;refine bFr (cn.1 c).2 (cn.1 hb).2 λs j=> ?_
  have:=h s j;rw[nV,nV] at this;cases hq:same s j a with
  |true=>rw[aC2 (aZ5 c hq),aC2 (aZ5 hb hq)]
  |false=>rw[hq] at this;exact this
def bKw {a b:AH}(hk:a.Site=b.Site/\a.Handle=b.Handle)(s h:Int):same s h (pJ a b)=same s h b:=by have:=aCj hk;unfold same;rw[this.1,this.2]
def aC3:∀(n:Nat) {a b:List AH},a.length+b.length<=n->Yg a->Yg b->∀s h,lk (bH a b) s h=bOs (lk a s h) (lk b s h)
 |_,[],b,_,_,_,s,h=>by rw[jV];rfl
 |_,a::xs,[],_,_,_,s,h=>by
  rw[fE];show _=bOs (lk (a::xs) s h) none;cases lk (a::xs) s h<;>rfl
 |0,a::xs,b::bs,h,_,_,_,_=>by simp at h
 |n+1,a::xs,b::bs,hn,d,hb,s,h=>by
  simp only[au] at hn;obtain⟨i,e⟩:=cn.1 d;obtain⟨b1,f⟩:=cn.1 hb;rw[vF];cases h1:dZ a b with
  |true=>
   rw[ac,nV,nV a xs,aC3 n (by grind) e hb];cases hq:same s h a with
   |false=>rfl
   |true=>have c:lk (b::bs) s h=none:=(by grind[aC2,dZ,oG,Yt,same_iff,trans]);rw[c];rfl
  |false=>
   rw[aa];cases h2:dZ b a with
   |true=>
    rw[ac,nV,nV b bs,aC3 n (by grind) d f];cases hq:same s h b with
    |false=>rfl
    |true=>have c:lk (a::xs) s h=none:=(by grind[aC2,dZ,oG,Yt,same_iff,trans]);rw[c];rfl
   |false=>
    have hk:=Ab h1 h2;rw[aa,nV,nV a xs,nV b bs,aC3 n (by omega) e f,bKw hk];have:same s h a=same s h b:=by unfold same;rw[hk.1,hk.2]
    rw[this];cases same s h b<;>rfl
def lkM {a b:List AH}(c:Yg a)(hb:Yg b)(s h:Int):lk (bH a b) s h=bOs (lk a s h) (lk b s h):=aC3 _ (ai _) c hb s h
def bVa {a b:List AH}(c:Yg a)(hb:Yg b):Yg (bH a b):=Yu _ (ai _) c hb
def rk (e:AH):Int:=2*e.Version+(bif e.Deleted then 1 else 0)
theorem bS8 {x e:AH}(hk:x.Site=e.Site/\x.Handle=e.Handle)(h:rk x=rk e):x=e:=by obtain⟨s,a,v,d⟩:=x;obtain⟨s2,h2,c,d2⟩:=e;simp only[rk] at h hk;obtain⟨rfl,rfl⟩:=hk;cases d<;>cases d2<;>simp at h ⊢<;>omega
theorem bOt {x e:AH}:pO x e=true↔rk e<rk x\/(rk e=rk x/\x.Deleted=true):=by unfold pO rk;simp only[cw,ab,bp,cH];cases x.Deleted<;>cases e.Deleted<;>simp only[ac,aa,je,and_false,and_true,or_false]<;>omega
theorem aOj {e x:AH}(hk:x.Site=e.Site/\x.Handle=e.Handle):pJ e x=if rk e<rk x then x else e:=by
 grind[pO,bOt,absurd,bS8,rk,pJ]
def Tj (a b:List AH):Prop:=∀e∈a,∃x∈b,x.Site=e.Site/\x.Handle=e.Handle/\rk e<=rk x
def Tj.refl (a:List AH):Tj a a:=λe he=>(by grind)
theorem Tj.trans {a b c:List AH}(h:Tj a b)(k:Tj b c):Tj a c:=λe he=>by
 obtain⟨x,d,x1,x2,f⟩:=h e he;obtain⟨y,i,j,l,n⟩:=k x d
 grind
def Tj.nil (b:List AH):Tj [] b:=λe he=>by simp at he
def Tj.merge {a b:List AH}(f:Yg a)(hb:Yg b)(h:Tj a b):bH b a=b:=by
 refine bFr (bVa hb f) hb λs c=> ?_;rw[lkM hb f];cases hq:lk a s c with
 |none=>cases lk b s c<;>rfl
 |some e=>
  obtain⟨i,j,k⟩:=xJ hq;obtain⟨x,l,x1,x2,n⟩:=h e i;have d:lk b s c=some x:=by
   grind[bDb]
  rw[d];show some (pJ x e)=some x;rw[aOj ⟨x1.symm,x2.symm⟩,dk (by omega)]
def Tj.left {a b:List AH}(c:Yg a)(hb:Yg b):Tj a (bH a b):=λe he=>by
 have h1:=lkM c hb e.Site e.Handle;rw[bDb c he] at h1;cases hq:lk b e.Site e.Handle with
 |none=>rw[hq] at h1;exact⟨e,(xJ h1).1,rfl,rfl,cP _⟩
 |some x=>rw[hq] at h1;obtain⟨d,f,h⟩:=xJ h1;obtain⟨_,q2,q3⟩:=xJ hq;refine⟨_,d,f,h,?_⟩;rw[aOj ⟨q2,q3⟩];split<;>omega
def Tj.right {a b:List AH}(c:Yg a)(hb:Yg b):Tj b (bH a b):=λe he=>by
 have h1:=lkM c hb e.Site e.Handle;rw[bDb hb he] at h1;cases hq:lk a e.Site e.Handle with
 |none=>rw[hq] at h1;exact⟨e,(xJ h1).1,rfl,rfl,cP _⟩
 |some x=>rw[hq] at h1;obtain⟨d,f,h⟩:=xJ h1;obtain⟨_,q2,q3⟩:=xJ hq;refine⟨_,d,f,h,?_⟩;rw[aOj ⟨q2.symm,q3.symm⟩];split<;>omega
def Tj.lub {a b c:List AH}(h1:Tj a c)(h2:Tj b c):Tj (bH a b) c:=λe he=>by
 rcases nM _ (ai _) he with he|he
 ·exact h1 e he
 ·exact h2 e he
def Tj.merge' {a b:List AH}(d:Yg a)(hb:Yg b)(h:Tj a b):bH a b=b:=by
 refine bFr (bVa d hb) hb λs f=> ?_;rw[lkM d hb];cases hq:lk a s f with
 |none=>rfl
 |some e=>
  obtain⟨i,j,k⟩:=xJ hq;obtain⟨x,l,x1,x2,n⟩:=h e i;have c:lk b s f=some x:=by
   grind[bDb]
  rw[c];show some (pJ e x)=some x
  grind[bS8,aOj]
def bOu {α:Type}[BEq α][LawfulBEq α]:∀{l S:List α},l.Nodup->(∀x∈l,x∈S)->l.length<=S.length
 |[],S,_,_=>by simp
 |x::l,S,hn,hs=>by
  obtain⟨h1,h2⟩:=cE.1 hn;have c:=hs x (cC ..);have:=bOu (l:=l) (S:=S.erase x) h2 λy d=>by
   have a:y≠x:=λe=>h1 (e▸d);exact(List.mem_erase_of_ne a).2 (hs y (cl _ d))
  rw[List.length_erase_of_mem c] at this;have:0<S.length:=List.length_pos_of_mem c;simp only[au];omega
structure KeyS (S:List (Int×Int)):Prop where
 len:S.length<=20
 rg:∀p∈S,(0<=p.1/\p.1<=2147483646)/\(0<=p.2/\p.2<=1000000)
structure BunIn (S:List (Int×Int)) (V:Int) (b:List AH):Prop where
 st:Yg b
 key:∀e∈b,(e.Site,e.Handle)∈S
 ver:∀e∈b,1<=e.Version/\e.Version<=V
def BunIn.mono {S:List (Int×Int)}{V W:Int}{b:List AH}(h:BunIn S V b)(hv:V<=W):BunIn S W b:=⟨h.st,h.key,λe he=>⟨(h.ver e he).1,fg (h.ver e he).2 hv⟩⟩
def BunIn.nil (S:List (Int×Int))(V:Int):BunIn S V []:=⟨List.Pairwise.nil,(by simp),(by simp)⟩
theorem BunIn.len {S:List (Int×Int)}{V:Int}{b:List AH}(h:BunIn S V b):b.length<=S.length:=by
 have hn:(b.map λe=>(e.Site,e.Handle)).Nodup:=by rw[kf,gz];exact h.st.imp (by grind[Yt])
 have:=bOu hn λp hp=>by
  obtain⟨e,he,rfl⟩:=cg.1 hp;exact h.key e he
 rwa [bg] at this
def BunIn.ok {S:List (Int×Int)}{V:Int}{b:List AH}(a:KeyS S)(c:V<=1000000)(h:BunIn S V b):aR ⟨b⟩=true:=by
 have hl:=h.len;have:=a.len;unfold aR;rw[ak (show((⟨b⟩:AB).Entries.length:Int)<=20 by show(b.length:Int)<=20;omega),cx,ca];refine Mv λk hk=> ?_;have hk:k<b.length:=hk;show aPv b (0+k) b[k]=false;have hm:=cb hk;have r:=a.rg _ (h.key _ hm);have v:=h.ver _ hm;unfold aPv;rw[iN r.1.1 r.1.2,iN r.2.1 r.2.2,iN v.1 (by omega)];simp only[ay,cu,cj];by_cases h0:0<k
 ·have:b.getD (k-1) default=b[k-1]'(by omega):=by rw[List.getD,ae (by omega),ck]
  rw[this,eo.1 h.st (k-1) k (by omega) hk (by omega)];simp
 simp[*]
def BunIn.merge {S:List (Int×Int)}{V:Int}{a b:List AH}(c:BunIn S V a)(hb:BunIn S V b):BunIn S V (bH a b):=
 ⟨bVa c.st hb.st,λe he=>(nM _ (ai _) he).elim (c.key e) (hb.key e),λe he=>(nM _ (ai _) he).elim (c.ver e) (hb.ver e)⟩
def Yv {S:List (Int×Int)}{V:Int}{a b:AB}(c:KeyS S)(d:V<=1000000)(e:BunIn S V a.Entries)(hb:BunIn S V b.Entries):dS a b=(⟨bH a.Entries b.Entries⟩,true):=by unfold dS;rw[show aR a=true from e.ok c d,show aR b=true from hb.ok c d,(e.merge hb).ok c d];rfl
theorem aOk {l:List AH}(hs:Yg l)(s h:Int):(aQ ⟨l⟩ s h<0/\lk l s h=none)\/(0<=aQ ⟨l⟩ s h/\∃e,lk l s h=some e/\l.getD (aQ ⟨l⟩ s h).toNat default=e/\(aQ ⟨l⟩ s h).toNat<l.length):=by
 by_cases a:aQ ⟨l⟩ s h<0
 ·exact .inl ⟨a,aC2 λe he=>Si (p:=same s h) a e he⟩
 ·refine .inr ⟨by omega,?_⟩;obtain⟨l1,e,l2,d,f,c⟩:=Yh (p:=same s h) (l:=l) (i:=0) (by show 0<=aQ ⟨l⟩ s h;omega);have c:aQ ⟨l⟩ s h=((0+l1.length:Nat):Int):=c
  grind[same_iff,bDb]
theorem bOv {x e:AH}(h:x.Version>e.Version):pO x e=true:=by
 grind[decide_eq_true,pO]
def aYg {l:List AH}(hs:Yg l){x:AH}(h:∀e,lk l x.Site x.Handle=some e->x.Version>e.Version):(zG ⟨l⟩ x).Entries=bH l [x]:=by
 rw[<-bB5 hs]
 grind[bOv,decide_eq_true,aOk]
def bVb (x:AH):Yg [x]:=cn.2 ⟨λy a=>by simp at a,List.Pairwise.nil⟩
def BunIn.one {S:List (Int×Int)}{V:Int}{x:AH}(hk:(x.Site,x.Handle)∈S)(hv:1<=x.Version/\x.Version<=V):BunIn S V [x]:=
 ⟨bVb x,(by simp[*]),(by simp[*])⟩
def aC4 (l:List AH)(s h:Int):Bool:=match lk l s h with|some e=> !e.Deleted|none=>false
def aBN (l:List AH)(s h:Int):Int:=match lk l s h with|some e=>e.Version|none=>0
theorem BunIn.aBN {S:List (Int×Int)}{V:Int}{l:List AH}(h:BunIn S V l)(a:0<=V)(s q:Int):0<=aBN l s q/\aBN l s q<=V:=by
 unfold VK.aBN;cases hq:lk l s q with
 |none=>simp[*]
 |some e=>have:=h.ver e (xJ hq).1;grind
def bVc {S:List (Int×Int)}{V:Int}(f:KeyS S)(i:0<=V/\V<1000000){b:AB}(h:BunIn S V b.Entries){s q:Int}(hk:(s,q)∈S):
  aUk b s q=bif aC4 b.Entries s q then(b,false) else(⟨bH b.Entries [⟨s,q,aBN b.Entries s q+1,false⟩]⟩,true):=by
 obtain⟨l⟩:=b;have h:BunIn S V l:=h;have hv:=h.aBN i.1 s q;have c:(aQ ⟨l⟩ s q<0->lk l s q=none)/\Q4 ⟨l⟩ s q=⟨s,q,aBN l s q+1,false⟩:=by
  unfold Q4 bQ7;rcases aOk h.st s q with⟨h1,h2⟩|⟨h1,e,h2,j,k⟩
  all_goals grind[aBN,decide,aQ,default,decide_eq_true,aJ,decide_eq_false]
 have a:(zG ⟨l⟩ (Q4 ⟨l⟩ s q))=⟨bH l [⟨s,q,aBN l s q+1,false⟩]⟩:=by rw[c.2];have:(zG ⟨l⟩ ⟨s,q,aBN l s q+1,false⟩).Entries=bH l [⟨s,q,aBN l s q+1,false⟩]:=aYg h.st (by grind[aBN,lk]);rw[<-this]
 have d:aR ⟨bH l [⟨s,q,aBN l s q+1,false⟩]⟩=true:=((h.mono (W:=V+1) (by omega)).merge (.one (x:=⟨s,q,aBN l s q+1,false⟩) hk (by grind))).ok f (by omega);unfold aUk;rw[a,d,h.ok f (by omega)];rcases aOk h.st s q with⟨h1,h2⟩|⟨h1,e,h2,j,k⟩
 all_goals grind[decide_eq_true,aQ,default,aC4,decide_eq_false]
def bVd {S:List (Int×Int)}{V:Int}(f:KeyS S)(i:0<=V/\V<1000000){b:AB}(h:BunIn S V b.Entries){s q:Int}:
  aUl b s q=bif aC4 b.Entries s q then(⟨bH b.Entries [⟨s,q,aBN b.Entries s q+1,true⟩]⟩,true) else(b,false):=by
 obtain⟨l⟩:=b;have h:BunIn S V l:=h;have hv:=h.aBN i.1 s q;unfold aUl;rw[h.ok f (by omega)];rcases aOk h.st s q with⟨h1,h2⟩|⟨h1,e,h2,d,j⟩
 ·grind[aC4,decide_eq_true,aQ]
 ·have c:aBN l s q=e.Version:=by unfold aBN;rw[h2]
  have he:=h.ver e (xJ h2).1;have hd:bJz ⟨l⟩ s q=⟨s,q,aBN l s q+1,true⟩:=by unfold bJz;show(⟨s,q,IntKind.i64.wrap ((l.getD (aQ ⟨l⟩ s q).toNat default).Version+1),true⟩:AH)=_;rw[d,c,aJ (by omega) (by omega)]
  have a:(zG ⟨l⟩ (bJz ⟨l⟩ s q))=⟨bH l [⟨s,q,aBN l s q+1,true⟩]⟩:=by rw[hd];have:(zG ⟨l⟩ ⟨s,q,aBN l s q+1,true⟩).Entries=bH l [⟨s,q,aBN l s q+1,true⟩]:=aYg h.st (by grind);rw[<-this]
  rw[a,ao (show ¬aQ ⟨l⟩ s q<0 by omega)];show(bif !true||(false||((l.getD (aQ ⟨l⟩ s q).toNat default).Deleted||(l.getD (aQ ⟨l⟩ s q).toNat default).Version==1000000)) then _ else _)=_;have hl:aC4 l s q= !e.Deleted:=by unfold aC4;rw[h2]
  show _=bif aC4 l s q then _ else _;rw[d,cf.2 (show e.Version≠1000000 by omega),hl];cases e.Deleted<;>rfl
structure ChgIn (S:List (Int×Int)) (V:Int) (d x:AD):Prop where
 store:x.Store=d.Store
 log:x.Log=d.Log
 key:x.Key=d.Key
 ep:x.Epoch=d.Epoch
 ver:x.Version=d.Version
 bun:BunIn S V x.aAD.Entries
 sub:Tj d.aAD.Entries x.aAD.Entries
def ChgIn.rfl' {S:List (Int×Int)}{V W:Int}{d:AD}(h:BunIn S V d.aAD.Entries)(hv:V<=W):ChgIn S W d d:=⟨rfl,rfl,rfl,rfl,rfl,h.mono hv, .refl _⟩
theorem ChgIn.trans {S:List (Int×Int)}{V W:Int}{a b c:AD}(h:ChgIn S V a b)(k:ChgIn S W b c):ChgIn S W a c:=
 ⟨k.store.trans h.store,k.log.trans h.log,k.key.trans h.key,k.ep.trans h.ep,k.ver.trans h.ver,k.bun,h.sub.trans k.sub⟩
def aHq {S:List (Int×Int)}{V:Int}(c:KeyS S)(a:0<=V/\V<1000000){d:AD}(h:BunIn S V d.aAD.Entries){n:ByteArray}{q:Int}(hk:(bM n,q)∈S)(rm:Bool):ChgIn S (V+1) d (dO d n q rm).1:=by
 have hv:=h.aBN a.1 (bM n) q;unfold dO sF;have one:∀f,BunIn S (V+1) (bH d.aAD.Entries [⟨bM n,q,aBN d.aAD.Entries (bM n) q+1,f⟩]):=λf=>(h.mono (by omega)).merge (.one hk (by grind));cases rm with
 |true=>
  rw[ac,bVd c a h];cases aC4 d.aAD.Entries (bM n) q with
  |true=>exact⟨rfl,rfl,rfl,rfl,rfl,one _, .left h.st (bVb _)⟩
  |false=>exact .rfl' h (by omega)
 |false=>
  rw[aa,bVc c a h hk];cases aC4 d.aAD.Entries (bM n) q with
  |false=>exact⟨rfl,rfl,rfl,rfl,rfl,one _, .left h.st (bVb _)⟩
  |true=>exact .rfl' h (by omega)
def bOw {S:List (Int×Int)}{V:Int}(a:KeyS S)(e:0<=V/\V+1<1000000){d:AD}(h:BunIn S V d.aAD.Entries){q:Int}(h0:(bM (aA 0),q)∈S)(h1:(bM (aA 1),q)∈S)(rm:Bool):ChgIn S (V+2) d (kI d q rm):=by unfold kI;have c:=aHq a (by omega) h h0 rm;exact c.trans (by have:=aHq a (V:=V+1) (by omega) c.bun h1 rm;rwa [show V+1+1=V+2 by omega] at this)
end Go.VK
set_option maxRecDepth 100000
namespace Go.VK
open D
structure Dv (S:List (Int×Int)) (T:Int) (log:List AF) (K ep v:Int) (d:AD):Prop where
 pre:∃r,log=d.Log++r
 at_:d.Epoch<ep\/(d.Epoch=ep/\d.Version<=v)
 key:d.Epoch=ep->d.Key=K
 bun:BunIn S T d.aAD.Entries
structure Hs (S:List (Int×Int)) (T:Int) (K ep v:Int) (s:AI):Prop where
 low:s.Epoch<=ep
 own:s.Epoch=ep->∃v' b',s=gB K ep v' b'/\0<=v'/\v'<=v/\BunIn S T b'.Entries
structure Net (S:List (Int×Int)) (t m:Nat) (w:AA) (K v:Int) (r:List AI) (b:AB):Prop where
 wi:WIn m w
 bx:BoxIn w.aAC.Log w.aAC.Boxes K
 devs:∀p∈aC w.aAC.Log,∃k,k<m/\p=mG w.Seed k
 rem:∀p,dX w.aAC.Log p=true->∃k,k<m/\p=mG w.Seed k
 hist:w.aAC.History=r++[gB K (aD w.aAC.Log) v b]
 old:∀s∈r,Hs S (t:Int) K (aD w.aAC.Log) v s
 bun:BunIn S (t:Int) b.Entries
 ver:0<=v/\v<=(t:Int)
 dev:∀k (h:k<w.Devices.length),Dv S (t:Int) w.aAC.Log K (aD w.aAC.Log) v w.Devices[k]
def Dv.mono {S:List (Int×Int)}{T U:Int}{log:List AF}{K ep v u:Int}{d:AD}(h:Dv S T log K ep v d)(a:T<=U)(hv:v<=u):Dv S U log K ep u d:=
 ⟨h.pre,h.at_.imp id (by omega),h.key,h.bun.mono a⟩
def Hs.mono {S:List (Int×Int)}{T U:Int}{K ep v u:Int}{s:AI}(h:Hs S T K ep v s)(a:T<=U)(hv:v<=u):Hs S U K ep u s:=
 ⟨h.low,λe=>let ⟨v',b',h1,h2,c,d⟩:=h.own e;⟨v',b',h1,h2,fg c hv,d.mono a⟩⟩
section
variable {S:List (Int×Int)} {t m:Nat} {w:AA} {K v:Int} {r:List AI} {b:AB}
def Net.last (h:Net S t m w K v r b):Hs S (t:Int) K (aD w.aAC.Log) v (gB K (aD w.aAC.Log) v b):=
 ⟨cP _,λ_=>⟨v,b,rfl,h.ver.1,cP _,h.bun⟩⟩
theorem Net.hs (h:Net S t m w K v r b){s:AI}(hs:s∈w.aAC.History):Hs S (t:Int) K (aD w.aAC.Log) v s:=by
 rw[h.hist] at hs;rcases bw.1 hs with hs|hs
 ·exact h.old s hs
 ·rw[cA.1 hs];exact h.last
def Net.pub (h:Net S t m w K v r b){k:Nat}(hk:k<w.Devices.length):aT w.Devices[k].Store=mG w.Seed k:=by unfold mG aT iT;rw[(h.wi.dev k hk).key]
theorem bKx (K:Int):(gZ K ⟨0,0,[],0⟩).2=false:=by
 unfold gZ;cases !(bK K&&(bI (AI.mk 0 0 [] 0).Epoch 0 1000000&&bI (AI.mk 0 0 [] 0).Version 0 1000000))||(AI.mk 0 0 [] 0).MAC !=jA K ⟨0,0,[],0⟩ with
 |true=>rfl
 |false=>rfl
theorem bS9 {d:AD}{log:List AF}{bx:AN}{s:AI}(h:(jW d log bx s==0)=true):
  cZ log d.Log=true/\aT d.Store∈aC log/\aD log<=s.Epoch/\(gZ (bL d.Store bx).1 s).2=true/\(dS d.aAD (gZ (bL d.Store bx).1 s).1).2=true:=by
 have h:=eq_of_beq h;unfold jW at h
 grind[aY,cZ,jE,aC,aT,aD,bL,bx,decide,gZ,dS,Bool.or_eq_false_iff,Bool.not_eq_false',decide_eq_false_iff_not,lY]
def Net.set (h:Net S t m w K v r b){i:Nat}{x:AD}(hi:i<w.Devices.length)(a:Dv S (t:Int) w.aAC.Log K (aD w.aAC.Log) v x):∀k (hk:k<(w.Devices.set i x).length),Dv S (t:Int) w.aAC.Log K (aD w.aAC.Log) v (w.Devices.set i x)[k]:=λk hk=>by
 rw[eR];rw[aw] at hk;split
 ·exact a
 ·exact h.dev k hk
def Net.upd (h:Net S t m w K v r b){u:AA}(h1:u.Seed=w.Seed)(h2:u.aAC=w.aAC)(c:u.Devices.length=w.Devices.length)(a:WIn m u)
  (d:∀k (hk:k<u.Devices.length),Dv S (t:Int) w.aAC.Log K (aD w.aAC.Log) v u.Devices[k]):Net S t m u K v r b where
 wi:=a
 bx:=by rw[h2];exact h.bx
 devs:=by rw[h1,h2];exact h.devs
 rem:=by rw[h1,h2];exact h.rem
 hist:=by rw[h2];exact h.hist
 old:=by rw[h2];exact h.old
 bun:=h.bun
 ver:=h.ver
 dev:=by simp[*]
def Net.mono (h:Net S t m w K v r b){u:Nat}(a:t<=u):Net S u m w K v r b where
 wi:=h.wi
 bx:=h.bx
 devs:=h.devs
 rem:=h.rem
 hist:=h.hist
 old:=λs hs=>(h.old s hs).mono (by omega) (cP _)
 bun:=h.bun.mono (by omega)
 ver:=by have:=h.ver;omega
 dev:=λk hk=>(h.dev k hk).mono (by omega) (cP _)
def Net.aDS (h:Net S t m w K v r b)(j:KeyS S)(ht:t<=900000){d:AD}(hd:Dv S (t:Int) w.aAC.Log K (aD w.aAC.Log) v d)(c:Int):Dv S (t:Int) w.aAC.Log K (aD w.aAC.Log) v (bR d w.aAC.Log w.aAC.Boxes (eZ w.aAC c).1).1:=by
 unfold bR;cases h0:jW d w.aAC.Log w.aAC.Boxes (eZ w.aAC c).1==0 with
 |false=>exact hd
 |true=>
  obtain⟨q1,q2,q3,q4,q5⟩:=bS9 h0;have ho:=Nc h.bx q2;rw[ho] at q4 q5;rw[ac,ho];have k:=h.bx.eps;have a:(eZ w.aAC c).1=⟨0,0,[],0⟩\/(eZ w.aAC c).1∈w.aAC.History:=by
   grind[decide,Bool.or_eq_false_iff,decide_eq_false_iff_not,default,List.getD,List.getElem?_eq_getElem,List.getElem_mem,eZ]
  rcases a with a|a
  ·grind[q4,bKx]
  ·obtain⟨l1,l2⟩:=h.hs a;obtain⟨v',b',e,n,l,f⟩:=l2 (by omega);have hv:=h.ver;have i:gZ K (gB K (aD w.aAC.Log) v' b')=(b',true):=aYc h.bx.kok (by omega) (by omega) (f.ok j (by omega));rw[e,i,Yv j (by omega) hd.bun f];exact⟨⟨[],by simp⟩, .inr ⟨rfl,l⟩,λ_=>rfl,hd.bun.merge f⟩
def Net.sync (h:Net S t m w K v r b)(f:KeyS S)(ht:t<=900000)(d c:Int):Net S t m (aM w d c).1 K v r b:=by
 have a:=h.wi.sync d c;unfold aM at a ⊢;cases hb:aP w&&aL w d with
 |false=>exact h
 |true=>rw[hb] at a;rw[ab] at hb;obtain⟨hd,e⟩:=iX hb.2;exact h.upd rfl rfl (aw ..) a (h.set hd (h.aDS f ht (by rw[e];exact h.dev _ hd) c))
def bVe (h:Net S t m w K v r b):(eZ w.aAC 0).1=gB K (aD w.aAC.Log) v b:=by unfold eZ;rw[ao (show ¬(0:Int)<0 by decide),ao (show ¬(0:Int)>=(w.aAC.History.length:Int) by rw[h.hist,ax,cp];omega)];show w.aAC.History.getD _ default=_;rw[h.hist];simp
def Net.aDM (h:Net S t m w K v r b){d:Int}(hd:aL w d=true):bC w d=jE (aC w.aAC.Log) (mG w.Seed d.toNat):=by obtain⟨hl,e⟩:=iX hd;unfold bC;rw[hd,e,h.pub hl];rfl
def nI (w:AA)(K v:Int)(b:AB)(d:AD):AD:=⟨d.Store,w.aAC.Log,K,aD w.aAC.Log,v,⟨bH d.aAD.Entries b.Entries⟩⟩
def Net.aBT (h:Net S t m w K v r b)(a:KeyS S)(ht:t<=900000){d:AD}(h1:∃r',w.aAC.Log=d.Log++r')(h2:d.Epoch<aD w.aAC.Log\/(d.Epoch=aD w.aAC.Log/\d.Version<=v))(c:BunIn S (t:Int) d.aAD.Entries)(e:aT d.Store∈aC w.aAC.Log):
  bR d w.aAC.Log w.aAC.Boxes (eZ w.aAC 0).1=(nI w K v b d,0):=by
 have hm:=Yv a (by omega) c h.bun;have hv:=h.ver;obtain⟨r',hr⟩:=h1;have hs:bR d w.aAC.Log w.aAC.Boxes (gB K (aD w.aAC.Log) v b)=(⟨d.Store,w.aAC.Log,K,aD w.aAC.Log,v,(dS d.aAD b).1⟩,0):=
  aQu h.bx h.wi.log (by grind[aLo]) e (by omega) (h.bun.ok a (by omega)) rfl h2 (by rw[hm])
 rw[bVe h,hs,hm];rfl
def Net.aBX (h:Net S t m w K v r b)(f:KeyS S)(ht:t<=900000){d:Int}(hd:bC w d=true):
  aM w d 0=({w with Devices:=w.Devices.set d.toNat (nI w K v b (aG w d))},0):=by
 have a:aL w d=true:=by grind[bC]
 obtain⟨hl,e⟩:=iX a;have c:=h.dev _ hl;rw[<-e] at c;have hs:=h.aBT f ht c.pre c.at_ c.bun (by
  grind[lY,bC])
 unfold aM;rw[h.wi.ok,a,hs];rfl
def Net.aCI (h:Net S t m w K v r b){d:Int}(hd:bC w d=false)(c:Int):((aM w d c).2==0)=false:=by
 grind[aP,aL,bR,jW,aG,eZ,bS9,bC,lY,aM]
def aLs (w:AA)(K v:Int)(b:AB)(d:AD):AD:={nI w K v b d with Version:=v+1}
def aBK (w:AA)(K v:Int)(b:AB)(d:Int):AA:=
 {w with Devices:=w.Devices.set d.toNat (aLs w K v b (aG w d)),aAC:={w.aAC with History:=w.aAC.History++[gB K (aD w.aAC.Log) (v+1) ⟨bH (aG w d).aAD.Entries b.Entries⟩]}}
def bDc {S:List (Int×Int)}{d:AD}(a:KeyS S){T:Int}(c:T<=1000000)(h1:bK d.Key=true)(h2:0<=d.Epoch/\d.Epoch<=1000000)(f: -1<=d.Version/\d.Version<1000000)(e:BunIn S T d.aAD.Entries):
  cB d=({d with Version:=d.Version+1},gB d.Key d.Epoch (d.Version+1) d.aAD,true):=by
 have hs:qC d.Key d.Epoch (IntKind.i64.wrap (d.Version+1)) d.aAD=(gB d.Key d.Epoch (d.Version+1) d.aAD,true):=by rw[aJ (by omega) (by omega)];unfold qC;rw[h1,iN h2.1 h2.2,iN (by omega) (by omega),show aR d.aAD=true from e.ok a c];rfl
 grind[aJ,cB]
def aYh {c:AM}{s:AI}(h1:s.Epoch=aD c.Log)(h2:c.History.length<60)(a:∀l,c.History.getLast? =some l->pQ s l=true):bZ c s=({c with History:=c.History++[s]},true):=by
 grind[bne_self_eq_false,decide_eq_false,bZ,decide,pQ,default,List.getD,List.getElem?_eq_getElem]
def Net.aBH (h:Net S t m w K v r b)(i:KeyS S)(ht:t<=900000)(hr:r.length<=58){d:Int}(hd:bC w d=true):fH w d=(aBK w K v b d,true):=by
 have a:aL w d=true:=by grind[bC]
 obtain⟨hl,e⟩:=iX a;have hs:=h.aBX i (by omega) hd;have hv:=h.ver;have k:=h.bx.eps;have j:=h.dev _ hl;rw[<-e] at j;have c:aG (aM w d 0).1 d=nI w K v b (aG w d):=by
  grind[List.getD,List.getElem?_set_self,default,aG,hs]
 have n:cB (nI w K v b (aG w d))=(aLs w K v b (aG w d),gB K (aD w.aAC.Log) (v+1) ⟨bH (aG w d).aAD.Entries b.Entries⟩,true):=
  bDc i (T:=(t:Int)) (by omega) h.bx.kok (show 0<=aD w.aAC.Log/\aD w.aAC.Log<=1000000 by omega) (show-1<=v/\v<1000000 by omega) (j.bun.merge h.bun)
 have f:bZ w.aAC (gB K (aD w.aAC.Log) (v+1) ⟨bH (aG w d).aAD.Entries b.Entries⟩)=({w.aAC with History:=w.aAC.History++[gB K (aD w.aAC.Log) (v+1) ⟨bH (aG w d).aAD.Entries b.Entries⟩]},true):=by
  refine aYh rfl ?_ λl hl=> ?_
  ·rw[h.hist];simp;omega
  ·rw[h.hist,List.getLast?_append] at hl
   grind[decide_eq_true,decide,aD,pQ,gB]
 unfold fH Sq;rw[c,n];rw[show(aM w d 0).1.aAC=w.aAC by rw[hs]];rw[f,hs];show(bif (0:Int)==0&&(bif true&&true then _ else _:AA×Bool).2 then _ else _)=_;simp only[du,ac,eM,gf];rfl
def Net.aCT (h:Net S t m w K v r b){d:Int}(hd:bC w d=false):fH w d=(w,false):=by unfold fH;rw[h.aCI hd 0];rfl
def Net.aBK (h:Net S t m w K v r b)(i:KeyS S)(ht:t<=900000)(hr:r.length<=58){d:Int}(hd:bC w d=true):
  Net S (t+1) m (VK.aBK w K v b d) K (v+1) (r++[gB K (aD w.aAC.Log) v b]) ⟨bH (aG w d).aAD.Entries b.Entries⟩:=by
 have c:aL w d=true:=by grind[bC]
 obtain⟨hl,e⟩:=iX c;have a:=h.wi.push d;rw[h.aBH i ht hr hd] at a;have hv:=h.ver;have hlen:(VK.aBK w K v b d).Devices.length=w.Devices.length:=aw ..;have f:=h.dev _ hl;rw[<-e] at f;refine⟨a,h.bx,h.devs,h.rem,?_,λs hs=> ?_,(f.bun.merge h.bun).mono (by omega),by omega,λk hk=> ?_⟩
 ·show w.aAC.History++[_]=_;rw[h.hist];rfl
 ·rcases bw.1 hs with hs|hs
  ·exact(h.old s hs).mono (by omega) (by omega)
  ·rw[cA.1 hs];exact h.last.mono (by omega) (by omega)
 ·have:∀k (hk:k<(w.Devices.set d.toNat (aLs w K v b (aG w d))).length),Dv S ((t+1:Nat):Int) w.aAC.Log K (aD w.aAC.Log) (v+1) (w.Devices.set d.toNat (aLs w K v b (aG w d)))[k]:=λk hk=>by
   rw[eR];rw[aw] at hk;split
   ·exact⟨⟨[],by show w.aAC.Log=w.aAC.Log++[];simp⟩, .inr ⟨rfl,cP _⟩,λ_=>rfl,(f.bun.merge h.bun).mono (by omega)⟩
   ·exact(h.dev k hk).mono (by omega) (by omega)
  exact this k hk
def Net.aDL (h:Net S t m w K v r b)(l:KeyS S)(ht:t<=900000)(d:Int){n:ByteArray}{a:Int}(hk:(bM n,a)∈S)(f:Bool):Net S (t+1) m (rF w d n a f).1 K v r b:=by
 have j:=h.wi.aDL d n a f;unfold rF at j ⊢;cases hb:aP w&&aL w d with
 |false=>exact h.mono (by omega)
 |true=>
  rw[hb] at j;rw[ab] at hb;obtain⟨hd,e⟩:=iX hb.2;have i:=h.dev _ hd;rw[<-e] at i;have c:=aHq l (by omega) i.bun hk f;cases hc:(dO (aG w d) n a f).2 with
  |false=>exact h.mono (by omega)
  |true=>rw[hc] at j;have k:=h.mono (u:=t+1) (by omega);exact k.upd rfl rfl (aw ..) j (k.set hd ⟨by rw[c.log];exact i.pre,by rw[c.ep,c.ver];exact i.at_,by rw[c.ep,c.key];exact i.key,c.bun.mono (by omega)⟩)
end
end Go.VK
set_option maxRecDepth 100000
namespace Go.VK
open D
def aQz {l:List AF}{e:AF}(h:aY (l++[e])=true):kY l e=true/\(l=[]\/aY l=true)/\l.length<40:=by
 unfold aY at h;rw[ab,ca] at h;have hr:=iA h.1;have hlen:(l++[e]).length=l.length+1:=by simp
 rw[hlen] at hr;have h1:=R5 h.2 l.length (by simp)
 grind[List.length_pos_iff,aY,iN,Bool.not_eq_true',Mv,R5,List.getElem_append_left]
def aC5 {α:Type}{P:List α->Prop}(h0:P [])(hs:∀l a,P l->P (l++[a])):∀(n:Nat) (l:List α),l.length=n->P l
 |0,l,h=>by rw[gS.1 h];exact h0
 |n+1,l,h=>by
  have c:l≠[]:=by rintro rfl;simp at h
  rw[<-List.dropLast_concat_getLast c];exact hs _ _ (aC5 h0 hs n _ (by rw[List.length_dropLast];omega))
def bVf (l:List AF):(aC l).Nodup:=
 aC5 (P:=λl=>(aC l).Nodup) gh (by grind[Tg,aQb]) l.length l rfl
def bDd (l:List AF):l.length<=1000->0<=aD l/\aD l<=(l.length:Int):=
 aC5 (P:=λl=>l.length<=1000->0<=aD l/\aD l<=(l.length:Int)) (λ_=>⟨cP 0,cP 0⟩) (by grind[List.length_append,Nb,aJ]) l.length l rfl
theorem bOx (l:List AF)(e:AF)(h:l.length<=999)(hk:e.Kind=2):aD (l++[e])=aD l+1:=by have:=bDd l (by omega);rw[Nb,hk,show((2:Int)==2)=true from rfl,ac,aJ (by omega) (by omega)]
def bRq {l:List AF}:(l=[]\/aY l=true)->∀p,dX l p=true->p∉aC l:=
 aC5 (P:=λl=>(l=[]\/aY l=true)->∀p,dX l p=true->p∉aC l) (by simp[dX]) (λl e a h p hp=>by
  have hl:aY (l++[e])=true:=h.resolve_left (by simp);obtain⟨h1,h2,_⟩:=aQz hl;rw[zI,cw] at hp
  grind[aC,bne_self_eq_false,Bool.not_eq_true',Bool.false_eq_true,List.mem_singleton,jF,kY,Tg]) l.length l rfl
theorem bVg {log:List AF}{key eph:Int}(hl:aY log=true)(hk:bK key=true)(hp:∀p∈aC log,bK p=true)(d:(aC log).length<=1000)(h:1<=eph/\eph<=1000000):(bJ log key eph).2=true/\BoxIn log (bJ log key eph).1 key:=by
 obtain⟨i,j,e,l⟩:=aHn hl hk hp d h;have f:log.length<=40:=by unfold aY at hl;rw[ab] at hl;have:=iA hl.1;omega
 refine⟨i,j,e,bVf log,hk,λk a=> ?_,by have:=bDd log (by omega);omega⟩;have n:(bJ log key eph).1.Boxes.length=(aC log).length:=by have:=congrArg List.length e;rwa [bg] at this
 have c:k<(aC log).length:=by omega
 have o:(aC log).length<=1000:=d;have hb:=l k a c;refine⟨eph+(k:Int),iN (by omega) (by omega),?_⟩
 grind
theorem bOy (l:List AF):(aC l).length<=l.length:=iB l
def bOz {log:List AF}{k d:Int}{s:AK}(h:(eX log k d s).2=true):eX log k d s=(log++[Mo log k d s],true)/\aY (log++[Mo log k d s])=true:=by
 grind[decide,aY,Mo,Bool.or_eq_false_iff,Bool.not_eq_false',eX]
theorem bO0 {log:List AF}{key e:Int}(h:(bJ log key e).2=true):bK key=true:=by
 grind[aY,bK,gV,jG,aD,aC,Bool.or_eq_false_iff,Bool.not_eq_false',bJ]
def bRr {c:AM}{log:List AF}{e:AN}(h:(lH c log e).2=true):lH c log e=({c with Log:=log,Boxes:=e},true):=by
 grind[aY,cZ,jT,lH]
def bH4 {w:AA}{b k p:Int}{key:List AF->Int}{l:List AF}(hl:l=w.aAC.Log++[Mo w.aAC.Log k p (aG w b).Store])(h:(jM w b k p key).2=true):
  ∃bx,jM w b k p key=({w with aAC:={w.aAC with Log:=l,Boxes:=bx}},true)/\aY l=true/\bK (key l)=true/\((∀q∈aC l,bK q=true)->BoxIn l bx (key l))/\(eX w.aAC.Log k p (aG w b).Store).1=l:=by
 have h0:(eX w.aAC.Log k p (aG w b).Store).2=true/\(bJ (eX w.aAC.Log k p (aG w b).Store).1 (key (eX w.aAC.Log k p (aG w b).Store).1) (IntKind.i64.wrap (1000+IntKind.i64.wrap (10*((eX w.aAC.Log k p (aG w b).Store).1.length:Int))))).2=true/\(lH w.aAC (eX w.aAC.Log k p (aG w b).Store).1 (bJ (eX w.aAC.Log k p (aG w b).Store).1 (key (eX w.aAC.Log k p (aG w b).Store).1) (IntKind.i64.wrap (1000+IntKind.i64.wrap (10*((eX w.aAC.Log k p (aG w b).Store).1.length:Int))))).1).2=true:=by
  grind[eX,aG,bJ,lH,jM]
 obtain⟨h1,h2,a⟩:=h0;obtain⟨c,d⟩:=bOz h1;rw[c,<-hl] at h2 a;rw[<-hl] at c d;have e:=bRr a;have hlen:l.length<=40:=by have:=d;unfold aY at this;rw[ab] at this;have:=iA this.1;omega
 grind[jM,aJ,bVg,bO0,bOy,bJ]
end Go.VK
set_option maxRecDepth 100000
namespace Go.VK
open D
structure KeyD (S:List (Int×Int)):Prop where
 ks:KeyS S
 dv:∀q:Nat,q<6->(bM (aA 0),(q:Int))∈S/\(bM (aA 1),(q:Int))∈S
section
variable {S:List (Int×Int)} {t m:Nat} {w:AA} {K v:Int} {r:List AI} {b:AB}
def Net.keys (h:Net S t m w K v r b):∀q∈aC w.aAC.Log,bK q=true:=λq hq=>by
 obtain⟨k,_,rfl⟩:=h.devs q hq;exact aC1 _ _
theorem gL {w:AA}{c:Int}(h:bC w c=true):aL w c=true:=by
 grind[bC]
theorem Net.inl (h:Net S t m w K v r b){c:Int}(hc:((aM w c 0).2==0)=true):bC w c=true:=by
 cases hl:bC w c with
 |true=>rfl
 |false=>rw[h.aCI hl 0] at hc;cases hc
def vN (w:AA)(c:Int):List AF:=w.aAC.Log++[Mo w.aAC.Log 1 (mG w.Seed w.Devices.length) (aG w c).Store]
def aZ6 {w:AA}{c:Int}(hl:aY (vN w c)=true):
  aC (vN w c)=aC w.aAC.Log++[mG w.Seed w.Devices.length]/\(∀p,dX (vN w c) p=dX w.aAC.Log p)/\aD (vN w c)=aD w.aAC.Log:=by
 obtain⟨h1,_,_⟩:=aQz hl;have hk:(Mo w.aAC.Log 1 (mG w.Seed w.Devices.length) (aG w c).Store).Kind=1:=rfl;have hd:(Mo w.aAC.Log 1 (mG w.Seed w.Devices.length) (aG w c).Store).Device=mG w.Seed w.Devices.length:=rfl
 grind[vN,Nb,zI,Tg,jF,aC,mG,lY,jE,Bool.not_eq_true',kY]
theorem Net.aAU (h:Net S t w.Devices.length w K v r b)(o:KeyD S)(ht:t<=900000){c:Int}(h0:((aM w c 0).2==0)=true)(h1:(add1 w c).2=true)(hn:w.Devices.length<6):
  Net S (t+2) (w.Devices.length+1) (VK.aAU w c) K v r b/\(VK.aAU w c).Devices=w.Devices.set c.toNat (kI (nI w K v b (aG w c)) (w.Devices.length:Int) false)/\(VK.aAU w c).aAC.Log=vN w c/\(VK.aAU w c).Seed=w.Seed:=by
 have f:=h.inl h0;have a:=gL f;obtain⟨hl,e⟩:=iX a;have hs:=h.aBX o.ks ht f;have A:=h.dev _ hl;rw[<-e] at A;have i:aG (aM w c 0).1 c=nI w K v b (aG w c):=by
  grind[List.getD,List.getElem?_set_self,default,aG,hs]
 obtain⟨bx,x,F,J,u,_⟩:=bH4 (w:=(aM w c 0).1) (b:=c) (k:=1) (p:=aT (aO w.Seed (w.Devices.length:Int))) (key:=λ_=>(aG (aM w c 0).1 c).Key) (l:=vN w c) (by rw[i,hs];rfl) h1;obtain⟨D,G,y⟩:=aZ6 F;have x:add1 w c=({(aM w c 0).1 with aAC:={(aM w c 0).1.aAC with Log:=vN w c,Boxes:=bx}},true):=x;have u:(∀q∈aC (vN w c),bK q=true)->BoxIn (vN w c) bx (aG (aM w c 0).1 c).Key:=u;rw[i] at u;have j:=u λq hq=>by
  rw[D] at hq;rcases bw.1 hq with hq|hq
  ·exact h.keys q hq
  grind[List.mem_singleton,aC1]
 have H:(VK.aAU w c).Devices=w.Devices.set c.toNat (kI (nI w K v b (aG w c)) (w.Devices.length:Int) false):=by
  show(add1 w c).1.Devices.set c.toNat (kI (aG (add1 w c).1 c) (w.Devices.length:Int) false)=_
  grind[List.set_set,hs,aM,aG,add1,nI]
 have d:(VK.aAU w c).aAC={w.aAC with Log:=vN w c,Boxes:=bx}:=by show(add1 w c).1.aAC=_;rw[x];show({(aM w c 0).1.aAC with Log:=vN w c,Boxes:=bx}:AM)=_;rw[hs]
 obtain⟨I,z,L⟩:=h.wi.aCW hn a;have n:ChgIn S ((t:Int)+2) (nI w K v b (aG w c)) (kI (nI w K v b (aG w c)) (w.Devices.length:Int) false):=bOw o.ks (by omega) (A.bun.merge h.bun) (o.dv _ hn).1 (o.dv _ hn).2 false;have hv:=h.ver;refine⟨⟨I,by rw[d];exact j,λp hp=> ?_,λp hp=> ?_,?_,λs hs=> ?_,h.bun.mono (by omega),by omega,?_⟩,H,by rw[d],z⟩
 ·rw[d] at hp;rw[z];have hp:p∈aC (vN w c):=hp;rw[D] at hp;rcases bw.1 hp with hp|hp
  ·obtain⟨k,hk,e⟩:=h.devs p hp;grind
  grind
 ·rw[d] at hp;rw[z];have hp:dX (vN w c) p=true:=hp;rw[G] at hp;obtain⟨k,hk,e⟩:=h.rem p hp;grind
 ·rw[d];show w.aAC.History=r++[gB K (aD (vN w c)) v b];rw[y];exact h.hist
 ·rw[d];show Hs S _ K (aD (vN w c)) v s;rw[y];exact(h.old s hs).mono (by omega) (cP _)
 ·rw[d];show ∀k (hk:k<(VK.aAU w c).Devices.length),Dv S _ (vN w c) K (aD (vN w c)) v (VK.aAU w c).Devices[k];rw[y];have:∀k (hk:k<(w.Devices.set c.toNat (kI (nI w K v b (aG w c)) (w.Devices.length:Int) false)).length),Dv S ((t+2:Nat):Int) (vN w c) K (aD w.aAC.Log) v (w.Devices.set c.toNat (kI (nI w K v b (aG w c)) (w.Devices.length:Int) false))[k]:=λk hk=>by
   rw[eR];rw[aw] at hk;split
   ·refine⟨⟨[Mo w.aAC.Log 1 (mG w.Seed w.Devices.length) (aG w c).Store],?_⟩, .inr ⟨?_,?_⟩,λ_=> ?_,n.bun.mono (by omega)⟩
    ·rw[n.log];rfl
    ·rw[n.ep];rfl
    ·rw[n.ver];exact cP _
    ·rw[n.key];rfl
   ·have q:=(h.dev k hk).mono (U:=((t+2:Nat):Int)) (by omega) (cP v);obtain⟨r',hr⟩:=q.pre;exact⟨⟨r'++[Mo w.aAC.Log 1 (mG w.Seed w.Devices.length) (aG w c).Store],by unfold vN;rw[<-cq,<-hr]⟩,q.at_,q.key,q.bun⟩
  simp_all
def bVh (U:AA)(K v:Int)(B:AB)(n:Nat):AD:=⟨aO U.Seed (n:Int),U.aAC.Log,K,aD U.aAC.Log,v,⟨bH [] B.Entries⟩⟩
def bKy (U:AA)(K v:Int)(B:AB):AA:={U with Devices:=U.Devices++[bVh U K v B U.Devices.length],Stolen:=U.Stolen++[false]}
def Net.app (h:Net S t (w.Devices.length+1) w K v r b)(o:KeyS S)(ht:t<=900000)(hn:w.Devices.length<6)(i:mG w.Seed w.Devices.length∈aC w.aAC.Log):
  aM (appW w (bG (aO w.Seed (w.Devices.length:Int)))) (w.Devices.length:Int) 0=(bKy w K v b,0)/\Net S t (w.Devices.length+1) (bKy w K v b) K v r b:=by
 have hv:=h.ver;have p:=h.bx.eps;have a:=h.wi.app hn;have hs:=h.aBT o ht (d:=bG (aO w.Seed (w.Devices.length:Int))) ⟨w.aAC.Log,rfl⟩ (by
  show(0:Int)<_\/((0:Int)=_/\(0:Int)<=v);omega) (BunIn.nil S _) i
 have c:aL (appW w (bG (aO w.Seed (w.Devices.length:Int)))) (w.Devices.length:Int)=true:=by
  grind[aL,appW]
 have j:aG (appW w (bG (aO w.Seed (w.Devices.length:Int)))) (w.Devices.length:Int)=bG (aO w.Seed (w.Devices.length:Int)):=by simp[aG,appW]
 have e:∀x,(w.Devices++[bG (aO w.Seed (w.Devices.length:Int))]).set w.Devices.length x=w.Devices++[x]:=(by simp);have he:aM (appW w (bG (aO w.Seed (w.Devices.length:Int)))) (w.Devices.length:Int) 0=(bKy w K v b,0):=by unfold aM;rw[a.ok,c,j];show(({appW w (bG (aO w.Seed (w.Devices.length:Int))) with Devices:=(w.Devices++[bG (aO w.Seed (w.Devices.length:Int))]).set ((w.Devices.length:Int)).toNat (bR (bG (aO w.Seed (w.Devices.length:Int))) w.aAC.Log w.aAC.Boxes (eZ w.aAC 0).1).1}:AA),(bR (bG (aO w.Seed (w.Devices.length:Int))) w.aAC.Log w.aAC.Boxes (eZ w.aAC 0).1).2)=_;rw[hs,bq,e];rfl
 have f:=a.sync (w.Devices.length:Int) 0;rw[he] at f;refine⟨he,⟨f,h.bx,h.devs,h.rem,h.hist,h.old,h.bun,h.ver,λk hk=> ?_⟩⟩;have l:k<(w.Devices++[bVh w K v b w.Devices.length]).length:=hk;show Dv S _ w.aAC.Log K (aD w.aAC.Log) v ((w.Devices++[bVh w K v b w.Devices.length])[k]'l);rw[List.getElem_append];split
 ·rename_i n;exact h.dev k n
 ·rw[List.getElem_singleton];exact⟨⟨[],by show w.aAC.Log=w.aAC.Log++[];simp⟩, .inr ⟨rfl,cP _⟩,λ_=>rfl,(BunIn.nil S _).merge h.bun⟩
def Net.tell (h:Net S t m w K v r b)(k:Int):Net S t m (qD w k) K v r b:=h.upd rfl rfl rfl (h.wi.tell k) h.dev
def Tn (w:AA)(K v:Int)(b:AB)(c:Int):AA:=VK.aBK (VK.aAU w c) K v b c
def bFs (w:AA)(K v:Int)(b:AB)(c:Int):AB:=⟨bH (kI (nI w K v b (aG w c)) (w.Devices.length:Int) false).aAD.Entries b.Entries⟩
theorem Net.add (h:Net S t w.Devices.length w K v r b)(p:KeyD S)(ht:t<=800000)(hr:r.length<=58){c:Int}(d:Ib w c=true):
  Net S (t+3) (w.Devices.length+1) (Tn w K v b c) K (v+1) (r++[gB K (aD w.aAC.Log) v b]) (bFs w K v b c)/\(Tn w K v b c).Devices.length=w.Devices.length/\(Tn w K v b c).Seed=w.Seed/\
  Net S (t+3) (w.Devices.length+1) (fK w c).1 K (v+1) (r++[gB K (aD w.aAC.Log) v b]) (bFs w K v b c)/\(fK w c).1=qD (bKy (Tn w K v b c) K (v+1) (bFs w K v b c)) 2/\(Tn w K v b c).aAC.Log=vN w c/\bC w c=true/\
  (Tn w K v b c).Devices=w.Devices.set c.toNat (aLs (VK.aAU w c) K v b (kI (nI w K v b (aG w c)) (w.Devices.length:Int) false)):=by
 have j:=d;unfold Ib at d;simp only[ab,ca,ct] at d;obtain⟨⟨k1,k2,k3,k4⟩,k5,k6,k7,k8,k9⟩:=d;have hn:w.Devices.length<6:=by omega
 obtain⟨n1,n2,n3,n4⟩:=h.aAU p (by omega) k5 k6 hn;have a:=h.inl k5;obtain⟨hl,e⟩:=iX (gL a);have n5:(VK.aAU w c).Devices.length=w.Devices.length:=by rw[n2,aw]
 have q:c.toNat<(VK.aAU w c).Devices.length:=by omega
 have k:aY (vN w c)=true:=by rw[<-n3];exact n1.wi.log
 obtain⟨s,y,u⟩:=aZ6 k;have i:aL (VK.aAU w c) c=true:=xI (gL a) n5;have f:bC (VK.aAU w c) c=true:=by rw[n1.aDM i,n3,n4,s,lY];rw[h.aDM (gL a),lY] at a;simp[*]
 have l:aG (VK.aAU w c) c=kI (nI w K v b (aG w c)) (w.Devices.length:Int) false:=by
  grind[n2,List.getD,List.getElem?_set_self,aG]
 have hp:=n1.aBH p.ks (by omega) hr f;have n:=n1.aBK p.ks (by omega) hr f;rw[l,n3,u] at n;have z:sK w c=(Tn w K v b c,true):=hp;have u1:(Tn w K v b c).Devices.length=w.Devices.length:=by show((VK.aAU w c).Devices.set _ _).length=_;rw[aw,n5]
 have u2:(Tn w K v b c).Seed=w.Seed:=n4;have u3:(Tn w K v b c).aAC.Log=vN w c:=n3;have u4:(Tn w K v b c).Devices=w.Devices.set c.toNat (aLs (VK.aAU w c) K v b (kI (nI w K v b (aG w c)) (w.Devices.length:Int) false)):=by show(VK.aAU w c).Devices.set c.toNat (aLs (VK.aAU w c) K v b (aG (VK.aAU w c) c))=_;rw[l,n2,gf]
 have n:Net S (t+3) (w.Devices.length+1) (Tn w K v b c) K (v+1) (r++[gB K (aD w.aAC.Log) v b]) (bFs w K v b c):=n;have o:=n;rw[<-u1] at o;obtain⟨s1,s2⟩:=o.app p.ks (by omega) (by omega) (by simp[*]);have x:Cz w c=(bKy (Tn w K v b c) K (v+1) (bFs w K v b c),0):=by
  grind[s1,u2,u1,Cz]
 have eA:(fK w c).1=qD (bKy (Tn w K v b c) K (v+1) (bFs w K v b c)) 2:=by unfold fK;rw[j,ac,x]
 rw[u1] at s2;exact⟨n,u1,u2,by rw[eA];exact s2.tell 2,eA,u3,a,u4⟩
end
end Go.VK
set_option maxRecDepth 100000
namespace Go.VK
open D
def mX (w:AA)(c x:Int):List AF:=w.aAC.Log++[Mo w.aAC.Log 2 (aT (aG w x).Store) (aG w c).Store]
def aHr (w:AA)(c x:Int):Int:=mR (aG w c).Store (mX w c x)
def bH5 {w:AA}{c x:Int}(hl:aY (mX w c x)=true):
  aC (mX w c x)=(aC w.aAC.Log).filter (λd=>d !=aT (aG w x).Store)/\(∀p,dX (mX w c x) p=(dX w.aAC.Log p||aT (aG w x).Store==p))/\aD (mX w c x)=aD w.aAC.Log+1:=by
 obtain⟨_,_,h1⟩:=aQz hl;have hk:(Mo w.aAC.Log 2 (aT (aG w x).Store) (aG w c).Store).Kind=2:=rfl;have hd:(Mo w.aAC.Log 2 (aT (aG w x).Store) (aG w c).Store).Device=aT (aG w x).Store:=rfl;refine⟨?_,λp=> ?_,?_⟩
 all_goals grind[mX,bOx,zI,Tg,jF]
def bRs {d:AD}{log:List AF}{key:Int}(h:(mQ d log key).2=true):(mQ d log key).1={d with Log:=log,Key:=key,Epoch:=aD log,Version:=0}:=by
 grind[aY,cZ,decide,aD,bK,mQ]
section
variable {S:List (Int×Int)} {t m:Nat} {w:AA} {K v:Int} {r:List AI} {b:AB}
def Gy (w:AA)(K v:Int)(b:AB)(c x:Int):AD:=kI {nI w K v b (aG w c) with Log:=mX w c x,Key:=aHr w c x,Epoch:=aD (mX w c x),Version:=0} x true
def bKz (w:AA)(K v:Int)(b:AB)(bx:AN)(c x:Int):AA:=
 {w with Devices:=w.Devices.set c.toNat {Gy w K v b c x with Version:=1},Sites:=w.Sites.map (gX x),aAC:=⟨mX w c x,bx,w.aAC.History++[gB (aHr w c x) (aD (mX w c x)) 1 (Gy w K v b c x).aAD]⟩}
theorem bO1 {w:AA}{c x:Int}(h:(fG w c x).2=false):fG w c x=(w,false):=by
 grind[aM,eT,bC,oZ,nE,Pv,Pw,fG]
def bH6 {w:AA}{c x:Int}(h:(fG w c x).2=true):((aM w c 0).2==0)=true/\eT w c=false/\(c==x)=false/\bC w x=true/\(nE w c x).2=true/\(Pv w c x).2=true/\(Pw w c x).2=true/\fG w c x=(qD (Pw w c x).1 4,true):=by
 unfold fG at h ⊢
 grind[aM,eT,bC,oZ,nE,Pv,Pw,Bool.not_eq_true']
def Net.cutAt (h:Net S t m w K v r b)(d:KeyD S)(ht:t<=900000){c:Int}(a:bC w c=true):aM w c 0=({w with Devices:=w.Devices.set c.toNat (nI w K v b (aG w c))},0)/\aG (jN w c) c=nI w K v b (aG w c):=by
 have hs:=h.aBX d.ks ht a
 grind[List.getD,List.getElem?_set_self,default,aG,hs,jN,iX,gL]
def Net.aDX (h:Net S t m w K v r b)(d:KeyD S){T:Int}(l:0<=T/\T<=900000)(ht:(t:Int)<=T){c x:Int}(a:bC w c=true)(f:bC w x=true):
  ChgIn S (T+2) {nI w K v b (aG w c) with Log:=mX w c x,Key:=aHr w c x,Epoch:=aD (mX w c x),Version:=0} (Gy w K v b c x):=by
 obtain⟨hl,e⟩:=iX (gL a);obtain⟨j,n⟩:=iX (gL f);have i:=h.dev _ hl;rw[<-e] at i;obtain⟨k,_,_⟩:=pU (gL f);have hd:=h.wi.dlen;have hk:=d.dv x.toNat (by omega);rw[fy k] at hk;exact bOw d.ks (by omega) ((i.bun.merge h.bun).mono (by omega)) hk.1 hk.2 true
def Net.aDW (h:Net S t m w K v r b)(y:KeyD S)(ht:t<=800000)(hr:r.length<=58){c x:Int}(j:bC w c=true)(k2:eT w c=false)(k3:(c==x)=false)(k4:bC w x=true)(k5:(nE w c x).2=true)(k6:(Pv w c x).2=true):
  ∃bx,fG w c x=(qD (bKz w K v b bx c x) 4,true)/\Net S (t+3) m (qD (bKz w K v b bx c x) 4) (aHr w c x) 1 (r++[gB K (aD w.aAC.Log) v b]) (Gy w K v b c x).aAD:=by
 obtain⟨hl,e⟩:=iX (gL j);obtain⟨z,J⟩:=iX (gL k4);obtain⟨hs,n⟩:=h.cutAt y (by omega) j;have o:jN w c={w with Devices:=w.Devices.set c.toNat (nI w K v b (aG w c))}:=by unfold jN;rw[hs]
 obtain⟨bx,A,L,Z,M,N⟩:=bH4 (w:=jN w c) (b:=c) (k:=2) (p:=aT (aG w x).Store) (key:=mR (aG (jN w c) c).Store) (l:=mX w c x) (by rw[n,o];rfl) k5;obtain⟨g1,O,g3⟩:=bH5 L;have i:∀q∈aC (mX w c x),q∈aC w.aAC.Log:=(by simp_all);have f:BoxIn (mX w c x) bx (aHr w c x):=by have:=M λq hq=>h.keys q (i q hq);rw[n] at this;exact this
 have D:aHe w c x=mX w c x:=N;have h2:(Pv w c x).1={nI w K v b (aG w c) with Log:=mX w c x,Key:=aHr w c x,Epoch:=aD (mX w c x),Version:=0}:=by have:=bRs k6;unfold Pv;rw[this,D,n];rfl
 have a:=h.aDX y (T:=(t:Int)) (by omega) (cP _) j k4;have Q:=f.eps;have hv:=h.ver;have R:cB (Gy w K v b c x)=({Gy w K v b c x with Version:=1},gB (aHr w c x) (aD (mX w c x)) 1 (Gy w K v b c x).aAD,true):=by
  have:=bDc (d:=Gy w K v b c x) y.ks (T:=(t:Int)+2) (by omega) (by rw[a.key];exact f.kok) (by rw[a.ep];grind) (by rw[a.ver];simp) a.bun;have V:(Gy w K v b c x).Key=aHr w c x:=a.key;have W:(Gy w K v b c x).Epoch=aD (mX w c x):=a.ep;have f3:(Gy w K v b c x).Version+1=1:=by rw[show(Gy w K v b c x).Version=0 from a.ver];rfl
  refine this.trans ?_;rw[f3,<-V,<-W]
 have F:bZ {w.aAC with Log:=mX w c x,Boxes:=bx} (gB (aHr w c x) (aD (mX w c x)) 1 (Gy w K v b c x).aAD)=({w.aAC with Log:=mX w c x,Boxes:=bx,History:=w.aAC.History++[gB (aHr w c x) (aD (mX w c x)) 1 (Gy w K v b c x).aAD]},true):=by
  refine aYh rfl ?_ λl hl=> ?_
  ·show w.aAC.History.length<60;rw[h.hist];simp;omega
  ·have hl:w.aAC.History.getLast? =some l:=hl;rw[h.hist,List.getLast?_append] at hl
   grind[decide_eq_true,decide,aD,mX,pQ,gB]
 have G:aCt w c x={w with Devices:=w.Devices.set c.toNat (Gy w K v b c x),Sites:=w.Sites.map (gX x),aAC:={w.aAC with Log:=mX w c x,Boxes:=bx}}:=by unfold aCt;rw[h2];have A:nE w c x=({jN w c with aAC:={(jN w c).aAC with Log:=mX w c x,Boxes:=bx}},true):=A;rw[A,o];show(AA.mk _ _ ((w.Devices.set c.toNat _).set c.toNat _) _ _ _ _ _ _ _)=_;rw[gf];rfl
 have h3:Pw w c x=(bKz w K v b bx c x,true):=by
  unfold Pw Sq;have:aG (aCt w c x) c=Gy w K v b c x:=by
   grind[List.getD,List.getElem?_set_self,default,aG]
  rw[this,R,G];show(bif true&&(bZ {w.aAC with Log:=mX w c x,Boxes:=bx} _).2 then(({w with Devices:=(w.Devices.set c.toNat _).set c.toNat _,Sites:=_,aAC:=(bZ {w.aAC with Log:=mX w c x,Boxes:=bx} _).1}:AA),true) else _)=_;rw[F,gf];rfl
 have I:fG w c x=(qD (bKz w K v b bx c x) 4,true):=by
  grind[aM,hs,k2,k3,k4,k5,k6,fG,oZ]
 have u:=(h.wi.cut c x).1;rw[I] at u;refine⟨bx,I,u,f,λp hp=>h.devs p (i p hp),λp hp=> ?_,?_,λs hs=> ?_,a.bun.mono (by omega),by omega,?_⟩
 ·have hp:dX (mX w c x) p=true:=hp;rw[O,cw] at hp;rcases hp with hp|hp
  ·exact h.rem p hp
  ·rw[<-eq_of_beq hp];have:=(h.aDM (gL k4)).symm.trans k4;rw[lY] at this;rw[J,h.pub z];exact h.devs _ this
 ·show w.aAC.History++[_]=_;rw[h.hist];rfl
 ·have X:s.Epoch<=aD w.aAC.Log:=by
   rcases bw.1 hs with hs|hs
   ·exact(h.old s hs).low
   ·rw[cA.1 hs];exact cP _
  refine⟨?_,λhe=> ?_⟩
  ·show s.Epoch<=aD (mX w c x);omega
  ·have he:s.Epoch=aD (mX w c x):=he;omega
 ·have:∀k (hk:k<(w.Devices.set c.toNat {Gy w K v b c x with Version:=1}).length),Dv S ((t+3:Nat):Int) (mX w c x) (aHr w c x) (aD (mX w c x)) 1 (w.Devices.set c.toNat {Gy w K v b c x with Version:=1})[k]:=λk hk=>by
   rw[eR];rw[aw] at hk;split
   ·exact⟨⟨[],by show mX w c x=(Gy w K v b c x).Log++[];rw[a.log];simp⟩, .inr ⟨a.ep,cP 1⟩,λ_=>a.key,a.bun.mono (by omega)⟩
   ·have q:=h.dev k hk;obtain⟨r',hr⟩:=q.pre;have H:w.Devices[k].Epoch<aD (mX w c x):=by rcases q.at_ with q|q<;>omega
    exact⟨⟨r'++[Mo w.aAC.Log 2 (aT (aG w x).Store) (aG w c).Store],by unfold mX;rw[<-cq,<-hr]⟩, .inl H,λhe=>by omega,q.bun.mono (by omega)⟩
  exact this
def Net.cut (h:Net S t m w K v r b)(d:KeyD S)(ht:t<=800000)(hr:r.length<=58){c x:Int}(a:(fG w c x).2=true):
  ∃bx,fG w c x=(qD (bKz w K v b bx c x) 4,true)/\Net S (t+3) m (qD (bKz w K v b bx c x) 4) (aHr w c x) 1 (r++[gB K (aD w.aAC.Log) v b]) (Gy w K v b c x).aAD:=by
 obtain⟨k1,k2,k3,k4,k5,k6,k7,k8⟩:=bH6 a;exact h.aDW d ht hr (h.inl k1) k2 k3 k4 k5 k6
end
end Go.VK
set_option maxRecDepth 100000
namespace Go.VK
open D
def aLt (w:AA)(d j:Int)(o:AQ):((iK w d j o).1=w/\(iK w d j o).2.2=1)\/(dU w d j=true/\(aBA w j).2.2.2=true/\(iK w d j o).1=aUp w d j o/\(iK w d j o).2.2=2/\((Sz w d j o).2.1==0)=false)\/
  (dU w d j=true/\(aBA w j).2.2.2=true/\(iK w d j o).1=qD (aUp w d j o) 1/\(iK w d j o).2.2=0/\((Sz w d j o).2.1==0)=true):=by
 grind[dU,aBA,Sz,iK]
def Yw {w:AA}{d j:Int}(h:dU w d j=true):aP w=true/\aL w d=true/\qA w j=true:=by
 grind[dU]
section
variable {S:List (Int×Int)} {t m:Nat} {w:AA} {K v:Int} {r:List AI} {b:AB}
def Net.visit (h:Net S t m w K v r b)(d j:Int)(o:AQ):Net S t m (iK w d j o).1 K v r b:=by
 have c:=h.wi.visit d j o;have key:∀u,WIn m u->dU w d j=true->u.Seed=w.Seed->u.aAC=w.aAC->u.Devices=(aUp w d j o).Devices->Net S t m u K v r b:=λu i ht k l f=>by
  obtain⟨hl,e⟩:=iX (Yw ht).2.1;have a:=h.dev _ hl;rw[<-e] at a;refine h.upd k l (by rw[f];exact aw ..) i (by rw[f];exact h.set hl ⟨a.pre,a.at_,a.key,a.bun⟩)
 rcases aLt w d j o with⟨e,_⟩|⟨ht,_,e,_,_⟩|⟨ht,_,e,_,_⟩
 ·simp[*]
 ·rw[e] at c ⊢;exact key _ c ht rfl rfl rfl
 ·rw[e] at c ⊢;exact key _ c ht rfl rfl rfl
def Net.same (h:Net S t m w K v r b){u:AA}(c:WIn m u)(d:u.Seed=w.Seed)(e:u.aAC=w.aAC)(a:u.Devices=w.Devices):Net S t m u K v r b:=
 h.upd d e (by rw[a]) c (by rw[a];exact h.dev)
def Net.aCE (h:Net S t m w K v r b)(d:Int):Net S t m (oK w d).1 K v r b:=by
 have:=(h.wi.aCE d).1;unfold oK at this ⊢;cases hb:dU w d 0&& !eT w d with
 |false=>exact h
 |true=>rw[hb] at this;exact h.same this rfl rfl rfl
def Net.tick (h:Net S t m w K v r b):Net S t m (uC w).1 K v r b:=by
 have:=h.wi.tick.1;unfold uC at this ⊢;cases hb:aP (sO w) with
 |false=>exact h
 |true=>rw[hb] at this;exact h.same this rfl rfl rfl
def Net.aCU (h:Net S t m w K v r b)(a:List Int)(pin:Int):Net S t m (fP w a pin).1 K v r b:=by
 have:=(h.wi.aCU a pin).1;unfold fP at this ⊢;cases hb:aP w with
 |false=>exact h
 |true=>rw[hb] at this;exact h.same this rfl rfl rfl
def Net.renew (h:Net S t m w K v r b):Net S t m (eO w).1 K v r b:=by
 have:=h.wi.renew.1;unfold eO at this ⊢;cases hb:aP w&&(fB w.Hosts (aCm w)).2 with
 |false=>exact h
 |true=>rw[hb] at this;exact h.same this rfl rfl rfl
def Net.roll (h:Net S t m w K v r b)(i c:Int):Net S t m (fT w i c).1 K v r b:=by
 have:=(h.wi.roll i c).1;unfold fT at this ⊢;cases hb: !aP w||(decide (i<0)||decide (i>=(w.Hosts.length:Int))) with
 |true=>exact h
 |false=>
  rw[hb] at this;cases hc:(fM (w.Hosts.getD i.toNat default) c).2 with
  |false=>exact h
  |true=>simp only[hc,aa,ac] at this ⊢;exact h.same this rfl rfl rfl
end
def aYi (Q:AV->Prop)(s:AC):Prop:=∀a∈s.Accounts,∀c∈a.Credentials,Q c
def aZ7 (P:Int->Prop)(s:AC):Prop:=aYi (λc=>P c.Handle->c.Cut=true) s
def aHs (log:List AF)(seed q:Int):Prop:=dX log (mG seed q.toNat)=true
def wN (w:AA):Prop:=∀s∈w.Sites,aZ7 (aHs w.aAC.Log w.Seed) s
def bRt {a:AJ}{x:AY}{z:ByteArray}{q:Int}{d:AV}(h:d∈(jX a x z q).1.Credentials):∃c∈a.Credentials,c.Handle=d.Handle/\(c.Cut=true->d.Cut=true):=by
 unfold jX at h
 grind[bB,decide,aS,gG,id,Bool.or_eq_false_iff,Ah,List.getD,List.getElem?_eq_getElem,Int.toNat_natCast,List.mem_or_eq_of_mem_set,List.getElem_mem,kJ]
def aZ7.finish {P:Int->Prop}{seed j:Int}{n:Nat}{s:AC}(hs:SiteIn seed j n s)(h:aZ7 P s)(c t:Int)(x:AY):aZ7 P (pE s 1 c t x).1:=by
 have k:=hs.find;obtain⟨l,e,hl,hn⟩:=hs.acc;have o:fU s 0=⟨1,3,l⟩:=by grind[fU]
 have d:aZ7 P {s with Accounts:=s.Accounts.set (0:Int).toNat (jX ⟨1,3,l⟩ x s.Name (fJ s.Book c)).1}:=λa f y i hp=>by
  have f:a∈s.Accounts.set (0:Int).toNat (jX ⟨1,3,l⟩ x s.Name (fJ s.Book c)).1:=f;rw[e] at f;have f:a=(jX ⟨1,3,l⟩ x s.Name (fJ s.Book c)).1:=by simp_all
  subst f;obtain⟨p,q,z,u⟩:=bRt i;exact u (h ⟨1,3,l⟩ (by grind) p q (by simp[*]))
 unfold pE;rw[k];cases !dI s||decide ((0:Int)<0) with
 |true=>exact h
 |false=>
  simp only[aa];cases !(qE s.Book c 1 t).2 with
  |true=>exact h
  |false=>
   simp only[aa];cases !sM (fU s 0) 3 with
   |true=>exact h
   |false=>
    simp only[aa,o];cases !((jX ⟨1,3,l⟩ x s.Name (fJ s.Book c)).2==0) with
    |true=>exact d
    |false=>exact d
def bFt (s:AC)(i n:Int):(lX s i n).1.Accounts=s.Accounts/\(lX s i n).1.Logins=s.Logins/\(lX s i n).1.Name=s.Name:=by unfold lX;cases dI s&&(!decide (aF s i<0)&&(eH s.Book i n).2.2)<;>exact⟨rfl,rfl,rfl⟩
section
variable {m:Nat} {w:AA}
def aZ8 (h:WIn m w){j:Int}(a:qA w j=true):∃hl:j.toNat<w.Sites.length,fA w j=w.Sites[j.toNat]/\(j=0\/j=1)/\SiteIn w.Seed j m (fA w j):=by
 simp only[qA,ab,bp] at a;have h2:=h.two;have hl:j.toNat<w.Sites.length:=by omega
 have e:fA w j=w.Sites[j.toNat]:=by unfold fA;rw[List.getD,ae hl,ck]
 refine⟨hl,e,by omega,?_⟩;have:=h.site _ hl
 grind
def wN.visit (h:WIn m w)(hc:wN w)(d j:Int)(o:AQ):wN (iK w d j o).1:=by
 have key:dU w d j=true->wN (aUp w d j o):=λht=>by
  obtain⟨hl,e,f,hs⟩:=aZ8 h (Yw ht).2.2;intro s hm;have hm:s∈w.Sites.set j.toNat (Sz w d j o).1:=hm;show aZ7 (aHs w.aAC.Log w.Seed) s;rcases et hm with hm|rfl
  ·exact hc s hm
  ·have hb:=hs.begin 1 w.Now;refine aZ7.finish hb (λa c=> ?_) _ _ _;have c:a∈(lX (fA w j) 1 w.Now).1.Accounts:=c;rw[(bFt _ _ _).1] at c;exact hc (fA w j) (by simp[*]) a c
 rcases aLt w d j o with⟨e,_⟩|⟨ht,_,e,_,_⟩|⟨ht,_,e,_,_⟩
 ·simp[*]
 ·simp[*]
 ·rw[e];exact key ht
def wN.same (hc:wN w){u:AA}(d:u.Seed=w.Seed)(f:u.aAC.Log=w.aAC.Log)(h:∀s∈u.Sites,∃s'∈w.Sites,s.Accounts=s'.Accounts):wN u:=λs hs=>by
 obtain⟨s',hm,e⟩:=h s hs;rw[d,f];intro a c;rw[e] at c;exact hc s' hm a c
def wN.keep (hc:wN w){u:AA}(a:u.Seed=w.Seed)(c:u.aAC.Log=w.aAC.Log)(d:u.Sites=w.Sites):wN u:=hc.same a c λs hs=>(by grind)
def wN.tick (hc:wN w):wN (uC w).1:=by
 unfold uC;cases aP (sO w) with
 |false=>exact hc
 |true=>
  refine hc.same rfl rfl λs hs=> ?_
  grind
def bRu {Q:AV->Prop}{s:AC}(h:aYi Q s){id q p:Int}(hq:Q ⟨q,p,0,false⟩):aYi Q (gD s id q p).1:=by
 unfold gD;cases hb: !dI s||decide (aF s id<0) with
 |true=>exact h
 |false=>
  rw[aa];cases h2:(iJ (s.Accounts.getD (aF s id).toNat default) q p).2 with
  |false=>exact h
  |true=>
   intro a d c hc;rw[bn] at hb;obtain⟨k,hk,e,j⟩:=Ah (l:=s.Accounts) hb.2;have f:aF s id=(k:Int):=e.trans (by simp);have i:s.Accounts.getD (aF s id).toNat default=s.Accounts[k]:=by rw[f,bq,List.getD,ae hk,ck]
   have d:a∈s.Accounts.set (aF s id).toNat (iJ (s.Accounts.getD (aF s id).toNat default) q p).1:=d;rcases et d with d|d
   ·exact h a d c hc
   ·rw[i] at d;have hm:c∈s.Accounts[k].Credentials\/c=⟨q,p,0,false⟩:=by
     grind[bB,aHb,Zg,List.mem_singleton,List.mem_of_mem_take,List.mem_of_mem_drop,iJ]
    rcases hm with hm|rfl
    ·exact h _ (cb hk) c hm
    ·exact hq
def aQ0 {Q:AV->Prop}{st:AK}{q:Int}(hq:∀p,Q ⟨q,p,0,false⟩):∀{l:List AC} {j:Nat},(∀s∈l,aYi Q s)->∀s∈(gK st q j l).1,aYi Q s
 |[],j,_,s,hs=>by simp[gK] at hs
 |x::l,j,h,s,hs=>by
  unfold gK at hs;cases hb:(gD x 1 q (fC st (aA (j:Int)) q)).2&&(gK st q (j+1) l).2 with
  |false=>rw[hb] at hs;simp at hs
  |true=>
   rw[hb,ac] at hs;rcases ba.1 hs with rfl|hs
   ·exact bRu (h x (cC ..)) (hq _)
   ·exact aQ0 hq (λs hs=>h s (cl _ hs)) s hs
def bH7 {seed j:Int}{l:List AV}(h:Mw seed j l){k:Nat}(hk:k<l.length):aS ⟨1,3,l⟩ (k:Int)=(k:Int):=by
 have hd:decide (aS ⟨1,3,l⟩ (k:Int)<0)=false:=by rw[ct];intro hn;have:=Si (p:=λc:AV=>c.Handle==(k:Int)) hn l[k] (cb hk);rw[(h k hk).1,eM] at this;cases this
 obtain⟨i,hi,a,d⟩:=Ah (l:=l) hd;have:=(h i hi).1
 grind[aS]
def bO2 {seed j:Int}{n:Nat}{s:AC}(x:j=0\/j=1)(hn:n<=6)(hs:SiteIn seed j n s){k:Nat}(hk:k<n):∃l l',s.Accounts=[⟨1,3,l⟩]/\(gX (k:Int) s).Accounts=[⟨1,3,l'⟩]/\l'.length=l.length/\Mw seed j l/\Mw seed j l'/\
  (∀c∈l',c.Handle=(k:Int)->c.Cut=true)/\(∀i (h1:i<l.length) (h2:i<l'.length),i≠k->l'[i]=l[i])/\(∀d∈l',∃c∈l,c.Handle=d.Handle/\c.Counter=d.Counter/\(c.Cut=true->d.Cut=true))/\(gX (k:Int) s).Logins=s.Logins/\(gX (k:Int) s).Book=s.Book:=by
 have A:=hs.find;obtain⟨l,e,hl,f⟩:=hs.acc;subst f;have D:fU s 0=⟨1,3,l⟩:=by grind[fU]
 have o:=bH7 hl hk;have p:gG ⟨1,3,l⟩ (k:Int)=l[k]:=by grind[List.getD,List.getElem?_eq_getElem,gG]
 have q:=aQm (m:=3) x hl hn (by grind);have y:gX (k:Int) s={s with Accounts:=[(nD ⟨1,3,l⟩ (k:Int)).1]}:=by unfold gX;simp[*]
 have z:∀{l':List AV},Mw seed j l'->∀c∈l',c.Handle=(k:Int)->∃h:k<l'.length,c=l'[k]:=λa c hc F=>by
  obtain⟨i,hi,e⟩:=df.1 hc;have:=(a i hi).1
  grind
 rw[y];unfold nD;rw[q,o,p,ao (show ¬(k:Int)<0 by omega)];cases u:l[k].Cut with
 |true=>
  grind
 |false=>
  have a:Mw seed j (l.set k {l[k] with Cut:=true}):=hl.set hk rfl rfl (hl k hk).2.2
  grind
end
end Go.VK
set_option maxRecDepth 100000
namespace Go.VK
open D
def aUt:List (Int×Int):=[(1941999745,0),(1941999745,1),(1941999745,2),(1941999745,3),(1941999745,4),(1941999745,5),(1464438180,0),(1464438180,1),(1464438180,2),(1464438180,3),(1464438180,4),(1464438180,5)]
def bRv {x:List (Int×Int)}(h:x.length<=8)(a:∀p∈x,(0<=p.1/\p.1<=2147483646)/\(0<=p.2/\p.2<=1000000)):KeyD (aUt++x):=by
 refine⟨⟨by rw[ax];show 12+x.length<=20;omega,λp hp=> ?_⟩,λq hq=> ?_⟩
 ·rcases bw.1 hp with hp|hp
  ·have:∀p∈aUt,(0<=p.1/\p.1<=2147483646)/\(0<=p.2/\p.2<=1000000):=by decide
   simp[*]
  simp[*]
 simp_all[bWu,bWv,aUt,List.mem_append_left];omega
def bO3 {x:List (Int×Int)}{n:Nat}(h:n=1\/n=2\/n=3):BunIn (aUt++x) 3 (nwB n).Entries:=by
 refine⟨(aG9 (bFn h).1).2,λe he=>List.mem_append_left _ ?_,λe he=> ?_⟩
 ·rcases h with rfl|rfl|rfl<;>revert e<;>decide
 ·rcases h with rfl|rfl|rfl<;>revert e<;>decide
def bRw {x:List (Int×Int)}{n k t pin seed:Int}(h:Tc n k t pin seed=true):Net (aUt++x) 3 (bY n k t pin seed).Devices.length (bY n k t pin seed) (bX seed 0) 1 [] (nwB n.toNat):=by
 obtain⟨a,c,l⟩:=aLn h;have hn:n.toNat=1\/n.toNat=2\/n.toNat=3:=by unfold Tc at h;simp only[ab] at h;have:=iA h.1;omega
 obtain⟨h1,h2,o,d,q⟩:=rH seed n.toNat (by omega);have f:(bY n k t pin seed).aAC=⟨aU seed n.toNat,iL seed n.toNat,[gB (bX seed 0) 0 1 (nwB n.toNat)]⟩:=by
  grind[aYd,bY]
 have s:(bY n k t pin seed).Devices=(List.range n.toNat).map λk=>J5 seed n.toNat k 1 (nwB n.toNat):=by
  grind[bC7,bY]
 rw[c];refine⟨a,by grind[bC6],λp hp=> ?_,λp hp=> ?_,?_,(by simp),bO3 hn,by decide,λi hi=> ?_⟩
 ·grind
 ·simp_all
 ·simp[*]
 ·rw[f];show Dv _ _ (aU seed n.toNat) _ (aD (aU seed n.toNat)) 1 (bY n k t pin seed).Devices[i];have j:i<((List.range n.toNat).map λk=>J5 seed n.toNat k 1 (nwB n.toNat)).length:=by simp_all
  have e:(bY n k t pin seed).Devices[i]=J5 seed n.toNat i 1 (nwB n.toNat):=by simp[*]
  rw[e,d];exact⟨⟨[],by show _=aU seed n.toNat++[];simp⟩, .inr ⟨rfl,cP _⟩,λ_=>rfl,bO3 hn⟩
def bRx {n k t pin seed:Int}(h:Tc n k t pin seed=true):wN (bY n k t pin seed):=λs hs a e c hc hp=>by
 have hn:n.toNat=1\/n.toNat=2\/n.toNat=3:=by unfold Tc at h;simp only[ab] at h;have:=iA h.1;omega
 have d:(bY n k t pin seed).aAC.Log=aU seed n.toNat:=by unfold bY;rw[h];show(jI seed n.toNat).Log=_;rw[aYd hn]
 unfold aHs at hp;rw[d,(rH seed n.toNat (by omega)).rem] at hp;cases hp
section
variable {S:List (Int×Int)} {t m:Nat} {w:AA} {K v:Int} {r:List AI} {b:AB}
theorem bH8 {w:AA}{c:Int}(h:(fK w c).2=false):fK w c=(w,false):=by
 grind[Ib,fK]
def aQ1 {w:AA}{c:Int}(h:(fK w c).2=true):Ib w c=true:=by
 grind[Ib,fK]
theorem wN.add (h:Net S t w.Devices.length w K v r b)(f:KeyD S)(ht:t<=800000)(hr:r.length<=58)(hc:wN w)(a:Int):wN (fK w a).1:=by
 cases hk:(fK w a).2 with
 |false=>grind[bH8]
 |true=>
  obtain⟨n1,u1,u2,n2,eA,u3,i,u4⟩:=h.add f ht hr (aQ1 hk);have d:aY (vN w a)=true:=by rw[<-u3];exact n1.wi.log
  obtain⟨p,j,u⟩:=aZ6 d;have hd:=h.wi.dlen;have l:=n1.wi.mle;have eP:aHs (vN w a) w.Seed=aHs w.aAC.Log w.Seed:=by funext q;unfold aHs;rw[j]
  have n:¬aHs (vN w a) w.Seed (w.Devices.length:Int):=λhq=>by
   rw[eP] at hq;obtain⟨k,hk,e⟩:=h.rem _ hq
   grind[aOi,Int.toNat_natCast]
  rw[eA];intro s hs;show aZ7 (aHs (Tn w K v b a).aAC.Log (Tn w K v b a).Seed) s;rw[u3,u2];have hs:s∈(aHc w a).1:=hs;have es:(add1 w a).1.Sites=w.Sites:=by obtain⟨x,y,z,o,_⟩:=Mx (aM w a 0).1 a 1 (aT (aO w.Seed (w.Devices.length:Int))) (λ_=>(aG (aM w a 0).1 a).Key);exact o.trans (kR w a 0).2.2.2.1
  unfold aHc at hs;rw[es] at hs;exact aQ0 (Q:=λc=>aHs (vN w a) w.Seed c.Handle->c.Cut=true) (by simp[*]) (λs hs=>by rw[eP];exact hc s hs) s hs
def wN.cut (h:Net S t m w K v r b)(hm:m=w.Devices.length)(z:KeyD S)(ht:t<=800000)(hr:r.length<=58)(hc:wN w)(c x:Int):wN (fG w c x).1:=by
 cases hk:(fG w c x).2 with
 |false=>grind[bO1]
 |true=>
  obtain⟨bx,e,n1⟩:=h.cut z ht hr hk;obtain⟨k1,k2,k3,k4,_⟩:=bH6 hk;obtain⟨p,A⟩:=iX (gL k4);obtain⟨D,_,_⟩:=pU (gL k4);have n:aY (mX w c x)=true:=n1.wi.log;obtain⟨N,F,O⟩:=bH5 n;have hd:=h.wi.dlen;have u:=h.wi.mle;rw[e];intro s hs;have hs:s∈w.Sites.map (gX x):=hs;obtain⟨s',o,rfl⟩:=cg.1 hs;obtain⟨j,G,es⟩:=df.1 o;have h2:=h.wi.two;have f:=h.wi.site j G;rw[es] at f;obtain⟨l,l',q1,q2,q3,q4,q5,q6,q7,q8,_⟩:=bO2 (j:=(j:Int)) (by omega) h.wi.mle f (k:=x.toNat) (by omega);rw[fy D] at q2 q6;show aZ7 (aHs (mX w c x) w.Seed) _;intro a q y d hp;rw[q2] at q;have q:a=⟨1,3,l'⟩:=by simp_all
  subst q;have d:y∈l':=d;unfold aHs at hp;rw[F,cw] at hp;rcases hp with hp|hp
  ·obtain⟨H,I,Q,_,J⟩:=q8 y d;exact J (hc s' o ⟨1,3,l⟩ (by simp[*]) H I (by grind[aHs]))
  ·have hp:=eq_of_beq hp;rw[A,h.pub p] at hp;obtain⟨i,hi,L⟩:=df.1 d;have M:=(q5 i hi).1;rw[L] at M;have hl:=f.acc
   grind[q6,aOi,Int.toNat_natCast,q1]
end
def bFu (M:Int)(k:AZ):Prop:=k.Guesses<=k.Limit/\kQ k<=M
def Nf (h:AG):Prop:=bFu h.Monotonic h.State/\∀k∈h.Saved,bFu h.Monotonic k
def bFu.mono {M N:Int}{k:AZ}(h:bFu M k)(hm:M<=N):bFu N k:=⟨h.1,fg h.2 hm⟩
def aHt {k:AZ}(h:jY k=true):(0<=k.Epoch/\k.Epoch<=1000000)/\(1<=k.Limit/\k.Limit<=10)/\(0<=k.Guesses/\k.Guesses<=k.Limit)/\kQ k=k.Epoch*1000+k.Guesses:=by unfold jY at h;simp only[ab] at h;have h1:=iA h.2.1;have h2:=iA h.2.2.1;have a:=iA h.2.2.2;refine⟨h1,h2,a,?_⟩;unfold kQ;rw[aJ (show-9223372036854775808<=k.Epoch*1000 by omega) (by omega),aJ (by omega) (by omega)]
def Nf.ask {h:AG}(c:Nf h)(e:Int):Nf (Oc h e).1:=by
 unfold Oc;cases hb:decide (kQ h.State<h.Monotonic)|| !(nH h.State e).2.2 with
 |true=>exact c
 |false=>
  rw[bn,ct,cL] at hb;have hk:nH h.State e=({h.State with Guesses:=h.State.Guesses+1},Ym h.State.aAQ e,true)/\jY h.State=true/\h.State.Guesses≠h.State.Limit:=by
   have d:=hb.2;unfold nH at d ⊢;cases hq:jY h.State&&(!(h.State.Guesses==h.State.Limit)&&(Da e&& !(e==1))) with
   |false=>simp_all
   |true=>simp only[ab,ca,cf] at hq;obtain⟨i,j,l,_⟩:=aHt hq.1;refine⟨?_,hq.1,hq.2.1⟩;rw[ac,aJ (by omega) (by omega)]
  obtain⟨k1,k2,k3⟩:=hk;obtain⟨i,j,l,n⟩:=aHt k2;have hm:kQ {h.State with Guesses:=h.State.Guesses+1}=h.State.Epoch*1000+h.State.Guesses+1:=by
   grind[aJ,kQ]
  rw[aa,k1,hm];have f:=c.1;refine⟨⟨by show h.State.Guesses+1<=h.State.Limit;omega,by rw[hm];exact cP _⟩,λk hk=> ?_⟩;have hk:k∈bN1 (h.Saved++[h.State]):=hk;have hk:k∈h.Saved++[h.State]:=by
   grind[decide,List.mem_of_mem_drop,bN1]
  have a:h.Monotonic<=h.State.Epoch*1000+h.State.Guesses+1:=by omega
  rcases bw.1 hk with hk|hk
  ·exact(c.2 k hk).mono a
  ·rw[cA.1 hk];exact f.mono a
def gN (l:List AG):Prop:=∀h∈l,Nf h
def bDe {l:List AG}(h:gN l){i:Nat}{x:AG}(c:i<l.length->Nf x):gN (l.set i x):=λy a=>by
 by_cases hi:i<l.length
 ·rcases et a with a|rfl
  ·exact h y a
  simp[*]
 ·rw[kl (by omega)] at a;exact h y a
def gN.ask {e:Int}:∀(a:List Int) (s:List AG×List Int×List Int),gN s.1->gN (a.foldl (bFh e) s).1
 |[],s,h=>h
 |c::a,s,h=>by
  rw[dh];refine gN.ask a _ (bDe h λhi=> ?_);have:s.1.getD c.toNat default=s.1[c.toNat]:=by rw[List.getD,ae hi,ck]
  rw[this];exact(h _ (cb hi)).ask e
def gN.aEF {hs:List AG}(h:gN hs)(v:A4)(a:List Int)(pin b:Int):gN (Ie v hs a pin b).1:=by
 unfold Ie;cases !bN3 hs a pin b with
 |true=>exact h
 |false=>have:gN (qR v hs a pin b).1:=gN.ask a _ h;simp only[aa];cases decide ((a.length:Int)<v.Threshold)||(decide ((qR v hs a pin b).2.2.length<a.length)|| !(aCz (qR v hs a pin b).2.1 (qR v hs a pin b).2.2).2)<;>exact this
def Nf.reset {h:AG}(a:Nf h){s:AU}(hb:jL h s=false):Nf (qP h s):=by
 unfold jL at hb;simp only[bn,cL,ct,cf] at hb;obtain⟨b1,c,d,_⟩:=hb;obtain⟨e,f,i,j⟩:=aHt b1;have l:IntKind.i64.wrap (h.State.Epoch+1)=h.State.Epoch+1:=(by grind[aJ]);have hm:kQ ⟨s,IntKind.i64.wrap (h.State.Epoch+1),0,h.State.Limit⟩=(h.State.Epoch+1)*1000:=by
  grind[aJ,kQ]
 unfold qP;refine⟨⟨by show(0:Int)<=h.State.Limit;omega,cP _⟩,λk hk=> ?_⟩
 show bFu (kQ ⟨s,IntKind.i64.wrap (h.State.Epoch+1),0,h.State.Limit⟩) k;rw[hm];refine(a.2 k hk).mono ?_;omega
def gN.renew {hs:List AG}(h:gN hs)(c:List Int):gN (fB hs c).1:=by
 unfold fB aZy;generalize lC (hs.map λh=>h.State.aAQ) c=e;cases hb:((e.length:Int)==0)||(hs.zip e).any (λp=>jL p.1 p.2) with
 |true=>exact h
 |false=>rw[bn] at hb;intro y d;have d:y∈List.zipWith qP hs e:=d;rw[<-List.map_uncurry_zip_eq_zipWith] at d;obtain⟨⟨a,s⟩,hp,rfl⟩:=cg.1 d;have f:=gA.1 hb.2 (a,s) hp;exact(h a (List.of_mem_zip hp).1).reset (by simp[*])
def gN.roll {hs:List AG}(h:gN hs){i:Nat}(b:Int):gN (hs.set i (fM (hs.getD i default) b).1):=by
 refine bDe h λhi=> ?_;have:hs.getD i default=hs[i]:=by rw[List.getD,ae hi,ck]
 rw[this];have a:=h _ (cb hi);unfold fM;cases hb:decide (b<0)||decide (b>=(hs[i].Saved.length:Int)) with
 |true=>exact a
 |false=>
  rw[bn,ct,ct] at hb;have hl:hs[i].Saved.length-1-b.toNat<hs[i].Saved.length:=by omega
  refine⟨?_,a.2⟩;show bFu _ (hs[i].Saved.getD (hs[i].Saved.length-1-b.toNat) default);rw[List.getD,ae hl,ck];exact a.2 _ (cb hl)
def gN.within {w:AA}(h:gN w.Hosts):jK w=true:=by unfold jK;rw[ca,gA];intro x a;obtain⟨h1,h2⟩:=(h x a).1;simp[*]
theorem bK0 {k:AZ}(h:k.Guesses<=k.Limit):Nf (Dx k):=⟨⟨h,cP _⟩,λk hk=>by simp[Dx] at hk⟩
end Go.VK
set_option maxRecDepth 100000
namespace Go.VK
open D
structure All (S:List (Int×Int)) (t:Nat) (w:AA):Prop where
 net:∃K v r b,Net S (3+3*t) w.Devices.length w K v r b/\r.length<=t
 cut:wN w
 hosts:gN w.Hosts
def All.wi {S:List (Int×Int)}{t:Nat}{w:AA}(h:All S t w):WIn w.Devices.length w:=let ⟨_,_,_,_,n,_⟩:=h.net;n.wi
def All.mono {S:List (Int×Int)}{t u:Nat}{w:AA}(h:All S t w)(a:t<=u):All S u w:=
 let ⟨K,v,r,b,n,hr⟩:=h.net;⟨⟨K,v,r,b,n.mono (by omega),by omega⟩,h.cut,h.hosts⟩
def bK1 {n k t pin seed:Int}:gN (bY n k t pin seed).Hosts:=by
 unfold bY;cases Tc n k t pin seed with
 |false=>intro h a;grind[bHr]
 |true=>
  intro h a
  grind[aOd,aZ,xG,Q7,Dx,bK0,aCw,Mr]
def bRy {x:List (Int×Int)}{n k t pin seed:Int}(h:Tc n k t pin seed=true):All (aUt++x) 0 (bY n k t pin seed):=
 ⟨⟨_,_,_,_,bRw (x:=x) h,ai _⟩,bRx h,bK1⟩
section
variable {S:List (Int×Int)} {t:Nat} {w:AA}
def All.of (h:All S t w){u:AA}{t':Nat}(ht:t<=t')(hn:∀K v r b,Net S (3+3*t) w.Devices.length w K v r b->Net S (3+3*t') w.Devices.length u K v r b)(hl:u.Devices.length=w.Devices.length)(hc:wN u)(a:gN u.Hosts):All S t' u:=
 let ⟨K,v,r,b,n,hr⟩:=h.net;⟨(by grind),hc,a⟩
def All.visit (h:All S t w)(d j:Int)(o:AQ):All S t (iK w d j o).1:=
 h.of (ai _) (λK v r b n=>n.visit d j o) (aQq w d j o).2 (h.cut.visit h.wi d j o) (by rw[aLp];exact h.hosts)
theorem All.aBA (h:All S t w)(q:Bool)(d j:Int)(o:AQ):All S t (bif q then qJ w d j o else(w,1)).1:=by
 cases q with
 |true=>exact h.visit d j o
 |false=>exact h
def All.aCE (h:All S t w)(d:Int):All S t (oK w d).1:=
 h.of (ai _) (λK v r b n=>n.aCE d) (h.wi.aCE d).2.2 (by
  unfold oK;cases dU w d 0&& !eT w d with
  |false=>exact h.cut
  |true=>exact h.cut.keep rfl rfl rfl) (by rw[aLr];exact h.hosts)
def All.tick (h:All S t w):All S t (uC w).1:=
 h.of (ai _) (λK v r b n=>n.tick) h.wi.tick.2.2 h.cut.tick (by rw[aQy];exact h.hosts)
def All.sync (h:All S t w)(a:KeyD S)(ht:t<=58)(d c:Int):All S t (aM w d c).1:=
 h.of (ai _) (λK v r b n=>n.sync a.ks (by omega) d c) (kR w d c).2.2.1 (h.cut.keep (kR w d c).1 (by rw[(kR w d c).2.2.2.2.2]) (kR w d c).2.2.2.1) (by rw[vM];exact h.hosts)
def aQ2 (w:AA)(d:Int)(n:ByteArray)(a:Int)(f:Bool):(rF w d n a f).1.aAC=w.aAC/\(rF w d n a f).1.Sites=w.Sites:=by
 grind[aP,aL,dO,aG,rF]
def All.aDL (h:All S t w)(c:KeyD S)(ht:t<=58)(d:Int){n:ByteArray}{a:Int}(hk:(bM n,a)∈S)(f:Bool):All S (t+1) (rF w d n a f).1:=
 h.of (dy _) (λK v r b q=>(q.aDL c.ks (by omega) d hk f).mono (by omega)) (aHo w d n a f).2 (h.cut.keep (aHo w d n a f).1 (by rw[(aQ2 w d n a f).1]) (aQ2 w d n a f).2) (by rw[aQx];exact h.hosts)
def All.push (h:All S t w)(a:KeyD S)(ht:t<=58)(d:Int):All S (t+1) (fH w d).1:=by
 obtain⟨K,v,r,b,n,hr⟩:=h.net;obtain⟨c,k,e,f,l,i⟩:=Yr w d;have hc:wN (fH w d).1:=h.cut.keep c i f;have j:gN (fH w d).1.Hosts:=by rw[R8];exact h.hosts
 cases hl:bC w d with
 |false=>rw[n.aCT hl];exact h.mono (by omega)
 |true=>
  have:=n.aBK a.ks (by omega) (by omega) hl;refine⟨⟨K,v+1,r++[gB K (aD w.aAC.Log) v b],⟨bH (aG w d).aAD.Entries b.Entries⟩,?_,by simp;omega⟩,hc,j⟩
  ·rw[e,n.aBH a.ks (by omega) (by omega) hl];exact this.mono (by omega)
theorem All.add (h:All S t w)(a:KeyD S)(ht:t<=58)(d:Int):All S (t+1) (fK w d).1:=by
 obtain⟨K,v,r,b,n,hr⟩:=h.net;cases hk:(fK w d).2 with
 |false=>rw[bH8 hk];exact h.mono (by omega)
 |true=>
  obtain⟨n1,u1,u2,n2,eA,u3,c,u4⟩:=n.add a (by omega) (by omega) (aQ1 hk);refine⟨⟨K,v+1,r++[gB K (aD w.aAC.Log) v b],bFs w K v b d,?_,by simp;omega⟩,wN.add n a (by omega) (by omega) h.cut d,by rw[aYe];exact h.hosts⟩
  ·have hl:(fK w d).1.Devices.length=w.Devices.length+1:=by rw[eA];show((Tn w K v b d).Devices++[_]).length=_;simp[*]
   grind
def All.aED (h:All S t w)(a:KeyD S)(ht:t<=58)(d x:Int):All S (t+1) (fG w d x).1:=by
 obtain⟨K,v,r,b,n,hr⟩:=h.net;cases hk:(fG w d x).2 with
 |false=>rw[bO1 hk];exact h.mono (by omega)
 |true=>obtain⟨bx,e,n1⟩:=n.cut a (by omega) (by omega) hk;refine⟨⟨aHr w d x,1,r++[gB K (aD w.aAC.Log) v b],(Gy w K v b d x).aAD,?_,by simp;omega⟩,wN.cut n rfl a (by omega) (by omega) h.cut d x,by rw[aYf];exact h.hosts⟩;rw[(h.wi.cut d x).2.2,e];assumption
def All.aCR (h:All S t w)(g:Int):All S t (wD w g).1:=by
 have hk:=h.wi.aCR g;refine h.of (ai _) (λK v r b n=>n.aCU (vL w) g) hk.2.2 ?_ ?_
 ·show wN (fP w (vL w) g).1;unfold fP;cases aP w with
  |false=>exact h.cut
  |true=>exact h.cut.keep rfl rfl rfl
 ·show gN (fP w (vL w) g).1.Hosts;unfold fP;cases aP w with
  |false=>exact h.hosts
  |true=>exact h.hosts.aEF _ _ _ _
def All.renew (h:All S t w):All S t (eO w).1:=by
 refine h.of (ai _) (λK v r b n=>n.renew) h.wi.renew.2.2 ?_ ?_<;>unfold eO<;>cases aP w&&(fB w.Hosts (aCm w)).2
 ·exact h.cut
 ·exact h.cut.keep rfl rfl rfl
 ·exact h.hosts
 ·exact h.hosts.renew _
def All.roll (h:All S t w)(i c:Int):All S t (fT w i c).1:=by
 refine h.of (ai _) (λK v r b n=>n.roll i c) (h.wi.roll i c).2.2 ?_ ?_<;>unfold fT<;>cases !aP w||(decide (i<0)||decide (i>=(w.Hosts.length:Int)))
 ·simp only[aa];cases(fM (w.Hosts.getD i.toNat default) c).2
  ·exact h.cut
  ·exact h.cut.keep rfl rfl rfl
 ·exact h.cut
 ·simp only[aa];cases(fM (w.Hosts.getD i.toNat default) c).2
  ·exact h.hosts
  ·exact h.hosts.roll c
 ·exact h.hosts
def All.apply (h:All S t w)(a:KeyD S)(ht:t<=58)(k d o v:Int)(f:Bool)(hk:k=8->(bM aZ3,v)∈S):All S (t+1) (R3 w k d o v f).1:=by
 unfold R3;rw[h.wi.ok];simp only[ay,aa];cases k==1 with
 |true=>exact h.tick.mono (by omega)
 |false=>
 simp only[aa];cases k==2 with
 |true=>exact(h.aBA _ _ _ _).mono (by omega)
 |false=>
 simp only[aa];cases k==3 with
 |true=>exact(h.aBA _ _ _ _).mono (by omega)
 |false=>
 simp only[aa];cases k==4 with
 |true=>exact(h.aCE d).mono (by omega)
 |false=>
 simp only[aa];cases k==5 with
 |true=>exact(h.aBA _ _ _ _).mono (by omega)
 |false=>
 simp only[aa];cases k==6 with
 |true=>exact h.add a ht d
 |false=>
 simp only[aa];cases k==7 with
 |true=>exact h.aED a ht d o
 |false=>
 simp only[aa];cases c:k==8 with
 |true=>exact h.aDL a ht d (hk (eq_of_beq c)) f
 |false=>
 simp only[aa];cases k==9 with
 |true=>exact h.push a ht d
 |false=>
 simp only[aa];cases k==10 with
 |true=>exact(h.sync a (by omega) d v).mono (by omega)
 |false=>
 simp only[aa];cases k==11 with
 |true=>exact(h.aCR v).mono (by omega)
 |false=>
 simp only[aa];cases k==12 with
 |true=>exact h.renew.mono (by omega)
 |false=>
 simp only[aa];cases k==13 with
 |true=>exact(h.roll o v).mono (by omega)
 |false=>exact h.mono (by omega)
def All.final (h:All S t w){d:Int}(hd:aL w d=true):Mi w d=true->bC w d=false/\(w.Sites.take 2).any (Ye d)=false:=λhc=>by
 obtain⟨K,v,r,b,n,hr⟩:=h.net;obtain⟨hl,e⟩:=iX hd;obtain⟨d0,_,_⟩:=pU hd;have hr:dX w.aAC.Log (mG w.Seed d.toNat)=true:=by unfold Mi at hc;rw[hd,e,n.pub hl] at hc;exact hc
 refine⟨?_,?_⟩
 ·rw[n.aDM hd,fq,Ne,lY];exact bRq (.inr n.wi.log) _ hr
 ·rw[gA];intro s hs hb;have hs:=gq hs;obtain⟨j,i,es⟩:=df.1 hs;have a:=n.wi.site j i;rw[es] at a;obtain⟨l,f,k,o⟩:=a.acc;unfold Ye at hb;rw[a.find,f,ab] at hb;obtain⟨c,hc1,hc2⟩:=ex.1 hb.2;rw[ab,ca] at hc2;have hc1:c∈l:=hc1;have:=h.cut s hs ⟨1,3,l⟩ (by rw[f];simp) c hc1 (by unfold aHs;rw[eq_of_beq hc2.1];exact hr);simp_all
def All.aCQ (h:All S t w){d:Int}(hd:aL w d=true):rD w d=true:=by
 unfold rD;cases hc:Mi w d with
 |false=>rfl
 |true=>obtain⟨h1,h2⟩:=h.final hd hc;simp[*]
def All.aCM (h:All S t w){d:Int}(hd:aL w d=true):qO w d=true:=by
 obtain⟨K,v,r,b,n,hr⟩:=h.net;obtain⟨hl,e⟩:=iX hd;unfold qO;rw[hd];cases hi:bC w d with
 |false=>rfl
 |true=>
  have a:=hi;unfold bC at hi;rw[hd,cx,lY] at hi;rw[Nc n.bx hi];cases he:(aG w d).Epoch !=aD w.aAC.Log with
  |true=>rfl
  |false=>rw[bne_eq_false_iff_eq] at he;have:=(n.dev _ hl).key (by rw[<-e];exact he);simp_all
def bH9 {k:Nat}(h:k<w.Devices.length):aL w (k:Int)=true:=by
 grind[decide_eq_true,aL]
def All.aDV (h:All S t w):aG8 w=true:=by
 unfold aG8;rw[h.wi.ok,h.hosts.within,cx,cx,ca];exact Mv λk hk=>by
  rw[cj];unfold aPu;rw[h.aCQ (bH9 hk),h.aCM (bH9 hk)];rfl
end
end Go.VK
set_option maxRecDepth 100000
namespace Go.VK
open D
section
variable {S:List (Int×Int)} {t m:Nat} {w:AA} {K v:Int} {r:List AI} {b:AB}
def at_set {l:List AD}{x:AD}{c d:Int}(hc:0<=c)(hd:0<=d)(h:d≠c):(l.set c.toNat x).getD d.toNat default=l.getD d.toNat default:=by rw[List.getD,List.getD,bj (by omega)]
def bIa {l:List AD}{x:AD}{c:Nat}(hc:c<l.length):(l.set c x).getD c default=x:=by simp[*]
def bO4 {w:AA}{K v:Int}{b:AB}{d:Int}(hd:aL w d=true):aG (aBK w K v b d) d=aLs w K v b (aG w d)/\∀c,aL w c=true->c≠d->aG (aBK w K v b d) c=aG w c:=by obtain⟨d0,d1,_⟩:=pU hd;refine⟨bIa d1,λc hc a=> ?_⟩;obtain⟨e,_,_⟩:=pU hc;exact at_set d0 e a
def Net.aBU (h:Net S t m w K v r b){t':Nat}{u:AA}{a v':Int}{r':List AI}{b':AB}(d:Net S t' m u a v' r' b')(e:u.Devices.length=w.Devices.length)(f:u.Seed=w.Seed)(i:u.aAC.Log=w.aAC.Log)(c:Int):bC u c=bC w c:=by
 have j:aL u c=aL w c:=by unfold aL;rw[e]
 cases hd:aL w c with
 |false=>grind[bC]
 |true=>rw[h.aDM hd,d.aDM (j.trans hd),f,i]
def aQ3 (s:KeyS S):∀(l:List Int) (t:Nat) (w:AA) (v:Int) (r:List AI) (b:AB),Net S t m w K v r b->(∀d∈l,bC w d=true)->t+l.length<=900000->r.length+l.length<=58->
  ∃u v' r' b',lS l w=(u,true)/\(Net S (t+l.length) m u K v' r' b'/\r'.length=r.length+l.length)/\u.aAC.Log=w.aAC.Log/\u.Seed=w.Seed/\u.Stolen=w.Stolen/\u.Devices.length=w.Devices.length/\u.Sites=w.Sites/\u.Hosts=w.Hosts/\Tj b.Entries b'.Entries/\
   (∀d,aL w d=true->(d∈l\/Tj (aG w d).aAD.Entries b.Entries)->Tj (aG u d).aAD.Entries b'.Entries)/\(∀d∈l,Tj (aG w d).aAD.Entries b'.Entries)/\
   (∀e∈b'.Entries,e∈b.Entries\/∃d∈l,e∈(aG w d).aAD.Entries)/\(∀d,aL w d=true->(aG u d).Store=(aG w d).Store/\(d∉l->aG u d=aG w d))
 |[],t,w,v,r,b,h,_,_,_=>⟨w,v,r,b,rfl,⟨h,rfl⟩,rfl,rfl,rfl,rfl,rfl,rfl, .refl _,λd _ hd=>hd.resolve_left (by simp),λd hd=>by simp at hd,λe he=> .inl he,λd _=>⟨rfl,λ_=>rfl⟩⟩
 |d::l,t,w,v,r,b,h,hl,ht,y=>by
  simp only[au] at ht y;have k:=hl d (cC ..);have hd:=gL k;obtain⟨A,e⟩:=iX hd;have D:=h.dev _ A;rw[<-e] at D;have J:=h.aBK s (by omega) (by omega) k;have hlen:(aBK w K v b d).Devices.length=w.Devices.length:=aw ..;obtain⟨F,p⟩:=bO4 (K:=K) (v:=v) (b:=b) hd;obtain⟨u,v',r',b',N,L,O,Q,R,i6,T,i8,M,n,G,H,I⟩:=aQ3 s l (t+1) _ _ _ _ J (λc hc=>by
   rw[h.aBU J hlen rfl rfl];exact hl c (cl _ hc)) (by omega) (by simp;omega)
  have i:Tj b.Entries (bH (aG w d).aAD.Entries b.Entries):= .right D.bun.st h.bun.st;refine⟨u,v',r',b',?_,⟨by rw[au,show t+(l.length+1)=t+1+l.length by omega];exact L.1,by rw[L.2];simp;omega⟩,O,Q,R,i6.trans hlen,T,i8,i.trans M,λc hc f=> ?_,λc hc=> ?_,λx j=> ?_,λc hc=> ?_⟩
  ·rw[lS,h.aBH s (by omega) (by omega) k];exact N
  ·have o:aL (aBK w K v b d) c=true:=xI hc hlen;by_cases a:c=d
   ·subst a;exact n c o (.inr (by rw[F];exact .refl _))
   ·refine n c o ?_;rw[p c hc a];rcases f with f|f
    ·exact .inl ((ba.1 f).resolve_left a)
    ·exact .inr (f.trans i)
  ·by_cases a:c=d
   ·subst a;exact(Tj.left D.bun.st h.bun.st).trans M
   ·have f:=(ba.1 hc).resolve_left a;have:=G c f;rw[p c (gL (hl c hc)) a] at this;exact this
  ·have dec:∀e∈bH (aG w d).aAD.Entries b.Entries,e∈b.Entries\/∃c∈d::l,e∈(aG w c).aAD.Entries:=λe he=>
    (nM _ (ai _) he).elim (λq=> .inr ⟨d,cC ..,q⟩) .inl
   rcases H x j with j|⟨c,hc,j⟩
   ·exact dec x j
   ·by_cases a:c=d
    ·subst a;rw[F] at j;exact dec x j
    ·rw[p c (gL (hl c (cl _ hc))) a] at j;exact .inr ⟨c,cl _ hc,j⟩
  ·obtain⟨q1,q2⟩:=I c (xI hc hlen);by_cases a:c=d
   ·subst a;rw[F] at q1;exact⟨q1,λq=>absurd (cC ..) q⟩
   ·rw[p c hc a] at q1 q2;exact⟨q1,λq=>q2 λz=>q (cl _ z)⟩
def aQ4 (p:KeyS S):∀(l:List Int) (w:AA),Net S t m w K v r b->(∀d∈l,bC w d=true)->t<=900000->(∀d∈l,Tj (aG w d).aAD.Entries b.Entries)->
  ∃u,sH l w=(u,true)/\Net S t m u K v r b/\u.aAC=w.aAC/\u.Seed=w.Seed/\u.Stolen=w.Stolen/\u.Devices.length=w.Devices.length/\u.Sites=w.Sites/\u.Hosts=w.Hosts/\
   (∀d,aL w d=true->d∉l->aG u d=aG w d)/\(∀d∈l,aG u d=⟨(aG w d).Store,w.aAC.Log,K,aD w.aAC.Log,v,b⟩)
 |[],w,h,_,_,_=>⟨w,rfl,h,rfl,rfl,rfl,rfl,rfl,rfl,λd _ _=>rfl,λd hd=>by simp at hd⟩
 |d::l,w,h,hl,ht,hs=>by
  have k:=hl d (cC ..);have hd:=gL k;obtain⟨n,e⟩:=iX hd;obtain⟨d0,_,_⟩:=pU hd;have z:=h.dev _ n;rw[<-e] at z;have hX:nI w K v b (aG w d)=⟨(aG w d).Store,w.aAC.Log,K,aD w.aAC.Log,v,b⟩:=by unfold nI;rw[(hs d (cC ..)).merge' z.bun.st h.bun.st]
  have i:=h.aBX p ht k;rw[hX] at i;have s:=h.sync p ht d 0;rw[i] at s;have hlen:(w.Devices.set d.toNat (⟨(aG w d).Store,w.aAC.Log,K,aD w.aAC.Log,v,b⟩:AD)).length=w.Devices.length:=aw;have x:aG ({w with Devices:=w.Devices.set d.toNat ⟨(aG w d).Store,w.aAC.Log,K,aD w.aAC.Log,v,b⟩}:AA) d=⟨(aG w d).Store,w.aAC.Log,K,aD w.aAC.Log,v,b⟩:=bIa n;have y:∀c,aL w c=true->c≠d->aG ({w with Devices:=w.Devices.set d.toNat ⟨(aG w d).Store,w.aAC.Log,K,aD w.aAC.Log,v,b⟩}:AA) c=aG w c:=λc hc j=>by
   obtain⟨D,_,_⟩:=pU hc;exact at_set d0 D j
  obtain⟨u,F,G,H,I,J,i6,L,i8,A,o⟩:=aQ4 p l _ s (λc hc=>by
   rw[h.aBU s hlen rfl rfl];exact hl c (cl _ hc)) ht (λc hc=>by
   by_cases f:c=d
   ·subst f;rw[x];exact .refl _
   ·rw[y c (gL (hl c (cl _ hc))) f];exact hs c (cl _ hc))
  refine⟨u,?_,G,H,I,J,i6.trans hlen,L,i8,λc hc a=> ?_,λc hc=> ?_⟩
  ·rw[sH,i];exact F
  ·have j:c≠d:=λq=>a (q▸cC ..);rw[A c (xI hc hlen) (λq=>a (cl _ q)),y c hc j]
  ·by_cases f:c=d
   ·subst f;by_cases a:c∈l
    ·rw[o c a,x]
    ·rw[A c (xI hd hlen) a,x]
   ·have a:=(ba.1 hc).resolve_left f;rw[o c a,y c (gL (hl c hc)) f]
theorem Ng {w:AA}{d:Int}(h:d∈aX w):bC w d=true:=by
 grind[oF,aX]
def bO5 (w:AA):(aX w).length<=w.Devices.length:=by
 grind[Nat.le_trans,List.length_filter_le,List.length_map,aX]
theorem bO6 {w u:AA}(h1:u.Devices.length=w.Devices.length)(h2:u.Stolen=w.Stolen)(a:∀c,bC u c=bC w c):aX u=aX w:=by
 unfold aX;rw[h1];have:oF u=oF w:=by funext i;unfold oF;rw[a,h2]
 rw[this]
def bTa (f:KeyS S){T:Int}(i:T<=1000000){w:AA}{c:List AH}:∀(l:List Int) (e:List AH),(∀d∈l,BunIn S T (aG w d).aAD.Entries/\Tj (aG w d).aAD.Entries c)->BunIn S T e->Tj e c->∃o,uS w l e= .inr o/\BunIn S T o/\Tj o c
 |[],e,_,h1,h2=>⟨e,rfl,h1,h2⟩
 |d::l,e,h,h1,h2=>by
  obtain⟨b1,j⟩:=h d (cC ..);have hm:=Yv (a:=⟨e⟩) (b:=(aG w d).aAD) f i h1 b1;obtain⟨o,k,n,p⟩:=bTa f i l (bH e (aG w d).aAD.Entries) (λc hc=>h c (cl _ hc)) (h1.merge b1) (Tj.lub h2 j);refine⟨o,?_,n,p⟩;rw[uS,hm];exact k
def bRz (a:AH):AH.eqB a a=true:=by simp[AH.eqB]
theorem bR0 (b:AB):mM b b=true:=by simp[List.zipWith_cons_cons,ba,bRz,List.zipWith,AH.eqB,eM,cx,cG,mM]
def bO7 {w:AA}(h:aX w≠[]):(aX w).getD 0 0∈aX w:=by
 grind
structure Settled (S:List (Int×Int)) (t:Nat) (w:AA) (K:Int) (r:List AI) (b:AB) (y:AA) (v':Int) (r':List AI) (b':AB):Prop where
 eq:kP w=(y,true)
 net:Net S (t+w.Devices.length) w.Devices.length y K v' r' b'
 rlen:r'.length<=r.length+w.Devices.length
 log:y.aAC.Log=w.aAC.Log
 seed:y.Seed=w.Seed
 stolen:y.Stolen=w.Stolen
 len:y.Devices.length=w.Devices.length
 sites:y.Sites=w.Sites
 hosts:y.Hosts=w.Hosts
 reach:aX y=aX w
 own:∀d∈aX w,(aG y d).aAD=b'/\(aG y d).Epoch=aD w.aAC.Log/\(aG y d).Version=v'/\(aG y d).Key=K
 other:∀d,aL w d=true->(aG y d).Store=(aG w d).Store/\(d∉aX w->aG y d=aG w d)
 sub:∀d∈aX w,Tj (aG w d).aAD.Entries b'.Entries
 last:Tj b.Entries b'.Entries
 mem:∀e∈b'.Entries,e∈b.Entries\/∃d∈aX w,e∈(aG w d).aAD.Entries
def bDf (j:KeyS S)(n:Net S t w.Devices.length w K v r b)(ht:t<=800000)(hr:r.length+w.Devices.length<=58):∃y v' r' b',Settled S t w K r b y v' r' b':=by
 have x:=bO5 w;have z:=n.wi.dlen;obtain⟨u,v',r',b',A,⟨f,i2r⟩,k,l,D,i6,F,i8,G,H,h,i,I⟩:=aQ3 j (aX w) t w v r b n (λd hd=>Ng hd) (by omega) (by omega);have a:∀c,bC u c=bC w c:=n.aBU f i6 l k;obtain⟨y,J,o,p,q,L,s,M,N,Q,O⟩:=aQ4 j (aX w) u f (by grind[Ng]) (by omega) (by grind[gL,Ng]);have e:∀c,bC y c=bC w c:=λc=>(f.aBU o s q (by rw[p]) c).trans (a c);refine⟨y,v',r',b',⟨?_,o.mono (by omega),by omega,by rw[p,k],q.trans l,L.trans D,s.trans i6,M.trans F,N.trans i8,(by grind[bO6]),λd hd=> ?_,λd hd=> ?_,h,G,i⟩⟩
 ·unfold kP;rw[n.wi.ok,A,J];rfl
 all_goals grind[q1,q2,aL,xI,aX,absurd]
def bK2 (f:KeyD S)(h:All S t w)(ht:t<=52):(Gx w).2=true/\(kP w).2=true/\All S (t+w.Devices.length) (kP w).1/\aXp (kP w).1=true/\aX (kP w).1=aX w/\(kP w).1.Devices.length=w.Devices.length/\(kP w).1.aAC.Log=w.aAC.Log/\(kP w).1.Sites=w.Sites/\
  ∀d∈aX w,(dS (aG (kP w).1 d).aAD (Gx w).1)=((aG (kP w).1 d).aAD,true):=by
 obtain⟨K,v,r,b,n,hr⟩:=h.net;have k:=n.wi.dlen;obtain⟨y,v',r',b',s⟩:=bDf f.ks n (by omega) (by omega);have hb':=s.net.bun;obtain⟨o,l,j,p⟩:=bTa (w:=w) (c:=b'.Entries) (T:=((3+3*t:Nat):Int)) f.ks (by omega) (aX w) [] (λd hd=>by
  obtain⟨hl,e⟩:=iX (gL (Ng hd));rw[e];refine⟨(n.dev _ hl).bun,?_⟩;rw[<-e];exact s.sub d hd) (BunIn.nil ..) (Tj.nil _)
 have i:Gx w=(⟨o⟩,true):=by unfold Gx;rw[l]
 rw[s.eq,i];refine⟨rfl,rfl,⟨⟨K,v',r',b',?_,by have:=s.rlen;omega⟩,?_,?_⟩,?_,s.reach,s.len,s.log,s.sites,λd hd=> ?_⟩
 ·rw[show y.Devices.length=w.Devices.length from s.len];exact s.net.mono (by omega)
 ·exact h.cut.keep s.seed s.log s.sites
 ·show gN y.Hosts;rw[s.hosts];exact h.hosts
 ·unfold aXp;rw[s.reach,cG];intro d hd;have h0:=bO7 (w:=w) (λe=>by rw[e] at hd;simp at hd);obtain⟨q,u,x,z⟩:=s.own d hd;obtain⟨A,D,F,G⟩:=s.own _ h0
  grind[bR0,aPr]
 ·show dS (aG y d).aAD ⟨o⟩=((aG y d).aAD,true);rw[(s.own d hd).1];have:=Yv (a:=b') (b:=⟨o⟩) f.ks (V:=((3+3*t+w.Devices.length:Nat):Int)) (by omega) hb' (j.mono (by omega));rw[this,p.merge j.st hb'.st]
end
end Go.VK
set_option maxRecDepth 100000
namespace Go.VK
open D
theorem bO8 (s:AK)(o:AQ)(z:ByteArray)(i c:Int)(p:Bool):iW s o z i c p=(s,bJ7,false)\/(mU o z=true/\lD s=true/\s.Counter<1000000/\iW s o z i c p=({s with Counter:=s.Counter+1},{Sy s o z i c p with Counter:=s.Counter+1,Signature:=rZ (dK s z i) (dG (Sy s o z i c p)++[s.Counter+1])},true)):=by
 unfold iW;cases hm:mU o z with
 |false=>simp
 |true=>
  unfold jH;cases hs:lD s&& !(s.Counter==1000000) with
  |false=>simp
  |true=>
   simp only[ab,ca,cf] at hs;have hc:=hs.1;unfold lD at hc;simp only[ab] at hc;have hr:=iA hc.2.2.2
   grind[bNy,aJ]
def bR1 {s:AK}{o:AQ}{z:ByteArray}{i c:Int}{p:Bool}(h1:mU o z=true)(h2:lD s=true)(a:s.Counter<1000000):iW s o z i c p=({s with Counter:=s.Counter+1},{Sy s o z i c p with Counter:=s.Counter+1,Signature:=rZ (dK s z i) (dG (Sy s o z i c p)++[s.Counter+1])},true):=by
 grind[iW,jH,beq_eq_false_iff_ne,bO8]
def bWx {seed:Int}{k:Nat}{s:AK}(h:StIn seed k s)(hk:k<6):lD s=true:=by unfold lD;rw[h.ven,h.ser,h.key,iN (show(0:Int)<=(k:Int) by omega) (by omega),iN h.cnt.1 h.cnt.2];show(true&&(true&&(bK (aZ seed [277,(k:Int)])&&true)))=true;rw[iM];rfl
def bFv {b:AP}(h:BookIn b)(hn:b.Next<1000000){now:Int}(ht:0<=now/\now<=999900):eH b 1 now=((eH b 1 now).1,⟨b.Next,1,now+5⟩,true)/\(eH b 1 now).1.Next=b.Next+1/\(qE (eH b 1 now).1 b.Next 1 now).2=true:=by
 have q:=Yq h.ok;have hq:=(bCx h 1 now).1;have s:IntKind.i64.wrap (now+5)=now+5:=aJ (by omega) (by omega);have u:0<=b.Next:=by have:=h.ok;unfold eQ at this;simp only[ab] at this;exact(iA this.1.1).1
 have f:eH b 1 now=(⟨b.Seed,b.Next+1,(bif decide ((b.Open.length:Int)>=16) then b.Open.drop 1 else b.Open)++[⟨b.Next,1,now+5⟩]⟩,⟨b.Next,1,now+5⟩,true):=by unfold eH aCu;rw[h.ok,cf.2 (show b.Next≠1000000 by omega),iN (show(0:Int)<=1 by decide) (by decide),iN ht.1 (by omega),s,aJ (show-9223372036854775808<=b.Next+1 by omega) (by omega)];rfl
 refine⟨by rw[f],by rw[f],?_⟩;have a:∀c∈b.Open,c.Id<=b.Next-1:=λc hc=>by
  have:=h.ok;unfold eQ at this;simp only[ab,ca] at this;obtain⟨i,hi,e⟩:=df.1 hc;have h2:=R5 this.2 i hi;unfold iF at h2;simp only[bn,cL] at h2;have:=(iA h2.1).2;rw[aJ (by omega) (by omega),e] at this;exact this
 have hm:∀c∈(eH b 1 now).1.Open,c.Id=b.Next->c=⟨b.Next,1,now+5⟩:=λc hc he=>by
  rw[f] at hc;have hc:c∈(bif decide ((b.Open.length:Int)>=16) then b.Open.drop 1 else b.Open)++[(⟨b.Next,1,now+5⟩:A3)]:=hc;rcases bw.1 hc with hc|hc
  ·have:c∈b.Open:=by
    cases hd:decide ((b.Open.length:Int)>=16) with
    |true=>rw[hd] at hc;exact dq hc
    |false=>rw[hd] at hc;exact hc
   have:=a c this;omega
  ·exact cA.1 hc
 have j:(⟨b.Next,1,now+5⟩:A3)∈(eH b 1 now).1.Open:=by rw[f];show _∈_++[_];simp
 have o:decide (dQ (eH b 1 now).1 b.Next<0)=false:=by rw[ct];intro d;have:=Si (p:=λc:A3=>c.Id==b.Next) d _ j;simp at this
 obtain⟨k,hk,n,x⟩:=Ah (l:=(eH b 1 now).1.Open) o;have y:aHf (eH b 1 now).1 (dQ (eH b 1 now).1 b.Next)=⟨b.Next,1,now+5⟩:=by have n:dQ (eH b 1 now).1 b.Next=((0+k:Nat):Int):=n;rw[n];unfold aHf;rw[cj,bq,List.getD,ae hk,ck];exact hm _ (cb hk) (eq_of_beq x)
 unfold qE;rw[hq.ok,o,y];show((1:Int)==1&&decide (now<=now+5))=true;rw[ak (by omega)];rfl
section
variable {m:Nat} {w:AA}
def bO9 (h:WIn m w){d j:Int}{o:AQ}(ht:dU w d j=true)(hm:d.toNat<m)(ho:mU o (aA j)=true)(hn:(fA w j).Book.Next<1000000)(hc:(aG w d).Store.Counter<1000000)
  (N:∀a∈(fA w j).Accounts,∀(hk:d.toNat<a.Credentials.length),a.Credentials[d.toNat].Cut=false/\a.Credentials[d.toNat].Counter<=(aG w d).Store.Counter):(iK w d j o).2.2=0:=by
 obtain⟨W,t2,O⟩:=Yw ht;obtain⟨hl,es,z,hs⟩:=aZ8 h O;obtain⟨d0,d1,_⟩:=pU t2;have J:=h.mle;have hb:=Yq hs.book;obtain⟨Q,X,R⟩:=bFv hb hn h.now;have y:aBA w j=({fA w j with Book:=(eH (fA w j).Book 1 w.Now).1},(fA w j).Book.Next,fJ (eH (fA w j).Book 1 w.Now).1 (fA w j).Book.Next,true):=by unfold aBA lX;rw[hs.ok z h.mle,hs.find,Q];rfl
 have k:=h.aCB t2;have n:=bWx k (by omega);have L:aCv w d j o=({(aG w d).Store with Counter:=(aG w d).Store.Counter+1},{Sy (aG w d).Store o (aA j) d (aBA w j).2.2.1 true with Counter:=(aG w d).Store.Counter+1,Signature:=rZ (dK (aG w d).Store (aA j) d) (dG (Sy (aG w d).Store o (aA j) d (aBA w j).2.2.1 true)++[(aG w d).Store.Counter+1])},true):=bR1 ho n hc;have f:=hs.begin 1 w.Now;rw[show(lX (fA w j) 1 w.Now)=aBA w j from rfl] at f;obtain⟨l,e,i,A⟩:=hs.acc;subst A;have D:=i d.toNat hm;obtain⟨u1,u2⟩:=N ⟨1,3,l⟩ (by rw[e];simp) hm;have u2:l[d.toNat].Counter<=(aG w d).Store.Counter:=u2;have u1:l[d.toNat].Cut=false:=u1;have p:fU (aBA w j).1 0=⟨1,3,l⟩:=by rw[y];unfold fU;show((fA w j).Accounts.getD _ _)=_;rw[e];rfl
 have q:=aQm (m:=3) z i h.mle ⟨by decide,by decide⟩;have F:aS ⟨1,3,l⟩ d=(d.toNat:Int):=by have:=bH7 i hm;rwa [fy d0] at this ⊢
 have G:gG ⟨1,3,l⟩ (d.toNat:Int)=l[d.toNat]:=by unfold gG;rw[bq];show l.getD d.toNat default=_;rw[List.getD,ae hm,ck]
 have s:dK (aG w d).Store (aA j) d=dK (aO w.Seed (d.toNat:Int)) (aA j) (d.toNat:Int):=by rw[dK,dK,k.key,fy d0]
 have hv:∀M,iE (dP (dK (aO w.Seed (d.toNat:Int)) (aA j) (d.toNat:Int))) M (rZ (dK (aO w.Seed (d.toNat:Int)) (aA j) (d.toNat:Int)) M)=true:=λM=>bCz (by unfold dK;exact iM _ _) M;have u:kJ l[d.toNat].Public (aCv w d j o).2.1 (aBA w j).1.Name (fJ (aBA w j).1.Book (aBA w j).2.1) l[d.toNat].Counter=0:=by rw[f.name,L,y];unfold kJ;show(bif !((aA j).toList==(aA j).toList) then(1:Int) else bif !true then 2 else bif !(fJ (eH (fA w j).Book 1 w.Now).1 (fA w j).Book.Next==fJ (eH (fA w j).Book 1 w.Now).1 (fA w j).Book.Next) then 3 else bif !iE l[d.toNat].Public (dG (Sy (aG w d).Store o (aA j) d (fJ (eH (fA w j).Book 1 w.Now).1 (fA w j).Book.Next) true)++[(aG w d).Store.Counter+1]) (rZ (dK (aG w d).Store (aA j) d) (dG (Sy (aG w d).Store o (aA j) d (fJ (eH (fA w j).Book 1 w.Now).1 (fA w j).Book.Next) true)++[(aG w d).Store.Counter+1])) then 5 else bif decide ((aG w d).Store.Counter+1<=l[d.toNat].Counter) then 4 else 0)=0;rw[D.2.1,s,show Tf w.Seed j d.toNat=dP (dK (aO w.Seed (d.toNat:Int)) (aA j) (d.toNat:Int)) from rfl,hv,ao (show ¬(aG w d).Store.Counter+1<=l[d.toNat].Counter by omega)];simp
 have T:(Sz w d j o).2.1=0:=by
  unfold Sz pE;rw[f.ok z h.mle,f.find];have H:(qE (aBA w j).1.Book (aBA w j).2.1 1 w.Now).2=true:=by rw[y];exact R
  have I:sM (fU (aBA w j).1 0) 3=true:=by rw[p];unfold sM;rw[q];have:(l.any λc=> !c.Cut)=true:=ex.2 ⟨l[d.toNat],cb hm,by rw[u1];rfl⟩;show(true&&(true&&(true&&(false||l.any λc=> !c.Cut))))=true;rw[this];rfl
  have V:(aCv w d j o).2.1.Handle=d:=by rw[L];rfl
  have x:(jX (fU (aBA w j).1 0) (aCv w d j o).2.1 (aBA w j).1.Name (fJ (aBA w j).1.Book (aBA w j).2.1)).2=0:=by rw[p];unfold jX;rw[q,V,F,G,u1,ao (show ¬(d.toNat:Int)<0 by omega)];exact u
  rw[H,I,x];rfl
 unfold iK;rw[ht,T,y];rfl
end
end Go.VK
set_option maxRecDepth 100000
namespace Go.VK
open D
def bPa (w:AA)(k:Nat):Int:=(w.Devices.getD k default).Store.Counter
def bTb (w:AA)(k:Nat):Prop:=dX w.aAC.Log (mG w.Seed k)=true
def CrU (cnt:Nat->Int)(rem:Nat->Prop)(c:AV):Prop:=c.Counter<=cnt c.Handle.toNat/\(c.Cut=true->rem c.Handle.toNat)
structure Us (B:Int) (w:AA):Prop where
 cnt:∀k,k<w.Devices.length->bPa w k<=B
 next:∀s∈w.Sites,s.Book.Next<=B
 cred:∀s∈w.Sites,aYi (CrU (bPa w) (bTb w)) s
def CrU.mono {cnt cnt':Nat->Int}{rem rem':Nat->Prop}(hc:∀k,cnt k<=cnt' k)(hr:∀k,rem k->rem' k){c:AV}(h:CrU cnt rem c):CrU cnt' rem' c:=⟨fg h.1 (hc _),λq=>hr _ (h.2 q)⟩
section
variable {m:Nat} {w:AA} {B:Int}
end
section
variable {S:List (Int×Int)} {t m:Nat} {w:AA} {K v:Int} {r:List AI} {b:AB} {B:Int}
end
section
variable {m:Nat} {w:AA} {B:Int}
def Us.ok (n:WIn m w)(h:Us B w)(q:B<1000000){d j:Int}{o:AQ}(ht:dU w d j=true)(hm:d.toNat<m)(ho:mU o (aA j)=true)(hr:¬bTb w d.toNat):(iK w d j o).2.2=0:=by
 obtain⟨s,t2,p⟩:=Yw ht;obtain⟨hl,es,u,hs⟩:=aZ8 n p;obtain⟨f,x⟩:=iX t2;have i:bPa w d.toNat=(aG w d).Store.Counter:=rfl;have c:fA w j∈w.Sites:=by simp[*]
 have hn:=h.next _ c;have hc:=h.cnt _ f;rw[i] at hc;refine bO9 n ht hm ho (by omega) (by omega) λa e hk=> ?_;have hq:=h.cred _ c a e _ (cb hk);obtain⟨l,el,k,_⟩:=hs.acc;rw[el] at e;have e:a=⟨1,3,l⟩:=by simp_all
 subst e;have y:(AJ.mk 1 3 l).Credentials[d.toNat].Handle=(d.toNat:Int):=(k d.toNat hk).1
 grind[absurd,Int.toNat_natCast,CrU]
end
end Go.VK
