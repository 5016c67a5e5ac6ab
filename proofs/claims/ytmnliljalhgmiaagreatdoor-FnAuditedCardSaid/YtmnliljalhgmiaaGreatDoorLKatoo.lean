import Derived.Test.YtmnliljalhgmiaaGreatDoorXuFF
/- Printed by wip/tools: models, walks, proofs. -/
set_option linter.all false
set_option maxRecDepth 100000
namespace Go.VK
open D
def nL {h:Int}(v:Int)(h0:0<=h/\h<2147483647):∃q,hstep h v=h*1000003+v+13-2147483647*q/\(0<=hstep h v/\hstep h v<2147483647):=by
 obtain⟨h0,h1⟩:=h0;have hm:=oW (p:=v) (q:=2147483647) (by decide);have hv:fD v 2147483647=v%2147483647:=cI (by decide);have e:hstep h v=(h*1000003+v+13)%2147483647:=by
  grind[aI,fD,Int.tmod_eq_emod_of_nonneg,hstep]
 grind
def bQ3 (k a b:Int):∃q,bH k [a,b]=k*1000009000027000028+a*1000006000009+b*1000003+11000145000724001630001411-2147483647*q:=by simp only[bH,yN,cT,gl,df,cM,bz,db,ie];obtain⟨q0,e0,f⟩:=nL k (h:=11) (by grind);generalize hstep 11 k=c at*;obtain⟨q1,l,i⟩:=nL a (h:=c) f;generalize hstep c a=d at*;obtain⟨q2,n,j⟩:=nL b (h:=d) i;generalize hstep d b=e at*;obtain⟨q3,o,p⟩:=nL k (h:=e) j;generalize hstep e k=s at*;exact⟨q0*1000009000027000027+q1*1000006000009+q2*1000003+q3*1,by omega⟩
def bQ4 (k a b c:Int):∃q,bH k [a,b,c]=k*1000012000054000108000082+a*1000009000027000027+b*1000006000009+c*1000003+11000178001159003802006301004246-2147483647*q:=by simp only[bH,yN,cT,gl,df,cM,bz,db,ie];obtain⟨q0,e0,j⟩:=nL k (h:=11) (by grind);generalize hstep 11 k=d at*;obtain⟨q1,p,l⟩:=nL a (h:=d) j;generalize hstep d a=e at*;obtain⟨q2,s,n⟩:=nL b (h:=e) l;generalize hstep e b=f at*;obtain⟨q3,u,o⟩:=nL c (h:=f) n;generalize hstep f c=i at*;obtain⟨q4,x,y⟩:=nL k (h:=i) o;generalize hstep i k=z at*;exact⟨q0*1000012000054000108000081+q1*1000009000027000027+q2*1000006000009+q3*1000003+q4*1,by omega⟩
def bQ5 (k a b c d:Int):∃q,bH k [a,b,c,d]=k*1000015000090000270000405000244+a*1000012000054000108000081+b*1000009000027000027+c*1000006000009+d*1000003+11000211001693007279017707023149012751-2147483647*q:=by simp only[bH,yN,cT,gl,df,cM,bz,db,ie];obtain⟨q0,e0,n⟩:=nL k (h:=11) (by grind);generalize hstep 11 k=e at*;obtain⟨q1,x,o⟩:=nL a (h:=e) n;generalize hstep e a=f at*;obtain⟨q2,y,p⟩:=nL b (h:=f) o;generalize hstep f b=i at*;obtain⟨q3,z,s⟩:=nL c (h:=i) p;generalize hstep i c=j at*;obtain⟨q4,A,u⟩:=nL d (h:=j) s;generalize hstep j d=l at*;obtain⟨q5,D,F⟩:=nL k (h:=l) u;generalize hstep l k=G at*;exact⟨q0*1000015000090000270000405000243+q1*1000012000054000108000081+q2*1000009000027000027+q3*1000006000009+q4*1000003+q5*1,by omega⟩
def Zu (n:Int):∃e,kC n=n+e/\0<=e/\e<=1:=by
 unfold kC;by_cases h:n=0
 ·simp[*]
 ·rw[bn.2 h];exact⟨0,by simp,by decide,by decide⟩
def bQ6 (s i:Int):(aO s i).Seed=kC (bH s [151,277,i]):=by rfl
def bQ7 (s:AK):jH s=kC (bH s.Seed [151,181]):=by rfl
def bKx (s:AK)(n:ByteArray)(i:Int):cB s n i=kC (bH s.Seed [151,179,bB n,i]):=by rfl
def bFj (s i k:Int):∃e q,(aO s i).Seed-(aO s k).Seed=(i-k)*1000003+e+2147483647*q/\-1<=e/\e<=1:=by have hi:(aO s i).Seed=kC (bH s [151,277,i]):=bQ6 s i;have hk:(aO s k).Seed=kC (bH s [151,277,k]):=bQ6 s k;obtain⟨a,c,j,l⟩:=Zu (bH s [151,277,i]);obtain⟨d,b1,n,o⟩:=Zu (bH s [151,277,k]);obtain⟨q1,f⟩:=bQ4 s 151 277 i;obtain⟨q2,h⟩:=bQ4 s 151 277 k;rw[hi,hk,c,b1,f,h];exact⟨a-d,q2-q1,by omega,by omega,by omega⟩
def dfs:List Int:=[-5,-4,-3,-2,-1,0,1,2,3,4,5]
def bNe:List Int:=[-1,0,1]
theorem bKy {d:Int}(h1: -5<=d)(h2:d<=5):d∈dfs:=by simp only[dfs,bg,gz,or_false];omega
def aEj {d:Int}(h1: -1<=d)(h2:d<=1):d∈bNe:=by grind[bNe]
def bUi:(dfs.all λd=>d==0||bNe.all λe=>bNe.all λz=> !((d*1000003+e)*1000009000027000028-z)%2147483647==0)=true:=by kernel_rfl
def bNf {s i k:Int}(hi:0<=i/\i<6)(hk:0<=k/\k<6)(h:i≠k):jH (aO s i)≠jH (aO s k):=by
 intro he;obtain⟨e,q,d1,d2,d3⟩:=bFj s i k;have h1:jH (aO s i)=kC (bH (aO s i).Seed [151,181]):=bQ7 _;have h2:jH (aO s k)=kC (bH (aO s k).Seed [151,181]):=bQ7 _;obtain⟨a,d,l,n⟩:=Zu (bH (aO s i).Seed [151,181]);obtain⟨c,b1,o,p⟩:=Zu (bH (aO s k).Seed [151,181]);obtain⟨q1,f⟩:=bQ3 (aO s i).Seed 151 181;obtain⟨q2,j⟩:=bQ3 (aO s k).Seed 151 181;rw[h1,h2,d,b1,f,j] at he;have u:(((i-k)*1000003+e)*1000009000027000028-(c-a))%2147483647=0:=by omega
 have:=cE.1 bUi (i-k) (bKy (by omega) (by omega));rw[bn.2 (show i-k≠0 by omega),cF] at this;have:=cE.1 (cE.1 this e (aEj d2 d3)) (c-a) (aEj (by omega) (by omega));simp_all
def hs1:Int:=1464438180
def bZ7:bB (aA 0)=1941999745:=by kernel_rfl
def bZ8:bB (aA 1)=1464438180:=by kernel_rfl
def bQ8:(dfs.all λd=>[0,477561565,-477561565].all λ(g:Int)=>(d==0&&g==0)||bNe.all λe=>bNe.all λz=> !((d*1000003+e)*1000015000090000270000405000244+g*1000006000009+d*1000003-z)%2147483647==0)=true:=by kernel_rfl
def bFk {s i k j l:Int}(hi:0<=i/\i<6)(hk:0<=k/\k<6)(f:j=0\/j=1)(hl:l=0\/l=1)(h:i≠k\/j≠l):cB (aO s i) (aA j) i≠cB (aO s k) (aA l) k:=by
 intro he;obtain⟨e,q,d1,d2,d3⟩:=bFj s i k;have h1:cB (aO s i) (aA j) i=kC (bH (aO s i).Seed [151,179,bB (aA j),i]):=bKx _ _ _;have h2:cB (aO s k) (aA l) k=kC (bH (aO s k).Seed [151,179,bB (aA l),k]):=bKx _ _ _;obtain⟨c,n,u,x⟩:=Zu (bH (aO s i).Seed [151,179,bB (aA j),i]);obtain⟨d,b1,y,z⟩:=Zu (bH (aO s k).Seed [151,179,bB (aA l),k]);obtain⟨q1,o⟩:=bQ5 (aO s i).Seed 151 179 (bB (aA j)) i;obtain⟨q2,p⟩:=bQ5 (aO s k).Seed 151 179 (bB (aA l)) k;rw[h1,h2,n,b1,o,p] at he;obtain⟨g,hg,a⟩:∃g,bB (aA j)-bB (aA l)=g/\(g∈[0,477561565,(-477561565:Int)]/\(j≠l->g≠0)):=by
  rcases f with rfl|rfl<;>rcases hl with rfl|rfl<;>simp only[bZ7,bZ8]
  all_goals simp
 have A:(((i-k)*1000003+e)*1000015000090000270000405000244+g*1000006000009+(i-k)*1000003-(d-c))%2147483647=0:=by omega
 have:=cE.1 (cE.1 bQ8 (i-k) (by grind[bKy])) g a.1;rw[show(i-k==0&&g==0)=false by
  rcases h with h|h
  ·rw[bn.2 (show i-k≠0 by omega)];rfl
  ·rw[bn.2 (a.2 h),cP],cF] at this
 have:=cE.1 (cE.1 this e (aEj d2 d3)) (d-c) (aEj (by omega) (by omega));simp_all
def bNg {n:Int}(h:0<=n/\n<2147483647):bG (kC n)=true:=by
 grind[beq_eq_false_iff_ne,decide_eq_true,kC,bG,bK]
def iF (s:Int)(l:List Int):bG (aW s l)=true:=bNg (nE _ _)
theorem aS7 {k:Int}(h:bG k=true):1<=k/\k<=2147483646:=gU h
theorem bV3 {k:Int}(h:bG k=true):dP k=k*48271%2147483647:=by have:=aS7 h;unfold dP;rw[h,av,aa,aI (by omega) (by omega),ce (by omega)]
theorem bKz {k:Int}(h:bG k=true):bG (dP k)=true:=by
 grind[decide_eq_true,bG,bK,bV3,aS7]
theorem Ur {k:Int}(h:bG k=true):gY (dP k)=k:=by
 have:=aS7 h
 grind[bKz,Bool.not_true,bV3,gY]
def bK0 {a b:Int}(c:bG a=true)(hb:bG b=true)(h:dP a=dP b):a=b:=by rw[<-Ur c,h,Ur hb]
def bH9 {s i k j l:Int}(hi:0<=i/\i<6)(hk:0<=k/\k<6)(a:j=0\/j=1)(hl:l=0\/l=1)(h:i≠k\/j≠l):dY (aO s i) (aA j) i≠dY (aO s k) (aA l) k:=
 λhe=>bFk hi hk a hl h (bK0 (iF _ _) (iF _ _) he)
def bNh {s i k:Int}(hi:0<=i/\i<6)(hk:0<=k/\k<6)(h:i≠k):aS (aO s i)≠aS (aO s k):=
 λhe=>bNf hi hk h (bK0 (iF _ _) (iF _ _) he)
theorem Ov {α:Type}{p:Nat->α->Bool}:∀{l:List α} {i:Nat},(∀k (h:k<l.length),p (i+k) l[k]=false)->gF p i l=false
 |[],i,_=>rfl
 |x::l,i,h=>by
  have h0:=h 0 (by simp);have a:=Ov (p:=p) (l:=l) (i:=i+1) (λk hk=>by
   have:=h (k+1) (by simpa using hk);rw[show i+1+k=i+(k+1) by omega];simpa using this)
  simp only[gF,du,gE] at h0 ⊢;rw[h0,a];rfl
theorem Z6 {α:Type}{p:Nat->α->Bool}:∀{l:List α} {i:Nat},gF p i l=false->∀k (h:k<l.length),p (i+k) l[k]=false
 |x::l,i,h,0,_=>by simp only[gF,bc] at h;simpa using h.1
 |x::l,i,h,k+1,hk=>by
  simp only[gF,bc] at h;have:=Z6 h.2 k (by simpa using hk);rw[show i+(k+1)=i+1+k by omega];simpa using this
def Ut (seed j:Int)(k:Nat):Int:=dY (aO seed (k:Int)) (aA j) (k:Int)
def Ox (seed j:Int)(l:List AU):Prop:=∀k (h:k<l.length),l[k].Handle=(k:Int)/\l[k].Public=Ut seed j k/\0<=l[k].Counter/\l[k].Counter<=1000000
theorem jA {x a b:Int}(h1:a<=x)(h2:x<=b):bK x a b=true:=by grind[decide_eq_true,bK]
theorem bUj {seed j l:Int}{i k:Nat}(hi:i<6)(hk:k<6)(a:j=0\/j=1)(hl:l=0\/l=1)(h:i≠k\/j≠l):Ut seed j i≠Ut seed l k:=
 bH9 (by omega) (by omega) a hl (by omega)
def bNi (seed j:Int)(k:Nat):gY (Ut seed j k)=cB (aO seed (k:Int)) (aA j) (k:Int):=by simp[Ur,cB,iF,Ut,dY]
theorem aS8 {seed j m:Int}{l:List AU}(f:j=0\/j=1)(h:Ox seed j l)(hl:l.length<=6)(hm:1<=m/\m<=3):bA ⟨1,m,l⟩=true:=by
 have n:gF (wU ⟨1,m,l⟩) 0 l=false:=Ov λk hk=>by
  obtain⟨h1,h2,c,d⟩:=h k hk;have hp:=aS7 (iF (aO seed (k:Int)).Seed [179,bB (aA j),(k:Int)]);unfold wU;rw[ck,h1,jA (by omega) (by omega),h2,bNi,bn.2 (show cB (aO seed (k:Int)) (aA j) (k:Int)≠0 by unfold cB;omega),jA c d];have o:(decide (0<k)&&decide ((l.getD (k-1) default).Handle>=(k:Int)))=false:=by
   by_cases e:0<k
   ·have a:k-1<l.length:=by omega
    have:=(h (k-1) a).1;rw[List.getD,ab a,ci,this,ao (show ¬((k-1:Nat):Int)>=(k:Int) by omega),cP]
   simp[*]
  have p:((l.take k).any λq=>q.Public==Ut seed j k)=false:=by
   rw[gu];intro q hq;obtain⟨i,hi,rfl⟩:=da.1 hq;rw[cg] at hi;rw[jd,(h i (by omega)).2.1]
   grind[bUj]
  simp_all
 grind[jA,decide_eq_true,bK,decide,gF,wU,bA]
structure SiteIn (seed j:Int) (n:Nat) (s:AB):Prop where
 name:s.Name=aA j
 book:eU s.Book=true
 key:bG s.Book.Seed=true
 acc:∃l,s.Accounts=[⟨1,3,l⟩]/\Ox seed j l/\l.length=n
theorem Zv {j:Int}(a:j=0\/j=1):(iX (aA j)&&decide (2<=(bO (aA j)).length))=true:=by rcases a with rfl|rfl<;>kernel_rfl
def SiteIn.ok {seed j:Int}{n:Nat}{s:AB}(a:j=0\/j=1)(hn:n<=6)(h:SiteIn seed j n s):bW s=true:=by
 obtain⟨h1,h2,c,l,d,e,f⟩:=h;unfold bW lC;rw[h1,Zv a,c,h2,d];show(true&&true&&decide (1<=8)&&true&& !(Ol [⟨1,3,l⟩] 0 ⟨1,3,l⟩||false))=true
 grind[aS8,Ol]
def SiteIn.find {seed j:Int}{n:Nat}{s:AB}(h:SiteIn seed j n s):aD s 1=0:=by obtain⟨_,_,_,l,a,_⟩:=h;unfold aD;rw[a];rfl
theorem bAu {α:Type}{p:α->Bool}:∀{l:List α},(∀c∈l,p c=true)->l.takeWhile p=l
 |[],_=>rfl
 |x::l,h=>by rw[dl,h x (by simp),cI rfl,bAu (λc hc=>h c (by simp[hc]))]
def bQ9 {l:List AU}{p:Int}(h:∀k (h:k<l.length),l[k].Handle=(k:Int)):aEb l (l.length:Int) p=l++[⟨(l.length:Int),p,0,false⟩]:=by
 have:o9 (l.length:Int) l=l.length:=by
  grind[decide_eq_true,List.mem_iff_getElem,bAu,o9]
 unfold aEb;rw[this,de,dr,df]
def Ox.snoc {seed j:Int}{l:List AU}(h:Ox seed j l):Ox seed j (l++[⟨(l.length:Int),Ut seed j l.length,0,false⟩]):=by
 intro k hk;by_cases a:k<l.length
 ·rw[gx a];exact h k a
 grind
def SiteIn.reg {seed j:Int}{n:Nat}{s:AB}(c:j=0\/j=1)(hn:n<6)(h:SiteIn seed j n s):
  (eF s 1 (n:Int) (Ut seed j n)).2=true/\SiteIn seed j (n+1) (eF s 1 (n:Int) (Ut seed j n)).1:=by
 have d:=h.ok c (by omega);have e:=h.find;obtain⟨h1,h2,i,l,o,f,q⟩:=h;subst q;have u:(s.Accounts.getD (aD s 1).toNat default)=⟨1,3,l⟩:=by simp[*]
 have hi:=bQ9 (p:=Ut seed j l.length) (λk hk=>(f k hk).1);have hs:=f.snoc;have x:=aS8 (m:=3) c f (by omega) (by grind);have y:=aS8 (m:=3) c hs (by simp;omega) (by grind);have a:fJ ⟨1,3,l⟩ (l.length:Int) (Ut seed j l.length)=(⟨1,3,l++[⟨(l.length:Int),Ut seed j l.length,0,false⟩]⟩,true):=by
  grind[bA,aEb,Ut,fJ]
 unfold eF;rw[d,e,show decide ((0:Int)<0)=false from rfl,<-e,u,a,e,o];exact⟨rfl,h1,h2,i,_,rfl,hs,by simp⟩
def bIa {seed j:Int}(c:j=0\/j=1):SiteIn seed j 0 (nX (gZ (aA j) (aW seed [281,j])) 1 3).1:=by
 have hk:=iF seed [281,j];generalize aW seed [281,j]=q at*;have hn:gZ (aA j) q=⟨aA j,[],⟨q,0,[]⟩,[]⟩:=by
  grind[Zv,gZ,lC]
 have hb:eU ⟨q,0,[]⟩=true:=rfl;have a:SiteIn seed j 0 (qZ ⟨aA j,[],⟨q,0,[]⟩,[]⟩ 1 3):=
  ⟨rfl,hb,hk,[],rfl,λk hk=>by simp at hk,rfl⟩
 have h0:bW ⟨aA j,[],⟨q,0,[]⟩,[]⟩=true:=by unfold bW lC;rw[Zv c,hk];rfl
 unfold nX;rw[hn,h0,a.ok c (by omega)];exact a
def aS9 {seed j:Int}(a:j=0\/j=1):∀(m i:Nat) (s:AB),SiteIn seed j i s->i+m<=6->
  SiteIn seed j (i+m) (qI (aA j) i ((List.range' i m).map λ(k:Nat)=>bE (aO seed (k:Int))) s)
 |0,i,s,h,_=>h
 |m+1,i,s,h,hm=>by
  have:=aS9 a m (i+1) _ (h.reg a (by omega)).2 (by omega);rw[show i+1+m=i+(m+1) by omega] at this;exact this
theorem bFl {seed j:Int}(a:j=0\/j=1){n:Nat}(hn:n<=6):SiteIn seed j n (xH seed (dL seed n) j):=by have:=aS9 a n 0 _ (bIa (seed:=seed) a) (by omega);rw[ck,<-List.range_eq_range'] at this;exact this
theorem bFm {α:Type}{r:α->α->Prop}(ht:∀a b c,r a b->r b c->r a c):∀{l:List α},(∀k (h:k+1<l.length),r l[k] l[k+1])->l.Pairwise r
 |[],_=> .nil
 |[x],_=>List.pairwise_singleton r x
 |x::y::l,h=>by
  have e:=bFm (r:=r) ht (l:=y::l) (λk hk=>by have:=h (k+1) (by simpa using hk);simpa using this);refine cu.2 ⟨λz d=> ?_,e⟩;have h0:r x y:=by simpa using h 0 (by simp)
  rcases bg.1 d with rfl|d
  ·exact h0
  ·exact ht _ _ _ h0 ((cu.1 e).1 z d)
structure BookIn (b:AP):Prop where
 next:0<=b.Next/\b.Next<=1000000
 len:b.Open.length<=16
 ord:b.Open.Pairwise (λa c=>a.Id<c.Id)
 all:∀c∈b.Open,(0<=c.Id/\c.Id<b.Next)/\(0<=c.aAH/\c.aAH<=1000005)/\(0<=c.Until/\c.Until<=1000005)
def BookIn.ok {b:AP}(h:BookIn b):eU b=true:=by
 obtain⟨h1,h2,a,c⟩:=h;have d:gF (iU b) 0 b.Open=false:=(by grind[Ov,List.getElem_mem,iU,aI,jA,decide,default,List.pairwise_iff_getElem,List.getD,List.getElem?_eq_getElem,decide_eq_false])
 grind[jA,decide_eq_true,eU]
def Zw {b:AP}(h:eU b=true):BookIn b:=by
 unfold eU at h;simp only[ac,ca,bu] at h;obtain⟨⟨h1,h2⟩,f⟩:=h;have h1:=gU h1;have hg:∀k (hk:k<b.Open.length),((0<=b.Open[k].Id/\b.Open[k].Id<b.Next)/\(0<=b.Open[k].aAH/\b.Open[k].aAH<=1000005)/\(0<=b.Open[k].Until/\b.Open[k].Until<=1000005))/\(0<k->(b.Open.getD (k-1) default).Id<b.Open[k].Id):=λk hk=>by
  have:=Z6 f k hk;unfold iU at this;rw[ck,aI (by omega) (by omega)] at this;simp only[bc,cH,Bool.and_eq_false_iff,cr] at this;obtain⟨a,i,d,e⟩:=this;have a:=gU a;have d:=gU d;have e:=gU e;omega
 refine⟨⟨h1.1,h1.2⟩,h2,(by grind[bFm,Int.lt_trans]),λc hc=> ?_⟩
 all_goals grind[List.mem_iff_getElem,Nat.add_sub_cancel,List.getD,List.getElem?_eq_getElem]
def bFn {b:AP}(h:BookIn b)(a n:Int):BookIn (fI b a n).1/\(fI b a n).1.Seed=b.Seed/\b.Next<=(fI b a n).1.Next/\(fI b a n).1.Next<=b.Next+1:=by
 unfold fI;rw[h.ok];by_cases hn:b.Next=1000000
 ·simp[*]
 ·rw[bn.2 hn];cases hr:bK a 0 1000000&&bK n 0 1000000 with
  |false=>grind
  |true=>
   rw[ac] at hr;have f:=gU hr.1;have i:=gU hr.2;obtain⟨h1,h2,j,k⟩:=h;have d:IntKind.i64.wrap (b.Next+1)=b.Next+1:=(by grind[aI]);have e:IntKind.i64.wrap (n+5)=n+5:=(by grind[aI]);have key:∀l:List A4,l.length<=15->l.Pairwise (λa c=>a.Id<c.Id)->(∀c∈l,c∈b.Open)->BookIn ⟨b.Seed,IntKind.i64.wrap (b.Next+1),l++[aEd b a n]⟩:=λl hl ho hm=>by
    rw[d];refine⟨(by grind),by simp;omega,?_,λc hc=> ?_⟩
    all_goals grind[q1,q2,q3,List.mem_singleton,aEd]
   grind
def bUk {b:AP}(h:BookIn b)(c a n:Int):BookIn (pQ b c a n).1/\(pQ b c a n).1.Seed=b.Seed:=by
 unfold pQ;rw[h.ok];cases decide (dS b c<0) with
 |true=>simp[*]
 |false=>
  obtain⟨h1,h2,e,f⟩:=h;have d:(b.Open.take (dS b c).toNat++b.Open.drop ((dS b c).toNat+1)).Sublist b.Open:=by
   grind[List.drop_sublist,List.drop_drop,List.Sublist.append,List.take_append_drop,dS]
  exact⟨⟨h1,bw d.length_le h2,e.sublist d,λc hc=>f c (d.subset hc)⟩,rfl⟩
def SiteIn.aBJ {seed j:Int}{n:Nat}{s:AB}(h:SiteIn seed j n s){b:AP}(hb:BookIn b)(hs:b.Seed=s.Book.Seed):SiteIn seed j n {s with Book:=b}:=
 ⟨h.name,hb.ok,by show bG b.Seed=true;rw[hs];exact h.key,h.acc⟩
def SiteIn.begin {seed j:Int}{n:Nat}{s:AB}(h:SiteIn seed j n s)(i t:Int):SiteIn seed j n (mK s i t).1:=by
 unfold mK;cases bW s&&(!decide (aD s i<0)&&(fI s.Book i t).2.2) with
 |false=>exact h
 |true=>have:=bFn (Zw h.book) i t;exact h.aBJ this.1 this.2.1
def Ox.set {seed j:Int}{l:List AU}(h:Ox seed j l){k:Nat}(hk:k<l.length){c:AU}(h1:c.Handle=l[k].Handle)(h2:c.Public=l[k].Public)(a:0<=c.Counter/\c.Counter<=1000000):Ox seed j (l.set k c):=by
 intro i hi;rw[eM];rw[ax] at hi;split
 ·rename_i e;subst e;have:=h k hk;omega
 ·exact h i hi
theorem xJ {α:Type}{p:α->Bool}:∀{l:List α} {i:Nat},decide (kN p i l<0)=false->∃k,∃h:k<l.length,kN p i l=((i+k:Nat):Int)/\p l[k]=true
 |[],i,h=>by simp[kN] at h
 |x::l,i,h=>by
  unfold kN at h ⊢;cases hp:p x with
  |true=>exact⟨0,by simp,by simp,by simpa using hp⟩
  |false=>rw[hp,aa] at h;obtain⟨k,hk,a,c⟩:=xJ h;exact⟨k+1,by simpa using hk,by rw[aa,a];congr 1;omega,by simpa using c⟩
def Ox.use {seed j:Int}{l:List AU}(h:Ox seed j l)(x:AY)(z:ByteArray)(c:Int)(y:0<=x.Counter/\x.Counter<=1000000):
  ∃l',(iP ⟨1,3,l⟩ x z c).1=⟨1,3,l'⟩/\Ox seed j l'/\l'.length=l.length/\∀k (h1:k<l.length) (h2:k<l'.length),l[k].Cut=true->l'[k].Cut=true:=by
 unfold iP;cases hb: !bA ⟨1,3,l⟩||(decide (aU ⟨1,3,l⟩ x.Handle<0)||(gT ⟨1,3,l⟩ (aU ⟨1,3,l⟩ x.Handle)).Cut) with
 |true=>simp[*]
 |false=>
  simp only[bc] at hb;obtain⟨k,hk,d,A⟩:=xJ (l:=l) hb.2.1;have f:aU ⟨1,3,l⟩ x.Handle=(k:Int):=d.trans (by simp);have n:gT ⟨1,3,l⟩ (k:Int)=l[k]:=by grind[List.getD,List.getElem?_eq_getElem,gT]
  rw[f,n,aa,bo];have a:∀c:AU,c.Handle=l[k].Handle->c.Public=l[k].Public->0<=c.Counter/\c.Counter<=1000000->(l[k].Cut=true->c.Cut=true)->
    ∃l',(AI.mk 1 3 (l.set k c))=⟨1,3,l'⟩/\Ox seed j l'/\l'.length=l.length/\∀i (h1:i<l.length) (h2:i<l'.length),l[i].Cut=true->l'[i].Cut=true:=λc o p s u=>
   ⟨_,rfl,h.set hk o p s,ax,λi h1 h2 e=>by
    rw[eM];split
    ·rename_i q;subst q;exact u e
    ·exact e⟩
  cases iI l[k].Public x z c l[k].Counter==0 with
  |true=>simp_all
  |false=>
   cases iI l[k].Public x z c l[k].Counter==4 with
   |true=>exact a _ rfl rfl (h k hk).2.2 (λ_=>rfl)
   |false=>simp[*]
def SiteIn.aBV {seed j:Int}{n:Nat}{s:AB}(h:SiteIn seed j n s){l:List AU}(hl:Ox seed j l)(hn:l.length=n)(g:List Int)(b:AP)(hb:BookIn b)(hs:b.Seed=s.Book.Seed):SiteIn seed j n {s with Book:=b,Accounts:=[⟨1,3,l⟩],Logins:=g}:=
 ⟨h.name,hb.ok,by show bG b.Seed=true;rw[hs];exact h.key,l,rfl,hl,hn⟩
def SiteIn.finish {seed j:Int}{n:Nat}{s:AB}(h:SiteIn seed j n s)(c t:Int)(x:AY)(a:0<=x.Counter/\x.Counter<=1000000):SiteIn seed j n (lT s 1 c t x).1:=by
 have d:=h.find;have hk:=bUk (Zw h.book) c 1 t;unfold lT;rw[d];cases !bW s||decide ((0:Int)<0) with
 |true=>exact h
 |false=>
  simp only[aa];cases !(pQ s.Book c 1 t).2 with
  |true=>exact h.aBJ hk.1 hk.2
  |false=>
   simp only[aa];cases !qH (fQ s 0) 3 with
   |true=>exact h.aBJ hk.1 hk.2
   |false=>
    obtain⟨l,e,hl,hn⟩:=h.acc;have f:fQ s 0=⟨1,3,l⟩:=by grind[fQ]
    obtain⟨l',q1,q2,q3,_⟩:=hl.use x s.Name (eY s.Book c) a;simp only[aa,f,q1];rw[show s.Accounts.set (0:Int).toNat ⟨1,3,l'⟩=[⟨1,3,l'⟩] by rw[e];rfl];cases !((iP ⟨1,3,l⟩ x s.Name (eY s.Book c)).2==0) with
    |true=>exact h.aBV q2 (q3.trans hn) s.Logins _ hk.1 hk.2
    |false=>exact h.aBV q2 (q3.trans hn) (s.Logins++[1]) _ hk.1 hk.2
def bRa (s:AK)(z:ByteArray)(i:Int)(m:List Int):(jI s z i m).1.Seed=s.Seed/\(jI s z i m).1.Vendor=s.Vendor/\(jI s z i m).1.Serial=s.Serial/\((jI s z i m).2.2=true->(jI s z i m).1.Counter=s.Counter+1/\0<=s.Counter/\s.Counter<1000000)/\((jI s z i m).2.2=false->(jI s z i m).1=s):=by
 unfold jI;cases hb:lS s&& !(s.Counter==1000000) with
 |false=>simp
 |true=>
  simp only[ac,bu,bn] at hb;have hs:=hb.1;unfold lS at hs;simp only[ac] at hs;have hc:=gU hs.2.2.2;refine⟨rfl,rfl,rfl,⟨λ_=> ?_,λh=>by cases h⟩⟩
  have:IntKind.i64.wrap (s.Counter+1)=s.Counter+1:=(by grind[aI]);exact⟨this,by omega,by have:=hb.2;omega⟩
def bFo (s:AK)(o:AQ)(z:ByteArray)(i c:Int)(p:Bool):(jJ s o z i c p).1.Seed=s.Seed/\(jJ s o z i c p).1.Vendor=s.Vendor/\(jJ s o z i c p).1.Serial=s.Serial/\(0<=s.Counter/\s.Counter<=1000000->(0<=(jJ s o z i c p).1.Counter/\(jJ s o z i c p).1.Counter<=1000000)/\(0<=(jJ s o z i c p).2.1.Counter/\(jJ s o z i c p).2.1.Counter<=1000000)):=by
 obtain⟨h1,h2,a,d,e⟩:=bRa s z i (bP (Rl s o z i c p));unfold jJ;cases hb:mE o z&&(jI s z i (bP (Rl s o z i c p))).2.2 with
 |false=>exact⟨rfl,rfl,rfl,λh=>⟨h,cL 0,show(0:Int)<=1000000 by decide⟩⟩
 |true=>
  grind
structure StIn (seed:Int) (k:Nat) (s:AK):Prop where
 ven:s.Vendor=1
 ser:s.Serial=(k:Int)
 key:s.Seed=(aO seed (k:Int)).Seed
 cnt:0<=s.Counter/\s.Counter<=1000000
structure WIn (m:Nat) (w:AA):Prop where
 seed:bG w.Seed=true
 now:0<=w.Now/\w.Now<=999900
 dlen:1<=w.Devices.length/\w.Devices.length<=6
 slen:w.Stolen.length=w.Devices.length
 dev:∀k (h:k<w.Devices.length),StIn w.Seed k w.Devices[k].Store
 two:w.Sites.length=2
 mle:m<=6
 site:∀j (h:j<w.Sites.length),SiteIn w.Seed (j:Int) m w.Sites[j]
 mail:jZ w.Mail=true
 log:aT w.aAD.Log=true
def WIn.ok {m:Nat}{w:AA}(h:WIn m w):aP w=true:=by
 have hs:gF tO 0 w.Sites=false:=Ov λk hk=>by
  have h2:=h.two;have:=h.site k hk;unfold tO;rw[this.ok (by omega) h.mle,this.name,ck];simp
 unfold aP;have h2:=h.two;have a:=h.slen;have c:=h.dlen;rw[hs,h.log,h.mail,h.seed,jA h.now.1 h.now.2,jA (by omega) (by omega),a,h2];simp
def WIn.upd {m:Nat}{w v:AA}(h:WIn m w)(h1:v.Seed=w.Seed)(h2:v.Now=w.Now)(a:v.Devices.length=w.Devices.length)(c:v.Stolen.length=w.Stolen.length)
  (i:∀k (h:k<v.Devices.length),StIn w.Seed k v.Devices[k].Store) (d:v.Sites.length=2) (l:∀j (h:j<v.Sites.length),SiteIn w.Seed (j:Int) m v.Sites[j]) (e:jZ v.Mail=true) (f:aT v.aAD.Log=true):WIn m v where
 seed:=by rw[h1];exact h.seed
 now:=by rw[h2];exact h.now
 dlen:=by rw[a];exact h.dlen
 slen:=by rw[a,c];exact h.slen
 dev:=by simp[*]
 two:=d
 mle:=h.mle
 site:=by simp[*]
 mail:=e
 log:=f
def WIn.aBO {m:Nat}{w:AA}(h:WIn m w){i:Nat}{x:AF}(hi:i<w.Devices.length)(a:StIn w.Seed i x.Store):∀k (h:k<(w.Devices.set i x).length),StIn w.Seed k (w.Devices.set i x)[k].Store:=λk hk=>by
 rw[eM];rw[ax] at hk;split
 ·simp_all
 ·exact h.dev k hk
def WIn.aDG {m:Nat}{w:AA}(h:WIn m w){i:Nat}{x:AB}(hi:i<2)(a:SiteIn w.Seed (i:Int) m x):∀k (h:k<(w.Sites.set i x).length),SiteIn w.Seed (k:Int) m (w.Sites.set i x)[k]:=λk hk=>by
 rw[eM];rw[ax] at hk;split
 ·simp_all
 ·exact h.site k hk
def yI {w:AA}{d:Int}(h:aN w d=true):0<=d/\d.toNat<w.Devices.length/\aL w d=w.Devices.getD d.toNat default:=by simp only[aN,ac,ca] at h;exact⟨h.1,by omega,rfl⟩
theorem kI {w:AA}{d:Int}(h:aN w d=true):∃h:d.toNat<w.Devices.length,aL w d=w.Devices[d.toNat]:=by simp_all[List.getD,ab,yI]
def WIn.aBX {m:Nat}{w:AA}(h:WIn m w){d:Int}(hd:aN w d=true):StIn w.Seed d.toNat (aL w d).Store:=by obtain⟨h1,h2⟩:=kI hd;rw[h2];exact h.dev _ h1
def bNj {m:AV}(h:jZ m=true)(k a t:Int):jZ (Ex m k a t).1=true:=by
 grind[jZ,Pt,Bool.or_eq_false_iff,Bool.not_eq_false',Ex]
def WIn.tell {m:Nat}{w:AA}(h:WIn m w)(k:Int):WIn m (qX w k):=
 h.upd rfl rfl rfl rfl h.dev h.two h.site (bNj h.mail _ _ _) h.log
def StIn.make {seed:Int}{k:Nat}{s:AK}(h:StIn seed k s)(o:AQ)(z:ByteArray)(i c:Int)(p:Bool):StIn seed k (jJ s o z i c p).1:=by obtain⟨h1,h2,a,d⟩:=bFo s o z i c p;exact⟨h2.trans h.ven,a.trans h.ser,h1.trans h.key,(d h.cnt).1⟩
def WIn.visit {m:Nat}{w:AA}(h:WIn m w)(d j:Int)(o:AQ):WIn m (iA w d j o).1:=by
 unfold iA;cases ht:dK w d j with
 |false=>exact h
 |true=>
  have a:=ht;simp only[dK,ac] at a;have h2:=h.two;have hq:=a.2.2;simp only[gP,ac,ca] at hq;have k:j.toNat<w.Sites.length:=by omega
  have es:eT w j=w.Sites[j.toNat]:=by grind[List.getD,List.getElem?_eq_getElem,eT]
  have hs:=h.site _ k;rw[<-es,show((j.toNat:Nat):Int)=j by omega] at hs;have c:=h.aBX a.2.1;have hm:=bFo (aL w d).Store o (aA j) d (aAY w j).2.2.1 true;have hb:SiteIn w.Seed j m (aAY w j).1:=hs.begin 1 w.Now;have f:SiteIn w.Seed j m (uS w d j o).1:=hb.finish _ _ _ (hm.2.2.2 c.cnt).2;have i:WIn m (aOn w d j o):=by obtain⟨l,e,_⟩:=yI a.2.1;refine h.upd rfl rfl (ax ..) rfl (h.aBO e (c.make o (aA j) d (aAY w j).2.2.1 true)) (by show(w.Sites.set _ _).length=2;rw[ax,h2]) (h.aDG (by omega) (by grind)) h.mail h.log
  simp only[av,aa];cases !(aAY w j).2.2.2 with
  |true=>exact h
  |false=>
   cases !((uS w d j o).2.1==0) with
   |true=>exact i
   |false=>exact i.tell 1
def WIn.sync {m:Nat}{w:AA}(h:WIn m w)(d b:Int):WIn m (aR w d b).1:=by
 unfold aR;cases hb:aP w&&aN w d with
 |false=>exact h
 |true=>rw[ac] at hb;obtain⟨e,a,_⟩:=yI hb.2;refine h.upd rfl rfl (ax ..) rfl (h.aBO a ?_) h.two h.site h.mail h.log;have c:=h.aBX hb.2;unfold bT;cases kH (aL w d) w.aAD.Log w.aAD.Boxes (fP w.aAD b).1==0<;>exact c
def WIn.aDH {m:Nat}{w:AA}(h:WIn m w)(d:Int)(n:ByteArray)(a:Int)(r:Bool):WIn m (sI w d n a r).1:=by
 unfold sI;cases hb:aP w&&aN w d with
 |false=>exact h
 |true=>
  rw[ac] at hb;obtain⟨f,c,_⟩:=yI hb.2;have e:=h.aBX hb.2;simp only[ae];cases(dI (aL w d) n a r).2 with
  |false=>exact h
  |true=>refine h.upd rfl rfl (ax ..) rfl (h.aBO c ?_) h.two h.site h.mail h.log;unfold dI;cases(tX (aL w d) n a r).2<;>exact e
theorem aNx (d:AF):(dQ d).1.Store=d.Store:=by unfold dQ;cases(qW d.Key d.Epoch (IntKind.i64.wrap (d.Version+1)) d.aAE).2<;>rfl
def WIn.up {m:Nat}{w:AA}(h:WIn m w){d:Int}(hd:aN w d=true):WIn m (upF w d).1:=by
 unfold upF;cases(dQ (aL w d)).2.2&&(dJ w.aAD (dQ (aL w d)).2.1).2 with
 |false=>exact h
 |true=>obtain⟨c,a,_⟩:=yI hd;refine h.upd rfl rfl (ax ..) rfl (h.aBO a (by rw[aNx];exact h.aBX hd)) h.two h.site h.mail ?_;show aT (dJ w.aAD (dQ (aL w d)).2.1).1.Log=true;rw[(vX _ _).2];exact h.log
def WIn.push {m:Nat}{w:AA}(h:WIn m w)(d:Int):WIn m (jS w d).1:=by
 unfold jS;cases hb:(aR w d 0).2==0&&(upF (aR w d 0).1 d).2 with
 |false=>exact h
 |true=>
  rw[ac] at hb;have h0:=tZ hb.1;exact(h.sync d 0).up (by
   grind[aN])
theorem jC (w:AA)(d b:Int):(aR w d b).1.Seed=w.Seed/\(aR w d b).1.Now=w.Now/\(aR w d b).1.Devices.length=w.Devices.length/\(aR w d b).1.Sites=w.Sites/\(aR w d b).1.Stolen=w.Stolen/\(aR w d b).1.aAD=w.aAD:=by
 grind[aP,aN,List.length_set,aR]
theorem bCq (w:AA)(d:Int):(upF w d).1.Seed=w.Seed/\(upF w d).1.Now=w.Now/\(upF w d).1.Devices.length=w.Devices.length/\(upF w d).1.Sites=w.Sites/\(upF w d).1.Stolen=w.Stolen/\(upF w d).1.aAD.Log=w.aAD.Log:=by
 grind[dQ,aL,dJ,List.length_set,vX,upF]
def Au (w:AA)(d:Int):(jS w d).1.Seed=w.Seed/\(jS w d).1.Now=w.Now/\(jS w d).1.Devices.length=w.Devices.length/\(jS w d).1.Sites=w.Sites/\(jS w d).1.Stolen=w.Stolen/\(jS w d).1.aAD.Log=w.aAD.Log:=by
 grind[aR,upF,jC,bCq,jS]
def wC (w:AA)(b k p:Int)(key:List AD->Int):(jW w b k p key).1.Seed=w.Seed/\(jW w b k p key).1.Now=w.Now/\(jW w b k p key).1.Devices=w.Devices/\(jW w b k p key).1.Sites=w.Sites/\(jW w b k p key).1.Stolen=w.Stolen/\(jW w b k p key).1.Mail=w.Mail/\(aT w.aAD.Log=true->aT (jW w b k p key).1.aAD.Log=true):=by
 unfold jW
 grind[lW,aT,cZ,iY,bF,dZ,aL]
def WIn.aCZ {m:Nat}{w:AA}(h:WIn m w)(b k p:Int)(key:List AD->Int):WIn m (jW w b k p key).1:=by obtain⟨d,e,a,c,f,i,j⟩:=wC w b k p key;exact h.upd d e (by rw[a]) (by rw[f]) (by rw[a];exact h.dev) (by rw[c];exact h.two) (by rw[c];exact h.site) (by rw[i];exact h.mail) (j h.log)
def bAv {seed:Int}{m:Nat}(hm:m<6):∀(l:List AB) (j:Nat),j+l.length<=2->(∀i (h:i<l.length),SiteIn seed ((j+i:Nat):Int) m l[i])->
  (gK (aO seed (m:Int)) (m:Int) j l).2=true/\(gK (aO seed (m:Int)) (m:Int) j l).1.length=l.length/\∀i (h:i<(gK (aO seed (m:Int)) (m:Int) j l).1.length),SiteIn seed ((j+i:Nat):Int) (m+1) (gK (aO seed (m:Int)) (m:Int) j l).1[i]
 |[],j,_,_=>⟨rfl,rfl,λi h=>by simp[gK] at h⟩
 |s::l,j,a,h=>by
  have h0:SiteIn seed (j:Int) m s:=h 0 (by simp);simp only[au] at a;obtain⟨c,d⟩:=h0.reg (by omega) hm;obtain⟨f,k,n⟩:=bAv hm l (j+1) (by omega) (λi hi=>by
   have:=h (i+1) (by simpa using hi);rw[show j+1+i=j+(i+1) by omega];simpa using this)
  have e:dY (aO seed (m:Int)) (aA (j:Int)) (m:Int)=Ut seed (j:Int) m:=by unfold Ut;rfl
  have o:gK (aO seed (m:Int)) (m:Int) j (s::l)=((eF s 1 (m:Int) (Ut seed (j:Int) m)).1::(gK (aO seed (m:Int)) (m:Int) (j+1) l).1,true):=by rw[gK,e,c,f];rfl
  rw[o];refine⟨rfl,by simp[k],λi hi=> ?_⟩;cases i with
  |zero=>simpa using d
  |succ i=>simp only[au] at hi;have:=n i (by omega);rw[show j+1+i=j+(i+1) by omega] at this;simpa using this
def Oy (d:AF)(n:ByteArray)(h:Int)(r:Bool):(dI d n h r).1.Store=d.Store:=by unfold dI;cases(tX d n h r).2<;>rfl
def aTa (d:AF)(h:Int)(r:Bool):(mX d h r).Store=d.Store:=by unfold mX;rw[Oy,Oy]
theorem Z7 {w v:AA}{d:Int}(h:aN w d=true)(e:v.Devices.length=w.Devices.length):aN v d=true:=by
 grind[aN]
def WIn.app {m:Nat}{w:AA}(h:WIn m w)(hl:w.Devices.length<6):WIn m (appW w (bE (aO w.Seed (w.Devices.length:Int)))) where
 seed:=h.seed
 now:=h.now
 dlen:=by grind[List.length_append,List.length_cons,List.length_nil,appW]
 slen:=by unfold appW;simp only[ay,au,bp,h.slen]
 dev:=λk hk=>by
  have a:k<(w.Devices++[bE (aO w.Seed (w.Devices.length:Int))]).length:=hk;show StIn w.Seed k ((w.Devices++[bE (aO w.Seed (w.Devices.length:Int))])[k]'a).Store;rw[List.getElem_append];split
  ·rename_i c;exact h.dev k c
  ·simp only[ay,au,bp] at a;have e:k=w.Devices.length:=by omega
   subst e;simp only[ga,gE];exact⟨rfl,rfl,rfl,cL 0,show(0:Int)<=1000000 by decide⟩
 two:=h.two
 mle:=h.mle
 site:=h.site
 mail:=h.mail
 log:=h.log
def WIn.aCT {w:AA}(h:WIn w.Devices.length w){b:Int}(hn:w.Devices.length<6)(k2:aN w b=true):WIn (w.Devices.length+1) (aAU w b)/\(aAU w b).Seed=w.Seed/\(aAU w b).Devices.length=w.Devices.length:=by
 obtain⟨s1,s2,s3,s4,s5,s6⟩:=jC w b 0;have h0:=h.sync b 0;have h1:WIn w.Devices.length (add1 w b).1:=h0.aCZ _ _ _ _;obtain⟨d,n,e,o,p,q,s⟩:=wC (aR w b 0).1 b 1 (aS (aO w.Seed (w.Devices.length:Int))) (λ_=>(aL (aR w b 0).1 b).Key);have a:(add1 w b).1.Seed=w.Seed:=d.trans s1;have c:(add1 w b).1.Devices.length=w.Devices.length:=by show(jW _ _ _ _ _).1.Devices.length=_;rw[e,s3]
 obtain⟨u,f,k⟩:=bAv (seed:=w.Seed) hn (add1 w b).1.Sites 0 (by rw[h1.two];omega) (λi hi=>by
  have:=h1.site i hi;simp_all)
 have hd:aN (add1 w b).1 b=true:=Z7 k2 c;obtain⟨d0,d1,_⟩:=yI hd;refine⟨{
  seed:=by show bG (add1 w b).1.Seed=true;exact h1.seed
  now:=h1.now
  dlen:=by show 1<=((add1 w b).1.Devices.set _ _).length/\((add1 w b).1.Devices.set _ _).length<=6;rw[ax];exact h1.dlen
  slen:=by show(add1 w b).1.Stolen.length=((add1 w b).1.Devices.set _ _).length;rw[ax];exact h1.slen
  dev:=h1.aBO d1 (by rw[aTa];exact h1.aBX hd)
  two:=by show(Y6 w b).1.length=2;exact f.trans h1.two
  mle:=by omega
  site:=λj l=>by
   have:=k j l;rw[ck] at this;show SiteIn (add1 w b).1.Seed (j:Int) _ _;rw[a];exact this
  mail:=h1.mail
  log:=h1.log},a,?_⟩
 show((add1 w b).1.Devices.set _ _).length=_;rw[ax,c]
theorem WIn.add {w:AA}(h:WIn w.Devices.length w)(b:Int):WIn (fG w b).1.Devices.length (fG w b).1/\(fG w b).1.Seed=w.Seed:=by
 unfold fG;cases a:Bi w b with
 |false=>simp[*]
 |true=>
  unfold Bi at a;simp only[ac,bu,cr] at a;obtain⟨⟨k1,k2,k3,k4⟩,k5,k6,k7,k8,k9⟩:=a;have hn:w.Devices.length<6:=by omega
  obtain⟨h2,f,i⟩:=h.aCT hn k2;have j:WIn (w.Devices.length+1) (qY w b).1:=h2.push b;obtain⟨c,o,d,p,q,s⟩:=Au (aAU w b) b;have c:(qY w b).1.Seed=w.Seed:=c.trans f;have d:(qY w b).1.Devices.length=w.Devices.length:=d.trans i;have e:=j.app (by omega);rw[c,d] at e;have k:WIn (w.Devices.length+1) (Ef w b).1:=e.sync _ _;obtain⟨q1,q2,q3,q4,q5,q6⟩:=jC (appW (qY w b).1 (bE (aO w.Seed (w.Devices.length:Int)))) (w.Devices.length:Int) 0;have l:(qX (Ef w b).1 2).Devices.length=w.Devices.length+1:=by
   show(Ef w b).1.Devices.length=_;refine q3.trans ?_
   grind[List.length_append,List.length_cons,List.length_nil,appW]
  have n:=k.tell 2;simp only[ae];rw[l];exact⟨n,q1.trans c⟩
def bFp {k:Int}(h:bG k=true)(l:List Int):iT (dP k) l (sF k l)=true:=by
 have:=aS7 h
 grind[Ur,bne,beq_eq_false_iff_ne,iT]
def bRb {l:List AD}{e:AD}(h:l=[]\/aT l=true)(hs:lM l e=true)(hl:l.length<40):aT (l++[e])=true:=by
 grind[jA,Bool.not_eq_true',aT,gF,lM,Ov,List.getElem_append_left,Z6]
theorem Uu (l:List AD)(e:AD):aC (l++[e])=jT (aC l) e:=by simp[fm,aC]
theorem Oz (l:List AD)(e:AD):aF (l++[e])=bif e.Kind==2 then IntKind.i64.wrap (aF l+1) else aF l:=by simp[fm,aF]
theorem Ai (l:List AD)(e:AD)(p:Int):dW (l++[e]) p=(dW l p||(e.Kind==2&&e.Device==p)):=by simp[jr,dW]
def mY (seed:Int)(k:Nat):Int:=aS (aO seed (k:Int))
theorem aRb {seed:Int}{i k:Nat}(hi:i<6)(hk:k<6)(h:i≠k):mY seed i≠mY seed k:=bNh (by omega) (by omega) (by omega)
def Z8 (s:AK):bG (jH s)=true:=by simp[iF,jH]
theorem mM {l:List Int}{x:Int}:jG l x=true↔x∈l:=by
 grind[List.any_eq_true,jG]
structure NewLog (seed:Int) (n:Nat) (l:List AD):Prop where
 len:l.length=n
 devs:aC l=(List.range n).map (mY seed)
 rem:∀p,dW l p=false
 ep:aF l=0
 ok:n=0\/aT l=true
def sN (seed:Int):∀n,n<=6->NewLog seed n (aV seed n)
 |0,_=>⟨rfl,rfl,λ_=>rfl,rfl, .inl rfl⟩
 |n+1,hn=>by
  obtain⟨h1,h2,h,j,c⟩:=sN seed n (by omega);have a:jG (aC (aV seed n)) (mY seed n)=false:=by rw[gh,Ne,mM,h2];intro hm;obtain⟨i,hi,e⟩:=cn.1 hm;have hi:=List.mem_range.1 hi;exact aRb (by omega) (by omega) (by omega) e
  have d:lM (aV seed n) (Jp (aV seed n) 1 (mY seed n) (aO seed 0))=true:=by
   unfold lM;have v:iT (aS (aO seed 0)) [dF (bE6 (aV seed n) 1 (mY seed n) (aO seed 0))] (lQ (aO seed 0) [dF (bE6 (aV seed n) 1 (mY seed n) (aO seed 0))])=true:=by unfold lQ aS;exact bFp (Z8 _) _
   show(((aV seed n).length:Int)==((aV seed n).length:Int)&&(iW (aV seed n)==iW (aV seed n)&&((jG (aC (aV seed n)) (aS (aO seed 0))||(((aV seed n).length:Int)==0&&aS (aO seed 0)==mY seed n))&&(iT (aS (aO seed 0)) [dF (bE6 (aV seed n) 1 (mY seed n) (aO seed 0))] (lQ (aO seed 0) [dF (bE6 (aV seed n) 1 (mY seed n) (aO seed 0))])&&
    (!dW (aV seed n) (mY seed n)&&(true&&(!jG (aC (aV seed n)) (mY seed n)&&decide (((aC (aV seed n)).length:Int)<6))))))))=true
   rw[v,h,a,h2,h1];have f:(jG ((List.range n).map (mY seed)) (aS (aO seed 0))||((n:Int)==0&&aS (aO seed 0)==mY seed n))=true:=by
    cases n with
    |zero=>simp[mY]
    |succ n=>rw[show jG ((List.range (n+1)).map (mY seed)) (aS (aO seed 0))=true from mM.2 (cn.2 ⟨0,by simp,rfl⟩)];rfl
   rw[f];simp;omega
  have hl:=bRb (l:=aV seed n) (by
   rcases c with c|c
   ·subst c;exact .inl rfl
   ·exact .inr c) d (by omega)
  have e:aV seed (n+1)=aV seed n++[Jp (aV seed n) 1 (mY seed n) (aO seed 0)]:=by
   show(dZ (aV seed n) 1 (aS (aO seed (n:Int))) (aO seed 0)).1=_;unfold dZ;have hq:(decide (((aV seed n).length:Int)>0)&& !aT (aV seed n))=false:=by
    rcases c with c|c
    ·subst c;rfl
    ·rw[c];simp
   rw[hq,show aS (aO seed (n:Int))=mY seed n from rfl,hl];rfl
  rw[e];refine⟨by simp[h1],?_,λp=> ?_,?_, .inr hl⟩
  ·rw[Uu,eg,cN,<-h2];unfold jT;have hc:(aC (aV seed n)).contains (mY seed n)=false:=by rw[gh] at a ⊢;intro hc;exact a (mM.2 (by simpa using hc))
   show(bif (1:Int)==1 then(bif (aC (aV seed n)).contains (mY seed n) then _ else _) else _)=_;rw[hc];rfl
  ·rw[Ai,h];rfl
  ·rw[Oz,j];rfl
theorem bAw {e:Int}{d:List Int}(hd:d.length<=200):∀(l:List Int) (i:Nat),(∀p∈l,bG p=true)->1<=e+(i:Int)->e+(i:Int)+(l.length:Int)<=2147483646->
  (gH e d i l).2=true/\(gH e d i l).1.length=l.length/\(gH e d i l).1.map (·.To)=l/\∀k (h:k<(gH e d i l).1.length) (h2:k<l.length),(gH e d i l).1[k]=nT l[k] (e+((i+k:Nat):Int)) d
 |[],i,_,_,_=>⟨rfl,rfl,rfl,λk h _=>by simp[gH] at h⟩
 |p::l,i,hp,h1,h2=>by
  simp only[au] at h2;obtain⟨j,n,o,s⟩:=bAw (e:=e) hd l (i+1) (λq hq=>hp q (by simp[hq])) (by push_cast;omega) (by push_cast at h2 ⊢;omega);have hk:=hp p (by simp);have hq:=aS7 hk;have u:IntKind.i64.wrap (e+(i:Int))=e+(i:Int):=aI (by omega) (by push_cast at h2;omega);have a:gY p≠0:=by unfold gY;rw[hk,av,aa];omega
  have hb:gQ p (IntKind.i64.wrap (e+(i:Int))) d=(nT p (e+(i:Int)) d,true):=by unfold gQ;rw[u,bn.2 a,show bG (e+(i:Int))=true from jA (by omega) (by push_cast at h2;omega),ao (show ¬(d.length:Int)>200 by omega)];rfl
  have x:gH e d i (p::l)=(nT p (e+(i:Int)) d::(gH e d (i+1) l).1,true):=by rw[gH,hb,j];rfl
  rw[x];refine⟨rfl,by simp[n],?_,λk c f=> ?_⟩
  ·simp only[bm,o];rfl
  ·cases k with
   |zero=>rfl
   |succ k=>simp only[au] at c f;have:=s k (by omega) (by omega);simp only[fa];rw[this];congr 1;push_cast;omega
def bRc {l:List AN}{p:Int}:∀(n:Int),0<=n->n+(l.length:Int)<=1000000->l.foldl (λn b=>bif b.To==p then IntKind.i64.wrap (n+1) else n) n=n+((l.filter λb=>b.To==p).length:Int):=by induction l<;>grind[List.length_cons,aI]
def bNk {l:List AN}(h:(l.map (·.To)).Nodup){p:Int}(hp:p∈l.map (·.To)):(l.filter λb=>b.To==p).length=1:=by induction l<;>grind[List.nodup_cons,List.filter_eq_nil_iff,absurd,beq_eq_false_iff_ne]
def bNl {log:List AD}{bx:AM}(h1:bx.Epoch=aF log)(h2:bx.Boxes.map (·.To)=aC log)(a:(aC log).Nodup)(c:(aC log).length<=1000):iY bx log=true:=by
 have hl:bx.Boxes.length=(aC log).length:=by rw[<-h2,bj]
 unfold iY;rw[h1,hl,eJ,eJ,dy,cq,cE];intro p hp;unfold nH;rw[bRc 0 (by omega) (by omega),bNk (by rw[h2];exact a) (by rw[h2];exact hp)];rfl
theorem bV4 (a b:Int):(jL [a,b]).length<=12:=by
 grind[List.flatten_cons,List.flatten_nil,List.length_append,jL,aD7]
def aJs {log:List AD}{key eph:Int}(h1:aT log=true)(h2:bG key=true)(a:∀p∈aC log,bG p=true)(c:(aC log).length<=1000)(d:1<=eph/\eph<=1000000):
  (bF log key eph).2=true/\(bF log key eph).1.Epoch=aF log/\(bF log key eph).1.Boxes.map (·.To)=aC log/\∀k (h:k<(bF log key eph).1.Boxes.length) (h2:k<(aC log).length),(bF log key eph).1.Boxes[k]=nT (aC log)[k] (eph+(k:Int)) (jL [aF log,key]):=by
 grind[s4,s3,bF,aF,gH,jL,aC,s1,s2,bAw,bV4]
theorem aEk (seed:Int)(k:Nat):bG (mY seed k)=true:=by simp[bKz,Z8,mY,aS]
def bFq {seed:Int}{n:Nat}(hn:n<=6):((List.range n).map (mY seed)).Nodup:=by
 rw[jv,jb];refine(List.pairwise_lt_range).imp_of_mem ?_
 grind[aRb]
theorem Z9 {seed:Int}{n:Nat}(h0:1<=n)(hn:n<=6):iY (iZ seed n) (aV seed n)=true/\aT (aV seed n)=true/\(iZ seed n).Epoch=0:=by
 obtain⟨h1,h2,f,c,d⟩:=sN seed n hn;have hl:aT (aV seed n)=true:=d.resolve_left (by omega);have hlen:(aC (aV seed n)).length<=1000:=by grind
 obtain⟨h,a,e,j⟩:=aJs (key:=bR seed 0) (eph:=1000) hl (by unfold bR;exact iF _ _) (λp hp=>by
  rw[h2] at hp;obtain⟨i,_,rfl⟩:=cn.1 hp;exact aEk _ _) hlen ⟨by decide,by decide⟩
 refine⟨bNl a e (by rw[h2];exact bFq hn) hlen,hl,?_⟩;unfold iZ;rw[a,c]
def bFr {seed:Int}{n:Nat}(h0:1<=n)(hn:n<=6):(jU seed n).Log=aV seed n:=by
 grind[fT,vX,jU,Z9]
theorem aNy (d:AF)(l:List AD)(k:Int):(lD d l k).1.Store=d.Store:=by unfold lD;cases !aT l||(!cZ l d.Log||(decide (aF l<d.Epoch)|| !bG k))<;>rfl
theorem aXh (d:AF)(l:List AD)(b:AM)(s:AJ):(bT d l b s).1.Store=d.Store:=by unfold bT;cases kH d l b s==0<;>rfl
theorem aTb (nm:ByteArray):∀(i:Nat) (d:AF),(Js nm i d).Store=d.Store
 |0,d=>rfl
 |i+1,d=>by
  show(dI (Js nm i d) nm (i:Int) false).1.Store=_;rw[Oy,aTb nm i d]
def bNm {seed:Int}{n:Nat}(h0:1<=n):(kL seed n).length=n/\∀k (h:k<(kL seed n).length),(kL seed n)[k].Store=aO seed (k:Int):=by
 have hl:(kL seed n).length=n:=by
  grind[List.length_cons,List.length_map,List.length_drop,List.length_range,kL,dL]
 grind[nwW,aNx,mF,yG,aTb,aNy,dL,Bj,kL,aXh,bE]
def aNz {n k t pin seed:Int}(h:Jt n k t pin seed=true):WIn n.toNat (bL n k t pin seed)/\(bL n k t pin seed).Devices.length=n.toNat/\(bL n k t pin seed).Seed=seed:=by
 have hb:=h;unfold Jt at hb;simp only[ac] at hb;obtain⟨b1,f,i,l,d⟩:=hb;have r:=gU b1;unfold bL;rw[h,ae];obtain⟨d1,d2⟩:=bNm (seed:=seed) (n:=n.toNat) (by omega);have a:=bFr (seed:=seed) (n:=n.toNat) (by omega) (by omega);have e:=(Z9 (seed:=seed) (n:=n.toNat) (by omega) (by omega)).2.1;refine⟨{seed:=d,now:=⟨cL 0,show(0:Int)<=999900 by decide⟩,dlen:= ?_,slen:= ?_,dev:= ?_,two:=rfl,mle:=by omega,site:= ?_,mail:=rfl,log:= ?_},d1,rfl⟩
 ·grind
 ·show(List.replicate n.toNat false).length=(kL seed n.toNat).length;rw[fk,d1]
 ·intro j c;show StIn seed j ((kL seed n.toNat)[j]'c).Store;rw[d2 j c];exact⟨rfl,rfl,rfl,cL 0,show(0:Int)<=1000000 by decide⟩
 all_goals grind[aT,jU,xI,dL,bFl]
theorem SiteIn.cut {seed j:Int}{n:Nat}{s:AB}(h:SiteIn seed j n s)(t:Int):SiteIn seed j n (gL t s):=by
 have a:=h.find;obtain⟨l,e,hl,hn⟩:=h.acc;have c:fQ s 0=⟨1,3,l⟩:=by grind[fQ]
 unfold gL;rw[a,show decide ((0:Int)>=0)=true from rfl,ae,c,show(0:Int).toNat=0 from rfl,e];have key:∃l',(nU ⟨1,3,l⟩ t).1=⟨1,3,l'⟩/\Ox seed j l'/\l'.length=l.length:=by
  unfold nU;cases hb: !bA ⟨1,3,l⟩||(decide (aU ⟨1,3,l⟩ t<0)||(gT ⟨1,3,l⟩ (aU ⟨1,3,l⟩ t)).Cut) with
  |true=>simp[*]
  |false=>
   simp only[bc] at hb;obtain⟨k,hk,d,o⟩:=xJ (l:=l) hb.2.1;have f:aU ⟨1,3,l⟩ t=(k:Int):=d.trans (by simp);have i:gT ⟨1,3,l⟩ (k:Int)=l[k]:=by grind[List.getD,List.getElem?_eq_getElem,gT]
   rw[f,i,aa,bo];exact⟨_,rfl,hl.set hk rfl rfl (hl k hk).2.2,ax⟩
 obtain⟨l',q1,q2,q3⟩:=key;rw[q1];have:=h.aBV q2 (q3.trans hn) s.Logins s.Book (Zw h.book) rfl;exact this
def bRd {α β:Type}{P:Nat->β->Prop}{f:α->β}{l:List α}(h:∀j (a:j<l.length),P j (f l[j])):∀j (a:j<(l.map f).length),P j (l.map f)[j]:=(by simp[*])
theorem WIn.cut {m:Nat}{w:AA}(h:WIn m w)(b t:Int):WIn m (eX w b t).1/\(eX w b t).1.Seed=w.Seed/\(eX w b t).1.Devices.length=w.Devices.length:=by
 unfold eX;cases hq:(aR w b 0).2==0&&(!bX w b&&(!(b==t)&&bN w t)) with
 |false=>simp[*]
 |true=>
  simp only[ac] at hq;have h0:=(tZ hq.1).1;simp only[ae];unfold oM;cases(mJ w b t).2&&((Oo w b t).2&&(Jq w b t).2) with
  |false=>simp[*]
  |true=>
   obtain⟨s1,s2,s3,s4,s5,s6⟩:=jC w b 0;have e:WIn m (jQ w b):=h.sync b 0;have h1:WIn m (mJ w b t).1:=e.aCZ _ _ _ _;obtain⟨f,o,i,p,q,u,x⟩:=wC (jQ w b) b 2 (aS (aL w t).Store) (mD (aL (jQ w b) b).Store);have d:(mJ w b t).1.Devices=(jQ w b).Devices:=i;have hd:aN (mJ w b t).1 b=true:=Z7 h0.2 (by rw[d];exact s3);obtain⟨d0,d1,_⟩:=yI hd;have a:StIn (mJ w b t).1.Seed b.toNat (mX (Oo w b t).1 t true).Store:=by
    rw[aTa];unfold Oo;rw[aNy];have:=h1.aBX hd
    grind[aL,mJ,jQ]
   have k:WIn m (Y7 w b t):=by refine h1.upd rfl rfl (ax ..) rfl (h1.aBO d1 a) (by show((mJ w b t).1.Sites.map (gL t)).length=2;rw[bj];exact h1.two) (bRd (P:=λj s=>SiteIn (mJ w b t).1.Seed ((j:Nat):Int) m s) λj l=>(h1.site j l).cut t) h1.mail h1.log
   have c:aN (Y7 w b t) b=true:=Z7 hd (ax ..);have n:WIn m (Jq w b t).1:=k.up c;obtain⟨u1,u2,u3,u4,u5,u6⟩:=bCq (Y7 w b t) b;refine⟨n.tell 4,?_,?_⟩
   ·show(Jq w b t).1.Seed=w.Seed;exact u1.trans (f.trans s1)
   ·show(Jq w b t).1.Devices.length=w.Devices.length;refine u3.trans ?_;show((mJ w b t).1.Devices.set _ _).length=_;rw[ax,d];exact s3
def WIn.aCB {m:Nat}{w:AA}(h:WIn m w)(d:Int):WIn m (nJ w d).1/\(nJ w d).1.Seed=w.Seed/\(nJ w d).1.Devices.length=w.Devices.length:=by
 unfold nJ;cases dK w d 0&& !bX w d with
 |false=>simp[*]
 |true=>exact⟨h.upd rfl rfl rfl (ax ..) h.dev h.two h.site h.mail h.log,rfl,rfl⟩
def bNn {b:AP}(h:BookIn b)(now:Int):BookIn (nK b now)/\(nK b now).Seed=b.Seed:=by unfold nK;rw[h.ok];have hs:(b.Open.filter λc=>decide (c.Until>=now)).Sublist b.Open:=List.filter_sublist;exact⟨⟨h.next,bw hs.length_le h.len,h.ord.sublist hs,λc hc=>h.all c (hs.subset hc)⟩,rfl⟩
def WIn.tick {m:Nat}{w:AA}(h:WIn m w):WIn m (sM w).1/\(sM w).1.Seed=w.Seed/\(sM w).1.Devices.length=w.Devices.length:=by
 unfold sM;cases a:aP (rC w) with
 |false=>simp[*]
 |true=>
  refine⟨?_,rfl,rfl⟩;have hn:0<=(rC w).Now/\(rC w).Now<=999900:=by unfold aP at a;simp only[ac] at a;have:=gU a.1.1.1.1.1.1.1;assumption
  exact {
   seed:=h.seed
   now:=hn
   dlen:=h.dlen
   slen:=h.slen
   dev:=h.dev
   two:=by show(w.Sites.map _).length=2;rw[bj];exact h.two
   mle:=h.mle
   site:=bRd (P:=λj s=>SiteIn w.Seed ((j:Nat):Int) m s) λj c=>by
    have hs:=h.site j c;have he:=bNn (Zw hs.book) (rC w).Now;exact hs.aBJ he.1 he.2
   mail:=h.mail
   log:=h.log}
def WIn.aCR {m:Nat}{w:AA}(h:WIn m w)(a:List Int)(pin:Int):WIn m (fE w a pin).1/\(fE w a pin).1.Seed=w.Seed/\(fE w a pin).1.Devices.length=w.Devices.length:=by
 unfold fE;cases !aP w with
 |true=>simp[*]
 |false=>have h1:WIn m {w with Hosts:=(yT w.aAL w.Hosts a pin (bFg w)).1}:=h.upd rfl rfl rfl rfl h.dev h.two h.site h.mail h.log;exact⟨h1.tell 5,rfl,rfl⟩
def WIn.aCO {m:Nat}{w:AA}(h:WIn m w)(pin:Int):WIn m (Ah w pin).1/\(Ah w pin).1.Seed=w.Seed/\(Ah w pin).1.Devices.length=w.Devices.length:=h.aCR _ _
def WIn.renew {m:Nat}{w:AA}(h:WIn m w):WIn m (dX w).1/\(dX w).1.Seed=w.Seed/\(dX w).1.Devices.length=w.Devices.length:=by
 unfold dX;cases aP w&&(fC w.Hosts (O8 w)).2 with
 |false=>simp[*]
 |true=>exact⟨h.upd rfl rfl rfl rfl h.dev h.two h.site h.mail h.log,rfl,rfl⟩
def WIn.roll {m:Nat}{w:AA}(h:WIn m w)(i b:Int):WIn m (fO w i b).1/\(fO w i b).1.Seed=w.Seed/\(fO w i b).1.Devices.length=w.Devices.length:=by
 unfold fO;cases !aP w||(decide (i<0)||decide (i>=(w.Hosts.length:Int))) with
 |true=>simp[*]
 |false=>
  simp only[aa];cases(gJ (w.Hosts.getD i.toNat default) b).2 with
  |false=>simp[*]
  |true=>exact⟨h.upd rfl rfl rfl rfl h.dev h.two h.site h.mail h.log,rfl,rfl⟩
def aTc (w:AA)(d j:Int)(o:AQ):(iA w d j o).1.Seed=w.Seed/\(iA w d j o).1.Devices.length=w.Devices.length:=by
 unfold iA;cases !dK w d j with
 |true=>simp
 |false=>
  cases !(aAY w j).2.2.2 with
  |true=>simp
  |false=>
   cases !((uS w d j o).2.1==0) with
   |true=>exact⟨rfl,ax ..⟩
   |false=>exact⟨rfl,ax ..⟩
def aJt (w:AA)(d:Int)(n:ByteArray)(a:Int)(r:Bool):(sI w d n a r).1.Seed=w.Seed/\(sI w d n a r).1.Devices.length=w.Devices.length:=by
 grind[aP,aN,dI,aL,List.length_set,sI]
def Uv {α:Type}[Inhabited α]{f:α->Nat}{K:Nat}{x:α}:∀{l:List α} {i:Nat},i<l.length->f x<=f (l.getD i default)+K->((l.set i x).map f).sum<=(l.map f).sum+K
 |y::l,0,_,h=>by
  simp only[List.getD,fY,ci] at h;simp only[ir,bm,cV];omega
 |y::l,i+1,hi,h=>by
  have:=Uv (f:=f) (l:=l) (i:=i) (x:=x) (K:=K) (by simpa using hi) (by simpa[List.getD] using h);simp only[fW,bm,cV];omega
def Jw {w:AA}{d:Int}(hd:aN w d=true){x:AF}{K:Nat}(a:x.sz<=(aL w d).sz+K):({w with Devices:=w.Devices.set d.toNat x}:AA).sz<=w.sz+K:=by
 obtain⟨h0,h1,h2⟩:=yI hd;have:=Uv (f:=AF.sz) (K:=K) h1 (by assumption)
 grind[AA.sz,List.length_set]
def bIb {w:AA}{j:Nat}(a:j<w.Sites.length){x:AB}{K:Nat}(c:x.sz<=(w.Sites.getD j default).sz+K):({w with Sites:=w.Sites.set j x}:AA).sz<=w.sz+K:=by
 have:=Uv (f:=AB.sz) (K:=K) a c
 grind[AA.sz,List.length_set]
def WIn.aCP {m:Nat}{w:AA}(h:WIn m w):w.aAD.Log.length<=40:=by have:=h.log;unfold aT at this;rw[ac] at this;have:=gU this.1;omega
def bFs {m:Nat}{w:AA}(h:WIn m w)(d b:Int):(aR w d b).1.sz<=w.sz+60:=by
 have hl:=h.aCP;unfold aR;cases hb:aP w&&aN w d with
 |false=>simp
 |true=>rw[ac] at hb;simp only[ae];have:=aSx (aL w d) w.aAD.Log w.aAD.Boxes (fP w.aAD b).1;exact Jw hb.2 (by omega)
def bRe (w:AA)(d:Int)(n:ByteArray)(a:Int)(r:Bool):(sI w d n a r).1.sz<=w.sz+1:=by
 unfold sI;cases hb:aP w&&aN w d with
 |false=>simp
 |true=>
  rw[ac] at hb;simp only[ae];cases(dI (aL w d) n a r).2 with
  |false=>simp
  |true=>simp_all[Jw,Jo]
def bRf {m:Nat}{w:AA}(h:WIn m w)(d:Int):(jS w d).1.sz<=w.sz+561:=by
 have hl:=h.aCP
 grind[jS,aQ4,aR,upF]
def add_add {w:AA}(h:WIn w.Devices.length w)(b:Int):(fG w b).1.sz<=w.sz+2500:=by
 have hl:=h.aCP;unfold fG;cases a:Bi w b with
 |false=>simp
 |true=>
  unfold Bi at a;simp only[ac,bu,cr] at a;obtain⟨⟨k1,k2,k3,k4⟩,k5,k6,k7,k8,k9⟩:=a;obtain⟨s1,s2,s3,s4,s5,s6⟩:=jC w b 0;have a0:=bFs h b 0;have h0:=h.sync b 0;have h1:WIn w.Devices.length (add1 w b).1:=h0.aCZ _ _ _ _;obtain⟨c,e,i,o⟩:=aEc (aR w b 0).1 b 1 (aS (aO w.Seed (w.Devices.length:Int))) (λ_=>(aL (aR w b 0).1 b).Key);rw[s6] at c e;have c:(add1 w b).1.sz<=(aR w b 0).1.sz+14*(w.aAD.Log.length+1):=c;have e:(add1 w b).1.aAD.Log.length<=w.aAD.Log.length+1:=e;have hd:aN (add1 w b).1 b=true:=Z7 k2 (by show(jW _ _ _ _ _).1.Devices.length=_;rw[i,s3]);obtain⟨p,s⟩:=aJf (st:=aO w.Seed (w.Devices.length:Int)) (n:=(w.Devices.length:Int)) (j:=0) (l:=(add1 w b).1.Sites);have u:=h1.two;have k:(aAU w b).sz<=(add1 w b).1.sz+4:=by
   have q:=Jw (w:=(add1 w b).1) hd (x:=mX (aL (add1 w b).1 b) (w.Devices.length:Int) false) (K:=2) (aQ5 _ _ _)
   grind[AA.sz,aAU,Y6]
  have f:=(aQ4 (w:=aAU w b) (d:=b) k8).2;have f:(qY w b).1.sz<=(aAU w b).sz+(aAU w b).aAD.Log.length+521:=f;have pl:=(aQ4 (w:=aAU w b) (d:=b) k8).1;have pl:(qY w b).1.aAD.Log=(aAU w b).aAD.Log:=pl;have y:(aAU w b).aAD.Log.length=(add1 w b).1.aAD.Log.length:=rfl;have ap:=bKm (qY w b).1 (bE (aO w.Seed (w.Devices.length:Int)));have nd:(bE (aO w.Seed (w.Devices.length:Int))).sz=0:=rfl;have z:=(tZ (w:=appW (qY w b).1 (bE (aO w.Seed (w.Devices.length:Int)))) k9).2.2.2
  grind[aQ6,Ef,appW,qY,bE,aO]
def bUl {m:Nat}{w:AA}(h:WIn m w)(b t:Int):(eX w b t).1.sz<=w.sz+2500:=by
 have hl:=h.aCP;unfold eX;cases hq:(aR w b 0).2==0&&(!bX w b&&(!(b==t)&&bN w t)) with
 |false=>simp
 |true=>
  simp only[ac] at hq;obtain⟨q1,q2,q3,q4⟩:=tZ hq.1;simp only[ae];unfold oM;cases(mJ w b t).2&&((Oo w b t).2&&(Jq w b t).2) with
  |false=>simp
  |true=>
   obtain⟨c,e,a,i⟩:=aEc (jQ w b) b 2 (aS (aL w t).Store) (mD (aL (jQ w b) b).Store);have e0:(jQ w b).aAD.Log=w.aAD.Log:=by show(aR w b 0).1.aAD.Log=_;rw[q2]
   rw[e0] at c e;have c:(mJ w b t).1.sz<=(jQ w b).sz+14*(w.aAD.Log.length+1):=c;have a:(mJ w b t).1.Devices=(jQ w b).Devices:=a;have q4:(jQ w b).sz<=w.sz+w.aAD.Log.length+20:=q4;have hd:aN (mJ w b t).1 b=true:=Z7 q1.2 (by rw[a];exact q3);have j:(aJi w b t).length<=w.aAD.Log.length+1:=by
    grind[vZ,jQ,aS,aL,aJi]
   have d:aL (mJ w b t).1 b=aL (jQ w b) b:=by unfold aL;rw[a]
   have f:(mX (Oo w b t).1 t true).sz<=(aL (mJ w b t).1 b).sz+(w.aAD.Log.length+3):=by
    grind[Oo,aL,jQ,aJi,aSy,mD,aQ5]
   have k:(Y7 w b t).sz<=(mJ w b t).1.sz+(w.aAD.Log.length+3):=by
    have q:=Jw (w:=(mJ w b t).1) hd f
    grind[AA.sz,List.length_map,Y7,bFd,mJ]
   grind[aQ6,Jq,Y7,bVy,aN,Z7,List.length_set]
structure Kept (w v:AA):Prop where
 wi:WIn v.Devices.length v
 seed:v.Seed=w.Seed
 sz:v.sz<=w.sz+3000
def Kept.of {w v:AA}(h:WIn w.Devices.length v/\v.Seed=w.Seed/\v.Devices.length=w.Devices.length)(a:v.sz<=w.sz+3000):Kept w v:=⟨by rw[h.2.2];exact h.1,h.2.1,a⟩
def bNo (s:AB)(c t:Int)(x:AY)(h:aD s 1=0)(h0:0<s.Accounts.length):(lT s 1 c t x).1.sz<=s.sz+1:=by
 have hb:(pQ s.Book c 1 t).1.Open.length<=s.Book.Open.length:=by
  unfold pQ;cases !eU s.Book||decide (dS s.Book c<0) with
  |true=>exact aj _
  |false=>simp only[aa,ay,cg,ct];omega
 have d:∀a x z q,(iP a x z q).1.sz=a.sz:=λa x z q=>by
  unfold iP;cases !bA a||(decide (aU a x.Handle<0)||(gT a (aU a x.Handle)).Cut) with
  |true=>rfl
  |false=>simp only[aa,AI.sz];cases iI (gT a (aU a x.Handle)).Public x z q (gT a (aU a x.Handle)).Counter==0<;>cases iI (gT a (aU a x.Handle)).Public x z q (gT a (aU a x.Handle)).Counter==4<;>simp
 have hs:=Uv (f:=AI.sz) (K:=0) (l:=s.Accounts) (i:=0) (x:=(iP (fQ s 0) x s.Name (eY s.Book c)).1) h0 (by rw[d];exact aj _);unfold lT;rw[h];cases !bW s||decide ((0:Int)<0) with
 |true=>exact ee _
 |false=>
  simp only[aa];cases !(pQ s.Book c 1 t).2 with
  |true=>simp only[ae,AB.sz];omega
  |false=>
   simp only[aa];cases !qH (fQ s 0) 3 with
   |true=>simp only[ae,AB.sz];omega
   |false=>
    simp only[aa];cases !((iP (fQ s 0) x s.Name (eY s.Book c)).2==0) with
    |true=>simp only[ae,AB.sz,show(0:Int).toNat=0 from rfl,ax];omega
    |false=>simp only[aa,AB.sz,show(0:Int).toNat=0 from rfl,ax,ay,au,bp];omega
def bNp (s:AB)(i n:Int):(mK s i n).1.sz<=s.sz+1:=by
 unfold mK;cases bW s&&(!decide (aD s i<0)&&(fI s.Book i n).2.2) with
 |false=>exact ee _
 |true=>
  have hb:(fI s.Book i n).1.Open.length<=s.Book.Open.length+1:=by
   unfold fI;cases eU s.Book&&(!(s.Book.Next==1000000)&&(bK i 0 1000000&&bK n 0 1000000)) with
   |false=>simp only[aa];omega
   |true=>
    simp only[ae];cases decide ((s.Book.Open.length:Int)>=16) with
    |true=>simp only[ae,ay,ct,au,bp];omega
    |false=>simp only[aa,ay,au,bp];omega
  simp only[ae,AB.sz];omega
def bNq {m:Nat}{w:AA}(h:WIn m w)(d j:Int)(o:AQ):(iA w d j o).1.sz<=w.sz+3:=by
 unfold iA;cases ht:dK w d j with
 |false=>simp only[dc,ae];omega
 |true=>
  have a:=ht;simp only[dK,ac] at a;have h2:=h.two;have hq:=a.2.2;simp only[gP,ac,ca] at hq;have c:j.toNat<w.Sites.length:=by omega
  have es:eT w j=w.Sites[j.toNat]:=by unfold eT;simp[List.getD,ab c]
  have hs:=h.site _ c;rw[<-es,show((j.toNat:Nat):Int)=j by omega] at hs;have hb:SiteIn w.Seed j m (aAY w j).1:=hs.begin 1 w.Now;have f:(aAY w j).1.sz<=(eT w j).sz+1:=bNp _ _ _;obtain⟨l,e,_⟩:=hb.acc;have i:(uS w d j o).1.sz<=(aAY w j).1.sz+1:=bNo _ _ _ _ hb.find (by rw[e];simp);have k:(aOn w d j o).sz<=w.sz+2:=by have q1:=Jw (w:=w) a.2.1 (x:={aL w d with Store:=(Jr w d j o).1}) (K:=0) (aj _);have q2:=bIb (w:=w) c (x:=(uS w d j o).1) (K:=2) (by show _<=(eT w j).sz+2;omega);unfold aOn;simp only[AA.sz] at q1 q2 ⊢;omega
  simp only[av,aa];cases !(aAY w j).2.2.2 with
  |true=>simp only[ae];omega
  |false=>
   simp only[aa];cases !((uS w d j o).2.1==0) with
   |true=>simp only[ae];omega
   |false=>have:=aQ6 (aOn w d j o) 1;simp only[aa];omega
def bIc {w:AA}(h:WIn w.Devices.length w)(d j:Int)(o:AQ):Kept w (iA w d j o).1:=by obtain⟨k1,k2⟩:=aTc w d j o;have:=bNq h d j o;exact .of ⟨h.visit d j o,k1,k2⟩ (by omega)
def Kept.refl {w:AA}(h:WIn w.Devices.length w):Kept w w:=⟨h,rfl,cQ _ _⟩
def bRg {w:AA}(h:WIn w.Devices.length w)(b:Bool)(d j:Int)(o:AQ):Kept w (bif b then oN w d j o else(w,1)).1:=by
 cases b with
 |true=>exact bIc h d j o
 |false=>exact .refl h
def bRh (w:AA)(i b:Int):(fO w i b).1.sz<=w.sz:=by
 unfold fO;cases hc: !aP w||(decide (i<0)||decide (i>=(w.Hosts.length:Int))) with
 |true=>exact aj _
 |false=>
  have hi:=Uj (bc.1 hc).2;simp only[aa];cases(gJ (w.Hosts.getD i.toNat default) b).2 with
  |false=>exact aj _
  |true=>have:=Uv (f:=AG.sz) (K:=0) (l:=w.Hosts) (i:=i.toNat) (x:=(gJ (w.Hosts.getD i.toNat default) b).1) (by omega) (by rw[bEw];exact aj _);simp only[ae,AA.sz,ax];omega
def bUm (w:AA):(sM w).1.sz<=w.sz:=by
 unfold sM;cases aP (rC w) with
 |false=>exact aj _
 |true=>
  have he:∀b n,(nK b n).Open.length<=b.Open.length:=λb n=>by
   unfold nK;cases eU b with
   |false=>exact aj _
   |true=>exact gi _ _
  have hs:∀(l:List AB) n,((l.map λs=>({s with Book:=nK s.Book n}:AB)).map AB.sz).sum<=(l.map AB.sz).sum:=λl n=>by
   induction l with
   |nil=>exact aj _
   |cons s l a=>have:=he s.Book n;simp only[bm,cV,AB.sz] at a ⊢;omega
  have:=hs w.Sites (rC w).Now;simp only[ae,AA.sz,rC,bj] at this ⊢;omega
def aJu {b:List Int}{p:Nat}{h:Int}{t:List Int}(e:b.drop p=h::t):p<b.length/\b.getD p 0=h/\b.drop (p+1)=t:=by
 grind[List.getD,List.getElem?_eq_getElem,List.drop_eq_getElem_cons,List.length,List.length_drop,List.length_cons]
def split_mul (r P:Int):r*P=r/128*(P*128)+r%128*P:=by
 have h:128*(r/128)+r%128=r:=Int.mul_ediv_add_emod r 128
 conv=>lhs;rw[<-h]
 rw[Int.add_mul,je 128,Int.mul_assoc,je 128 P]
def bK1 {b y:List Int}{p:Nat}:∀(k i:Nat) (n r:Int),b.drop (p+i)=uvE k r++y->0<=r->r<128^(k+1)->(0<i->r≠0)->0<=n->n+r*128^i<=1000000000000->
  uvG b p (k+1) i n=(n+r*128^i,((p+i+(uvE k r).length:Nat):Int),true)
 |0,i,n,r,hd,h0,h1,hi,hn,hm=>by
  obtain⟨d1,d2,d3⟩:=aJu (show b.drop (p+i)=r::y from hd);have hr:r<128:=by simpa using h1
  unfold uvG;rw[cI d1,d2,aq hr,ae,show r%128=r by omega,ao (show ¬n+r*128^i>1000000000000 by omega),iq];have:(decide (0<i)&&r==0)=false:=by
   by_cases c:0<i
   ·rw[bn.2 (hi c),cP]
   ·rw[ao c,fp]
  rw[this];rfl
 |k+1,i,n,r,hd,h0,h1,hi,hn,hm=>by
  have hp:(0:Int)<=128^i:=Int.pow_nonneg (by decide);have hs:=split_mul r (128^i);have a:(128:Int)^(i+1)=128^i*128:=fe ..;unfold uvE at hd ⊢;by_cases hb:r>127
  ·rw[aq hb,ae] at hd ⊢;obtain⟨d1,d2,d3⟩:=aJu (show b.drop (p+i)=(r%128+128)::(uvE k (r/128)++y) from hd);have hq:(r/128)<128^(k+1):=by have:(128:Int)^(k+1+1)=128^(k+1)*128:=fe ..;omega
   have e:0<=r%128*128^i:=jz (by omega) hp;have d:=bK1 k (i+1) (n+r%128*128^i) (r/128) (by rw[show p+(i+1)=p+i+1 by omega];exact d3) (by omega) hq (λ_=>by omega) (by omega) (by rw[a];omega);rw[uvG,cI d1,d2,ao (show ¬r%128+128<128 by omega),aa,show(r%128+128)%128=r%128 by omega,d,a];simp only[au,cU,and_true];constructor
   ·omega
   ·congr 1;omega
  ·rw[ao hb,aa] at hd ⊢;obtain⟨d1,d2,d3⟩:=aJu (show b.drop (p+i)=r::y from hd);unfold uvG;rw[cI d1,d2,aq (show r<128 by omega),ae,show r%128=r by omega,ao (show ¬n+r*128^i>1000000000000 by omega),iq];have:(decide (0<i)&&r==0)=false:=by
    by_cases c:0<i
    ·rw[bn.2 (hi c),cP]
    ·rw[ao c,fp]
   rw[this];rfl
def bK2 {x y:List Int}{n:Int}(h:0<=n/\n<=1000000000000):Ab (x++(enc1 n++y)) (x.length:Int)=(n,((x.length+(enc1 n).length:Nat):Int),true):=by
 have e:=aQ2 h;unfold Ab;rw[dg (by omega),bo,e];have hp:(128:Int)^(5+1)=4398046511104:=by decide
 have:=bK1 (b:=x++(uvE 5 n++y)) (y:=y) (p:=x.length) 5 0 0 n (by simp) h.1 (by omega) (λh=>by omega) (by decide) (by simp;omega);simp[*]
def aTd:∀(t x y s:List Int),aXd t->lL (x++(jL t++y)) t.length (x.length:Int) s=(s++t,((x.length+(jL t).length:Nat):Int),true)
 |[],x,y,s,_=>by simp[lL,jL]
 |n::t,x,y,s,h=>by
  have hn:=h n (by simp);have c:=bK2 (x:=x) (y:=jL t++y) hn;rw[vV,cm];show lL _ (t.length+1) _ _=_;rw[lL,c];simp only[ae];have a:=aTd t (x++enc1 n) y (s++[n]) (λv hv=>h v (by simp[hv]));rw[ay,cm] at a;rw[a];simp[gv]
def aTe:∀l:List AH,nR (kU l)=l/\nG (kU l)=true
 |[]=>⟨rfl,rfl⟩
 |e::l=>by
  obtain⟨h1,h2⟩:=aTe l;have a:kU (e::l)=aXe e++kU l:=by simp[kU]
  rw[a];obtain⟨s,h,v,d⟩:=e;cases d with
  |true=>exact⟨by show(⟨s,h,v,(1:Int)==1⟩:AH)::nR (kU l)=_;rw[h1];rfl,by show(decide ((1:Int)<=1)&&nG (kU l))=true;rw[h2];rfl⟩
  |false=>exact⟨by show(⟨s,h,v,(0:Int)==1⟩:AH)::nR (kU l)=_;rw[h1];rfl,by show(decide ((0:Int)<=1)&&nG (kU l))=true;rw[h2];rfl⟩
def bNr {b:AC}(h:aM b=true):∀e∈b.Entries,(0<=e.Site/\e.Site<=2147483646)/\(0<=e.Handle/\e.Handle<=1000000)/\(1<=e.Version/\e.Version<=1000000):=λe he=>by
 unfold aM at h;rw[ac,bu] at h;obtain⟨i,hi,rfl⟩:=da.1 he;have:=Z6 h.2 i hi;unfold Uh at this;simp only[bc,cH] at this;have h1:=gU this.1;have h2:=gU this.2.1;have a:=gU this.2.2.1;omega
def bUn {b:AC}(h:aM b=true):aXd (sJ b):=λv hv=>by
 have hl:=pM h;unfold sJ at hv;rcases bv.1 hv with hv|hv
 ·grind
 ·unfold kU at hv;obtain⟨e,he,hv⟩:=List.mem_flatMap.1 hv;obtain⟨h1,h2,a⟩:=bNr h e he
  grind[aXe]
def bNs {b:AC}(h:aM b=true):Ew (oL b)=(b,true):=by
 have hl:=pM h;have hv:=bUn h;have he:oL b=enc1 (b.Entries.length:Int)++jL (kU b.Entries):=by unfold oL sJ;rw[h,ae];rfl
 have c:Ab (oL b) 0=((b.Entries.length:Int),(((enc1 (b.Entries.length:Int)).length:Nat):Int),true):=by have:=bK2 (x:=[]) (y:=jL (kU b.Entries)) (n:=(b.Entries.length:Int)) (by omega);simp_all
 have hd:=aTd (kU b.Entries) (enc1 (b.Entries.length:Int)) [] [] (λv d=>hv v (by grind[sJ]));rw[df,<-he,vW,bz] at hd;have a:(((enc1 (b.Entries.length:Int)).length+(jL (kU b.Entries)).length:Nat):Int)=((oL b).length:Int):=by rw[he,ay]
 obtain⟨e,f⟩:=aTe b.Entries;unfold Ew;rw[c,show(4*(b.Entries.length:Int)).toNat=4*b.Entries.length by omega,hd,ao (show ¬(b.Entries.length:Int)>20 by omega)];simp_all[bE5]
theorem bK3 {α β:Type}{y:Nat->α->β}:∀{l:List α} {i k:Nat} (h:k<l.length) (h2:k<(Ri (λi x=>[y i x]) i l).length),(Ri (λi x=>[y i x]) i l)[k]=y (i+k) l[k]
 |x::l,i,0,_,_=>rfl
 |x::l,i,k+1,h,h2=>by
  have:=bK3 (y:=y) (l:=l) (i:=i+1) (k:=k) (by simpa using h) (by rw[tN];simpa using h);rw[show i+1+k=i+(k+1) by omega] at this;exact this
theorem bFt {k:Int}{d:List Int}(h:∀z∈d,0<=z/\z<=255):Ub k (nS k d)=d:=by
 apply List.ext_getElem
 ·unfold Ub nS;rw[tN,tN]
 ·intro i h1 h2;have a:i<(nS k d).length:=by simp_all[tN,nS]
  grind[IntKind.wrap_u8,bH,aXa,bHy,List.getElem_mem,nS,bK3,Ub]
def bAx {k e v:Int}{b:AC}(hk:bG k=true)(he:0<=e/\e<=1000000)(hv:0<=v/\v<=1000000)(hb:aM b=true):iO k (gD k e v b)=(b,true):=by
 have hm:(gD k e v b).MAC=jK k (gD k e v b):=by simp[gD,jK]
 unfold iO;rw[hm,dz,hk,show(gD k e v b).Epoch=e from rfl,show(gD k e v b).Version=v from rfl,jA he.1 he.2,jA hv.1 hv.2];show Ew (Ub (mI k e v) (nS (mI k e v) (oL b)))=(b,true);rw[bFt (Ul (aEa b)),bNs hb]
def bRi {p e:Int}{d:List Int}(hp:bG p=true)(he:bG e=true)(hl:d.length<=200)(hd:∀z∈d,0<=z/\z<=255):gN p (nT (dP p) e d)=(d,true):=by
 grind[Um,bne_self_eq_false,decide_eq_false,bFt,gN,nT,dP,Uc,iL,Ur,nS]
def bId {p:Int}{b:AN}(h:b.To≠dP p):(gN p b).2=false:=by unfold gN;rw[bne,bn.2 h];cases bG p<;>rfl
def aTf {p:Int}{d:List Int}(hp:bG p=true)(hl:d.length<=200)(hd:∀z∈d,0<=z/\z<=255):∀{bs:List AN} {k:Nat} (hk:k<bs.length),(∀j (a:j<bs.length),j<k->bs[j].To≠dP p)->(∃e,bG e=true/\bs[k]=nT (dP p) e d)->iH bs p=(d,true)
 |b::bs,0,_,_,⟨e,he,hb⟩=>by
  have hb:b=nT (dP p) e d:=hb;rw[iH,hb,bRi hp he hl hd];rfl
 |b::bs,k+1,hk,hn,⟨e,he,hb⟩=>by
  have h0:b.To≠dP p:=hn 0 (by simp) (by omega);rw[iH,bId h0,aa];exact aTf hp hl hd (by simpa using hk) (λj a c=>hn (j+1) (by simpa using a) (by omega)) ⟨e,he,hb⟩
structure BoxIn (log:List AD) (bx:AM) (key:Int):Prop where
 ep:bx.Epoch=aF log
 to:bx.Boxes.map (·.To)=aC log
 nd:(aC log).Nodup
 kok:bG key=true
 box:∀k (h:k<bx.Boxes.length),∃e,bG e=true/\bx.Boxes[k]=nT bx.Boxes[k].To e (jL [aF log,key])
 eps:0<=aF log/\aF log<=40
def bYj {k:Int}(h:bG k=true):0<=k/\k<=1000000000000:=by have:=aS7 h;omega
def Pb {log:List AD}{bx:AM}{key:Int}(h:BoxIn log bx key){s:AK}(hs:aS s∈aC log):bS s bx=(key,true):=by
 obtain⟨h1,h2,f,i,l,p⟩:=h;rw[<-h2] at hs f;obtain⟨k,hk,e⟩:=da.1 hs;have a:k<bx.Boxes.length:=by simpa using hk
 have e:bx.Boxes[k].To=dP (jH s):=by rw[jn] at e;rw[e];rfl
 have hd:(jL [aF log,key]).length<=12:=bV4 _ _;have n:iH bx.Boxes (jH s)=(jL [aF log,key],true):=by
  refine aTf (Z8 s) (by omega) (Y5 _) a (λj o d he=> ?_) ?_
  ·have:=eh.1 f j k (by simpa using o) (by simpa using a) d;rw[jn,jn] at this;exact this (by rw[he,e])
  ·obtain⟨q,hq,hb⟩:=l k a;rw[e] at hb;exact⟨q,hq,hb⟩
 have c:jY (jL [aF log,key]) 0 2=([aF log,key],((jL [aF log,key]).length:Int),true):=by
  have:=aTd [aF log,key] [] [] [] (λv hv=>by
   simp only[bg,gz,or_false] at hv;rcases hv with rfl|rfl
   ·omega
   ·exact bYj i)
  simp only[bz,df,bp,ck] at this;unfold jY;rw[show bK 2 0 100=true from rfl,jA (by omega) (by omega)];exact this
 unfold bS Oj;rw[n,c];show(bif !true||(!true||(((jL [aF log,key]).length:Int) !=((jL [aF log,key]).length:Int)||(aF log !=bx.Epoch|| !bG key))) then(0,false) else(key,true))=(key,true);rw[dz,h1,dz,i];rfl
def aTg {log:List AD}{bx:AM}{key:Int}(h:BoxIn log bx key)(hl:aT log=true){d:AF}(he:cZ log d.Log=true)(hs:aS d.Store∈aC log)
  {e v:Int} {b:AC} (hv:0<=v/\v<=1000000) (hb:aM b=true) (i:e=aF log) (ho:d.Epoch<e\/(d.Epoch=e/\d.Version<=v)) (hm:(iN d.aAE b).2=true):
  bT d log bx (gD key e v b)=(⟨d.Store,log,key,e,v,(iN d.aAE b).1⟩,0):=by
 have a:=Pb h hs;have j:=h.eps;have c:iO key (gD key e v b)=(b,true):=bAx h.kok (by omega) hv hb;have f:kH d log bx (gD key e v b)=0:=by
  unfold kH;rw[hl,he,mM.2 hs,a,h.ep,c,hm,dz,show(gD key e v b).Epoch=e from rfl,show(gD key e v b).Version=v from rfl];have:(decide (e<aF log)||(decide (e<d.Epoch)||(e==d.Epoch&&decide (v<d.Version))))=false:=by
   rw[ao (show ¬e<aF log by omega),ao (show ¬e<d.Epoch by omega),cF,cF];rcases ho with ho|ho
   ·rw[bn.2 (show e≠d.Epoch by omega),fp]
   ·rw[ao (show ¬v<d.Version by omega),cP]
  rw[this];rfl
 unfold bT;rw[f,a,c];rfl
def bFu (log:List AD):cZ log []=true:=by unfold cZ;simp[gF]
def bRj (a:AD):bM4 a a=true:=by unfold bM4;simp
theorem aN0 (log r:List AD):cZ (log++r) log=true:=by
 unfold cZ;rw[aq (by simp),cq,bu];exact Ov λk hk=>by
  rw[ck,cH];have:(log++r).getD k default=log[k]:=by simp[List.getD,aw hk,ab hk]
  rw[this];exact bRj _
def bFv (log:List AD):cZ log log=true:=by simpa using aN0 log []
theorem bFw {seed:Int}{n:Nat}(h0:1<=n)(hn:n<=6):BoxIn (aV seed n) (iZ seed n) (bR seed 0):=by
 obtain⟨h1,h2,s,h,j⟩:=sN seed n hn;have hl:aT (aV seed n)=true:=j.resolve_left (by omega);have hlen:(aC (aV seed n)).length<=1000:=by rw[h2,bj,ey];omega
 have hk:bG (bR seed 0)=true:=by unfold bR;exact iF _ _
 obtain⟨u,l,f,o⟩:=aJs (key:=bR seed 0) (eph:=1000) hl hk (λp hp=>by
  rw[h2] at hp;obtain⟨i,_,rfl⟩:=cn.1 hp;exact aEk _ _) hlen ⟨by decide,by decide⟩
 have a:(aC (aV seed n)).Nodup:=by rw[h2];exact bFq hn
 refine⟨l,f,a,hk,λk c=> ?_,by rw[h];exact⟨by decide,by decide⟩⟩;have q:(iZ seed n).Boxes.length=(aC (aV seed n)).length:=by have:=congrArg List.length f;rw[bj] at this;exact this
 have d:k<(aC (aV seed n)).length:=by omega
 have hb:=o k c d;have e:(iZ seed n).Boxes[k].To=(aC (aV seed n))[k]:=by show(bF (aV seed n) (bR seed 0) 1000).1.Boxes[k].To=_;rw[hb];rfl
 refine⟨1000+(k:Int),jA (by omega) (by omega),?_⟩;rw[e];exact hb
def nwB:Nat->AC
 |1=>⟨[⟨1464438180,0,1,false⟩,⟨1941999745,0,1,false⟩]⟩
 |2=>⟨[⟨1464438180,0,1,false⟩,⟨1464438180,1,1,false⟩,⟨1941999745,0,1,false⟩,⟨1941999745,1,1,false⟩]⟩
 |3=>⟨[⟨1464438180,0,1,false⟩,⟨1464438180,1,1,false⟩,⟨1464438180,2,1,false⟩,⟨1941999745,0,1,false⟩,⟨1941999745,1,1,false⟩,⟨1941999745,2,1,false⟩]⟩
 |_=>⟨[]⟩
def Uw (seed:Int)(n k:Nat)(v:Int)(b:AC):AF:=⟨aO seed (k:Int),aV seed n,bR seed 0,0,v,b⟩
def bRk {seed:Int}{n:Nat}(h0:1<=n)(hn:n<=6)(k:Nat):yG seed n (bE (aO seed (k:Int)))=Uw seed n k 0 ⟨[]⟩:=by
 obtain⟨h1,h2,d,a,c⟩:=sN seed n hn;have hl:aT (aV seed n)=true:=c.resolve_left (by omega);have hk:bG (bR seed 0)=true:=by unfold bR;exact iF _ _
 unfold yG lD bE;rw[hl,bFu,hk,a];rfl
def bZ9 {n:Nat}(h:n=1\/n=2\/n=3)(s:AK)(l:List AD)(k e v:Int):Js (aA 1) n (Js (aA 0) n ⟨s,l,k,e,v,⟨[]⟩⟩)=⟨s,l,k,e,v,nwB n⟩:=by rcases h with rfl|rfl|rfl<;>kernel_rfl
def bIe {n:Nat}(h:n=1\/n=2\/n=3):aM (nwB n)=true/\iN ⟨[]⟩ (nwB n)=(nwB n,true)/\iN (nwB n) (nwB n)=(nwB n,true):=by rcases h with rfl|rfl|rfl<;>exact⟨by kernel_rfl,by kernel_rfl,by kernel_rfl⟩
def bNt {seed:Int}{n:Nat}(h:n=1\/n=2\/n=3):mF seed n=Uw seed n 0 0 (nwB n):=by unfold mF;rw[show(0:Int)=((0:Nat):Int) from rfl,bRk (by omega) (by omega)];exact bZ9 h _ _ _ _ _
def bRl {seed:Int}{n:Nat}(h:n=1\/n=2\/n=3):nwW seed n=(Uw seed n 0 1 (nwB n),gD (bR seed 0) 0 1 (nwB n),true):=by
 have hk:bG (bR seed 0)=true:=by unfold bR;exact iF _ _
 unfold nwW;rw[bNt h];unfold dQ qW Uw;simp only[];rw[show IntKind.i64.wrap (0+1)=1 from by decide,hk,(bIe h).1];rfl
def aTh {seed:Int}{n k:Nat}(h:n=1\/n=2\/n=3)(hk:k<n):Bj seed n (bE (aO seed (k:Int)))=Uw seed n k 1 (nwB n):=by
 obtain⟨h1,h2,f,c,e⟩:=sN seed n (by omega);obtain⟨b1,a,i⟩:=bIe h;unfold Bj;rw[bRk (by omega) (by omega),bRl h];rw[aTg (bFw (by omega) (by omega)) (e.resolve_left (by omega)) (d:=Uw seed n k 0 ⟨[]⟩) (bFv _) (by
  rw[h2];exact cn.2 ⟨k,List.mem_range.2 hk,rfl⟩) ⟨by decide,by decide⟩ b1 c.symm (.inr ⟨rfl,by show(0:Int)<=1;decide⟩) (by show(iN ⟨[]⟩ (nwB n)).2=true;rw[a])]
 show(AF.mk (aO seed (k:Int)) (aV seed n) (bR seed 0) 0 1 (iN ⟨[]⟩ (nwB n)).1)=_;rw[a];rfl
theorem aN1 {seed:Int}{n:Nat}(h:n=1\/n=2\/n=3):kL seed n=(List.range n).map λk=>Uw seed n k 1 (nwB n):=by
 unfold kL dL;rw[bRl h];rcases h with rfl|rfl|rfl
 ·rfl
 ·show[_,Bj seed 2 (bE (aO seed ((1:Nat):Int)))]=_;rw[aTh (.inr (.inl rfl)) (by decide)];rfl
 ·show[_,Bj seed 3 (bE (aO seed ((1:Nat):Int))),Bj seed 3 (bE (aO seed ((2:Nat):Int)))]=_;rw[aTh (.inr (.inr rfl)) (by decide),aTh (.inr (.inr rfl)) (by decide)];rfl
theorem bAy {seed:Int}{n:Nat}(h:n=1\/n=2\/n=3):jU seed n=⟨aV seed n,iZ seed n,[gD (bR seed 0) 0 1 (nwB n)]⟩:=by
 obtain⟨h1,h2,_⟩:=Z9 (seed:=seed) (n:=n) (by omega) (by omega);have a:=(sN seed n (by omega)).ep;have e:fT (aV seed n) (iZ seed n)=(⟨aV seed n,iZ seed n,[]⟩,true):=by unfold fT;rw[h1,h2];rfl
 unfold jU;rw[e,bRl h];show(dJ ⟨aV seed n,iZ seed n,[]⟩ (gD (bR seed 0) 0 1 (nwB n))).1=_;unfold dJ;rw[show(gD (bR seed 0) 0 1 (nwB n)).Epoch=0 from rfl,a];rfl
def aN2 (w:AA)(d j:Int)(o:AQ):(iA w d j o).1.Hosts=w.Hosts:=by
 unfold iA;cases !dK w d j with
 |true=>rfl
 |false=>
  cases !(aAY w j).2.2.2 with
  |true=>rfl
  |false=>cases !((uS w d j o).2.1==0)<;>rfl
def wD (w:AA)(d b:Int):(aR w d b).1.Hosts=w.Hosts:=by unfold aR;cases aP w&&aN w d<;>rfl
def bFx (w:AA)(d:Int):(upF w d).1.Hosts=w.Hosts:=by unfold upF;cases(dQ (aL w d)).2.2&&(dJ w.aAD (dQ (aL w d)).2.1).2<;>rfl
def aAa (w:AA)(d:Int):(jS w d).1.Hosts=w.Hosts:=by
 unfold jS;cases(aR w d 0).2==0&&(upF (aR w d 0).1 d).2 with
 |false=>rfl
 |true=>exact(bFx _ _).trans (wD _ _ _)
def aTi (w:AA)(d:Int)(n:ByteArray)(a:Int)(r:Bool):(sI w d n a r).1.Hosts=w.Hosts:=by
 unfold sI;cases aP w&&aN w d with
 |false=>rfl
 |true=>cases(dI (aL w d) n a r).2<;>rfl
def aN3 (w:AA)(b k p:Int)(key:List AD->Int):(jW w b k p key).1.Hosts=w.Hosts:=by unfold jW;simp only[];generalize dZ w.aAD.Log k p (aL w b).Store=l;generalize bF l.1 (key l.1) (IntKind.i64.wrap (1000+IntKind.i64.wrap (10*(l.1.length:Int))))=e;cases l.2&&(e.2&&(lW w.aAD l.1 e.1).2)<;>rfl
def bAz (w:AA)(b:Int):(fG w b).1.Hosts=w.Hosts:=by
 unfold fG;cases Bi w b with
 |false=>rfl
 |true=>
  show(Ef w b).1.Hosts=w.Hosts;have a:(qY w b).1.Hosts=w.Hosts:=by unfold qY;rw[aAa];exact(aN3 _ _ _ _ _).trans (wD _ _ _)
  unfold Ef
  first
   |exact a
   |exact(wD _ _ _).trans a
def aN4 (w:AA)(d:Int):(nJ w d).1.Hosts=w.Hosts:=by unfold nJ;cases dK w d 0&& !bX w d<;>rfl
def aTj (w:AA):(sM w).1.Hosts=w.Hosts:=by unfold sM;cases aP (rC w)<;>rfl
def bA0 (w:AA)(b t:Int):(eX w b t).1.Hosts=w.Hosts:=by
 unfold eX;generalize((aR w b 0).2==0&&(!bX w b&&(!(b==t)&&bN w t)))=q;cases q with
 |false=>rfl
 |true=>
  show(oM w b t).1.Hosts=w.Hosts;have h1:(mJ w b t).1.Hosts=w.Hosts:=(aN3 _ _ _ _ _).trans (wD _ _ _);have a:(Jq w b t).1.Hosts=w.Hosts:=(bFx _ _).trans h1;unfold oM;cases(mJ w b t).2&&((Oo w b t).2&&(Jq w b t).2) with
  |false=>rfl
  |true=>exact a
def bFy (w:AA)(pin:Int):(Ah w pin).1.Hosts.length=w.Hosts.length:=by
 show(fE w (wB w) pin).1.Hosts.length=_;unfold fE;cases aP w with
 |false=>rfl
 |true=>exact(bKv ..).1
def bFz (w:AA):(dX w).1.Hosts.length<=w.Hosts.length:=by
 unfold dX;cases aP w&&(fC w.Hosts (O8 w)).2 with
 |false=>exact aj _
 |true=>exact(O9 ..).1
def bIf (w:AA)(i b:Int):(fO w i b).1.Hosts.length=w.Hosts.length:=by
 unfold fO;cases !aP w||(decide (i<0)||decide (i>=(w.Hosts.length:Int))) with
 |true=>rfl
 |false=>cases(gJ (w.Hosts.getD i.toNat default) b).2 with
  |false=>rfl
  |true=>exact ax ..
def bRm (w:AA)(d:Int):(nJ w d).1.sz=w.sz:=by
 unfold nJ;cases dK w d 0&& !bX w d with
 |false=>rfl
 |true=>simp only[ae,AA.sz,ax]
structure KeptH (w v:AA):Prop where
 kept:Kept w v
 hosts:v.Hosts.length<=w.Hosts.length
def KeptH.of {w v:AA}(h:Kept w v)(e:v.Hosts=w.Hosts):KeptH w v:=⟨h,by rw[e];exact aj _⟩
def bIg {w:AA}(h:WIn w.Devices.length w)(a:w.Hosts.length<=400)(k d o v:Int)(f:Bool):KeptH w (yH w k d o v f).1:=by
 have tr:∀b d j o,KeptH w (bif b then oN w d j o else(w,1)).1:=λb d j o=>by
  refine .of (bRg h b d j o) ?_;cases b with
  |true=>exact aN2 _ _ _ _
  |false=>rfl
 unfold yH;rw[h.ok];simp only[av,aa];cases k==1 with
 |true=>exact .of (.of h.tick (bw (bUm w) (cQ _ _))) (aTj w)
 |false=>
 simp only[aa];cases k==2 with
 |true=>exact tr _ _ _ _
 |false=>
 simp only[aa];cases k==3 with
 |true=>exact tr _ _ _ _
 |false=>
 simp only[aa];cases k==4 with
 |true=>exact .of (.of (h.aCB d) (by rw[ae,bRm];omega)) (aN4 w d)
 |false=>
 simp only[aa];cases k==5 with
 |true=>exact tr _ _ _ _
 |false=>
 simp only[aa];cases k==6 with
 |true=>exact .of ⟨(h.add d).1,(h.add d).2,by have:=add_add h d;rw[ae];omega⟩ (bAz w d)
 |false=>
 simp only[aa];cases k==7 with
 |true=>exact .of (.of (h.cut d o) (by have:=bUl h d o;rw[ae];omega)) (bA0 w d o)
 |false=>
 simp only[aa];cases k==8 with
 |true=>exact .of (.of ⟨h.aDH d aJq v f,aJt w d aJq v f⟩ (by have:=bRe w d aJq v f;rw[ae];omega)) (aTi w d aJq v f)
 |false=>
 simp only[aa];cases k==9 with
 |true=>exact .of (.of ⟨h.push d,(Au w d).1,(Au w d).2.2.1⟩ (by have:=bRf h d;rw[ae];omega)) (aAa w d)
 |false=>
 simp only[aa];cases k==10 with
 |true=>exact .of (.of ⟨h.sync d v,(jC w d v).1,(jC w d v).2.2.1⟩ (by have:=bFs h d v;rw[ae];show(aR w d v).1.sz<=_;omega)) (wD w d v)
 |false=>
 simp only[aa];cases k==11 with
 |true=>exact⟨.of (h.aCO v) (by
   have h1:=bUg w (wB w) v;have h2:=aS6 w;show(fE w (wB w) v).1.sz<=_;omega),Nat.le_of_eq (bFy w v)⟩
 |false=>
 simp only[aa];cases k==12 with
 |true=>exact⟨.of h.renew (bw (aXc w) (cQ _ _)),bFz w⟩
 |false=>
 simp only[aa];cases k==13 with
 |true=>exact⟨.of (h.roll o v) (bw (bRh w o v) (cQ _ _)),Nat.le_of_eq (bIf w o v)⟩
 |false=>exact⟨.refl h,aj _⟩
def same (s h:Int)(e:AH):Bool:=e.Site==s&&e.Handle==h
def lk (l:List AH)(s h:Int):Option AH:=l.find? (same s h)
def bRn:Option AH->Option AH->Option AH
 |none,y=>y
 |some e,none=>some e
 |some e,some x=>some (sG e x)
theorem same_iff {s h:Int}{e:AH}:same s h e=true↔e.Site=s/\e.Handle=h:=by simp[same]
theorem bA1 (e:AH):same e.Site e.Handle e=true:=same_iff.2 ⟨rfl,rfl⟩
theorem Zx {a b:AH}(h:dV a b=true):¬(a.Site=b.Site/\a.Handle=b.Handle):=by grind[Al]
def sO:∀(n:Nat) {a b:List AH} {e:AH},a.length+b.length<=n->e∈bM a b->e∈a\/e∈b
 |_,[],b,e,_,h=>by rw[kD] at h;exact .inr h
 |_,a::xs,[],e,_,h=>by rw[fK] at h;exact .inl h
 |0,a::xs,b::bs,e,h,_=>by simp at h
 |n+1,a::xs,b::bs,e,hn,h=>by
  simp only[au] at hn;rw[vU] at h;cases h1:dV a b with
  |true=>
   rw[h1,ae] at h;rcases bg.1 h with rfl|h
   ·exact .inl (cG ..)
   ·rcases sO n (by simp only[au];omega) h with h|h
    ·exact .inl (cD _ h)
    ·exact .inr h
  |false=>
   rw[h1,aa] at h;cases h2:dV b a with
   |true=>
    rw[h2,ae] at h;rcases bg.1 h with rfl|h
    ·exact .inr (cG ..)
    ·rcases sO n (by simp only[au];omega) h with h|h
     ·exact .inl h
     ·exact .inr (cD _ h)
   |false=>
    rw[h2,aa] at h;rcases bg.1 h with rfl|h
    ·rcases bKd a b with e|e
     ·rw[e];exact .inl (cG ..)
     ·rw[e];exact .inr (cG ..)
    ·rcases sO n (by omega) h with h|h
     ·exact .inl (cD _ h)
     ·exact .inr (cD _ h)
def Zy:∀(n:Nat) {a b:List AH},a.length+b.length<=n->srt a->srt b->srt (bM a b)
 |_,[],b,_,_,h=>by rw[kD];exact h
 |_,a::xs,[],_,h,_=>by rw[fK];exact h
 |0,a::xs,b::bs,h,_,_=>by simp at h
 |n+1,a::xs,b::bs,hn,e,hb=>by
  simp only[au] at hn;obtain⟨d,f⟩:=cu.1 e;obtain⟨b1,i⟩:=cu.1 hb;rw[vU];cases h1:dV a b with
  |true=>
   rw[ae];refine cu.2 ⟨λy c=> ?_,Zy n (by simp only[au];omega) f hb⟩;rcases sO _ (aj _) c with c|c
   ·exact d y c
   ·rcases bg.1 c with rfl|c
    ·exact h1
    ·exact pK h1 (b1 y c)
  |false=>
   rw[aa];cases h2:dV b a with
   |true=>
    rw[ae];refine cu.2 ⟨λy c=> ?_,Zy n (by simp only[au];omega) e i⟩;rcases sO _ (aj _) c with c|c
    ·rcases bg.1 c with rfl|c
     ·exact h2
     ·exact pK h2 (d y c)
    ·exact b1 y c
   |false=>
    rw[aa];have hk:=Bh h1 h2;have hp:=aD6 hk;refine cu.2 ⟨λy c=> ?_,Zy n (by omega) f i⟩;rw[Ao hp];rcases sO _ (aj _) c with c|c
    ·rw[<-Ao hk];exact d y c
    ·exact b1 y c
def Fe (a:AH)(l:List AH)(s h:Int):lk (a::l) s h=bif same s h a then some a else lk l s h:=by unfold lk;rw[List.find?_cons];cases same s h a<;>rfl
theorem bCr {l:List AH}{s h:Int}(hl:∀e∈l,same s h e=false):lk l s h=none:=by
 grind[List.find?_eq_none,lk]
def aTk {l:List AH}{s h:Int}{e:AH}(hl:lk l s h=some e):e∈l/\e.Site=s/\e.Handle=h:=by
 grind[List.mem_of_find?_eq_some,same_iff,lk]
theorem bUo {a:AH}{l:List AH}(hs:srt (a::l)){s h:Int}(c:same s h a=true):∀e∈l,same s h e=false:=λe he=>by
 have:=Zx ((cu.1 hs).1 e he)
 grind[trans,same_iff]
theorem bV5 {l:List AH}(hs:srt l){e:AH}(he:e∈l):lk l e.Site e.Handle=some e:=by
 induction l with
 |nil=>simp at he
 |cons a l c=>
  rw[Fe];rcases bg.1 he with rfl|he
  ·rw[bA1];rfl
  ·cases hq:same e.Site e.Handle a with
   |true=>grind[bA1,bUo]
   |false=>exact c (cu.1 hs).2 he
def bNu {a b:AH}(hk:a.Site=b.Site/\a.Handle=b.Handle)(s h:Int):same s h (sG a b)=same s h b:=by have:=aD6 hk;unfold same;rw[this.1,this.2]
def aEl:∀(n:Nat) {a b:List AH},a.length+b.length<=n->srt a->srt b->∀s h,lk (bM a b) s h=bRn (lk a s h) (lk b s h)
 |_,[],b,_,_,_,s,h=>by rw[kD];rfl
 |_,a::xs,[],_,_,_,s,h=>by
  rw[fK];show _=bRn (lk (a::xs) s h) none;cases lk (a::xs) s h<;>rfl
 |0,a::xs,b::bs,h,_,_,_,_=>by simp at h
 |n+1,a::xs,b::bs,hn,d,hb,s,h=>by
  simp only[au] at hn;obtain⟨i,e⟩:=cu.1 d;obtain⟨b1,f⟩:=cu.1 hb;rw[vU];cases h1:dV a b with
  |true=>
   rw[ae,Fe,Fe a xs,aEl n (by grind) e hb];cases hq:same s h a with
   |false=>rfl
   |true=>have c:lk (b::bs) s h=none:=(by grind[bCr,dV,pK,Zx,same_iff,trans]);rw[c];rfl
  |false=>
   rw[aa];cases h2:dV b a with
   |true=>
    rw[ae,Fe,Fe b bs,aEl n (by grind) d f];cases hq:same s h b with
    |false=>rfl
    |true=>have c:lk (a::xs) s h=none:=(by grind[bCr,dV,pK,Zx,same_iff,trans]);rw[c];rfl
   |false=>
    have hk:=Bh h1 h2;rw[aa,Fe,Fe a xs,Fe b bs,aEl n (by omega) e f,bNu hk];have:same s h a=same s h b:=by unfold same;rw[hk.1,hk.2]
    rw[this];cases same s h b<;>rfl
def lkM {a b:List AH}(c:srt a)(hb:srt b)(s h:Int):lk (bM a b) s h=bRn (lk a s h) (lk b s h):=aEl _ (aj _) c hb s h
def cBz {a b:List AH}(c:srt a)(hb:srt b):srt (bM a b):=Zy _ (aj _) c hb
def rk (e:AH):Int:=2*e.Version+(bif e.Deleted then 1 else 0)
theorem cAa {x e:AH}(hk:x.Site=e.Site/\x.Handle=e.Handle)(h:rk x=rk e):x=e:=by obtain⟨s,a,v,d⟩:=x;obtain⟨s2,h2,c,d2⟩:=e;simp only[rk] at h hk;obtain⟨rfl,rfl⟩:=hk;cases d<;>cases d2<;>simp at h ⊢<;>omega
theorem bRo {x e:AH}:qO x e=true↔rk e<rk x\/(rk e=rk x/\x.Deleted=true):=by unfold qO rk;simp only[co,ac,ca,cY];cases x.Deleted<;>cases e.Deleted<;>simp only[ae,aa,iw,and_false,and_true,or_false]<;>omega
def bUp {e x:AH}(hk:x.Site=e.Site/\x.Handle=e.Handle):sG e x=if rk e<rk x then x else e:=by
 grind[qO,bRo,absurd,cAa,rk,sG]
def Sub (a b:List AH):Prop:=∀e∈a,∃x∈b,x.Site=e.Site/\x.Handle=e.Handle/\rk e<=rk x
def Sub.refl (a:List AH):Sub a a:=λe he=>(by grind)
theorem Sub.trans {a b c:List AH}(h:Sub a b)(k:Sub b c):Sub a c:=λe he=>by
 obtain⟨x,d,x1,x2,f⟩:=h e he;obtain⟨y,i,j,l,n⟩:=k x d
 grind
def Sub.left {a b:List AH}(c:srt a)(hb:srt b):Sub a (bM a b):=λe he=>by
 have h1:=lkM c hb e.Site e.Handle;rw[bV5 c he] at h1;cases hq:lk b e.Site e.Handle with
 |none=>rw[hq] at h1;exact⟨e,(aTk h1).1,rfl,rfl,cL _⟩
 |some x=>rw[hq] at h1;obtain⟨d,f,h⟩:=aTk h1;obtain⟨_,q2,q3⟩:=aTk hq;refine⟨_,d,f,h,?_⟩;rw[bUp ⟨q2,q3⟩];split<;>omega
def bRq {α:Type}[BEq α][LawfulBEq α]:∀{l S:List α},l.Nodup->(∀x∈l,x∈S)->l.length<=S.length
 |[],S,_,_=>by simp
 |x::l,S,hn,hs=>by
  obtain⟨h1,h2⟩:=cx.1 hn;have c:=hs x (cG ..);have:=bRq (l:=l) (S:=S.erase x) h2 λy d=>by
   have a:y≠x:=λe=>h1 (e▸d);exact(List.mem_erase_of_ne a).2 (hs y (cD _ d))
  rw[List.length_erase_of_mem c] at this;have:0<S.length:=List.length_pos_of_mem c;simp only[au];omega
structure KeyS (S:List (Int×Int)):Prop where
 len:S.length<=20
 rg:∀p∈S,(0<=p.1/\p.1<=2147483646)/\(0<=p.2/\p.2<=1000000)
structure BunIn (S:List (Int×Int)) (V:Int) (b:List AH):Prop where
 st:srt b
 key:∀e∈b,(e.Site,e.Handle)∈S
 ver:∀e∈b,1<=e.Version/\e.Version<=V
def BunIn.mono {S:List (Int×Int)}{V W:Int}{b:List AH}(h:BunIn S V b)(hv:V<=W):BunIn S W b:=⟨h.st,h.key,λe he=>⟨(h.ver e he).1,fg (h.ver e he).2 hv⟩⟩
def BunIn.nil (S:List (Int×Int))(V:Int):BunIn S V []:=⟨List.Pairwise.nil,(by simp),(by simp)⟩
theorem BunIn.len {S:List (Int×Int)}{V:Int}{b:List AH}(h:BunIn S V b):b.length<=S.length:=by
 have hn:(b.map λe=>(e.Site,e.Handle)).Nodup:=by rw[jv,jb];exact h.st.imp (by grind[Zx])
 have:=bRq hn λp hp=>by
  obtain⟨e,he,rfl⟩:=cn.1 hp;exact h.key e he
 rwa [bj] at this
def BunIn.ok {S:List (Int×Int)}{V:Int}{b:List AH}(a:KeyS S)(c:V<=1000000)(h:BunIn S V b):aM ⟨b⟩=true:=by
 have hl:=h.len;have:=a.len;unfold aM;rw[aq (show((⟨b⟩:AC).Entries.length:Int)<=20 by show(b.length:Int)<=20;omega),cq,bu];refine Ov λk hk=> ?_;have hk:k<b.length:=hk;show Uh b (0+k) b[k]=false;have hm:=cj hk;have r:=a.rg _ (h.key _ hm);have v:=h.ver _ hm;unfold Uh;rw[jA r.1.1 r.1.2,jA r.2.1 r.2.2,jA v.1 (by omega)];simp only[av,cF,ck];by_cases h0:0<k
 ·have:b.getD (k-1) default=b[k-1]'(by omega):=by rw[List.getD,ab (by omega),ci]
  rw[this,eh.1 h.st (k-1) k (by omega) hk (by omega)];simp
 simp[*]
def BunIn.merge {S:List (Int×Int)}{V:Int}{a b:List AH}(c:BunIn S V a)(hb:BunIn S V b):BunIn S V (bM a b):=
 ⟨cBz c.st hb.st,λe he=>(sO _ (aj _) he).elim (c.key e) (hb.key e),λe he=>(sO _ (aj _) he).elim (c.ver e) (hb.ver e)⟩
def bA2 {S:List (Int×Int)}{V:Int}{a b:AC}(c:KeyS S)(d:V<=1000000)(e:BunIn S V a.Entries)(hb:BunIn S V b.Entries):iN a b=(⟨bM a.Entries b.Entries⟩,true):=by unfold iN;rw[show aM a=true from e.ok c d,show aM b=true from hb.ok c d,(e.merge hb).ok c d];rfl
theorem aRd {l:List AH}(hs:srt l)(s h:Int):(aJ ⟨l⟩ s h<0/\lk l s h=none)\/(0<=aJ ⟨l⟩ s h/\∃e,lk l s h=some e/\l.getD (aJ ⟨l⟩ s h).toNat default=e/\(aJ ⟨l⟩ s h).toNat<l.length):=by
 by_cases a:aJ ⟨l⟩ s h<0
 ·exact .inl ⟨a,bCr λe he=>Ui (p:=same s h) a e he⟩
 ·refine .inr ⟨by omega,?_⟩;obtain⟨l1,e,l2,d,f,c⟩:=Zn (p:=same s h) (l:=l) (i:=0) (by show 0<=aJ ⟨l⟩ s h;omega);have c:aJ ⟨l⟩ s h=((0+l1.length:Nat):Int):=c
  grind[same_iff,bV5]
theorem bRr {x e:AH}(h:x.Version>e.Version):qO x e=true:=by
 grind[decide_eq_true,qO]
def bA3 {l:List AH}(hs:srt l){x:AH}(h:∀e,lk l x.Site x.Handle=some e->x.Version>e.Version):(qE ⟨l⟩ x).Entries=bM l [x]:=by
 rw[<-bEu hs]
 grind[bRr,decide_eq_true,aRd]
def bYk (x:AH):srt [x]:=cu.2 ⟨λy a=>by simp at a,List.Pairwise.nil⟩
def BunIn.one {S:List (Int×Int)}{V:Int}{x:AH}(hk:(x.Site,x.Handle)∈S)(hv:1<=x.Version/\x.Version<=V):BunIn S V [x]:=
 ⟨bYk x,(by simp[*]),(by simp[*])⟩
def aEm (l:List AH)(s h:Int):Bool:=match lk l s h with|some e=> !e.Deleted|none=>false
def aBK (l:List AH)(s h:Int):Int:=match lk l s h with|some e=>e.Version|none=>0
theorem BunIn.aBK {S:List (Int×Int)}{V:Int}{l:List AH}(h:BunIn S V l)(a:0<=V)(s q:Int):0<=aBK l s q/\aBK l s q<=V:=by
 unfold VK.aBK;cases hq:lk l s q with
 |none=>simp[*]
 |some e=>have:=h.ver e (aTk hq).1;grind
def bYl {S:List (Int×Int)}{V:Int}(f:KeyS S)(i:0<=V/\V<1000000){b:AC}(h:BunIn S V b.Entries){s q:Int}(hk:(s,q)∈S):
  Y2 b s q=bif aEm b.Entries s q then(b,false) else(⟨bM b.Entries [⟨s,q,aBK b.Entries s q+1,false⟩]⟩,true):=by
 obtain⟨l⟩:=b;have h:BunIn S V l:=h;have hv:=h.aBK i.1 s q;have c:(aJ ⟨l⟩ s q<0->lk l s q=none)/\qG ⟨l⟩ s q=⟨s,q,aBK l s q+1,false⟩:=by
  unfold qG bM2;rcases aRd h.st s q with⟨h1,h2⟩|⟨h1,e,h2,j,k⟩
  all_goals grind[aBK,decide,aJ,default,decide_eq_true,aI,decide_eq_false]
 have a:(qE ⟨l⟩ (qG ⟨l⟩ s q))=⟨bM l [⟨s,q,aBK l s q+1,false⟩]⟩:=by rw[c.2];have:(qE ⟨l⟩ ⟨s,q,aBK l s q+1,false⟩).Entries=bM l [⟨s,q,aBK l s q+1,false⟩]:=bA3 h.st (by grind[aBK,lk]);rw[<-this]
 have d:aM ⟨bM l [⟨s,q,aBK l s q+1,false⟩]⟩=true:=((h.mono (W:=V+1) (by omega)).merge (.one (x:=⟨s,q,aBK l s q+1,false⟩) hk (by grind))).ok f (by omega);unfold Y2;rw[a,d,h.ok f (by omega)];rcases aRd h.st s q with⟨h1,h2⟩|⟨h1,e,h2,j,k⟩
 all_goals grind[decide_eq_true,aJ,default,aEm,decide_eq_false]
def bYm {S:List (Int×Int)}{V:Int}(f:KeyS S)(i:0<=V/\V<1000000){b:AC}(h:BunIn S V b.Entries){s q:Int}:
  Y4 b s q=bif aEm b.Entries s q then(⟨bM b.Entries [⟨s,q,aBK b.Entries s q+1,true⟩]⟩,true) else(b,false):=by
 obtain⟨l⟩:=b;have h:BunIn S V l:=h;have hv:=h.aBK i.1 s q;unfold Y4;rw[h.ok f (by omega)];rcases aRd h.st s q with⟨h1,h2⟩|⟨h1,e,h2,d,j⟩
 ·grind[aEm,decide_eq_true,aJ]
 ·have c:aBK l s q=e.Version:=by unfold aBK;rw[h2]
  have he:=h.ver e (aTk h2).1;have hd:Y3 ⟨l⟩ s q=⟨s,q,aBK l s q+1,true⟩:=by unfold Y3;show(⟨s,q,IntKind.i64.wrap ((l.getD (aJ ⟨l⟩ s q).toNat default).Version+1),true⟩:AH)=_;rw[d,c,aI (by omega) (by omega)]
  have a:(qE ⟨l⟩ (Y3 ⟨l⟩ s q))=⟨bM l [⟨s,q,aBK l s q+1,true⟩]⟩:=by rw[hd];have:(qE ⟨l⟩ ⟨s,q,aBK l s q+1,true⟩).Entries=bM l [⟨s,q,aBK l s q+1,true⟩]:=bA3 h.st (by grind);rw[<-this]
  rw[a,ao (show ¬aJ ⟨l⟩ s q<0 by omega)];show(bif !true||(false||((l.getD (aJ ⟨l⟩ s q).toNat default).Deleted||(l.getD (aJ ⟨l⟩ s q).toNat default).Version==1000000)) then _ else _)=_;have hl:aEm l s q= !e.Deleted:=by unfold aEm;rw[h2]
  show _=bif aEm l s q then _ else _;rw[d,bn.2 (show e.Version≠1000000 by omega),hl];cases e.Deleted<;>rfl
structure ChgIn (S:List (Int×Int)) (V:Int) (d x:AF):Prop where
 store:x.Store=d.Store
 log:x.Log=d.Log
 key:x.Key=d.Key
 ep:x.Epoch=d.Epoch
 ver:x.Version=d.Version
 bun:BunIn S V x.aAE.Entries
 sub:Sub d.aAE.Entries x.aAE.Entries
def ChgIn.rfl' {S:List (Int×Int)}{V W:Int}{d:AF}(h:BunIn S V d.aAE.Entries)(hv:V<=W):ChgIn S W d d:=⟨rfl,rfl,rfl,rfl,rfl,h.mono hv, .refl _⟩
theorem ChgIn.trans {S:List (Int×Int)}{V W:Int}{a b c:AF}(h:ChgIn S V a b)(k:ChgIn S W b c):ChgIn S W a c:=
 ⟨k.store.trans h.store,k.log.trans h.log,k.key.trans h.key,k.ep.trans h.ep,k.ver.trans h.ver,k.bun,h.sub.trans k.sub⟩
def aJv {S:List (Int×Int)}{V:Int}(c:KeyS S)(a:0<=V/\V<1000000){d:AF}(h:BunIn S V d.aAE.Entries){n:ByteArray}{q:Int}(hk:(bB n,q)∈S)(rm:Bool):ChgIn S (V+1) d (dI d n q rm).1:=by
 have hv:=h.aBK a.1 (bB n) q;unfold dI tX;have one:∀f,BunIn S (V+1) (bM d.aAE.Entries [⟨bB n,q,aBK d.aAE.Entries (bB n) q+1,f⟩]):=λf=>(h.mono (by omega)).merge (.one hk (by grind));cases rm with
 |true=>
  rw[ae,bYm c a h];cases aEm d.aAE.Entries (bB n) q with
  |true=>exact⟨rfl,rfl,rfl,rfl,rfl,one _, .left h.st (bYk _)⟩
  |false=>exact .rfl' h (by omega)
 |false=>
  rw[aa,bYl c a h hk];cases aEm d.aAE.Entries (bB n) q with
  |false=>exact⟨rfl,rfl,rfl,rfl,rfl,one _, .left h.st (bYk _)⟩
  |true=>exact .rfl' h (by omega)
def bRs {S:List (Int×Int)}{V:Int}(a:KeyS S)(e:0<=V/\V+1<1000000){d:AF}(h:BunIn S V d.aAE.Entries){q:Int}(h0:(bB (aA 0),q)∈S)(h1:(bB (aA 1),q)∈S)(rm:Bool):ChgIn S (V+2) d (mX d q rm):=by unfold mX;have c:=aJv a (by omega) h h0 rm;exact c.trans (by have:=aJv a (V:=V+1) (by omega) c.bun h1 rm;rwa [show V+1+1=V+2 by omega] at this)
end Go.VK
set_option maxRecDepth 100000
namespace Go.VK
open D
structure Dv (S:List (Int×Int)) (T:Int) (log:List AD) (K ep v:Int) (d:AF):Prop where
 pre:∃r,log=d.Log++r
 at_:d.Epoch<ep\/(d.Epoch=ep/\d.Version<=v)
 key:d.Epoch=ep->d.Key=K
 bun:BunIn S T d.aAE.Entries
structure Hs (S:List (Int×Int)) (T:Int) (K ep v:Int) (s:AJ):Prop where
 low:s.Epoch<=ep
 own:s.Epoch=ep->∃v' b',s=gD K ep v' b'/\0<=v'/\v'<=v/\BunIn S T b'.Entries
structure Net (S:List (Int×Int)) (t m:Nat) (w:AA) (K v:Int) (r:List AJ) (b:AC):Prop where
 wi:WIn m w
 bx:BoxIn w.aAD.Log w.aAD.Boxes K
 devs:∀p∈aC w.aAD.Log,∃k,k<m/\p=mY w.Seed k
 rem:∀p,dW w.aAD.Log p=true->∃k,k<m/\p=mY w.Seed k
 hist:w.aAD.History=r++[gD K (aF w.aAD.Log) v b]
 old:∀s∈r,Hs S (t:Int) K (aF w.aAD.Log) v s
 bun:BunIn S (t:Int) b.Entries
 ver:0<=v/\v<=(t:Int)
 dev:∀k (h:k<w.Devices.length),Dv S (t:Int) w.aAD.Log K (aF w.aAD.Log) v w.Devices[k]
def Dv.mono {S:List (Int×Int)}{T U:Int}{log:List AD}{K ep v u:Int}{d:AF}(h:Dv S T log K ep v d)(a:T<=U)(hv:v<=u):Dv S U log K ep u d:=
 ⟨h.pre,h.at_.imp id (by omega),h.key,h.bun.mono a⟩
def Hs.mono {S:List (Int×Int)}{T U:Int}{K ep v u:Int}{s:AJ}(h:Hs S T K ep v s)(a:T<=U)(hv:v<=u):Hs S U K ep u s:=
 ⟨h.low,λe=>let ⟨v',b',h1,h2,c,d⟩:=h.own e;⟨v',b',h1,h2,fg c hv,d.mono a⟩⟩
section
variable {S:List (Int×Int)} {t m:Nat} {w:AA} {K v:Int} {r:List AJ} {b:AC}
def Net.last (h:Net S t m w K v r b):Hs S (t:Int) K (aF w.aAD.Log) v (gD K (aF w.aAD.Log) v b):=
 ⟨cL _,λ_=>⟨v,b,rfl,h.ver.1,cL _,h.bun⟩⟩
theorem Net.hs (h:Net S t m w K v r b){s:AJ}(hs:s∈w.aAD.History):Hs S (t:Int) K (aF w.aAD.Log) v s:=by
 rw[h.hist] at hs;rcases bv.1 hs with hs|hs
 ·exact h.old s hs
 ·rw[cp.1 hs];exact h.last
def Net.pub (h:Net S t m w K v r b){k:Nat}(hk:k<w.Devices.length):aS w.Devices[k].Store=mY w.Seed k:=by unfold mY aS jH;rw[(h.wi.dev k hk).key]
theorem bNv (K:Int):(iO K ⟨0,0,[],0⟩).2=false:=by
 unfold iO;cases !(bG K&&(bK (AJ.mk 0 0 [] 0).Epoch 0 1000000&&bK (AJ.mk 0 0 [] 0).Version 0 1000000))||(AJ.mk 0 0 [] 0).MAC !=jK K ⟨0,0,[],0⟩ with
 |true=>rfl
 |false=>rfl
theorem bV6 {d:AF}{log:List AD}{bx:AM}{s:AJ}(h:(kH d log bx s==0)=true):
  cZ log d.Log=true/\aS d.Store∈aC log/\aF log<=s.Epoch/\(iO (bS d.Store bx).1 s).2=true/\(iN d.aAE (iO (bS d.Store bx).1 s).1).2=true:=by
 have h:=eq_of_beq h;unfold kH at h
 grind[aT,cZ,jG,aC,aS,aF,bS,bx,decide,iO,iN,Bool.or_eq_false_iff,Bool.not_eq_false',decide_eq_false_iff_not,mM]
def Net.set (h:Net S t m w K v r b){i:Nat}{x:AF}(hi:i<w.Devices.length)(a:Dv S (t:Int) w.aAD.Log K (aF w.aAD.Log) v x):∀k (hk:k<(w.Devices.set i x).length),Dv S (t:Int) w.aAD.Log K (aF w.aAD.Log) v (w.Devices.set i x)[k]:=λk hk=>by
 rw[eM];rw[ax] at hk;split
 ·exact a
 ·exact h.dev k hk
def Net.upd (h:Net S t m w K v r b){u:AA}(h1:u.Seed=w.Seed)(h2:u.aAD=w.aAD)(c:u.Devices.length=w.Devices.length)(a:WIn m u)
  (d:∀k (hk:k<u.Devices.length),Dv S (t:Int) w.aAD.Log K (aF w.aAD.Log) v u.Devices[k]):Net S t m u K v r b where
 wi:=a
 bx:=by rw[h2];exact h.bx
 devs:=by rw[h1,h2];exact h.devs
 rem:=by rw[h1,h2];exact h.rem
 hist:=by rw[h2];exact h.hist
 old:=by rw[h2];exact h.old
 bun:=h.bun
 ver:=h.ver
 dev:=by simp[*]
def Net.mono (h:Net S t m w K v r b){u:Nat}(a:t<=u):Net S u m w K v r b where
 wi:=h.wi
 bx:=h.bx
 devs:=h.devs
 rem:=h.rem
 hist:=h.hist
 old:=λs hs=>(h.old s hs).mono (by omega) (cL _)
 bun:=h.bun.mono (by omega)
 ver:=by have:=h.ver;omega
 dev:=λk hk=>(h.dev k hk).mono (by omega) (cL _)
def Net.aDN (h:Net S t m w K v r b)(j:KeyS S)(ht:t<=900000){d:AF}(hd:Dv S (t:Int) w.aAD.Log K (aF w.aAD.Log) v d)(c:Int):Dv S (t:Int) w.aAD.Log K (aF w.aAD.Log) v (bT d w.aAD.Log w.aAD.Boxes (fP w.aAD c).1).1:=by
 unfold bT;cases h0:kH d w.aAD.Log w.aAD.Boxes (fP w.aAD c).1==0 with
 |false=>exact hd
 |true=>
  obtain⟨q1,q2,q3,q4,q5⟩:=bV6 h0;have ho:=Pb h.bx q2;rw[ho] at q4 q5;rw[ae,ho];have k:=h.bx.eps;have a:(fP w.aAD c).1=⟨0,0,[],0⟩\/(fP w.aAD c).1∈w.aAD.History:=by
   grind[decide,Bool.or_eq_false_iff,decide_eq_false_iff_not,default,List.getD,List.getElem?_eq_getElem,List.getElem_mem,fP]
  rcases a with a|a
  ·grind[q4,bNv]
  ·obtain⟨l1,l2⟩:=h.hs a;obtain⟨v',b',e,n,l,f⟩:=l2 (by omega);have hv:=h.ver;have i:iO K (gD K (aF w.aAD.Log) v' b')=(b',true):=bAx h.bx.kok (by omega) (by omega) (f.ok j (by omega));rw[e,i,bA2 j (by omega) hd.bun f];exact⟨⟨[],by simp⟩, .inr ⟨rfl,l⟩,λ_=>rfl,hd.bun.merge f⟩
def Net.sync (h:Net S t m w K v r b)(f:KeyS S)(ht:t<=900000)(d c:Int):Net S t m (aR w d c).1 K v r b:=by
 have a:=h.wi.sync d c;unfold aR at a ⊢;cases hb:aP w&&aN w d with
 |false=>exact h
 |true=>rw[hb] at a;rw[ac] at hb;obtain⟨hd,e⟩:=kI hb.2;exact h.upd rfl rfl (ax ..) a (h.set hd (h.aDN f ht (by rw[e];exact h.dev _ hd) c))
def bYn (h:Net S t m w K v r b):(fP w.aAD 0).1=gD K (aF w.aAD.Log) v b:=by unfold fP;rw[ao (show ¬(0:Int)<0 by decide),ao (show ¬(0:Int)>=(w.aAD.History.length:Int) by rw[h.hist,ay,cz];omega)];show w.aAD.History.getD _ default=_;rw[h.hist];simp
def Net.aDP (h:Net S t m w K v r b){d:Int}(hd:aN w d=true):bN w d=jG (aC w.aAD.Log) (mY w.Seed d.toNat):=by obtain⟨hl,e⟩:=kI hd;unfold bN;rw[hd,e,h.pub hl];rfl
def pV (w:AA)(K v:Int)(b:AC)(d:AF):AF:=⟨d.Store,w.aAD.Log,K,aF w.aAD.Log,v,⟨bM d.aAE.Entries b.Entries⟩⟩
def Net.aBP (h:Net S t m w K v r b)(a:KeyS S)(ht:t<=900000){d:AF}(h1:∃r',w.aAD.Log=d.Log++r')(h2:d.Epoch<aF w.aAD.Log\/(d.Epoch=aF w.aAD.Log/\d.Version<=v))(c:BunIn S (t:Int) d.aAE.Entries)(e:aS d.Store∈aC w.aAD.Log):
  bT d w.aAD.Log w.aAD.Boxes (fP w.aAD 0).1=(pV w K v b d,0):=by
 have hm:=bA2 a (by omega) c h.bun;have hv:=h.ver;obtain⟨r',hr⟩:=h1;have hs:bT d w.aAD.Log w.aAD.Boxes (gD K (aF w.aAD.Log) v b)=(⟨d.Store,w.aAD.Log,K,aF w.aAD.Log,v,(iN d.aAE b).1⟩,0):=
  aTg h.bx h.wi.log (by grind[aN0]) e (by omega) (h.bun.ok a (by omega)) rfl h2 (by rw[hm])
 rw[bYn h,hs,hm];rfl
def Net.aCC (h:Net S t m w K v r b)(f:KeyS S)(ht:t<=900000){d:Int}(hd:bN w d=true):
  aR w d 0=({w with Devices:=w.Devices.set d.toNat (pV w K v b (aL w d))},0):=by
 have a:aN w d=true:=by grind[bN]
 obtain⟨hl,e⟩:=kI a;have c:=h.dev _ hl;rw[<-e] at c;have hs:=h.aBP f ht c.pre c.at_ c.bun (by
  grind[mM,bN])
 unfold aR;rw[h.wi.ok,a,hs];rfl
def Net.aCG (h:Net S t m w K v r b){d:Int}(hd:bN w d=false)(c:Int):((aR w d c).2==0)=false:=by
 grind[aP,aN,bT,kH,aL,fP,bV6,bN,mM,aR]
def aTl (w:AA)(K v:Int)(b:AC)(d:AF):AF:={pV w K v b d with Version:=v+1}
def aCA (w:AA)(K v:Int)(b:AC)(d:Int):AA:=
 {w with Devices:=w.Devices.set d.toNat (aTl w K v b (aL w d)),aAD:={w.aAD with History:=w.aAD.History++[gD K (aF w.aAD.Log) (v+1) ⟨bM (aL w d).aAE.Entries b.Entries⟩]}}
def bF0 {S:List (Int×Int)}{d:AF}(a:KeyS S){T:Int}(c:T<=1000000)(h1:bG d.Key=true)(h2:0<=d.Epoch/\d.Epoch<=1000000)(f: -1<=d.Version/\d.Version<1000000)(e:BunIn S T d.aAE.Entries):
  dQ d=({d with Version:=d.Version+1},gD d.Key d.Epoch (d.Version+1) d.aAE,true):=by
 have hs:qW d.Key d.Epoch (IntKind.i64.wrap (d.Version+1)) d.aAE=(gD d.Key d.Epoch (d.Version+1) d.aAE,true):=by rw[aI (by omega) (by omega)];unfold qW;rw[h1,jA h2.1 h2.2,jA (by omega) (by omega),show aM d.aAE=true from e.ok a c];rfl
 grind[aI,dQ]
def bA4 {c:AO}{s:AJ}(h1:s.Epoch=aF c.Log)(h2:c.History.length<60)(a:∀l,c.History.getLast? =some l->qP s l=true):dJ c s=({c with History:=c.History++[s]},true):=by
 grind[bne_self_eq_false,decide_eq_false,dJ,decide,qP,default,List.getD,List.getElem?_eq_getElem]
theorem Net.aBN (h:Net S t m w K v r b)(i:KeyS S)(ht:t<=900000)(hr:r.length<=58){d:Int}(hd:bN w d=true):jS w d=(aCA w K v b d,true):=by
 have a:aN w d=true:=by grind[bN]
 obtain⟨hl,e⟩:=kI a;have hs:=h.aCC i (by omega) hd;have hv:=h.ver;have k:=h.bx.eps;have j:=h.dev _ hl;rw[<-e] at j;have c:aL (aR w d 0).1 d=pV w K v b (aL w d):=by
  grind[List.getD,List.getElem?_set_self,default,aL,hs]
 have n:dQ (pV w K v b (aL w d))=(aTl w K v b (aL w d),gD K (aF w.aAD.Log) (v+1) ⟨bM (aL w d).aAE.Entries b.Entries⟩,true):=
  bF0 i (T:=(t:Int)) (by omega) h.bx.kok (show 0<=aF w.aAD.Log/\aF w.aAD.Log<=1000000 by omega) (show-1<=v/\v<1000000 by omega) (j.bun.merge h.bun)
 have f:dJ w.aAD (gD K (aF w.aAD.Log) (v+1) ⟨bM (aL w d).aAE.Entries b.Entries⟩)=({w.aAD with History:=w.aAD.History++[gD K (aF w.aAD.Log) (v+1) ⟨bM (aL w d).aAE.Entries b.Entries⟩]},true):=by
  refine bA4 rfl ?_ λl hl=> ?_
  ·rw[h.hist];simp;omega
  ·rw[h.hist,List.getLast?_append] at hl
   grind[decide_eq_true,decide,aF,qP,gD]
 unfold jS upF;rw[c,n];rw[show(aR w d 0).1.aAD=w.aAD by rw[hs]];rw[f,hs];show(bif (0:Int)==0&&(bif true&&true then _ else _:AA×Bool).2 then _ else _)=_;simp only[dy,ae,eJ,eo];rfl
def Net.aCQ (h:Net S t m w K v r b){d:Int}(hd:bN w d=false):jS w d=(w,false):=by unfold jS;rw[h.aCG hd 0];rfl
def Net.aCA (h:Net S t m w K v r b)(i:KeyS S)(ht:t<=900000)(hr:r.length<=58){d:Int}(hd:bN w d=true):
  Net S (t+1) m (VK.aCA w K v b d) K (v+1) (r++[gD K (aF w.aAD.Log) v b]) ⟨bM (aL w d).aAE.Entries b.Entries⟩:=by
 have c:aN w d=true:=by grind[bN]
 obtain⟨hl,e⟩:=kI c;have a:=h.wi.push d;rw[h.aBN i ht hr hd] at a;have hv:=h.ver;have hlen:(VK.aCA w K v b d).Devices.length=w.Devices.length:=ax ..;have f:=h.dev _ hl;rw[<-e] at f;refine⟨a,h.bx,h.devs,h.rem,?_,λs hs=> ?_,(f.bun.merge h.bun).mono (by omega),by omega,λk hk=> ?_⟩
 ·show w.aAD.History++[_]=_;rw[h.hist];rfl
 ·rcases bv.1 hs with hs|hs
  ·exact(h.old s hs).mono (by omega) (by omega)
  ·rw[cp.1 hs];exact h.last.mono (by omega) (by omega)
 ·have:∀k (hk:k<(w.Devices.set d.toNat (aTl w K v b (aL w d))).length),Dv S ((t+1:Nat):Int) w.aAD.Log K (aF w.aAD.Log) (v+1) (w.Devices.set d.toNat (aTl w K v b (aL w d)))[k]:=λk hk=>by
   rw[eM];rw[ax] at hk;split
   ·exact⟨⟨[],by show w.aAD.Log=w.aAD.Log++[];simp⟩, .inr ⟨rfl,cL _⟩,λ_=>rfl,(f.bun.merge h.bun).mono (by omega)⟩
   ·exact(h.dev k hk).mono (by omega) (by omega)
  exact this k hk
def Net.aDH (h:Net S t m w K v r b)(l:KeyS S)(ht:t<=900000)(d:Int){n:ByteArray}{a:Int}(hk:(bB n,a)∈S)(f:Bool):Net S (t+1) m (sI w d n a f).1 K v r b:=by
 have j:=h.wi.aDH d n a f;unfold sI at j ⊢;cases hb:aP w&&aN w d with
 |false=>exact h.mono (by omega)
 |true=>
  rw[hb] at j;rw[ac] at hb;obtain⟨hd,e⟩:=kI hb.2;have i:=h.dev _ hd;rw[<-e] at i;have c:=aJv l (by omega) i.bun hk f;cases hc:(dI (aL w d) n a f).2 with
  |false=>exact h.mono (by omega)
  |true=>rw[hc] at j;have k:=h.mono (u:=t+1) (by omega);exact k.upd rfl rfl (ax ..) j (k.set hd ⟨by rw[c.log];exact i.pre,by rw[c.ep,c.ver];exact i.at_,by rw[c.ep,c.key];exact i.key,c.bun.mono (by omega)⟩)
end
end Go.VK
set_option maxRecDepth 100000
namespace Go.VK
open D
def aTm {l:List AD}{e:AD}(h:aT (l++[e])=true):lM l e=true/\(l=[]\/aT l=true)/\l.length<40:=by
 unfold aT at h;rw[ac,bu] at h;have hr:=gU h.1;have hlen:(l++[e]).length=l.length+1:=by simp
 rw[hlen] at hr;have h1:=Z6 h.2 l.length (by simp)
 grind[List.length_pos_iff,aT,jA,Bool.not_eq_true',Ov,Z6,List.getElem_append_left]
def aEn {α:Type}{P:List α->Prop}(h0:P [])(hs:∀l a,P l->P (l++[a])):∀(n:Nat) (l:List α),l.length=n->P l
 |0,l,h=>by rw[gA.1 h];exact h0
 |n+1,l,h=>by
  have c:l≠[]:=by rintro rfl;simp at h
  rw[<-List.dropLast_concat_getLast c];exact hs _ _ (aEn h0 hs n _ (by rw[List.length_dropLast];omega))
def bYo (l:List AD):(aC l).Nodup:=
 aEn (P:=λl=>(aC l).Nodup) gq (by grind[Uu,aSz]) l.length l rfl
def bF1 (l:List AD):l.length<=1000->0<=aF l/\aF l<=(l.length:Int):=
 aEn (P:=λl=>l.length<=1000->0<=aF l/\aF l<=(l.length:Int)) (λ_=>⟨cL 0,cL 0⟩) (by grind[List.length_append,Oz,aI]) l.length l rfl
theorem bRt (l:List AD)(e:AD)(h:l.length<=999)(hk:e.Kind=2):aF (l++[e])=aF l+1:=by have:=bF1 l (by omega);rw[Oz,hk,show((2:Int)==2)=true from rfl,ae,aI (by omega) (by omega)]
def bUq {l:List AD}:(l=[]\/aT l=true)->∀p,dW l p=true->p∉aC l:=
 aEn (P:=λl=>(l=[]\/aT l=true)->∀p,dW l p=true->p∉aC l) (by simp[dW]) (λl e a h p hp=>by
  have hl:aT (l++[e])=true:=h.resolve_left (by simp);obtain⟨h1,h2,_⟩:=aTm hl;rw[Ai,co] at hp
  grind[aC,bne_self_eq_false,Bool.not_eq_true',Bool.false_eq_true,List.mem_singleton,jT,lM,Uu]) l.length l rfl
theorem bYp {log:List AD}{key eph:Int}(hl:aT log=true)(hk:bG key=true)(hp:∀p∈aC log,bG p=true)(d:(aC log).length<=1000)(h:1<=eph/\eph<=1000000):(bF log key eph).2=true/\BoxIn log (bF log key eph).1 key:=by
 obtain⟨i,j,e,l⟩:=aJs hl hk hp d h;have f:log.length<=40:=by unfold aT at hl;rw[ac] at hl;have:=gU hl.1;omega
 refine⟨i,j,e,bYo log,hk,λk a=> ?_,by have:=bF1 log (by omega);omega⟩;have n:(bF log key eph).1.Boxes.length=(aC log).length:=by have:=congrArg List.length e;rwa [bj] at this
 have c:k<(aC log).length:=by omega
 have o:(aC log).length<=1000:=d;have hb:=l k a c;refine⟨eph+(k:Int),jA (by omega) (by omega),?_⟩
 grind
theorem bRu (l:List AD):(aC l).length<=l.length:=gG l
def bRv {log:List AD}{k d:Int}{s:AK}(h:(dZ log k d s).2=true):dZ log k d s=(log++[Jp log k d s],true)/\aT (log++[Jp log k d s])=true:=by
 grind[decide,aT,Jp,Bool.or_eq_false_iff,Bool.not_eq_false',dZ]
theorem bRw {log:List AD}{key e:Int}(h:(bF log key e).2=true):bG key=true:=by
 grind[aT,bG,gH,jL,aF,aC,Bool.or_eq_false_iff,Bool.not_eq_false',bF]
def bUr {c:AO}{log:List AD}{e:AM}(h:(lW c log e).2=true):lW c log e=({c with Log:=log,Boxes:=e},true):=by
 grind[aT,cZ,iY,lW]
def bK4 {w:AA}{b k p:Int}{key:List AD->Int}{l:List AD}(hl:l=w.aAD.Log++[Jp w.aAD.Log k p (aL w b).Store])(h:(jW w b k p key).2=true):
  ∃bx,jW w b k p key=({w with aAD:={w.aAD with Log:=l,Boxes:=bx}},true)/\aT l=true/\bG (key l)=true/\((∀q∈aC l,bG q=true)->BoxIn l bx (key l))/\(dZ w.aAD.Log k p (aL w b).Store).1=l:=by
 have h0:(dZ w.aAD.Log k p (aL w b).Store).2=true/\(bF (dZ w.aAD.Log k p (aL w b).Store).1 (key (dZ w.aAD.Log k p (aL w b).Store).1) (IntKind.i64.wrap (1000+IntKind.i64.wrap (10*((dZ w.aAD.Log k p (aL w b).Store).1.length:Int))))).2=true/\(lW w.aAD (dZ w.aAD.Log k p (aL w b).Store).1 (bF (dZ w.aAD.Log k p (aL w b).Store).1 (key (dZ w.aAD.Log k p (aL w b).Store).1) (IntKind.i64.wrap (1000+IntKind.i64.wrap (10*((dZ w.aAD.Log k p (aL w b).Store).1.length:Int))))).1).2=true:=by
  grind[dZ,aL,bF,lW,jW]
 obtain⟨h1,h2,a⟩:=h0;obtain⟨c,d⟩:=bRv h1;rw[c,<-hl] at h2 a;rw[<-hl] at c d;have e:=bUr a;have hlen:l.length<=40:=by have:=d;unfold aT at this;rw[ac] at this;have:=gU this.1;omega
 grind[jW,aI,bYp,bRw,bRu,bF]
end Go.VK
set_option maxRecDepth 100000
namespace Go.VK
open D
structure KeyD (S:List (Int×Int)):Prop where
 ks:KeyS S
 dv:∀q:Nat,q<6->(bB (aA 0),(q:Int))∈S/\(bB (aA 1),(q:Int))∈S
section
variable {S:List (Int×Int)} {t m:Nat} {w:AA} {K v:Int} {r:List AJ} {b:AC}
def Net.keys (h:Net S t m w K v r b):∀q∈aC w.aAD.Log,bG q=true:=λq hq=>by
 obtain⟨k,_,rfl⟩:=h.devs q hq;exact aEk _ _
theorem mO {w:AA}{c:Int}(h:bN w c=true):aN w c=true:=by
 grind[bN]
theorem Net.inl (h:Net S t m w K v r b){c:Int}(hc:((aR w c 0).2==0)=true):bN w c=true:=by
 cases hl:bN w c with
 |true=>rfl
 |false=>rw[h.aCG hl 0] at hc;cases hc
def wE (w:AA)(c:Int):List AD:=w.aAD.Log++[Jp w.aAD.Log 1 (mY w.Seed w.Devices.length) (aL w c).Store]
def bCs {w:AA}{c:Int}(hl:aT (wE w c)=true):
  aC (wE w c)=aC w.aAD.Log++[mY w.Seed w.Devices.length]/\(∀p,dW (wE w c) p=dW w.aAD.Log p)/\aF (wE w c)=aF w.aAD.Log:=by
 obtain⟨h1,_,_⟩:=aTm hl;have hk:(Jp w.aAD.Log 1 (mY w.Seed w.Devices.length) (aL w c).Store).Kind=1:=rfl;have hd:(Jp w.aAD.Log 1 (mY w.Seed w.Devices.length) (aL w c).Store).Device=mY w.Seed w.Devices.length:=rfl
 grind[wE,Oz,Ai,Uu,jT,aC,mY,mM,jG,Bool.not_eq_true',lM]
theorem Net.aAU (h:Net S t w.Devices.length w K v r b)(o:KeyD S)(ht:t<=900000){c:Int}(h0:((aR w c 0).2==0)=true)(h1:(add1 w c).2=true)(hn:w.Devices.length<6):
  Net S (t+2) (w.Devices.length+1) (VK.aAU w c) K v r b/\(VK.aAU w c).Devices=w.Devices.set c.toNat (mX (pV w K v b (aL w c)) (w.Devices.length:Int) false)/\(VK.aAU w c).aAD.Log=wE w c/\(VK.aAU w c).Seed=w.Seed:=by
 have f:=h.inl h0;have a:=mO f;obtain⟨hl,e⟩:=kI a;have hs:=h.aCC o.ks ht f;have A:=h.dev _ hl;rw[<-e] at A;have i:aL (aR w c 0).1 c=pV w K v b (aL w c):=by
  grind[List.getD,List.getElem?_set_self,default,aL,hs]
 obtain⟨bx,x,F,J,u,_⟩:=bK4 (w:=(aR w c 0).1) (b:=c) (k:=1) (p:=aS (aO w.Seed (w.Devices.length:Int))) (key:=λ_=>(aL (aR w c 0).1 c).Key) (l:=wE w c) (by rw[i,hs];rfl) h1;obtain⟨D,G,y⟩:=bCs F;have x:add1 w c=({(aR w c 0).1 with aAD:={(aR w c 0).1.aAD with Log:=wE w c,Boxes:=bx}},true):=x;have u:(∀q∈aC (wE w c),bG q=true)->BoxIn (wE w c) bx (aL (aR w c 0).1 c).Key:=u;rw[i] at u;have j:=u λq hq=>by
  rw[D] at hq;rcases bv.1 hq with hq|hq
  ·exact h.keys q hq
  grind[List.mem_singleton,aEk]
 have H:(VK.aAU w c).Devices=w.Devices.set c.toNat (mX (pV w K v b (aL w c)) (w.Devices.length:Int) false):=by
  show(add1 w c).1.Devices.set c.toNat (mX (aL (add1 w c).1 c) (w.Devices.length:Int) false)=_
  grind[List.set_set,hs,aR,aL,add1,pV]
 have d:(VK.aAU w c).aAD={w.aAD with Log:=wE w c,Boxes:=bx}:=by show(add1 w c).1.aAD=_;rw[x];show({(aR w c 0).1.aAD with Log:=wE w c,Boxes:=bx}:AO)=_;rw[hs]
 obtain⟨I,z,L⟩:=h.wi.aCT hn a;have n:ChgIn S ((t:Int)+2) (pV w K v b (aL w c)) (mX (pV w K v b (aL w c)) (w.Devices.length:Int) false):=bRs o.ks (by omega) (A.bun.merge h.bun) (o.dv _ hn).1 (o.dv _ hn).2 false;have hv:=h.ver;refine⟨⟨I,by rw[d];exact j,λp hp=> ?_,λp hp=> ?_,?_,λs hs=> ?_,h.bun.mono (by omega),by omega,?_⟩,H,by rw[d],z⟩
 ·rw[d] at hp;rw[z];have hp:p∈aC (wE w c):=hp;rw[D] at hp;rcases bv.1 hp with hp|hp
  ·obtain⟨k,hk,e⟩:=h.devs p hp;grind
  grind
 ·rw[d] at hp;rw[z];have hp:dW (wE w c) p=true:=hp;rw[G] at hp;obtain⟨k,hk,e⟩:=h.rem p hp;grind
 ·rw[d];show w.aAD.History=r++[gD K (aF (wE w c)) v b];rw[y];exact h.hist
 ·rw[d];show Hs S _ K (aF (wE w c)) v s;rw[y];exact(h.old s hs).mono (by omega) (cL _)
 ·rw[d];show ∀k (hk:k<(VK.aAU w c).Devices.length),Dv S _ (wE w c) K (aF (wE w c)) v (VK.aAU w c).Devices[k];rw[y];have:∀k (hk:k<(w.Devices.set c.toNat (mX (pV w K v b (aL w c)) (w.Devices.length:Int) false)).length),Dv S ((t+2:Nat):Int) (wE w c) K (aF w.aAD.Log) v (w.Devices.set c.toNat (mX (pV w K v b (aL w c)) (w.Devices.length:Int) false))[k]:=λk hk=>by
   rw[eM];rw[ax] at hk;split
   ·refine⟨⟨[Jp w.aAD.Log 1 (mY w.Seed w.Devices.length) (aL w c).Store],?_⟩, .inr ⟨?_,?_⟩,λ_=> ?_,n.bun.mono (by omega)⟩
    ·rw[n.log];rfl
    ·rw[n.ep];rfl
    ·rw[n.ver];exact cL _
    ·rw[n.key];rfl
   ·have q:=(h.dev k hk).mono (U:=((t+2:Nat):Int)) (by omega) (cL v);obtain⟨r',hr⟩:=q.pre;exact⟨⟨r'++[Jp w.aAD.Log 1 (mY w.Seed w.Devices.length) (aL w c).Store],by unfold wE;rw[<-cm,<-hr]⟩,q.at_,q.key,q.bun⟩
  simp_all
def bYq (U:AA)(K v:Int)(B:AC)(n:Nat):AF:=⟨aO U.Seed (n:Int),U.aAD.Log,K,aF U.aAD.Log,v,⟨bM [] B.Entries⟩⟩
def bNw (U:AA)(K v:Int)(B:AC):AA:={U with Devices:=U.Devices++[bYq U K v B U.Devices.length],Stolen:=U.Stolen++[false]}
def Net.app (h:Net S t (w.Devices.length+1) w K v r b)(o:KeyS S)(ht:t<=900000)(hn:w.Devices.length<6)(i:mY w.Seed w.Devices.length∈aC w.aAD.Log):
  aR (appW w (bE (aO w.Seed (w.Devices.length:Int)))) (w.Devices.length:Int) 0=(bNw w K v b,0)/\Net S t (w.Devices.length+1) (bNw w K v b) K v r b:=by
 have hv:=h.ver;have p:=h.bx.eps;have a:=h.wi.app hn;have hs:=h.aBP o ht (d:=bE (aO w.Seed (w.Devices.length:Int))) ⟨w.aAD.Log,rfl⟩ (by
  show(0:Int)<_\/((0:Int)=_/\(0:Int)<=v);omega) (BunIn.nil S _) i
 have c:aN (appW w (bE (aO w.Seed (w.Devices.length:Int)))) (w.Devices.length:Int)=true:=by
  grind[aN,appW]
 have j:aL (appW w (bE (aO w.Seed (w.Devices.length:Int)))) (w.Devices.length:Int)=bE (aO w.Seed (w.Devices.length:Int)):=by simp[aL,appW]
 have e:∀x,(w.Devices++[bE (aO w.Seed (w.Devices.length:Int))]).set w.Devices.length x=w.Devices++[x]:=(by simp);have he:aR (appW w (bE (aO w.Seed (w.Devices.length:Int)))) (w.Devices.length:Int) 0=(bNw w K v b,0):=by unfold aR;rw[a.ok,c,j];show(({appW w (bE (aO w.Seed (w.Devices.length:Int))) with Devices:=(w.Devices++[bE (aO w.Seed (w.Devices.length:Int))]).set ((w.Devices.length:Int)).toNat (bT (bE (aO w.Seed (w.Devices.length:Int))) w.aAD.Log w.aAD.Boxes (fP w.aAD 0).1).1}:AA),(bT (bE (aO w.Seed (w.Devices.length:Int))) w.aAD.Log w.aAD.Boxes (fP w.aAD 0).1).2)=_;rw[hs,bo,e];rfl
 have f:=a.sync (w.Devices.length:Int) 0;rw[he] at f;refine⟨he,⟨f,h.bx,h.devs,h.rem,h.hist,h.old,h.bun,h.ver,λk hk=> ?_⟩⟩;have l:k<(w.Devices++[bYq w K v b w.Devices.length]).length:=hk;show Dv S _ w.aAD.Log K (aF w.aAD.Log) v ((w.Devices++[bYq w K v b w.Devices.length])[k]'l);rw[List.getElem_append];split
 ·rename_i n;exact h.dev k n
 ·rw[List.getElem_singleton];exact⟨⟨[],by show w.aAD.Log=w.aAD.Log++[];simp⟩, .inr ⟨rfl,cL _⟩,λ_=>rfl,(BunIn.nil S _).merge h.bun⟩
def Net.tell (h:Net S t m w K v r b)(k:Int):Net S t m (qX w k) K v r b:=h.upd rfl rfl rfl (h.wi.tell k) h.dev
def Ux (w:AA)(K v:Int)(b:AC)(c:Int):AA:=VK.aCA (VK.aAU w c) K v b c
def bIh (w:AA)(K v:Int)(b:AC)(c:Int):AC:=⟨bM (mX (pV w K v b (aL w c)) (w.Devices.length:Int) false).aAE.Entries b.Entries⟩
theorem Net.add (h:Net S t w.Devices.length w K v r b)(p:KeyD S)(ht:t<=800000)(hr:r.length<=58){c:Int}(d:Bi w c=true):
  Net S (t+3) (w.Devices.length+1) (Ux w K v b c) K (v+1) (r++[gD K (aF w.aAD.Log) v b]) (bIh w K v b c)/\(Ux w K v b c).Devices.length=w.Devices.length/\(Ux w K v b c).Seed=w.Seed/\
  Net S (t+3) (w.Devices.length+1) (fG w c).1 K (v+1) (r++[gD K (aF w.aAD.Log) v b]) (bIh w K v b c)/\(fG w c).1=qX (bNw (Ux w K v b c) K (v+1) (bIh w K v b c)) 2/\(Ux w K v b c).aAD.Log=wE w c/\bN w c=true/\
  (Ux w K v b c).Devices=w.Devices.set c.toNat (aTl (VK.aAU w c) K v b (mX (pV w K v b (aL w c)) (w.Devices.length:Int) false)):=by
 have j:=d;unfold Bi at d;simp only[ac,bu,cr] at d;obtain⟨⟨k1,k2,k3,k4⟩,k5,k6,k7,k8,k9⟩:=d;have hn:w.Devices.length<6:=by omega
 obtain⟨n1,n2,n3,n4⟩:=h.aAU p (by omega) k5 k6 hn;have a:=h.inl k5;obtain⟨hl,e⟩:=kI (mO a);have n5:(VK.aAU w c).Devices.length=w.Devices.length:=by rw[n2,ax]
 have q:c.toNat<(VK.aAU w c).Devices.length:=by omega
 have k:aT (wE w c)=true:=by rw[<-n3];exact n1.wi.log
 obtain⟨s,y,u⟩:=bCs k;have i:aN (VK.aAU w c) c=true:=Z7 (mO a) n5;have f:bN (VK.aAU w c) c=true:=by rw[n1.aDP i,n3,n4,s,mM];rw[h.aDP (mO a),mM] at a;simp[*]
 have l:aL (VK.aAU w c) c=mX (pV w K v b (aL w c)) (w.Devices.length:Int) false:=by
  grind[n2,List.getD,List.getElem?_set_self,aL]
 have hp:=n1.aBN p.ks (by omega) hr f;have n:=n1.aCA p.ks (by omega) hr f;rw[l,n3,u] at n;have z:qY w c=(Ux w K v b c,true):=hp;have u1:(Ux w K v b c).Devices.length=w.Devices.length:=by show((VK.aAU w c).Devices.set _ _).length=_;rw[ax,n5]
 have u2:(Ux w K v b c).Seed=w.Seed:=n4;have u3:(Ux w K v b c).aAD.Log=wE w c:=n3;have u4:(Ux w K v b c).Devices=w.Devices.set c.toNat (aTl (VK.aAU w c) K v b (mX (pV w K v b (aL w c)) (w.Devices.length:Int) false)):=by show(VK.aAU w c).Devices.set c.toNat (aTl (VK.aAU w c) K v b (aL (VK.aAU w c) c))=_;rw[l,n2,eo]
 have n:Net S (t+3) (w.Devices.length+1) (Ux w K v b c) K (v+1) (r++[gD K (aF w.aAD.Log) v b]) (bIh w K v b c):=n;have o:=n;rw[<-u1] at o;obtain⟨s1,s2⟩:=o.app p.ks (by omega) (by omega) (by simp[*]);have x:Ef w c=(bNw (Ux w K v b c) K (v+1) (bIh w K v b c),0):=by
  grind[s1,u2,u1,Ef]
 have eA:(fG w c).1=qX (bNw (Ux w K v b c) K (v+1) (bIh w K v b c)) 2:=by unfold fG;rw[j,ae,x]
 rw[u1] at s2;exact⟨n,u1,u2,by rw[eA];exact s2.tell 2,eA,u3,a,u4⟩
end
end Go.VK
set_option maxRecDepth 100000
namespace Go.VK
open D
def nM (w:AA)(c x:Int):List AD:=w.aAD.Log++[Jp w.aAD.Log 2 (aS (aL w x).Store) (aL w c).Store]
def aJw (w:AA)(c x:Int):Int:=mD (aL w c).Store (nM w c x)
def bK5 {w:AA}{c x:Int}(hl:aT (nM w c x)=true):
  aC (nM w c x)=(aC w.aAD.Log).filter (λd=>d !=aS (aL w x).Store)/\(∀p,dW (nM w c x) p=(dW w.aAD.Log p||aS (aL w x).Store==p))/\aF (nM w c x)=aF w.aAD.Log+1:=by
 obtain⟨_,_,h1⟩:=aTm hl;have hk:(Jp w.aAD.Log 2 (aS (aL w x).Store) (aL w c).Store).Kind=2:=rfl;have hd:(Jp w.aAD.Log 2 (aS (aL w x).Store) (aL w c).Store).Device=aS (aL w x).Store:=rfl;refine⟨?_,λp=> ?_,?_⟩
 all_goals grind[nM,bRt,Ai,Uu,jT]
def bUs {d:AF}{log:List AD}{key:Int}(h:(lD d log key).2=true):(lD d log key).1={d with Log:=log,Key:=key,Epoch:=aF log,Version:=0}:=by
 grind[aT,cZ,decide,aF,bG,lD]
section
variable {S:List (Int×Int)} {t m:Nat} {w:AA} {K v:Int} {r:List AJ} {b:AC}
def Ir (w:AA)(K v:Int)(b:AC)(c x:Int):AF:=mX {pV w K v b (aL w c) with Log:=nM w c x,Key:=aJw w c x,Epoch:=aF (nM w c x),Version:=0} x true
def bNx (w:AA)(K v:Int)(b:AC)(bx:AM)(c x:Int):AA:=
 {w with Devices:=w.Devices.set c.toNat {Ir w K v b c x with Version:=1},Sites:=w.Sites.map (gL x),aAD:=⟨nM w c x,bx,w.aAD.History++[gD (aJw w c x) (aF (nM w c x)) 1 (Ir w K v b c x).aAE]⟩}
theorem bRx {w:AA}{c x:Int}(h:(eX w c x).2=false):eX w c x=(w,false):=by
 grind[aR,bX,bN,oM,mJ,Oo,Jq,eX]
def bK6 {w:AA}{c x:Int}(h:(eX w c x).2=true):((aR w c 0).2==0)=true/\bX w c=false/\(c==x)=false/\bN w x=true/\(mJ w c x).2=true/\(Oo w c x).2=true/\(Jq w c x).2=true/\eX w c x=(qX (Jq w c x).1 4,true):=by
 unfold eX at h ⊢
 grind[aR,bX,bN,oM,mJ,Oo,Jq,Bool.not_eq_true']
def Net.cutAt (h:Net S t m w K v r b)(d:KeyD S)(ht:t<=900000){c:Int}(a:bN w c=true):aR w c 0=({w with Devices:=w.Devices.set c.toNat (pV w K v b (aL w c))},0)/\aL (jQ w c) c=pV w K v b (aL w c):=by
 have hs:=h.aCC d.ks ht a
 grind[List.getD,List.getElem?_set_self,default,aL,hs,jQ,kI,mO]
def Net.aDT (h:Net S t m w K v r b)(d:KeyD S){T:Int}(l:0<=T/\T<=900000)(ht:(t:Int)<=T){c x:Int}(a:bN w c=true)(f:bN w x=true):
  ChgIn S (T+2) {pV w K v b (aL w c) with Log:=nM w c x,Key:=aJw w c x,Epoch:=aF (nM w c x),Version:=0} (Ir w K v b c x):=by
 obtain⟨hl,e⟩:=kI (mO a);obtain⟨j,n⟩:=kI (mO f);have i:=h.dev _ hl;rw[<-e] at i;obtain⟨k,_,_⟩:=yI (mO f);have hd:=h.wi.dlen;have hk:=d.dv x.toNat (by omega);rw[fx k] at hk;exact bRs d.ks (by omega) ((i.bun.merge h.bun).mono (by omega)) hk.1 hk.2 true
def Net.aDS (h:Net S t m w K v r b)(y:KeyD S)(ht:t<=800000)(hr:r.length<=58){c x:Int}(j:bN w c=true)(k2:bX w c=false)(k3:(c==x)=false)(k4:bN w x=true)(k5:(mJ w c x).2=true)(k6:(Oo w c x).2=true):
  ∃bx,eX w c x=(qX (bNx w K v b bx c x) 4,true)/\Net S (t+3) m (qX (bNx w K v b bx c x) 4) (aJw w c x) 1 (r++[gD K (aF w.aAD.Log) v b]) (Ir w K v b c x).aAE:=by
 obtain⟨hl,e⟩:=kI (mO j);obtain⟨z,J⟩:=kI (mO k4);obtain⟨hs,n⟩:=h.cutAt y (by omega) j;have o:jQ w c={w with Devices:=w.Devices.set c.toNat (pV w K v b (aL w c))}:=by unfold jQ;rw[hs]
 obtain⟨bx,A,L,e4,M,N⟩:=bK4 (w:=jQ w c) (b:=c) (k:=2) (p:=aS (aL w x).Store) (key:=mD (aL (jQ w c) c).Store) (l:=nM w c x) (by rw[n,o];rfl) k5;obtain⟨g1,O,g3⟩:=bK5 L;have i:∀q∈aC (nM w c x),q∈aC w.aAD.Log:=(by simp_all);have f:BoxIn (nM w c x) bx (aJw w c x):=by have:=M λq hq=>h.keys q (i q hq);rw[n] at this;exact this
 have D:aJi w c x=nM w c x:=N;have h2:(Oo w c x).1={pV w K v b (aL w c) with Log:=nM w c x,Key:=aJw w c x,Epoch:=aF (nM w c x),Version:=0}:=by have:=bUs k6;unfold Oo;rw[this,D,n];rfl
 have a:=h.aDT y (T:=(t:Int)) (by omega) (cL _) j k4;have Q:=f.eps;have hv:=h.ver;have R:dQ (Ir w K v b c x)=({Ir w K v b c x with Version:=1},gD (aJw w c x) (aF (nM w c x)) 1 (Ir w K v b c x).aAE,true):=by
  have:=bF0 (d:=Ir w K v b c x) y.ks (T:=(t:Int)+2) (by omega) (by rw[a.key];exact f.kok) (by rw[a.ep];grind) (by rw[a.ver];simp) a.bun;have V:(Ir w K v b c x).Key=aJw w c x:=a.key;have W:(Ir w K v b c x).Epoch=aF (nM w c x):=a.ep;have X:(Ir w K v b c x).Version+1=1:=by rw[show(Ir w K v b c x).Version=0 from a.ver];rfl
  refine this.trans ?_;rw[X,<-V,<-W]
 have F:dJ {w.aAD with Log:=nM w c x,Boxes:=bx} (gD (aJw w c x) (aF (nM w c x)) 1 (Ir w K v b c x).aAE)=({w.aAD with Log:=nM w c x,Boxes:=bx,History:=w.aAD.History++[gD (aJw w c x) (aF (nM w c x)) 1 (Ir w K v b c x).aAE]},true):=by
  refine bA4 rfl ?_ λl hl=> ?_
  ·show w.aAD.History.length<60;rw[h.hist];simp;omega
  ·have hl:w.aAD.History.getLast? =some l:=hl;rw[h.hist,List.getLast?_append] at hl
   grind[decide_eq_true,decide,aF,nM,qP,gD]
 have G:Y7 w c x={w with Devices:=w.Devices.set c.toNat (Ir w K v b c x),Sites:=w.Sites.map (gL x),aAD:={w.aAD with Log:=nM w c x,Boxes:=bx}}:=by unfold Y7;rw[h2];have A:mJ w c x=({jQ w c with aAD:={(jQ w c).aAD with Log:=nM w c x,Boxes:=bx}},true):=A;rw[A,o];show(AA.mk _ _ ((w.Devices.set c.toNat _).set c.toNat _) _ _ _ _ _ _ _)=_;rw[eo];rfl
 have h3:Jq w c x=(bNx w K v b bx c x,true):=by
  unfold Jq upF;have:aL (Y7 w c x) c=Ir w K v b c x:=by
   grind[List.getD,List.getElem?_set_self,default,aL]
  rw[this,R,G];show(bif true&&(dJ {w.aAD with Log:=nM w c x,Boxes:=bx} _).2 then(({w with Devices:=(w.Devices.set c.toNat _).set c.toNat _,Sites:=_,aAD:=(dJ {w.aAD with Log:=nM w c x,Boxes:=bx} _).1}:AA),true) else _)=_;rw[F,eo];rfl
 have I:eX w c x=(qX (bNx w K v b bx c x) 4,true):=by
  grind[aR,hs,k2,k3,k4,k5,k6,eX,oM]
 have u:=(h.wi.cut c x).1;rw[I] at u;refine⟨bx,I,u,f,λp hp=>h.devs p (i p hp),λp hp=> ?_,?_,λs hs=> ?_,a.bun.mono (by omega),by omega,?_⟩
 ·have hp:dW (nM w c x) p=true:=hp;rw[O,co] at hp;rcases hp with hp|hp
  ·exact h.rem p hp
  ·rw[<-eq_of_beq hp];have:=(h.aDP (mO k4)).symm.trans k4;rw[mM] at this;rw[J,h.pub z];exact h.devs _ this
 ·show w.aAD.History++[_]=_;rw[h.hist];rfl
 ·have Z:s.Epoch<=aF w.aAD.Log:=by
   rcases bv.1 hs with hs|hs
   ·exact(h.old s hs).low
   ·rw[cp.1 hs];exact cL _
  refine⟨?_,λhe=> ?_⟩
  ·show s.Epoch<=aF (nM w c x);omega
  ·have he:s.Epoch=aF (nM w c x):=he;omega
 ·have:∀k (hk:k<(w.Devices.set c.toNat {Ir w K v b c x with Version:=1}).length),Dv S ((t+3:Nat):Int) (nM w c x) (aJw w c x) (aF (nM w c x)) 1 (w.Devices.set c.toNat {Ir w K v b c x with Version:=1})[k]:=λk hk=>by
   rw[eM];rw[ax] at hk;split
   ·exact⟨⟨[],by show nM w c x=(Ir w K v b c x).Log++[];rw[a.log];simp⟩, .inr ⟨a.ep,cL 1⟩,λ_=>a.key,a.bun.mono (by omega)⟩
   ·have q:=h.dev k hk;obtain⟨r',hr⟩:=q.pre;have H:w.Devices[k].Epoch<aF (nM w c x):=by rcases q.at_ with q|q<;>omega
    exact⟨⟨r'++[Jp w.aAD.Log 2 (aS (aL w x).Store) (aL w c).Store],by unfold nM;rw[<-cm,<-hr]⟩, .inl H,λhe=>by omega,q.bun.mono (by omega)⟩
  exact this
theorem Net.cut (h:Net S t m w K v r b)(d:KeyD S)(ht:t<=800000)(hr:r.length<=58){c x:Int}(a:(eX w c x).2=true):
  ∃bx,eX w c x=(qX (bNx w K v b bx c x) 4,true)/\Net S (t+3) m (qX (bNx w K v b bx c x) 4) (aJw w c x) 1 (r++[gD K (aF w.aAD.Log) v b]) (Ir w K v b c x).aAE:=by
 obtain⟨k1,k2,k3,k4,k5,k6,k7,k8⟩:=bK6 a;exact h.aDS d ht hr (h.inl k1) k2 k3 k4 k5 k6
end
end Go.VK
set_option maxRecDepth 100000
namespace Go.VK
open D
def Ff (w:AA)(d j:Int)(o:AQ):((iA w d j o).1=w/\(iA w d j o).2.2=1)\/(dK w d j=true/\(aAY w j).2.2.2=true/\(iA w d j o).1=aOn w d j o/\(iA w d j o).2.2=2/\((uS w d j o).2.1==0)=false)\/
  (dK w d j=true/\(aAY w j).2.2.2=true/\(iA w d j o).1=qX (aOn w d j o) 1/\(iA w d j o).2.2=0/\((uS w d j o).2.1==0)=true):=by
 grind[dK,aAY,uS,iA]
def wF {w:AA}{d j:Int}(h:dK w d j=true):aP w=true/\aN w d=true/\gP w j=true:=by
 grind[dK]
section
variable {S:List (Int×Int)} {t m:Nat} {w:AA} {K v:Int} {r:List AJ} {b:AC}
def Net.visit (h:Net S t m w K v r b)(d j:Int)(o:AQ):Net S t m (iA w d j o).1 K v r b:=by
 have c:=h.wi.visit d j o;have key:∀u,WIn m u->dK w d j=true->u.Seed=w.Seed->u.aAD=w.aAD->u.Devices=(aOn w d j o).Devices->Net S t m u K v r b:=λu i ht k l f=>by
  obtain⟨hl,e⟩:=kI (wF ht).2.1;have a:=h.dev _ hl;rw[<-e] at a;refine h.upd k l (by rw[f];exact ax ..) i (by rw[f];exact h.set hl ⟨a.pre,a.at_,a.key,a.bun⟩)
 rcases Ff w d j o with⟨e,_⟩|⟨ht,_,e,_,_⟩|⟨ht,_,e,_,_⟩
 ·simp[*]
 ·rw[e] at c ⊢;exact key _ c ht rfl rfl rfl
 ·rw[e] at c ⊢;exact key _ c ht rfl rfl rfl
def Net.same (h:Net S t m w K v r b){u:AA}(c:WIn m u)(d:u.Seed=w.Seed)(e:u.aAD=w.aAD)(a:u.Devices=w.Devices):Net S t m u K v r b:=
 h.upd d e (by rw[a]) c (by rw[a];exact h.dev)
def Net.aCB (h:Net S t m w K v r b)(d:Int):Net S t m (nJ w d).1 K v r b:=by
 have:=(h.wi.aCB d).1;unfold nJ at this ⊢;cases hb:dK w d 0&& !bX w d with
 |false=>exact h
 |true=>rw[hb] at this;exact h.same this rfl rfl rfl
def Net.tick (h:Net S t m w K v r b):Net S t m (sM w).1 K v r b:=by
 have:=h.wi.tick.1;unfold sM at this ⊢;cases hb:aP (rC w) with
 |false=>exact h
 |true=>rw[hb] at this;exact h.same this rfl rfl rfl
def Net.aCR (h:Net S t m w K v r b)(a:List Int)(pin:Int):Net S t m (fE w a pin).1 K v r b:=by
 have:=(h.wi.aCR a pin).1;unfold fE at this ⊢;cases hb:aP w with
 |false=>exact h
 |true=>rw[hb] at this;exact h.same this rfl rfl rfl
def Net.renew (h:Net S t m w K v r b):Net S t m (dX w).1 K v r b:=by
 have:=h.wi.renew.1;unfold dX at this ⊢;cases hb:aP w&&(fC w.Hosts (O8 w)).2 with
 |false=>exact h
 |true=>rw[hb] at this;exact h.same this rfl rfl rfl
def Net.roll (h:Net S t m w K v r b)(i c:Int):Net S t m (fO w i c).1 K v r b:=by
 have:=(h.wi.roll i c).1;unfold fO at this ⊢;cases hb: !aP w||(decide (i<0)||decide (i>=(w.Hosts.length:Int))) with
 |true=>exact h
 |false=>
  rw[hb] at this;cases hc:(gJ (w.Hosts.getD i.toNat default) c).2 with
  |false=>exact h
  |true=>simp only[hc,aa,ae] at this ⊢;exact h.same this rfl rfl rfl
end
def P6 (Q:AU->Prop)(s:AB):Prop:=∀a∈s.Accounts,∀c∈a.Credentials,Q c
def bCt (P:Int->Prop)(s:AB):Prop:=P6 (λc=>P c.Handle->c.Cut=true) s
def aJx (log:List AD)(seed q:Int):Prop:=dW log (mY seed q.toNat)=true
def xK (w:AA):Prop:=∀s∈w.Sites,bCt (aJx w.aAD.Log w.Seed) s
def bUt {a:AI}{x:AY}{z:ByteArray}{q:Int}{d:AU}(h:d∈(iP a x z q).1.Credentials):∃c∈a.Credentials,c.Handle=d.Handle/\(c.Cut=true->d.Cut=true):=by
 unfold iP at h
 grind[bA,decide,aU,gT,id,Bool.or_eq_false_iff,xJ,List.getD,List.getElem?_eq_getElem,Int.toNat_natCast,List.mem_or_eq_of_mem_set,List.getElem_mem,iI]
def bCt.finish {P:Int->Prop}{seed j:Int}{n:Nat}{s:AB}(hs:SiteIn seed j n s)(h:bCt P s)(c t:Int)(x:AY):bCt P (lT s 1 c t x).1:=by
 have k:=hs.find;obtain⟨l,e,hl,hn⟩:=hs.acc;have o:fQ s 0=⟨1,3,l⟩:=by grind[fQ]
 have d:bCt P {s with Accounts:=s.Accounts.set (0:Int).toNat (iP ⟨1,3,l⟩ x s.Name (eY s.Book c)).1}:=λa f y i hp=>by
  have f:a∈s.Accounts.set (0:Int).toNat (iP ⟨1,3,l⟩ x s.Name (eY s.Book c)).1:=f;rw[e] at f;have f:a=(iP ⟨1,3,l⟩ x s.Name (eY s.Book c)).1:=by simp_all
  subst f;obtain⟨p,q,z,u⟩:=bUt i;exact u (h ⟨1,3,l⟩ (by grind) p q (by simp[*]))
 unfold lT;rw[k];cases !bW s||decide ((0:Int)<0) with
 |true=>exact h
 |false=>
  simp only[aa];cases !(pQ s.Book c 1 t).2 with
  |true=>exact h
  |false=>
   simp only[aa];cases !qH (fQ s 0) 3 with
   |true=>exact h
   |false=>
    simp only[aa,o];cases !((iP ⟨1,3,l⟩ x s.Name (eY s.Book c)).2==0) with
    |true=>exact d
    |false=>exact d
def bIi (s:AB)(id c t:Int)(x:AY):(lT s id c t x).1.Logins=bif (lT s id c t x).2.1==0 then s.Logins++[id] else s.Logins:=by
 grind[bW,decide,aD,id,pQ,qH,fQ,iP,eY,lT]
theorem aAb (s:AB)(i n:Int):(mK s i n).1.Accounts=s.Accounts/\(mK s i n).1.Logins=s.Logins/\(mK s i n).1.Name=s.Name:=by unfold mK;cases bW s&&(!decide (aD s i<0)&&(fI s.Book i n).2.2)<;>exact⟨rfl,rfl,rfl⟩
section
variable {m:Nat} {w:AA}
def Zz (h:WIn m w){j:Int}(a:gP w j=true):∃hl:j.toNat<w.Sites.length,eT w j=w.Sites[j.toNat]/\(j=0\/j=1)/\SiteIn w.Seed j m (eT w j):=by
 simp only[gP,ac,ca] at a;have h2:=h.two;have hl:j.toNat<w.Sites.length:=by omega
 have e:eT w j=w.Sites[j.toNat]:=by unfold eT;rw[List.getD,ab hl,ci]
 refine⟨hl,e,by omega,?_⟩;have:=h.site _ hl
 grind
def xK.visit (h:WIn m w)(hc:xK w)(d j:Int)(o:AQ):xK (iA w d j o).1:=by
 have key:dK w d j=true->xK (aOn w d j o):=λht=>by
  obtain⟨hl,e,f,hs⟩:=Zz h (wF ht).2.2;intro s hm;have hm:s∈w.Sites.set j.toNat (uS w d j o).1:=hm;show bCt (aJx w.aAD.Log w.Seed) s;rcases en hm with hm|rfl
  ·exact hc s hm
  ·have hb:=hs.begin 1 w.Now;refine bCt.finish hb (λa c=> ?_) _ _ _;have c:a∈(mK (eT w j) 1 w.Now).1.Accounts:=c;rw[(aAb _ _ _).1] at c;exact hc (eT w j) (by simp[*]) a c
 rcases Ff w d j o with⟨e,_⟩|⟨ht,_,e,_,_⟩|⟨ht,_,e,_,_⟩
 ·simp[*]
 ·simp[*]
 ·rw[e];exact key ht
def xK.same (hc:xK w){u:AA}(d:u.Seed=w.Seed)(f:u.aAD.Log=w.aAD.Log)(h:∀s∈u.Sites,∃s'∈w.Sites,s.Accounts=s'.Accounts):xK u:=λs hs=>by
 obtain⟨s',hm,e⟩:=h s hs;rw[d,f];intro a c;rw[e] at c;exact hc s' hm a c
def xK.keep (hc:xK w){u:AA}(a:u.Seed=w.Seed)(c:u.aAD.Log=w.aAD.Log)(d:u.Sites=w.Sites):xK u:=hc.same a c λs hs=>(by grind)
def xK.tick (hc:xK w):xK (sM w).1:=by
 unfold sM;cases aP (rC w) with
 |false=>exact hc
 |true=>
  refine hc.same rfl rfl λs hs=> ?_
  grind
def bK7 {Q:AU->Prop}{s:AB}(h:P6 Q s){id q p:Int}(hq:Q ⟨q,p,0,false⟩):P6 Q (eF s id q p).1:=by
 unfold eF;cases hb: !bW s||decide (aD s id<0) with
 |true=>exact h
 |false=>
  rw[aa];cases h2:(fJ (s.Accounts.getD (aD s id).toNat default) q p).2 with
  |false=>exact h
  |true=>
   intro a d c hc;rw[bc] at hb;obtain⟨k,hk,e,j⟩:=xJ (l:=s.Accounts) hb.2;have f:aD s id=(k:Int):=e.trans (by simp);have i:s.Accounts.getD (aD s id).toNat default=s.Accounts[k]:=by rw[f,bo,List.getD,ab hk,ci]
   have d:a∈s.Accounts.set (aD s id).toNat (fJ (s.Accounts.getD (aD s id).toNat default) q p).1:=d;rcases en d with d|d
   ·exact h a d c hc
   ·rw[i] at d;have hm:c∈s.Accounts[k].Credentials\/c=⟨q,p,0,false⟩:=by
     grind[bA,aEb,o9,List.mem_singleton,List.mem_of_mem_take,List.mem_of_mem_drop,fJ]
    rcases hm with hm|rfl
    ·exact h _ (cj hk) c hm
    ·exact hq
def aTn {Q:AU->Prop}{st:AK}{q:Int}(hq:∀p,Q ⟨q,p,0,false⟩):∀{l:List AB} {j:Nat},(∀s∈l,P6 Q s)->∀s∈(gK st q j l).1,P6 Q s
 |[],j,_,s,hs=>by simp[gK] at hs
 |x::l,j,h,s,hs=>by
  unfold gK at hs;cases hb:(eF x 1 q (dY st (aA (j:Int)) q)).2&&(gK st q (j+1) l).2 with
  |false=>rw[hb] at hs;simp at hs
  |true=>
   rw[hb,ae] at hs;rcases bg.1 hs with rfl|hs
   ·exact bK7 (h x (cG ..)) (hq _)
   ·exact aTn hq (λs hs=>h s (cD _ hs)) s hs
def bK8 {seed j:Int}{l:List AU}(h:Ox seed j l){k:Nat}(hk:k<l.length):aU ⟨1,3,l⟩ (k:Int)=(k:Int):=by
 have hd:decide (aU ⟨1,3,l⟩ (k:Int)<0)=false:=by rw[cr];intro hn;have:=Ui (p:=λc:AU=>c.Handle==(k:Int)) hn l[k] (cj hk);rw[(h k hk).1,eJ] at this;cases this
 obtain⟨i,hi,a,d⟩:=xJ (l:=l) hd;have:=(h i hi).1
 grind[aU]
def bRy {seed j:Int}{n:Nat}{s:AB}(x:j=0\/j=1)(hn:n<=6)(hs:SiteIn seed j n s){k:Nat}(hk:k<n):∃l l',s.Accounts=[⟨1,3,l⟩]/\(gL (k:Int) s).Accounts=[⟨1,3,l'⟩]/\l'.length=l.length/\Ox seed j l/\Ox seed j l'/\
  (∀c∈l',c.Handle=(k:Int)->c.Cut=true)/\(∀i (h1:i<l.length) (h2:i<l'.length),i≠k->l'[i]=l[i])/\(∀d∈l',∃c∈l,c.Handle=d.Handle/\c.Counter=d.Counter/\(c.Cut=true->d.Cut=true))/\(gL (k:Int) s).Logins=s.Logins/\(gL (k:Int) s).Book=s.Book:=by
 have A:=hs.find;obtain⟨l,e,hl,f⟩:=hs.acc;subst f;have D:fQ s 0=⟨1,3,l⟩:=by grind[fQ]
 have o:=bK8 hl hk;have p:gT ⟨1,3,l⟩ (k:Int)=l[k]:=by grind[List.getD,List.getElem?_eq_getElem,gT]
 have q:=aS8 (m:=3) x hl hn (by grind);have y:gL (k:Int) s={s with Accounts:=[(nU ⟨1,3,l⟩ (k:Int)).1]}:=by unfold gL;simp[*]
 have z:∀{l':List AU},Ox seed j l'->∀c∈l',c.Handle=(k:Int)->∃h:k<l'.length,c=l'[k]:=λa c hc F=>by
  obtain⟨i,hi,e⟩:=da.1 hc;have:=(a i hi).1
  grind
 rw[y];unfold nU;rw[q,o,p,ao (show ¬(k:Int)<0 by omega)];cases u:l[k].Cut with
 |true=>
  grind
 |false=>
  have a:Ox seed j (l.set k {l[k] with Cut:=true}):=hl.set hk rfl rfl (hl k hk).2.2
  grind
end
end Go.VK
set_option maxRecDepth 100000
namespace Go.VK
open D
def aOq:List (Int×Int):=[(1941999745,0),(1941999745,1),(1941999745,2),(1941999745,3),(1941999745,4),(1941999745,5),(1464438180,0),(1464438180,1),(1464438180,2),(1464438180,3),(1464438180,4),(1464438180,5)]
def bUu {x:List (Int×Int)}(h:x.length<=8)(a:∀p∈x,(0<=p.1/\p.1<=2147483646)/\(0<=p.2/\p.2<=1000000)):KeyD (aOq++x):=by
 refine⟨⟨by rw[ay];show 12+x.length<=20;omega,λp hp=> ?_⟩,λq hq=> ?_⟩
 ·rcases bv.1 hp with hp|hp
  ·have:∀p∈aOq,(0<=p.1/\p.1<=2147483646)/\(0<=p.2/\p.2<=1000000):=by decide
   simp[*]
  simp[*]
 simp_all[bZ7,bZ8,aOq,List.mem_append_left];omega
def bRz {x:List (Int×Int)}{n:Nat}(h:n=1\/n=2\/n=3):BunIn (aOq++x) 3 (nwB n).Entries:=by
 refine⟨(aSq (bIe h).1).2,λe he=>List.mem_append_left _ ?_,λe he=> ?_⟩
 ·rcases h with rfl|rfl|rfl<;>revert e<;>decide
 ·rcases h with rfl|rfl|rfl<;>revert e<;>decide
def bUv {x:List (Int×Int)}{n k t pin seed:Int}(h:Jt n k t pin seed=true):Net (aOq++x) 3 (bL n k t pin seed).Devices.length (bL n k t pin seed) (bR seed 0) 1 [] (nwB n.toNat):=by
 obtain⟨a,c,l⟩:=aNz h;have hn:n.toNat=1\/n.toNat=2\/n.toNat=3:=by unfold Jt at h;simp only[ac] at h;have:=gU h.1;omega
 obtain⟨h1,h2,o,d,q⟩:=sN seed n.toNat (by omega);have f:(bL n k t pin seed).aAD=⟨aV seed n.toNat,iZ seed n.toNat,[gD (bR seed 0) 0 1 (nwB n.toNat)]⟩:=by
  grind[bAy,bL]
 have s:(bL n k t pin seed).Devices=(List.range n.toNat).map λk=>Uw seed n.toNat k 1 (nwB n.toNat):=by
  grind[aN1,bL]
 rw[c];refine⟨a,by grind[bFw],λp hp=> ?_,λp hp=> ?_,?_,(by simp),bRz hn,by decide,λi hi=> ?_⟩
 ·grind
 ·simp_all
 ·simp[*]
 ·rw[f];show Dv _ _ (aV seed n.toNat) _ (aF (aV seed n.toNat)) 1 (bL n k t pin seed).Devices[i];have j:i<((List.range n.toNat).map λk=>Uw seed n.toNat k 1 (nwB n.toNat)).length:=by simp_all
  have e:(bL n k t pin seed).Devices[i]=Uw seed n.toNat i 1 (nwB n.toNat):=by simp[*]
  rw[e,d];exact⟨⟨[],by show _=aV seed n.toNat++[];simp⟩, .inr ⟨rfl,cL _⟩,λ_=>rfl,bRz hn⟩
def bUw {n k t pin seed:Int}(h:Jt n k t pin seed=true):xK (bL n k t pin seed):=λs hs a e c hc hp=>by
 have hn:n.toNat=1\/n.toNat=2\/n.toNat=3:=by unfold Jt at h;simp only[ac] at h;have:=gU h.1;omega
 have d:(bL n k t pin seed).aAD.Log=aV seed n.toNat:=by unfold bL;rw[h];show(jU seed n.toNat).Log=_;rw[bAy hn]
 unfold aJx at hp;rw[d,(sN seed n.toNat (by omega)).rem] at hp;cases hp
section
variable {S:List (Int×Int)} {t m:Nat} {w:AA} {K v:Int} {r:List AJ} {b:AC}
theorem bK9 {w:AA}{c:Int}(h:(fG w c).2=false):fG w c=(w,false):=by
 grind[Bi,fG]
def aTo {w:AA}{c:Int}(h:(fG w c).2=true):Bi w c=true:=by
 grind[Bi,fG]
theorem xK.add (h:Net S t w.Devices.length w K v r b)(f:KeyD S)(ht:t<=800000)(hr:r.length<=58)(hc:xK w)(a:Int):xK (fG w a).1:=by
 cases hk:(fG w a).2 with
 |false=>grind[bK9]
 |true=>
  obtain⟨n1,u1,u2,n2,eA,u3,i,u4⟩:=h.add f ht hr (aTo hk);have d:aT (wE w a)=true:=by rw[<-u3];exact n1.wi.log
  obtain⟨p,j,u⟩:=bCs d;have hd:=h.wi.dlen;have l:=n1.wi.mle;have eP:aJx (wE w a) w.Seed=aJx w.aAD.Log w.Seed:=by funext q;unfold aJx;rw[j]
  have n:¬aJx (wE w a) w.Seed (w.Devices.length:Int):=λhq=>by
   rw[eP] at hq;obtain⟨k,hk,e⟩:=h.rem _ hq
   grind[aRb,Int.toNat_natCast]
  rw[eA];intro s hs;show bCt (aJx (Ux w K v b a).aAD.Log (Ux w K v b a).Seed) s;rw[u3,u2];have hs:s∈(Y6 w a).1:=hs;have es:(add1 w a).1.Sites=w.Sites:=by obtain⟨x,y,z,o,_⟩:=wC (aR w a 0).1 a 1 (aS (aO w.Seed (w.Devices.length:Int))) (λ_=>(aL (aR w a 0).1 a).Key);exact o.trans (jC w a 0).2.2.2.1
  unfold Y6 at hs;rw[es] at hs;exact aTn (Q:=λc=>aJx (wE w a) w.Seed c.Handle->c.Cut=true) (by simp[*]) (λs hs=>by rw[eP];exact hc s hs) s hs
theorem xK.cut (h:Net S t m w K v r b)(hm:m=w.Devices.length)(z:KeyD S)(ht:t<=800000)(hr:r.length<=58)(hc:xK w)(c x:Int):xK (eX w c x).1:=by
 cases hk:(eX w c x).2 with
 |false=>grind[bRx]
 |true=>
  obtain⟨bx,e,n1⟩:=h.cut z ht hr hk;obtain⟨k1,k2,k3,k4,_⟩:=bK6 hk;obtain⟨p,A⟩:=kI (mO k4);obtain⟨D,_,_⟩:=yI (mO k4);have n:aT (nM w c x)=true:=n1.wi.log;obtain⟨N,F,O⟩:=bK5 n;have hd:=h.wi.dlen;have u:=h.wi.mle;rw[e];intro s hs;have hs:s∈w.Sites.map (gL x):=hs;obtain⟨s',o,rfl⟩:=cn.1 hs;obtain⟨j,G,es⟩:=da.1 o;have h2:=h.wi.two;have f:=h.wi.site j G;rw[es] at f;obtain⟨l,l',q1,q2,q3,q4,q5,q6,q7,q8,_⟩:=bRy (j:=(j:Int)) (by omega) h.wi.mle f (k:=x.toNat) (by omega);rw[fx D] at q2 q6;show bCt (aJx (nM w c x) w.Seed) _;intro a q y d hp;rw[q2] at q;have q:a=⟨1,3,l'⟩:=by simp_all
  subst q;have d:y∈l':=d;unfold aJx at hp;rw[F,co] at hp;rcases hp with hp|hp
  ·obtain⟨H,I,Q,_,J⟩:=q8 y d;exact J (hc s' o ⟨1,3,l⟩ (by simp[*]) H I (by grind[aJx]))
  ·have hp:=eq_of_beq hp;rw[A,h.pub p] at hp;obtain⟨i,hi,L⟩:=da.1 d;have M:=(q5 i hi).1;rw[L] at M;have hl:=f.acc
   grind[q6,aRb,Int.toNat_natCast,q1]
end
def bIj (M:Int)(k:A0):Prop:=k.Guesses<=k.Limit/\kQ k<=M
def Pd (h:AG):Prop:=bIj h.Monotonic h.State/\∀k∈h.Saved,bIj h.Monotonic k
def bIj.mono {M N:Int}{k:A0}(h:bIj M k)(hm:M<=N):bIj N k:=⟨h.1,fg h.2 hm⟩
def aJy {k:A0}(h:kK k=true):(0<=k.Epoch/\k.Epoch<=1000000)/\(1<=k.Limit/\k.Limit<=10)/\(0<=k.Guesses/\k.Guesses<=k.Limit)/\kQ k=k.Epoch*1000+k.Guesses:=by unfold kK at h;simp only[ac] at h;have h1:=gU h.2.1;have h2:=gU h.2.2.1;have a:=gU h.2.2.2;refine⟨h1,h2,a,?_⟩;unfold kQ;rw[aI (show-9223372036854775808<=k.Epoch*1000 by omega) (by omega),aI (by omega) (by omega)]
def Pd.ask {h:AG}(c:Pd h)(e:Int):Pd (oO h e).1:=by
 unfold oO;cases hb:decide (kQ h.State<h.Monotonic)|| !(yS h.State e).2.2 with
 |true=>exact c
 |false=>
  rw[bc,cr,cH] at hb;have hk:yS h.State e=({h.State with Guesses:=h.State.Guesses+1},Zr h.State.aAQ e,true)/\kK h.State=true/\h.State.Guesses≠h.State.Limit:=by
   have d:=hb.2;unfold yS at d ⊢;cases hq:kK h.State&&(!(h.State.Guesses==h.State.Limit)&&(nW e&& !(e==1))) with
   |false=>simp_all
   |true=>simp only[ac,bu,bn] at hq;obtain⟨i,j,l,_⟩:=aJy hq.1;refine⟨?_,hq.1,hq.2.1⟩;rw[ae,aI (by omega) (by omega)]
  obtain⟨k1,k2,k3⟩:=hk;obtain⟨i,j,l,n⟩:=aJy k2;have hm:kQ {h.State with Guesses:=h.State.Guesses+1}=h.State.Epoch*1000+h.State.Guesses+1:=by
   grind[aI,kQ]
  rw[aa,k1,hm];have f:=c.1;refine⟨⟨by show h.State.Guesses+1<=h.State.Limit;omega,by rw[hm];exact cL _⟩,λk hk=> ?_⟩;have hk:k∈bQz (h.Saved++[h.State]):=hk;have hk:k∈h.Saved++[h.State]:=by
   grind[decide,List.mem_of_mem_drop,bQz]
  have a:h.Monotonic<=h.State.Epoch*1000+h.State.Guesses+1:=by omega
  rcases bv.1 hk with hk|hk
  ·exact(c.2 k hk).mono a
  ·rw[cp.1 hk];exact f.mono a
def iM (l:List AG):Prop:=∀h∈l,Pd h
def bF2 {l:List AG}(h:iM l){i:Nat}{x:AG}(c:i<l.length->Pd x):iM (l.set i x):=λy a=>by
 by_cases hi:i<l.length
 ·rcases en a with a|rfl
  ·exact h y a
  simp[*]
 ·rw[ke (by omega)] at a;exact h y a
def iM.ask {e:Int}:∀(a:List Int) (s:List AG×List Int×List Int),iM s.1->iM (a.foldl (bCm e) s).1
 |[],s,h=>h
 |c::a,s,h=>by
  rw[db];refine iM.ask a _ (bF2 h λhi=> ?_);have:s.1.getD c.toNat default=s.1[c.toNat]:=by rw[List.getD,ab hi,ci]
  rw[this];exact(h _ (cj hi)).ask e
def iM.aEB {hs:List AG}(h:iM hs)(v:A3)(a:List Int)(pin b:Int):iM (yT v hs a pin b).1:=by
 unfold yT;cases !aS5 hs a pin b with
 |true=>exact h
 |false=>have:iM (iQ v hs a pin b).1:=iM.ask a _ h;simp only[aa];cases decide ((a.length:Int)<v.Threshold)||(decide ((iQ v hs a pin b).2.2.length<a.length)|| !(pR (iQ v hs a pin b).2.1 (iQ v hs a pin b).2.2).2)<;>exact this
def Pd.reset {h:AG}(a:Pd h){s:AS}(hb:jV h s=false):Pd (rO h s):=by
 unfold jV at hb;simp only[bc,cH,cr,bn] at hb;obtain⟨b1,c,d,_⟩:=hb;obtain⟨e,f,i,j⟩:=aJy b1;have l:IntKind.i64.wrap (h.State.Epoch+1)=h.State.Epoch+1:=(by grind[aI]);have hm:kQ ⟨s,IntKind.i64.wrap (h.State.Epoch+1),0,h.State.Limit⟩=(h.State.Epoch+1)*1000:=by
  grind[aI,kQ]
 unfold rO;refine⟨⟨by show(0:Int)<=h.State.Limit;omega,cL _⟩,λk hk=> ?_⟩
 show bIj (kQ ⟨s,IntKind.i64.wrap (h.State.Epoch+1),0,h.State.Limit⟩) k;rw[hm];refine(a.2 k hk).mono ?_;omega
def iM.renew {hs:List AG}(h:iM hs)(c:List Int):iM (fC hs c).1:=by
 unfold fC bCh;generalize lN (hs.map λh=>h.State.aAQ) c=e;cases hb:((e.length:Int)==0)||(hs.zip e).any (λp=>jV p.1 p.2) with
 |true=>exact h
 |false=>rw[bc] at hb;intro y d;have d:y∈List.zipWith rO hs e:=d;rw[<-List.map_uncurry_zip_eq_zipWith] at d;obtain⟨⟨a,s⟩,hp,rfl⟩:=cn.1 d;have f:=gu.1 hb.2 (a,s) hp;exact(h a (List.of_mem_zip hp).1).reset (by simp[*])
def iM.roll {hs:List AG}(h:iM hs){i:Nat}(b:Int):iM (hs.set i (gJ (hs.getD i default) b).1):=by
 refine bF2 h λhi=> ?_;have:hs.getD i default=hs[i]:=by rw[List.getD,ab hi,ci]
 rw[this];have a:=h _ (cj hi);unfold gJ;cases hb:decide (b<0)||decide (b>=(hs[i].Saved.length:Int)) with
 |true=>exact a
 |false=>
  rw[bc,cr,cr] at hb;have hl:hs[i].Saved.length-1-b.toNat<hs[i].Saved.length:=by omega
  refine⟨?_,a.2⟩;show bIj _ (hs[i].Saved.getD (hs[i].Saved.length-1-b.toNat) default);rw[List.getD,ab hl,ci];exact a.2 _ (cj hl)
def iM.within {w:AA}(h:iM w.Hosts):gX w=true:=by unfold gX;rw[bu,gu];intro x a;obtain⟨h1,h2⟩:=(h x a).1;simp[*]
theorem bNy {k:A0}(h:k.Guesses<=k.Limit):Pd (Ez k):=⟨⟨h,cL _⟩,λk hk=>by simp[Ez] at hk⟩
end Go.VK
set_option maxRecDepth 100000
namespace Go.VK
open D
structure All (S:List (Int×Int)) (t:Nat) (w:AA):Prop where
 net:∃K v r b,Net S (3+3*t) w.Devices.length w K v r b/\r.length<=t
 cut:xK w
 hosts:iM w.Hosts
def All.wi {S:List (Int×Int)}{t:Nat}{w:AA}(h:All S t w):WIn w.Devices.length w:=let ⟨_,_,_,_,n,_⟩:=h.net;n.wi
def All.mono {S:List (Int×Int)}{t u:Nat}{w:AA}(h:All S t w)(a:t<=u):All S u w:=
 let ⟨K,v,r,b,n,hr⟩:=h.net;⟨⟨K,v,r,b,n.mono (by omega),by omega⟩,h.cut,h.hosts⟩
def bNz {n k t pin seed:Int}:iM (bL n k t pin seed).Hosts:=by
 unfold bL;cases Jt n k t pin seed with
 |false=>intro h a;grind[bKp]
 |true=>
  intro h a
  grind[aQ7,aW,yF,Y8,Ez,bNy,aEf,Oq]
def bUx {x:List (Int×Int)}{n k t pin seed:Int}(h:Jt n k t pin seed=true):All (aOq++x) 0 (bL n k t pin seed):=
 ⟨⟨_,_,_,_,bUv (x:=x) h,aj _⟩,bUw h,bNz⟩
section
variable {S:List (Int×Int)} {t:Nat} {w:AA}
def All.of (h:All S t w){u:AA}{t':Nat}(ht:t<=t')(hn:∀K v r b,Net S (3+3*t) w.Devices.length w K v r b->Net S (3+3*t') w.Devices.length u K v r b)(hl:u.Devices.length=w.Devices.length)(hc:xK u)(a:iM u.Hosts):All S t' u:=
 let ⟨K,v,r,b,n,hr⟩:=h.net;⟨(by grind),hc,a⟩
def All.visit (h:All S t w)(d j:Int)(o:AQ):All S t (iA w d j o).1:=
 h.of (aj _) (λK v r b n=>n.visit d j o) (aTc w d j o).2 (h.cut.visit h.wi d j o) (by rw[aN2];exact h.hosts)
theorem All.aAY (h:All S t w)(q:Bool)(d j:Int)(o:AQ):All S t (bif q then oN w d j o else(w,1)).1:=by
 cases q with
 |true=>exact h.visit d j o
 |false=>exact h
def All.aCB (h:All S t w)(d:Int):All S t (nJ w d).1:=
 h.of (aj _) (λK v r b n=>n.aCB d) (h.wi.aCB d).2.2 (by
  unfold nJ;cases dK w d 0&& !bX w d with
  |false=>exact h.cut
  |true=>exact h.cut.keep rfl rfl rfl) (by rw[aN4];exact h.hosts)
def All.tick (h:All S t w):All S t (sM w).1:=
 h.of (aj _) (λK v r b n=>n.tick) h.wi.tick.2.2 h.cut.tick (by rw[aTj];exact h.hosts)
def All.sync (h:All S t w)(a:KeyD S)(ht:t<=58)(d c:Int):All S t (aR w d c).1:=
 h.of (aj _) (λK v r b n=>n.sync a.ks (by omega) d c) (jC w d c).2.2.1 (h.cut.keep (jC w d c).1 (by rw[(jC w d c).2.2.2.2.2]) (jC w d c).2.2.2.1) (by rw[wD];exact h.hosts)
def aAc (w:AA)(d:Int)(n:ByteArray)(a:Int)(f:Bool):(sI w d n a f).1.aAD=w.aAD/\(sI w d n a f).1.Sites=w.Sites:=by
 grind[aP,aN,dI,aL,sI]
def All.aDH (h:All S t w)(c:KeyD S)(ht:t<=58)(d:Int){n:ByteArray}{a:Int}(hk:(bB n,a)∈S)(f:Bool):All S (t+1) (sI w d n a f).1:=
 h.of (ee _) (λK v r b q=>(q.aDH c.ks (by omega) d hk f).mono (by omega)) (aJt w d n a f).2 (h.cut.keep (aJt w d n a f).1 (by rw[(aAc w d n a f).1]) (aAc w d n a f).2) (by rw[aTi];exact h.hosts)
def All.push (h:All S t w)(a:KeyD S)(ht:t<=58)(d:Int):All S (t+1) (jS w d).1:=by
 obtain⟨K,v,r,b,n,hr⟩:=h.net;obtain⟨c,k,e,f,l,i⟩:=Au w d;have hc:xK (jS w d).1:=h.cut.keep c i f;have j:iM (jS w d).1.Hosts:=by rw[aAa];exact h.hosts
 cases hl:bN w d with
 |false=>rw[n.aCQ hl];exact h.mono (by omega)
 |true=>
  have:=n.aCA a.ks (by omega) (by omega) hl;refine⟨⟨K,v+1,r++[gD K (aF w.aAD.Log) v b],⟨bM (aL w d).aAE.Entries b.Entries⟩,?_,by simp;omega⟩,hc,j⟩
  ·rw[e,n.aBN a.ks (by omega) (by omega) hl];exact this.mono (by omega)
theorem All.add (h:All S t w)(a:KeyD S)(ht:t<=58)(d:Int):All S (t+1) (fG w d).1:=by
 obtain⟨K,v,r,b,n,hr⟩:=h.net;cases hk:(fG w d).2 with
 |false=>rw[bK9 hk];exact h.mono (by omega)
 |true=>
  obtain⟨n1,u1,u2,n2,eA,u3,c,u4⟩:=n.add a (by omega) (by omega) (aTo hk);refine⟨⟨K,v+1,r++[gD K (aF w.aAD.Log) v b],bIh w K v b d,?_,by simp;omega⟩,xK.add n a (by omega) (by omega) h.cut d,by rw[bAz];exact h.hosts⟩
  ·have hl:(fG w d).1.Devices.length=w.Devices.length+1:=by rw[eA];show((Ux w K v b d).Devices++[_]).length=_;simp[*]
   grind
def All.aDZ (h:All S t w)(a:KeyD S)(ht:t<=58)(d x:Int):All S (t+1) (eX w d x).1:=by
 obtain⟨K,v,r,b,n,hr⟩:=h.net;cases hk:(eX w d x).2 with
 |false=>rw[bRx hk];exact h.mono (by omega)
 |true=>obtain⟨bx,e,n1⟩:=n.cut a (by omega) (by omega) hk;refine⟨⟨aJw w d x,1,r++[gD K (aF w.aAD.Log) v b],(Ir w K v b d x).aAE,?_,by simp;omega⟩,xK.cut n rfl a (by omega) (by omega) h.cut d x,by rw[bA0];exact h.hosts⟩;rw[(h.wi.cut d x).2.2,e];assumption
def All.aCO (h:All S t w)(g:Int):All S t (Ah w g).1:=by
 have hk:=h.wi.aCO g;refine h.of (aj _) (λK v r b n=>n.aCR (wB w) g) hk.2.2 ?_ ?_
 ·show xK (fE w (wB w) g).1;unfold fE;cases aP w with
  |false=>exact h.cut
  |true=>exact h.cut.keep rfl rfl rfl
 ·show iM (fE w (wB w) g).1.Hosts;unfold fE;cases aP w with
  |false=>exact h.hosts
  |true=>exact h.hosts.aEB _ _ _ _
def All.renew (h:All S t w):All S t (dX w).1:=by
 refine h.of (aj _) (λK v r b n=>n.renew) h.wi.renew.2.2 ?_ ?_<;>unfold dX<;>cases aP w&&(fC w.Hosts (O8 w)).2
 ·exact h.cut
 ·exact h.cut.keep rfl rfl rfl
 ·exact h.hosts
 ·exact h.hosts.renew _
def All.roll (h:All S t w)(i c:Int):All S t (fO w i c).1:=by
 refine h.of (aj _) (λK v r b n=>n.roll i c) (h.wi.roll i c).2.2 ?_ ?_<;>unfold fO<;>cases !aP w||(decide (i<0)||decide (i>=(w.Hosts.length:Int)))
 ·simp only[aa];cases(gJ (w.Hosts.getD i.toNat default) c).2
  ·exact h.cut
  ·exact h.cut.keep rfl rfl rfl
 ·exact h.cut
 ·simp only[aa];cases(gJ (w.Hosts.getD i.toNat default) c).2
  ·exact h.hosts
  ·exact h.hosts.roll c
 ·exact h.hosts
def All.apply (h:All S t w)(a:KeyD S)(ht:t<=58)(k d o v:Int)(f:Bool)(hk:k=8->(bB aJq,v)∈S):All S (t+1) (yH w k d o v f).1:=by
 unfold yH;rw[h.wi.ok];simp only[av,aa];cases k==1 with
 |true=>exact h.tick.mono (by omega)
 |false=>
 simp only[aa];cases k==2 with
 |true=>exact(h.aAY _ _ _ _).mono (by omega)
 |false=>
 simp only[aa];cases k==3 with
 |true=>exact(h.aAY _ _ _ _).mono (by omega)
 |false=>
 simp only[aa];cases k==4 with
 |true=>exact(h.aCB d).mono (by omega)
 |false=>
 simp only[aa];cases k==5 with
 |true=>exact(h.aAY _ _ _ _).mono (by omega)
 |false=>
 simp only[aa];cases k==6 with
 |true=>exact h.add a ht d
 |false=>
 simp only[aa];cases k==7 with
 |true=>exact h.aDZ a ht d o
 |false=>
 simp only[aa];cases c:k==8 with
 |true=>exact h.aDH a ht d (hk (eq_of_beq c)) f
 |false=>
 simp only[aa];cases k==9 with
 |true=>exact h.push a ht d
 |false=>
 simp only[aa];cases k==10 with
 |true=>exact(h.sync a (by omega) d v).mono (by omega)
 |false=>
 simp only[aa];cases k==11 with
 |true=>exact(h.aCO v).mono (by omega)
 |false=>
 simp only[aa];cases k==12 with
 |true=>exact h.renew.mono (by omega)
 |false=>
 simp only[aa];cases k==13 with
 |true=>exact(h.roll o v).mono (by omega)
 |false=>exact h.mono (by omega)
def All.final (h:All S t w){d:Int}(hd:aN w d=true):Bf w d=true->bN w d=false/\(w.Sites.take 2).any (Zl d)=false:=λhc=>by
 obtain⟨K,v,r,b,n,hr⟩:=h.net;obtain⟨hl,e⟩:=kI hd;obtain⟨d0,_,_⟩:=yI hd;have hr:dW w.aAD.Log (mY w.Seed d.toNat)=true:=by unfold Bf at hc;rw[hd,e,n.pub hl] at hc;exact hc
 refine⟨?_,?_⟩
 ·rw[n.aDP hd,gh,Ne,mM];exact bUq (.inr n.wi.log) _ hr
 ·rw[gu];intro s hs hb;have hs:=gm hs;obtain⟨j,i,es⟩:=da.1 hs;have a:=n.wi.site j i;rw[es] at a;obtain⟨l,f,k,o⟩:=a.acc;unfold Zl at hb;rw[a.find,f,ac] at hb;obtain⟨c,hc1,hc2⟩:=eN.1 hb.2;rw[ac,bu] at hc2;have hc1:c∈l:=hc1;have:=h.cut s hs ⟨1,3,l⟩ (by rw[f];simp) c hc1 (by unfold aJx;rw[eq_of_beq hc2.1];exact hr);simp_all
def All.aCE (h:All S t w){d:Int}(hd:aN w d=true):qD w d=true:=by
 unfold qD;cases hc:Bf w d with
 |false=>rfl
 |true=>obtain⟨h1,h2⟩:=h.final hd hc;simp[*]
def All.aBT (h:All S t w){d:Int}(hd:aN w d=true):pJ w d=true:=by
 obtain⟨K,v,r,b,n,hr⟩:=h.net;obtain⟨hl,e⟩:=kI hd;unfold pJ;rw[hd];cases hi:bN w d with
 |false=>rfl
 |true=>
  have a:=hi;unfold bN at hi;rw[hd,cq,mM] at hi;rw[Pb n.bx hi];cases he:(aL w d).Epoch !=aF w.aAD.Log with
  |true=>rfl
  |false=>rw[bne_eq_false_iff_eq] at he;have:=(n.dev _ hl).key (by rw[<-e];exact he);simp_all
def bCu {k:Nat}(h:k<w.Devices.length):aN w (k:Int)=true:=by
 grind[decide_eq_true,aN]
def All.aDR (h:All S t w):X8 w=true:=by
 unfold X8;rw[h.wi.ok,h.hosts.within,cq,cq,bu];exact Ov λk hk=>by
  rw[ck];unfold aSn;rw[h.aCE (bCu hk),h.aBT (bCu hk)];rfl
end
end Go.VK
set_option maxRecDepth 100000
namespace Go.VK
open D
section
variable {S:List (Int×Int)} {t m:Nat} {w:AA} {K v:Int} {r:List AJ} {b:AC}
structure Settled (S:List (Int×Int)) (t:Nat) (w:AA) (K:Int) (r:List AJ) (b:AC) (y:AA) (v':Int) (r':List AJ) (b':AC):Prop where
 eq:bUc w=(y,true)
 net:Net S (t+w.Devices.length) w.Devices.length y K v' r' b'
 rlen:r'.length<=r.length+w.Devices.length
 log:y.aAD.Log=w.aAD.Log
 seed:y.Seed=w.Seed
 stolen:y.Stolen=w.Stolen
 len:y.Devices.length=w.Devices.length
 sites:y.Sites=w.Sites
 hosts:y.Hosts=w.Hosts
 reach:Bg y=Bg w
 own:∀d∈Bg w,(aL y d).aAE=b'/\(aL y d).Epoch=aF w.aAD.Log/\(aL y d).Version=v'/\(aL y d).Key=K
 other:∀d,aN w d=true->(aL y d).Store=(aL w d).Store/\(d∉Bg w->aL y d=aL w d)
 sub:∀d∈Bg w,Sub (aL w d).aAE.Entries b'.Entries
 last:Sub b.Entries b'.Entries
 mem:∀e∈b'.Entries,e∈b.Entries\/∃d∈Bg w,e∈(aL w d).aAE.Entries
end
end Go.VK
set_option maxRecDepth 100000
namespace Go.VK
open D
theorem bF3 (s:AK)(o:AQ)(z:ByteArray)(i c:Int)(p:Bool):jJ s o z i c p=(s,aXf,false)\/(mE o z=true/\lS s=true/\s.Counter<1000000/\jJ s o z i c p=({s with Counter:=s.Counter+1},{Rl s o z i c p with Counter:=s.Counter+1,Signature:=sF (cB s z i) (bP (Rl s o z i c p)++[s.Counter+1])},true)):=by
 unfold jJ;cases hm:mE o z with
 |false=>simp
 |true=>
  unfold jI;cases hs:lS s&& !(s.Counter==1000000) with
  |false=>simp
  |true=>
   simp only[ac,bu,bn] at hs;have hc:=hs.1;unfold lS at hc;simp only[ac] at hc;have hr:=gU hc.2.2.2
   grind[bQw,aI]
def bUy {s:AK}{o:AQ}{z:ByteArray}{i c:Int}{p:Bool}(h1:mE o z=true)(h2:lS s=true)(a:s.Counter<1000000):jJ s o z i c p=({s with Counter:=s.Counter+1},{Rl s o z i c p with Counter:=s.Counter+1,Signature:=sF (cB s z i) (bP (Rl s o z i c p)++[s.Counter+1])},true):=by
 grind[jJ,jI,beq_eq_false_iff_ne,bF3]
def cAb {seed:Int}{k:Nat}{s:AK}(h:StIn seed k s)(hk:k<6):lS s=true:=by unfold lS;rw[h.ven,h.ser,h.key,jA (show(0:Int)<=(k:Int) by omega) (by omega),jA h.cnt.1 h.cnt.2];show(true&&(true&&(bG (aW seed [277,(k:Int)])&&true)))=true;rw[iF];rfl
theorem bR0 (pub:Int){z:ByteArray}(a:0<z.size)(c n:Int):iI pub aXf z c n=1:=by
 unfold iI;have:((aXf.Site.toList==z.toList):Bool)=false:=by rw[bn];intro e;have:=congrArg List.length e;simp only[ByteArray.toList_eq] at this;have h1:(aXf.Site.data.toList).length=0:=rfl;simp_all
 simp[*]
theorem bR1 {j:Int}(a:j=0\/j=1):0<(aA j).size:=by rcases a with rfl|rfl<;>decide
def bR2 {a:AI}{x:AY}{z:ByteArray}{c:Int}:((iP a x z c).1=a/\(iP a x z c).2≠0)\/(∃k,∃h:k<a.Credentials.length,aU a x.Handle=(k:Int)/\a.Credentials[k].Handle=x.Handle/\a.Credentials[k].Cut=false/\(iP a x z c).2=iI a.Credentials[k].Public x z c a.Credentials[k].Counter/\
  (iP a x z c).1={a with Credentials:=bif iI a.Credentials[k].Public x z c a.Credentials[k].Counter==0 then a.Credentials.set k {a.Credentials[k] with Counter:=x.Counter} else bif iI a.Credentials[k].Public x z c a.Credentials[k].Counter==4 then a.Credentials.set k {a.Credentials[k] with Cut:=true} else a.Credentials}):=by
 grind[bA,decide,aU,gT,Bool.or_eq_false_iff,xJ,List.getD,List.getElem?_eq_getElem,Int.toNat_natCast,iP]
def bIk {b:AP}(h:BookIn b)(hn:b.Next<1000000){now:Int}(ht:0<=now/\now<=999900):fI b 1 now=((fI b 1 now).1,⟨b.Next,1,now+5⟩,true)/\(fI b 1 now).1.Next=b.Next+1/\(pQ (fI b 1 now).1 b.Next 1 now).2=true:=by
 have o:=Zw h.ok;have hq:=(bFn h 1 now).1;have q:IntKind.i64.wrap (now+5)=now+5:=(by grind[aI]);have s:0<=b.Next:=by have:=h.ok;unfold eU at this;simp only[ac] at this;exact(gU this.1.1).1
 have f:fI b 1 now=(⟨b.Seed,b.Next+1,(bif decide ((b.Open.length:Int)>=16) then b.Open.drop 1 else b.Open)++[⟨b.Next,1,now+5⟩]⟩,⟨b.Next,1,now+5⟩,true):=by unfold fI aEd;rw[h.ok,bn.2 (show b.Next≠1000000 by omega),jA (show(0:Int)<=1 by decide) (by decide),jA ht.1 (by omega),q,aI (by omega) (by omega)];rfl
 refine⟨by rw[f],by rw[f],?_⟩;have j:∀c∈b.Open,c.Id<=b.Next-1:=λc hc=>by
  have:=h.ok;unfold eU at this;simp only[ac,bu] at this;obtain⟨i,hi,e⟩:=da.1 hc;have h2:=Z6 this.2 i hi;unfold iU at h2;simp only[bc,cH] at h2;have:=(gU h2.1).2
  grind[aI]
 have hm:∀c∈(fI b 1 now).1.Open,c.Id=b.Next->c=⟨b.Next,1,now+5⟩:=(by grind[decide,List.mem_of_mem_drop,List.mem_singleton]);have d:(⟨b.Next,1,now+5⟩:A4)∈(fI b 1 now).1.Open:=by simp[*]
 have n:decide (dS (fI b 1 now).1 b.Next<0)=false:=by
  rw[cr];intro a;have:=Ui (p:=λc:A4=>c.Id==b.Next) a _ d
  grind
 obtain⟨k,hk,x,y⟩:=xJ (l:=(fI b 1 now).1.Open) n;have u:aJj (fI b 1 now).1 (dS (fI b 1 now).1 b.Next)=⟨b.Next,1,now+5⟩:=by
  grind[List.getElem_mem,Int.toNat_natCast,List.getD,List.getElem?_eq_getElem,aJj,dS,fI]
 unfold pQ;rw[hq.ok,n,u]
 grind
section
variable {m:Nat} {w:AA}
def bN0 (h:WIn m w){d j:Int}(ht:dK w d j=true)(o:AQ):SiteIn w.Seed j m (aAY w j).1/\(aAY w j).1.Name=aA j/\(j=0\/j=1):=by obtain⟨hl,e,a,hs⟩:=Zz h (wF ht).2.2;have hb:=hs.begin 1 w.Now;exact⟨hb,hb.name,a⟩
def bR3 (h:WIn m w){d j:Int}{o:AQ}(ht:dK w d j=true)(hm:d.toNat<m)(ho:mE o (aA j)=true)(hn:(eT w j).Book.Next<1000000)(hc:(aL w d).Store.Counter<1000000)
  (z:∀a∈(eT w j).Accounts,∀(hk:d.toNat<a.Credentials.length),a.Credentials[d.toNat].Cut=false/\a.Credentials[d.toNat].Counter<=(aL w d).Store.Counter):(iA w d j o).2.2=0:=by
 obtain⟨O,t2,A⟩:=wF ht;obtain⟨hl,es,p,hs⟩:=Zz h A;obtain⟨d0,d1,_⟩:=yI t2;have u:=h.mle;have hb:=Zw hs.book;obtain⟨D,Q,R⟩:=bIk hb hn h.now;have F:aAY w j=({eT w j with Book:=(fI (eT w j).Book 1 w.Now).1},(eT w j).Book.Next,eY (fI (eT w j).Book 1 w.Now).1 (eT w j).Book.Next,true):=by unfold aAY mK;rw[hs.ok p h.mle,hs.find,D];rfl
 have i:=h.aBX t2;have k:=cAb i (by omega);have x:Jr w d j o=({(aL w d).Store with Counter:=(aL w d).Store.Counter+1},{Rl (aL w d).Store o (aA j) d (aAY w j).2.2.1 true with Counter:=(aL w d).Store.Counter+1,Signature:=sF (cB (aL w d).Store (aA j) d) (bP (Rl (aL w d).Store o (aA j) d (aAY w j).2.2.1 true)++[(aL w d).Store.Counter+1])},true):=bUy ho k hc;have c:=hs.begin 1 w.Now;rw[show(mK (eT w j) 1 w.Now)=aAY w j from rfl] at c;obtain⟨l,e,f,q⟩:=hs.acc;subst q;have s:=f d.toNat hm;obtain⟨u1,u2⟩:=z ⟨1,3,l⟩ (by grind) hm;have u2:l[d.toNat].Counter<=(aL w d).Store.Counter:=u2;have u1:l[d.toNat].Cut=false:=u1;have G:fQ (aAY w j).1 0=⟨1,3,l⟩:=by grind[eT,fQ]
 have H:=aS8 (m:=3) p f h.mle (by grind);have I:aU ⟨1,3,l⟩ d=(d.toNat:Int):=by have:=bK8 f hm;rwa [fx d0] at this ⊢
 have J:gT ⟨1,3,l⟩ (d.toNat:Int)=l[d.toNat]:=by unfold gT;rw[bo];show l.getD d.toNat default=_;rw[List.getD,ab hm,ci]
 have n:cB (aL w d).Store (aA j) d=cB (aO w.Seed (d.toNat:Int)) (aA j) (d.toNat:Int):=by rw[cB,cB,i.key,fx d0]
 have hv:∀M,iT (dP (cB (aO w.Seed (d.toNat:Int)) (aA j) (d.toNat:Int))) M (sF (cB (aO w.Seed (d.toNat:Int)) (aA j) (d.toNat:Int)) M)=true:=(by simp[bFp,cB,iF]);have y:iI l[d.toNat].Public (Jr w d j o).2.1 (aAY w j).1.Name (eY (aAY w j).1.Book (aAY w j).2.1) l[d.toNat].Counter=0:=by rw[c.name,x,F];unfold iI;show(bif !((aA j).toList==(aA j).toList) then(1:Int) else bif !true then 2 else bif !(eY (fI (eT w j).Book 1 w.Now).1 (eT w j).Book.Next==eY (fI (eT w j).Book 1 w.Now).1 (eT w j).Book.Next) then 3 else bif !iT l[d.toNat].Public (bP (Rl (aL w d).Store o (aA j) d (eY (fI (eT w j).Book 1 w.Now).1 (eT w j).Book.Next) true)++[(aL w d).Store.Counter+1]) (sF (cB (aL w d).Store (aA j) d) (bP (Rl (aL w d).Store o (aA j) d (eY (fI (eT w j).Book 1 w.Now).1 (eT w j).Book.Next) true)++[(aL w d).Store.Counter+1])) then 5 else bif decide ((aL w d).Store.Counter+1<=l[d.toNat].Counter) then 4 else 0)=0;rw[s.2.1,n,show Ut w.Seed j d.toNat=dP (cB (aO w.Seed (d.toNat:Int)) (aA j) (d.toNat:Int)) from rfl,hv,ao (show ¬(aL w d).Store.Counter+1<=l[d.toNat].Counter by omega)];simp
 have T:(uS w d j o).2.1=0:=by
  unfold uS lT;rw[c.ok p h.mle,c.find];have L:(pQ (aAY w j).1.Book (aAY w j).2.1 1 w.Now).2=true:=by grind
  have N:qH (fQ (aAY w j).1 0) 3=true:=by
   grind[List.any_eq_true,List.getElem_mem,u1,qH]
  have V:(Jr w d j o).2.1.Handle=d:=by rw[x];rfl
  grind[iP,fQ,aAY,Jr,eY,u1,decide_eq_false]
 grind[iA]
def bR4 (h:WIn m w){d j:Int}{o:AQ}(hq:mE o (aA j)=false\/∀a∈(eT w j).Accounts,∀c∈a.Credentials,c.Handle=d->c.Cut=true):(iA w d j o).2.2≠0:=by
 rcases Ff w d j o with⟨_,e⟩|⟨_,_,_,e,_⟩|⟨ht,_,_,e,f⟩
 ·rw[e];decide
 ·rw[e];decide
 ·exfalso;obtain⟨hb,i,A⟩:=bN0 h ht o;have f:=eq_of_beq f;unfold uS lT at f;rw[hb.find] at f;cases h1: !bW (aAY w j).1||decide ((0:Int)<0) with
  |true=>simp_all
  |false=>
  rw[h1] at f;simp only[aa] at f;cases h2: !(pQ (aAY w j).1.Book (aAY w j).2.1 1 w.Now).2 with
  |true=>simp_all
  |false=>
  rw[h2] at f;simp only[aa] at f;cases n: !qH (fQ (aAY w j).1 0) 3 with
  |true=>simp_all
  |false=>
  rw[n] at f;simp only[aa] at f;have p:(iP (fQ (aAY w j).1 0) (Jr w d j o).2.1 (aAY w j).1.Name (eY (aAY w j).1.Book (aAY w j).2.1)).2≠0:=by
   rcases bR2 (a:=fQ (aAY w j).1 0) (x:=(Jr w d j o).2.1) (z:=(aAY w j).1.Name) (c:=eY (aAY w j).1.Book (aAY w j).2.1) with⟨_,q⟩|⟨k,hk,D,s,F,u,_⟩
   ·exact q
   ·rw[u];rcases bF3 (aL w d).Store o (aA j) d (aAY w j).2.2.1 true with e|⟨G,_,_,e⟩
    ·grind[bR0,bR1,Jr,aXf]
    ·rcases hq with hq|hq
     ·simp_all
     ·exfalso;have y:(Jr w d j o).2.1.Handle=d:=by unfold Jr;rw[e];rfl
      rw[y] at s;obtain⟨l,el,_,_⟩:=hb.acc
      grind[List.getElem_mem,fQ,aAY,eT,aAb]
  grind
end
end Go.VK
set_option maxRecDepth 100000
namespace Go.VK
open D
def bF4 (w:AA)(k:Nat):Int:=(w.Devices.getD k default).Store.Counter
def bV7 (w:AA)(k:Nat):Prop:=dW w.aAD.Log (mY w.Seed k)=true
def CrU (cnt:Nat->Int)(rem:Nat->Prop)(c:AU):Prop:=c.Counter<=cnt c.Handle.toNat/\(c.Cut=true->rem c.Handle.toNat)
structure Us (B:Int) (w:AA):Prop where
 cnt:∀k,k<w.Devices.length->bF4 w k<=B
 next:∀s∈w.Sites,s.Book.Next<=B
 cred:∀s∈w.Sites,P6 (CrU (bF4 w) (bV7 w)) s
def CrU.mono {cnt cnt':Nat->Int}{rem rem':Nat->Prop}(hc:∀k,cnt k<=cnt' k)(hr:∀k,rem k->rem' k){c:AU}(h:CrU cnt rem c):CrU cnt' rem' c:=⟨fg h.1 (hc _),λq=>hr _ (h.2 q)⟩
section
variable {m:Nat} {w:AA} {B:Int}
end
section
variable {S:List (Int×Int)} {t m:Nat} {w:AA} {K v:Int} {r:List AJ} {b:AC} {B:Int}
end
def bN1 {n k t pin seed:Int}(h:Jt n k t pin seed=true):(∀i,bF4 (bL n k t pin seed) i=0)/\∀s∈(bL n k t pin seed).Sites,s.Book.Next=0/\s.Logins=[]/\P6 (λc=>c.Counter=0/\c.Cut=false) s:=by
 have hn:n.toNat=1\/n.toNat=2\/n.toNat=3:=by unfold Jt at h;simp only[ac] at h;have:=gU h.1;omega
 have f:(bL n k t pin seed).Devices=(List.range n.toNat).map λk=>Uw seed n.toNat k 1 (nwB n.toNat):=by
  grind[aN1,bL]
 refine⟨λi=> ?_,λs hs=> ?_⟩
 ·unfold bF4;rw[f,List.getD,bq];cases hq:(List.range n.toNat)[i]? with
  |none=>rfl
  |some q=>rfl
 ·have reg:∀(nm:ByteArray) (l:List AF) (i:Nat) (s:AB),(s.Book.Next=0/\s.Logins=[]/\P6 (λc=>c.Counter=0/\c.Cut=false) s)->((qI nm i l s).Book.Next=0/\(qI nm i l s).Logins=[]/\P6 (λc=>c.Counter=0/\c.Cut=false) (qI nm i l s)):=by
   intro nm l;induction l with
   |nil=>intro i s hs;exact hs
   |cons d l o=>
    intro i s hs;refine o _ _ ⟨?_,?_,bK7 hs.2.2 ⟨rfl,rfl⟩⟩
    all_goals grind[eF,bW,decide,aD,fJ,default]
  have one:∀j:Int,j=0\/j=1->((xH seed (dL seed n.toNat) j).Book.Next=0/\(xH seed (dL seed n.toNat) j).Logins=[]/\P6 (λc=>c.Counter=0/\c.Cut=false) (xH seed (dL seed n.toNat) j)):=λj u=>by
   refine reg _ _ _ _ ?_;have hk:=iF seed [281,j];generalize aW seed [281,j]=q at*;have p:gZ (aA j) q=⟨aA j,[],⟨q,0,[]⟩,[]⟩:=by
    grind[Zv,gZ,lC]
   rw[p];unfold nX;cases bW ⟨aA j,[],⟨q,0,[]⟩,[]⟩&&bW (qZ ⟨aA j,[],⟨q,0,[]⟩,[]⟩ 1 3) with
   |false=>exact⟨rfl,rfl,λa e=>by simp at e⟩
   |true=>refine⟨rfl,rfl,λa e c hc=> ?_⟩;have e:a∈[(⟨1,3,[]⟩:AI)]:=e;simp_all
  grind[List.mem_singleton,xI,dL,bL]
section
variable {m:Nat} {w:AA} {B:Int}
def Us.ok (n:WIn m w)(h:Us B w)(q:B<1000000){d j:Int}{o:AQ}(ht:dK w d j=true)(hm:d.toNat<m)(ho:mE o (aA j)=true)(hr:¬bV7 w d.toNat):(iA w d j o).2.2=0:=by
 obtain⟨s,t2,p⟩:=wF ht;obtain⟨hl,es,u,hs⟩:=Zz n p;obtain⟨f,x⟩:=kI t2;have i:bF4 w d.toNat=(aL w d).Store.Counter:=rfl;have c:eT w j∈w.Sites:=by simp[*]
 have hn:=h.next _ c;have hc:=h.cnt _ f;rw[i] at hc;refine bR3 n ht hm ho (by omega) (by omega) λa e hk=> ?_;have hq:=h.cred _ c a e _ (cj hk);obtain⟨l,el,k,_⟩:=hs.acc;rw[el] at e;have e:a=⟨1,3,l⟩:=by simp_all
 subst e;have y:(AI.mk 1 3 l).Credentials[d.toNat].Handle=(d.toNat:Int):=(k d.toNat hk).1
 grind[absurd,Int.toNat_natCast,CrU]
end
end Go.VK
set_option maxRecDepth 100000
namespace Go.VK
open D
abbrev Evt:=Int×Int×Int×Int×Bool
def bF5 (w:AA)(e:Evt):AA×Bool:=yH w e.1 e.2.1 e.2.2.1 e.2.2.2.1 e.2.2.2.2
def cB4 (w:AA)(l:List Evt):AA:=l.foldl (λu e=>(bF5 u e).1) w
def cAd (S:List (Int×Int))(e:Evt):Prop:=e.1=8->(bB aJq,e.2.2.2.1)∈S
def iB (w:AA):Nat:=(w.Sites.map λs=>s.Logins.length).sum
def aTp {α:Type}{f:α->Nat}{x:α}:∀{l:List α} {i:Nat} (h:i<l.length),((l.set i x).map f).sum+f l[i]=(l.map f).sum+f x
 |[],i,h=>by simp at h
 |y::l,0,h=>by simp;omega
 |y::l,i+1,h=>by
  have:=aTp (f:=f) (x:=x) (l:=l) (i:=i) (by simpa using h);simp only[fW,bm,cV,fa];omega
section
variable {S:List (Int×Int)} {t m:Nat} {w:AA}
def bN2 (h:WIn m w)(d j:Int)(o:AQ):iB (iA w d j o).1=iB w+(bif (iA w d j o).2.2==0 then 1 else 0):=by
 have key:dK w d j=true->iB (aOn w d j o)=iB w+(bif (uS w d j o).2.1==0 then 1 else 0):=λht=>by
  obtain⟨hl,es,i,hs⟩:=Zz h (wF ht).2.2;have h1:=aTp (f:=λs:AB=>s.Logins.length) (x:=(uS w d j o).1) hl;have h2:(uS w d j o).1.Logins=_:=bIi (aAY w j).1 1 (aAY w j).2.1 w.Now (Jr w d j o).2.1;rw[show(aAY w j).1.Logins=(eT w j).Logins from(aAb _ _ _).2.1,es] at h2;have h2:(uS w d j o).1.Logins.length=w.Sites[j.toNat].Logins.length+(bif (uS w d j o).2.1==0 then 1 else 0):=by rw[h2];show(bif (uS w d j o).2.1==0 then _ else _:List Int).length=_;cases(uS w d j o).2.1==0<;>simp
  show((w.Sites.set j.toNat (uS w d j o).1).map λs=>s.Logins.length).sum=(w.Sites.map λs=>s.Logins.length).sum+_;have h1:((w.Sites.set j.toNat (uS w d j o).1).map λs=>s.Logins.length).sum+w.Sites[j.toNat].Logins.length=(w.Sites.map λs=>s.Logins.length).sum+(uS w d j o).1.Logins.length:=h1;omega
 rcases Ff w d j o with⟨e,a⟩|⟨ht,_,e,a,c⟩|⟨ht,_,e,a,c⟩
 ·rw[e,a];rfl
 ·rw[e,a,key ht,c];rfl
 ·rw[e,a];show iB (aOn w d j o)=_;rw[key ht,c];rfl
def wG {u v:AA}(h:u.Sites=v.Sites):iB u=iB v:=by unfold iB;rw[h]
def bLa {u v:AA}(f:AB->AB)(h:u.Sites=v.Sites.map f)(a:∀s,(f s).Logins=s.Logins):iB u=iB v:=by unfold iB;rw[h,gp];congr 1;exact fw λs _=>by show(f s).Logins.length=_;rw[a]
def bN3 (w:AA)(c x:Int):iB (eX w c x).1=iB w:=by
 unfold eX;cases(aR w c 0).2==0&&(!bX w c&&(!(c==x)&&bN w x)) with
 |false=>rfl
 |true=>
  simp only[ae];unfold oM;cases(mJ w c x).2&&((Oo w c x).2&&(Jq w c x).2) with
  |false=>rfl
  |true=>
   refine bLa (gL x) ?_ λs=>by unfold gL;cases decide (aD s 1>=0)<;>rfl
   show(Jq w c x).1.Sites=_;obtain⟨u1,u2,u3,u4,_⟩:=bCq (Y7 w c x) c;obtain⟨d,e,f,a,_⟩:=wC (jQ w c) c 2 (aS (aL w x).Store) (mD (aL (jQ w c) c).Store);refine u4.trans ?_;show(mJ w c x).1.Sites.map (gL x)=_;rw[show(mJ w c x).1.Sites=w.Sites from a.trans (jC w c 0).2.2.2.1]
def bIl (s:AB)(id h p:Int):(eF s id h p).1.Logins=s.Logins:=by
 unfold eF;cases !bW s||decide (aD s id<0) with
 |true=>rfl
 |false=>simp only[aa];cases(fJ (s.Accounts.getD (aD s id).toNat default) h p).2<;>rfl
def P7 {st:AK}{n:Int}:∀{l:List AB} {j:Nat},(gK st n j l).2=true->(gK st n j l).1.map (λs=>s.Logins.length)=l.map λs=>s.Logins.length
 |[],j,_=>rfl
 |s::l,j,h=>by
  unfold gK at h ⊢;cases hc:(eF s 1 n (dY st (aA (j:Int)) n)).2&&(gK st n (j+1) l).2 with
  |false=>rw[hc] at h;cases h
  |true=>rw[ac] at hc;simp only[ae,bm,bIl,P7 hc.2]
def bN4 (w:AA)(c:Int):iB (fG w c).1=iB w:=by
 unfold fG;cases a:Bi w c with
 |false=>rfl
 |true=>unfold Bi at a;simp only[ac] at a;have h2:=a.2.2.2.1;obtain⟨h,i,j,d,_⟩:=wC (aR w c 0).1 c 1 (aS (aO w.Seed (w.Devices.length:Int))) (λ_=>(aL (aR w c 0).1 c).Key);have es:(add1 w c).1.Sites=w.Sites:=d.trans (jC w c 0).2.2.2.1;have e:(qY w c).1.Sites=(Y6 w c).1:=(Au (aAU w c) c).2.2.2.1;have f:(Ef w c).1.Sites=(qY w c).1.Sites:=(jC (appW (qY w c).1 (bE (aO w.Seed (w.Devices.length:Int)))) (w.Devices.length:Int) 0).2.2.2.1;show((Ef w c).1.Sites.map λs=>s.Logins.length).sum=(w.Sites.map λs=>s.Logins.length).sum;rw[f,e];unfold Y6 at h2 ⊢;rw[P7 h2,es]
def bR5 (h:WIn m w)(d j:Int):((Z4 w d j).2==0)=false:=by
 unfold Z4;cases ht:dK w d j&& !bX w d with
 |false=>rfl
 |true=>rw[ac] at ht;obtain⟨_,_,a,_⟩:=Zz h (wF ht.1).2.2;rw[ae,bn];refine bR4 h (.inl ?_);rcases a with rfl|rfl<;>decide
def bR6 (h:All S t w)(e:Evt):iB (bF5 w e).1=iB w+(bif (bF5 w e).2&&(e.1==2||e.1==5) then 1 else 0)/\(((bF5 w e).2&&e.1==3)=false):=by
 obtain⟨k,d,o,v,f⟩:=e;show iB (yH w k d o v f).1=iB w+(bif (yH w k d o v f).2&&(k==2||k==5) then 1 else 0)/\((yH w k d o v f).2&&k==3)=false;have tr:∀(q:Bool) (a:AQ),iB (bif q then oN w d o a else(w,1)).1=iB w+(bif (bif q then oN w d o a else(w,1)).2==0 then 1 else 0):=λq a=>by
  cases q with
  |true=>exact bN2 h.wi d o a
  |false=>rfl
 unfold yH;rw[h.wi.ok];simp only[av,aa];by_cases k1:k=1
 ·subst k1;refine⟨?_,by simp⟩;show iB (sM w).1=_;rw[show((1:Int)==2||(1:Int)==5)=false from rfl,cP];unfold sM;cases aP (rC w) with
  |false=>rfl
  |true=>exact bLa (λs=>{s with Book:=nK s.Book (rC w).Now}) rfl λs=>rfl
 ·rw[bn.2 k1];simp only[aa];by_cases k2:k=2
  ·subst k2;refine⟨?_,by simp⟩;rw[show((2:Int)==2||(2:Int)==5)=true from rfl,fL];exact tr _ _
  ·rw[bn.2 k2];simp only[aa,cF];by_cases k3:k=3
   ·subst k3;have hp:=bR5 h.wi d o;refine⟨?_,by show(((Z4 w d o).2==0)&&_)=false;rw[hp];rfl⟩;rw[show((3:Int)==5)=false from rfl,cP];have:=tr (dK w d o&& !bX w d) (aJk o);show iB (Z4 w d o).1=_;unfold Z4 at hp ⊢;rw[this,hp]
   ·rw[bn.2 k3];simp only[aa,cP,and_true];by_cases k4:k=4
    ·subst k4;rw[show((4:Int)==5)=false from rfl,cP];show iB (nJ w d).1=_;refine wG ?_;unfold nJ;cases dK w d 0&& !bX w d<;>rfl
    ·rw[bn.2 k4];simp only[aa];by_cases k5:k=5
     ·subst k5;rw[show((5:Int)==5)=true from rfl,fL];exact tr _ _
     ·rw[bn.2 k5];simp only[aa,cP,du];cases k==6 with
      |true=>exact bN4 w d
      |false=>
      simp only[aa];cases k==7 with
      |true=>exact bN3 w d o
      |false=>
      simp only[aa];cases k==8 with
      |true=>exact wG (aAc w d aJq v f).2
      |false=>
      simp only[aa];cases k==9 with
      |true=>exact wG (Au w d).2.2.2.1
      |false=>
      simp only[aa];cases k==10 with
      |true=>exact wG (jC w d v).2.2.2.1
      |false=>
      simp only[aa];cases k==11 with
      |true=>refine wG ?_;show(fE w (wB w) v).1.Sites=_;unfold fE;cases aP w<;>rfl
      |false=>
      simp only[aa];cases k==12 with
      |true=>refine wG ?_;show(dX w).1.Sites=_;unfold dX;cases aP w&&(fC w.Hosts (O8 w)).2<;>rfl
      |false=>
      simp only[aa];cases k==13 with
      |true=>
       refine wG ?_;show(fO w o v).1.Sites=_;unfold fO;cases !aP w||(decide (o<0)||decide (o>=(w.Hosts.length:Int))) with
       |true=>rfl
       |false=>simp only[aa];cases(gJ (w.Hosts.getD o.toNat default) v).2<;>rfl
      |false=>rfl
def All.step (h:All S t w)(a:KeyD S)(ht:t<=58){e:Evt}(he:cAd S e):All S (t+1) (bF5 w e).1:=h.apply a ht _ _ _ _ _ he
def All.run (a:KeyD S):∀(l:List Evt) (t:Nat) (w:AA),All S t w->t+l.length<=59->(∀e∈l,cAd S e)->All S (t+l.length) (cB4 w l)
 |[],t,w,h,_,_=>h
 |e::l,t,w,h,ht,he=>by
  simp only[au] at ht;have:=All.run a l (t+1) _ (h.step a (by omega) (he e (cG ..))) (by omega) λx c=>he x (cD _ c);rw[au,show t+(l.length+1)=t+1+l.length by omega];exact this
def bUz {n k t pin seed:Int}(h:Jt n k t pin seed=true):iB (bL n k t pin seed)=0:=by
 obtain⟨_,h2⟩:=bN1 (k:=k) h;unfold iB;have:∀l:List AB,(∀s∈l,s.Logins=[])->(l.map λs=>s.Logins.length).sum=0:=by
  intro l;induction l with
  |nil=>intro _;rfl
  |cons s l a=>intro hl;rw[bm,cV,hl s (cG ..),a λx c=>hl x (cD _ c)];rfl
 exact this _ λs hs=>(h2 s hs).2.1
end
end Go.VK
