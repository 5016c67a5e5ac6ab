import Derived.Test.YtodnphjgelfcaaaGreatDoorXwFF
/- Printed by wip/tools: models, walks, proofs. -/
set_option linter.all false
set_option maxRecDepth 100000
namespace Go.VK
open D
def mX {h:Int}(v:Int)(h0:0<=h/\h<2147483647):∃q,hstep h v=h*1000003+v+13-2147483647*q/\(0<=hstep h v/\hstep h v<2147483647):=by
 obtain⟨h0,h1⟩:=h0;have hm:=zN (p:=v) (q:=2147483647) (by decide);have hv:jH v 2147483647=v%2147483647:=cW (by decide);have e:hstep h v=(h*1000003+v+13)%2147483647:=by
  grind[aM,jH,Int.tmod_eq_emod_of_nonneg,hstep]
 grind
def bNl (k a b:Int):∃q,bU k [a,b]=k*1000009000027000028+a*1000006000009+b*1000003+11000145000724001630001411-2147483647*q:=by simp only[bU,xH,cT,gh,eh,cM,bu,dp,ig];obtain⟨q0,e0,f⟩:=mX k (h:=11) (by grind);generalize hstep 11 k=c at*;obtain⟨q1,o,j⟩:=mX a (h:=c) f;generalize hstep c a=d at*;obtain⟨q2,p,l⟩:=mX b (h:=d) j;generalize hstep d b=e at*;obtain⟨q3,s,u⟩:=mX k (h:=e) l;generalize hstep e k=x at*;exact⟨q0*1000009000027000027+q1*1000006000009+q2*1000003+q3*1,by omega⟩
def bNm (k a b c:Int):∃q,bU k [a,b,c]=k*1000012000054000108000082+a*1000009000027000027+b*1000006000009+c*1000003+11000178001159003802006301004246-2147483647*q:=by simp only[bU,xH,cT,gh,eh,cM,bu,dp,ig];obtain⟨q0,e0,l⟩:=mX k (h:=11) (by grind);generalize hstep 11 k=d at*;obtain⟨q1,u,o⟩:=mX a (h:=d) l;generalize hstep d a=e at*;obtain⟨q2,x,p⟩:=mX b (h:=e) o;generalize hstep e b=f at*;obtain⟨q3,y,s⟩:=mX c (h:=f) p;generalize hstep f c=j at*;obtain⟨q4,z,A⟩:=mX k (h:=j) s;generalize hstep j k=D at*;exact⟨q0*1000012000054000108000081+q1*1000009000027000027+q2*1000006000009+q3*1000003+q4*1,by omega⟩
def bNn (k a b c d:Int):∃q,bU k [a,b,c,d]=k*1000015000090000270000405000244+a*1000012000054000108000081+b*1000009000027000027+c*1000006000009+d*1000003+11000211001693007279017707023149012751-2147483647*q:=by simp only[bU,xH,cT,gh,eh,cM,bu,dp,ig];obtain⟨q0,e0,p⟩:=mX k (h:=11) (by grind);generalize hstep 11 k=e at*;obtain⟨q1,z,s⟩:=mX a (h:=e) p;generalize hstep e a=f at*;obtain⟨q2,A,u⟩:=mX b (h:=f) s;generalize hstep f b=j at*;obtain⟨q3,D,x⟩:=mX c (h:=j) u;generalize hstep j c=l at*;obtain⟨q4,F,y⟩:=mX d (h:=l) x;generalize hstep l d=o at*;obtain⟨q5,G,H⟩:=mX k (h:=o) y;generalize hstep o k=I at*;exact⟨q0*1000015000090000270000405000243+q1*1000012000054000108000081+q2*1000009000027000027+q3*1000006000009+q4*1000003+q5*1,by omega⟩
def Xw (n:Int):∃e,jX n=n+e/\0<=e/\e<=1:=by
 unfold jX;by_cases h:n=0
 ·simp[*]
 ·rw[ca.2 h];exact⟨0,by simp,by decide,by decide⟩
def bNo (s i:Int):(aO s i).Seed=jX (bU s [151,277,i]):=by rfl
def bNp (s:AJ):iO s=jX (bU s.Seed [151,181]):=by rfl
def bHb (s:AJ)(n:ByteArray)(i:Int):dC s n i=jX (bU s.Seed [151,179,bG n,i]):=by rfl
def bCa (s i k:Int):∃e q,(aO s i).Seed-(aO s k).Seed=(i-k)*1000003+e+2147483647*q/\-1<=e/\e<=1:=by have hi:(aO s i).Seed=jX (bU s [151,277,i]):=bNo s i;have hk:(aO s k).Seed=jX (bU s [151,277,k]):=bNo s k;obtain⟨a,c,j,l⟩:=Xw (bU s [151,277,i]);obtain⟨d,b1,o,p⟩:=Xw (bU s [151,277,k]);obtain⟨q1,f⟩:=bNm s 151 277 i;obtain⟨q2,h⟩:=bNm s 151 277 k;rw[hi,hk,c,b1,f,h];exact⟨a-d,q2-q1,by omega,by omega,by omega⟩
def dfs:List Int:=[-5,-4,-3,-2,-1,0,1,2,3,4,5]
def bJp:List Int:=[-1,0,1]
theorem bHc {d:Int}(h1: -5<=d)(h2:d<=5):d∈dfs:=by simp only[dfs,bc,dx,or_false];omega
def aCj {d:Int}(h1: -1<=d)(h2:d<=1):d∈bJp:=by grind[bJp]
def bRc:(dfs.all λd=>d==0||bJp.all λe=>bJp.all λz=> !((d*1000003+e)*1000009000027000028-z)%2147483647==0)=true:=by kernel_rfl
def bJq {s i k:Int}(hi:0<=i/\i<6)(hk:0<=k/\k<6)(h:i≠k):iO (aO s i)≠iO (aO s k):=by
 intro he;obtain⟨e,q,d1,d2,d3⟩:=bCa s i k;have h1:iO (aO s i)=jX (bU (aO s i).Seed [151,181]):=bNp _;have h2:iO (aO s k)=jX (bU (aO s k).Seed [151,181]):=bNp _;obtain⟨a,d,l,o⟩:=Xw (bU (aO s i).Seed [151,181]);obtain⟨c,b1,p,u⟩:=Xw (bU (aO s k).Seed [151,181]);obtain⟨q1,f⟩:=bNl (aO s i).Seed 151 181;obtain⟨q2,j⟩:=bNl (aO s k).Seed 151 181;rw[h1,h2,d,b1,f,j] at he;have x:(((i-k)*1000003+e)*1000009000027000028-(c-a))%2147483647=0:=by omega
 have:=co.1 bRc (i-k) (bHc (by omega) (by omega));rw[ca.2 (show i-k≠0 by omega),da] at this;have:=co.1 (co.1 this e (aCj d2 d3)) (c-a) (aCj (by omega) (by omega));simp_all
def hs1:Int:=1464438180
def bXn:bG (aA 0)=1941999745:=by kernel_rfl
def bXo:bG (aA 1)=1464438180:=by kernel_rfl
def bNq:(dfs.all λd=>[0,477561565,-477561565].all λ(g:Int)=>(d==0&&g==0)||bJp.all λe=>bJp.all λz=> !((d*1000003+e)*1000015000090000270000405000244+g*1000006000009+d*1000003-z)%2147483647==0)=true:=by kernel_rfl
def bCb {s i k j l:Int}(hi:0<=i/\i<6)(hk:0<=k/\k<6)(hj:j=0\/j=1)(hl:l=0\/l=1)(h:i≠k\/j≠l):dC (aO s i) (aA j) i≠dC (aO s k) (aA l) k:=by
 intro he;obtain⟨e,q,d1,d2,d3⟩:=bCa s i k;have h1:dC (aO s i) (aA j) i=jX (bU (aO s i).Seed [151,179,bG (aA j),i]):=bHb _ _ _;have h2:dC (aO s k) (aA l) k=jX (bU (aO s k).Seed [151,179,bG (aA l),k]):=bHb _ _ _;obtain⟨c,f,u,x⟩:=Xw (bU (aO s i).Seed [151,179,bG (aA j),i]);obtain⟨d,b1,y,z⟩:=Xw (bU (aO s k).Seed [151,179,bG (aA l),k]);obtain⟨q1,o⟩:=bNn (aO s i).Seed 151 179 (bG (aA j)) i;obtain⟨q2,p⟩:=bNn (aO s k).Seed 151 179 (bG (aA l)) k;rw[h1,h2,f,b1,o,p] at he;obtain⟨g,hg,a⟩:∃g,bG (aA j)-bG (aA l)=g/\(g∈[0,477561565,(-477561565:Int)]/\(j≠l->g≠0)):=by
  rcases hj with rfl|rfl<;>rcases hl with rfl|rfl<;>simp only[bXn,bXo]
  all_goals simp
 have A:(((i-k)*1000003+e)*1000015000090000270000405000244+g*1000006000009+(i-k)*1000003-(d-c))%2147483647=0:=by omega
 have:=co.1 (co.1 bNq (i-k) (by grind[bHc])) g a.1;rw[show(i-k==0&&g==0)=false by
  rcases h with h|h
  ·rw[ca.2 (show i-k≠0 by omega)];rfl
  ·rw[ca.2 (a.2 h),di],da] at this
 have:=co.1 (co.1 this e (aCj d2 d3)) (d-c) (aCj (by omega) (by omega));simp_all
def bJr {n:Int}(h:0<=n/\n<2147483647):bL (jX n)=true:=by
 grind[beq_eq_false_iff_ne,decide_eq_true,jX,bL,bX]
def iJ (s:Int)(l:List Int):bL (aV s l)=true:=bJr (mR _ _)
theorem aPp {k:Int}(h:bL k=true):1<=k/\k<=2147483646:=iA h
theorem bS0 {k:Int}(h:bL k=true):dQ k=k*48271%2147483647:=by have:=aPp h;unfold dQ;rw[h,ax,ae,aM (by omega) (by omega),cz (by omega)]
theorem bHd {k:Int}(h:bL k=true):bL (dQ k)=true:=by
 grind[decide_eq_true,bL,bX,bS0,aPp]
theorem Sm {k:Int}(h:bL k=true):gI (dQ k)=k:=by
 have:=aPp h
 grind[bHd,Bool.not_true,bS0,gI]
def bHe {a b:Int}(c:bL a=true)(hb:bL b=true)(h:dQ a=dQ b):a=b:=by rw[<-Sm c,h,Sm hb]
def bE1 {s i k j l:Int}(hi:0<=i/\i<6)(hk:0<=k/\k<6)(hj:j=0\/j=1)(hl:l=0\/l=1)(h:i≠k\/j≠l):eG (aO s i) (aA j) i≠eG (aO s k) (aA l) k:=
 λhe=>bCb hi hk hj hl h (bHe (iJ _ _) (iJ _ _) he)
def bJs {s i k:Int}(hi:0<=i/\i<6)(hk:0<=k/\k<6)(h:i≠k):aS (aO s i)≠aS (aO s k):=
 λhe=>bJq hi hk h (bHe (iJ _ _) (iJ _ _) he)
theorem Sq {α:Type}{p:Nat->α->Bool}:∀{l:List α} {i:Nat},(∀k (h:k<l.length),p (i+k) l[k]=false)->iM p i l=false
 |[],i,_=>rfl
 |x::l,i,h=>by
  have h0:=h 0 (by simp);have a:=Sq (p:=p) (l:=l) (i:=i+1) (λk hk=>by
   have:=h (k+1) (by simpa using hk);rw[show i+1+k=i+(k+1) by omega];simpa using this)
  simp only[iM,dz,gO] at h0 ⊢;rw[h0,a];rfl
theorem O1 {α:Type}{p:Nat->α->Bool}:∀{l:List α} {i:Nat},iM p i l=false->∀k (h:k<l.length),p (i+k) l[k]=false
 |x::l,i,h,0,_=>by simp only[iM,bl] at h;simpa using h.1
 |x::l,i,h,k+1,hk=>by
  simp only[iM,bl] at h;have:=O1 h.2 k (by simpa using hk);rw[show i+(k+1)=i+1+k by omega];simpa using this
def Sr (seed j:Int)(k:Nat):Int:=eG (aO seed (k:Int)) (aA j) (k:Int)
def Mf (seed j:Int)(l:List AV):Prop:=∀k (h:k<l.length),l[k].Handle=(k:Int)/\l[k].Public=Sr seed j k/\0<=l[k].Counter/\l[k].Counter<=1000000
theorem iK {x a b:Int}(h1:a<=x)(h2:x<=b):bX x a b=true:=by grind[decide_eq_true,bX]
theorem bRd {seed j l:Int}{i k:Nat}(hi:i<6)(hk:k<6)(hj:j=0\/j=1)(hl:l=0\/l=1)(h:i≠k\/j≠l):Sr seed j i≠Sr seed l k:=
 bE1 (by omega) (by omega) hj hl (by omega)
def bJt (seed j:Int)(k:Nat):gI (Sr seed j k)=dC (aO seed (k:Int)) (aA j) (k:Int):=by simp[Sm,dC,iJ,Sr,eG]
theorem aPq {seed j m:Int}{l:List AV}(hj:j=0\/j=1)(h:Mf seed j l)(hl:l.length<=6)(hm:1<=m/\m<=3):bA ⟨1,m,l⟩=true:=by
 have f:iM (vV ⟨1,m,l⟩) 0 l=false:=Sq λk hk=>by
  obtain⟨h1,h2,c,d⟩:=h k hk;have hp:=aPp (iJ (aO seed (k:Int)).Seed [179,bG (aA j),(k:Int)]);unfold vV;rw[cy,h1,iK (by omega) (by omega),h2,bJt,ca.2 (show dC (aO seed (k:Int)) (aA j) (k:Int)≠0 by unfold dC;omega),iK c d];have o:(decide (0<k)&&decide ((l.getD (k-1) default).Handle>=(k:Int)))=false:=by
   by_cases e:0<k
   ·have a:k-1<l.length:=by omega
    have:=(h (k-1) a).1;rw[List.getD,ab a,cI,this,av (show ¬((k-1:Nat):Int)>=(k:Int) by omega),di]
   simp[*]
  have p:((l.take k).any λq=>q.Public==Sr seed j k)=false:=by
   rw[List.any_eq_false];intro q hq;obtain⟨i,hi,rfl⟩:=cE.1 hq;rw[cp] at hi;rw[List.getElem_take,(h i (by omega)).2.1]
   grind[bRd]
  simp_all
 grind[iK,decide_eq_true,bX,decide,iM,vV,bA]
structure SiteIn (seed j:Int) (n:Nat) (s:AF):Prop where
 name:s.Name=aA j
 book:fJ s.Book=true
 key:bL s.Book.Seed=true
 acc:∃l,s.Accounts=[⟨1,3,l⟩]/\Mf seed j l/\l.length=n
theorem aGy {j:Int}(hj:j=0\/j=1):(iF (aA j)&&decide (2<=(bT (aA j)).length))=true:=by rcases hj with rfl|rfl<;>kernel_rfl
def SiteIn.ok {seed j:Int}{n:Nat}{s:AF}(hj:j=0\/j=1)(hn:n<=6)(h:SiteIn seed j n s):dD s=true:=by
 obtain⟨h1,h2,a,l,c,d,e⟩:=h;unfold dD lD;rw[h1,aGy hj,a,h2,c];show(true&&true&&decide (1<=8)&&true&& !(Lv [⟨1,3,l⟩] 0 ⟨1,3,l⟩||false))=true
 grind[aPq,Lv]
def SiteIn.find {seed j:Int}{n:Nat}{s:AF}(h:SiteIn seed j n s):aJ s 1=0:=by obtain⟨_,_,_,l,a,_⟩:=h;unfold aJ;rw[a];rfl
theorem aW8 {α:Type}{p:α->Bool}:∀{l:List α},(∀c∈l,p c=true)->l.takeWhile p=l
 |[],_=>rfl
 |x::l,h=>by rw[de,h x (by simp),cW rfl,aW8 (λc hc=>h c (by simp[hc]))]
def bNr {l:List AV}{p:Int}(h:∀k (h:k<l.length),l[k].Handle=(k:Int)):aCc l (l.length:Int) p=l++[⟨(l.length:Int),p,0,false⟩]:=by
 have:Yh (l.length:Int) l=l.length:=by
  grind[decide_eq_true,List.mem_iff_getElem,aW8,Yh]
 unfold aCc;rw[this,e8,dy,eh]
def Mf.snoc {seed j:Int}{l:List AV}(h:Mf seed j l):Mf seed j (l++[⟨(l.length:Int),Sr seed j l.length,0,false⟩]):=by
 intro k hk;by_cases a:k<l.length
 ·rw[gt a];exact h k a
 grind
def SiteIn.reg {seed j:Int}{n:Nat}{s:AF}(hj:j=0\/j=1)(hn:n<6)(h:SiteIn seed j n s):
  (eQ s 1 (n:Int) (Sr seed j n)).2=true/\SiteIn seed j (n+1) (eQ s 1 (n:Int) (Sr seed j n)).1:=by
 have c:=h.ok hj (by omega);have d:=h.find;obtain⟨h1,h2,f,l,o,e,q⟩:=h;subst q;have u:(s.Accounts.getD (aJ s 1).toNat default)=⟨1,3,l⟩:=by simp[*]
 have hi:=bNr (p:=Sr seed j l.length) (λk hk=>(e k hk).1);have hs:=e.snoc;have x:=aPq (m:=3) hj e (by omega) (by grind);have y:=aPq (m:=3) hj hs (by simp;omega) (by grind);have a:fT ⟨1,3,l⟩ (l.length:Int) (Sr seed j l.length)=(⟨1,3,l++[⟨(l.length:Int),Sr seed j l.length,0,false⟩]⟩,true):=by
  grind[bA,aCc,Sr,fT]
 unfold eQ;rw[c,d,show decide ((0:Int)<0)=false from rfl,<-d,u,a,d,o];exact⟨rfl,h1,h2,f,_,rfl,hs,by simp⟩
def bE2 {seed j:Int}(hj:j=0\/j=1):SiteIn seed j 0 (nM (gT (aA j) (aV seed [281,j])) 1 3).1:=by
 have hk:=iJ seed [281,j];generalize aV seed [281,j]=q at*;have hn:gT (aA j) q=⟨aA j,[],⟨q,0,[]⟩,[]⟩:=by
  grind[aGy,gT,lD]
 have hb:fJ ⟨q,0,[]⟩=true:=rfl;have a:SiteIn seed j 0 (sO ⟨aA j,[],⟨q,0,[]⟩,[]⟩ 1 3):=
  ⟨rfl,hb,hk,[],rfl,λk hk=>by simp at hk,rfl⟩
 have h0:dD ⟨aA j,[],⟨q,0,[]⟩,[]⟩=true:=by unfold dD lD;rw[aGy hj,hk];rfl
 unfold nM;rw[hn,h0,a.ok hj (by omega)];exact a
def aPr {seed j:Int}(hj:j=0\/j=1):∀(m i:Nat) (s:AF),SiteIn seed j i s->i+m<=6->
  SiteIn seed j (i+m) (vW (aA j) i ((List.range' i m).map λ(k:Nat)=>bH (aO seed (k:Int))) s)
 |0,i,s,h,_=>h
 |m+1,i,s,h,hm=>by
  have:=aPr hj m (i+1) _ (h.reg hj (by omega)).2 (by omega);rw[show i+1+m=i+(m+1) by omega] at this;exact this
theorem bCc {seed j:Int}(hj:j=0\/j=1){n:Nat}(hn:n<=6):SiteIn seed j n (Sk seed (dO seed n) j):=by have:=aPr hj n 0 _ (bE2 (seed:=seed) hj) (by omega);rw[cy,<-List.range_eq_range'] at this;exact this
theorem bCd {α:Type}{r:α->α->Prop}(ht:∀a b c,r a b->r b c->r a c):∀{l:List α},(∀k (h:k+1<l.length),r l[k] l[k+1])->l.Pairwise r
 |[],_=> .nil
 |[x],_=>fS r x
 |x::y::l,h=>by
  have e:=bCd (r:=r) ht (l:=y::l) (λk hk=>by have:=h (k+1) (by simpa using hk);simpa using this);refine cw.2 ⟨λz d=> ?_,e⟩;have h0:r x y:=by simpa using h 0 (by simp)
  rcases bc.1 d with rfl|d
  ·exact h0
  ·exact ht _ _ _ h0 ((cw.1 e).1 z d)
structure BookIn (b:AR):Prop where
 next:0<=b.Next/\b.Next<=1000000
 len:b.Open.length<=16
 ord:b.Open.Pairwise (λa c=>a.Id<c.Id)
 all:∀c∈b.Open,(0<=c.Id/\c.Id<b.Next)/\(0<=c.aAH/\c.aAH<=1000005)/\(0<=c.Until/\c.Until<=1000005)
def BookIn.ok {b:AR}(h:BookIn b):fJ b=true:=by
 obtain⟨h1,h2,a,c⟩:=h;have d:iM (iD b) 0 b.Open=false:=(by grind[Sq,List.getElem_mem,iD,aM,iK,decide,default,List.pairwise_iff_getElem,List.getD,List.getElem?_eq_getElem,decide_eq_false])
 grind[iK,decide_eq_true,fJ]
def aCk {b:AR}(h:fJ b=true):BookIn b:=by
 unfold fJ at h;simp only[aa,cq,bv] at h;obtain⟨⟨h1,h2⟩,f⟩:=h;have h1:=iA h1;have hg:∀k (hk:k<b.Open.length),((0<=b.Open[k].Id/\b.Open[k].Id<b.Next)/\(0<=b.Open[k].aAH/\b.Open[k].aAH<=1000005)/\(0<=b.Open[k].Until/\b.Open[k].Until<=1000005))/\(0<k->(b.Open.getD (k-1) default).Id<b.Open[k].Id):=λk hk=>by
  have:=O1 f k hk;unfold iD at this;rw[cy,aM (by omega) (by omega)] at this;simp only[bl,cN,Bool.and_eq_false_iff,cR] at this;obtain⟨a,j,d,e⟩:=this;have a:=iA a;have d:=iA d;have e:=iA e;omega
 refine⟨⟨h1.1,h1.2⟩,h2,(by grind[bCd,Int.lt_trans]),λc hc=> ?_⟩
 all_goals grind[List.mem_iff_getElem,Nat.add_sub_cancel,List.getD,List.getElem?_eq_getElem]
def bCe {b:AR}(h:BookIn b)(a n:Int):BookIn (fA b a n).1/\(fA b a n).1.Seed=b.Seed/\b.Next<=(fA b a n).1.Next/\(fA b a n).1.Next<=b.Next+1:=by
 unfold fA;rw[h.ok];by_cases hn:b.Next=1000000
 ·simp[*]
 ·rw[ca.2 hn];cases hr:bX a 0 1000000&&bX n 0 1000000 with
  |false=>grind
  |true=>
   rw[aa] at hr;have f:=iA hr.1;have j:=iA hr.2;obtain⟨h1,h2,o,p⟩:=h;have d:IntKind.i64.wrap (b.Next+1)=b.Next+1:=(by grind[aM]);have e:IntKind.i64.wrap (n+5)=n+5:=(by grind[aM]);have key:∀l:List AZ,l.length<=15->l.Pairwise (λa c=>a.Id<c.Id)->(∀c∈l,c∈b.Open)->BookIn ⟨b.Seed,IntKind.i64.wrap (b.Next+1),l++[aCg b a n]⟩:=λl hl ho hm=>by
    rw[d];refine⟨(by grind),by simp;omega,?_,λc hc=> ?_⟩
    all_goals grind[q1,q2,q3,List.mem_singleton,aCg]
   grind
def bRe {b:AR}(h:BookIn b)(c a n:Int):BookIn (qB b c a n).1/\(qB b c a n).1.Seed=b.Seed:=by
 unfold qB;rw[h.ok];cases decide (dN b c<0) with
 |true=>simp[*]
 |false=>
  obtain⟨h1,h2,e,f⟩:=h;have d:(b.Open.take (dN b c).toNat++b.Open.drop ((dN b c).toNat+1)).Sublist b.Open:=by
   grind[List.drop_sublist,List.drop_drop,List.Sublist.append,List.take_append_drop,dN]
  exact⟨⟨h1,bz d.length_le h2,e.sublist d,λc hc=>f c (d.subset hc)⟩,rfl⟩
def SiteIn.aBQ {seed j:Int}{n:Nat}{s:AF}(h:SiteIn seed j n s){b:AR}(hb:BookIn b)(hs:b.Seed=s.Book.Seed):SiteIn seed j n {s with Book:=b}:=
 ⟨h.name,hb.ok,by show bL b.Seed=true;rw[hs];exact h.key,h.acc⟩
def SiteIn.begin {seed j:Int}{n:Nat}{s:AF}(h:SiteIn seed j n s)(i t:Int):SiteIn seed j n (mD s i t).1:=by
 unfold mD;cases dD s&&(!decide (aJ s i<0)&&(fA s.Book i t).2.2) with
 |false=>exact h
 |true=>have:=bCe (aCk h.book) i t;exact h.aBQ this.1 this.2.1
def Mf.set {seed j:Int}{l:List AV}(h:Mf seed j l){k:Nat}(hk:k<l.length){c:AV}(h1:c.Handle=l[k].Handle)(h2:c.Public=l[k].Public)(a:0<=c.Counter/\c.Counter<=1000000):Mf seed j (l.set k c):=by
 intro i hi;rw[en];rw[ao] at hi;split
 ·rename_i e;subst e;have:=h k hk;omega
 ·exact h i hi
theorem wH {α:Type}{p:α->Bool}:∀{l:List α} {i:Nat},decide (kW p i l<0)=false->∃k,∃h:k<l.length,kW p i l=((i+k:Nat):Int)/\p l[k]=true
 |[],i,h=>by simp[kW] at h
 |x::l,i,h=>by
  unfold kW at h ⊢;cases hp:p x with
  |true=>exact⟨0,by simp,by simp,by simpa using hp⟩
  |false=>rw[hp,ae] at h;obtain⟨k,hk,a,c⟩:=wH h;exact⟨k+1,by simpa using hk,by rw[ae,a];congr 1;omega,by simpa using c⟩
def Mf.use {seed j:Int}{l:List AV}(h:Mf seed j l)(x:AX)(z:ByteArray)(c:Int)(A:0<=x.Counter/\x.Counter<=1000000):
  ∃l',(iI ⟨1,3,l⟩ x z c).1=⟨1,3,l'⟩/\Mf seed j l'/\l'.length=l.length/\∀k (h1:k<l.length) (h2:k<l'.length),l[k].Cut=true->l'[k].Cut=true:=by
 unfold iI;cases hb: !bA ⟨1,3,l⟩||(decide (aW ⟨1,3,l⟩ x.Handle<0)||(fO ⟨1,3,l⟩ (aW ⟨1,3,l⟩ x.Handle)).Cut) with
 |true=>simp[*]
 |false=>
  simp only[bl] at hb;obtain⟨k,hk,d,D⟩:=wH (l:=l) hb.2.1;have f:aW ⟨1,3,l⟩ x.Handle=(k:Int):=d.trans (by simp);have o:fO ⟨1,3,l⟩ (k:Int)=l[k]:=by grind[List.getD,List.getElem?_eq_getElem,fO]
  rw[f,o,ae,bo];have a:∀c:AV,c.Handle=l[k].Handle->c.Public=l[k].Public->0<=c.Counter/\c.Counter<=1000000->(l[k].Cut=true->c.Cut=true)->
    ∃l',(AH.mk 1 3 (l.set k c))=⟨1,3,l'⟩/\Mf seed j l'/\l'.length=l.length/\∀i (h1:i<l.length) (h2:i<l'.length),l[i].Cut=true->l'[i].Cut=true:=λc p s u y=>
   ⟨_,rfl,h.set hk p s u,ao,λi h1 h2 e=>by
    rw[en];split
    ·rename_i q;subst q;exact y e
    ·exact e⟩
  cases gU l[k].Public x z c l[k].Counter==0 with
  |true=>simp_all
  |false=>
   cases gU l[k].Public x z c l[k].Counter==4 with
   |true=>exact a _ rfl rfl (h k hk).2.2 (λ_=>rfl)
   |false=>simp[*]
def SiteIn.aBV {seed j:Int}{n:Nat}{s:AF}(h:SiteIn seed j n s){l:List AV}(hl:Mf seed j l)(hn:l.length=n)(g:List Int)(b:AR)(hb:BookIn b)(hs:b.Seed=s.Book.Seed):SiteIn seed j n {s with Book:=b,Accounts:=[⟨1,3,l⟩],Logins:=g}:=
 ⟨h.name,hb.ok,by show bL b.Seed=true;rw[hs];exact h.key,l,rfl,hl,hn⟩
def SiteIn.finish {seed j:Int}{n:Nat}{s:AF}(h:SiteIn seed j n s)(c t:Int)(x:AX)(a:0<=x.Counter/\x.Counter<=1000000):SiteIn seed j n (oC s 1 c t x).1:=by
 have d:=h.find;have hk:=bRe (aCk h.book) c 1 t;unfold oC;rw[d];cases !dD s||decide ((0:Int)<0) with
 |true=>exact h
 |false=>
  simp only[ae];cases !(qB s.Book c 1 t).2 with
  |true=>exact h.aBQ hk.1 hk.2
  |false=>
   simp only[ae];cases !qN (fF s 0) 3 with
   |true=>exact h.aBQ hk.1 hk.2
   |false=>
    obtain⟨l,e,hl,hn⟩:=h.acc;have f:fF s 0=⟨1,3,l⟩:=by grind[fF]
    obtain⟨l',q1,q2,q3,_⟩:=hl.use x s.Name (eT s.Book c) a;simp only[ae,f,q1];rw[show s.Accounts.set (0:Int).toNat ⟨1,3,l'⟩=[⟨1,3,l'⟩] by rw[e];rfl];cases !((iI ⟨1,3,l⟩ x s.Name (eT s.Book c)).2==0) with
    |true=>exact h.aBV q2 (q3.trans hn) s.Logins _ hk.1 hk.2
    |false=>exact h.aBV q2 (q3.trans hn) (s.Logins++[1]) _ hk.1 hk.2
def bNs (s:AJ)(z:ByteArray)(i:Int)(m:List Int):(jD s z i m).1.Seed=s.Seed/\(jD s z i m).1.Vendor=s.Vendor/\(jD s z i m).1.Serial=s.Serial/\((jD s z i m).2.2=true->(jD s z i m).1.Counter=s.Counter+1/\0<=s.Counter/\s.Counter<1000000)/\((jD s z i m).2.2=false->(jD s z i m).1=s):=by
 unfold jD;cases hb:lI s&& !(s.Counter==1000000) with
 |false=>simp
 |true=>
  simp only[aa,bv,ca] at hb;have hs:=hb.1;unfold lI at hs;simp only[aa] at hs;have hc:=iA hs.2.2.2;refine⟨rfl,rfl,rfl,⟨λ_=> ?_,λh=>by cases h⟩⟩
  have:IntKind.i64.wrap (s.Counter+1)=s.Counter+1:=(by grind[aM]);exact⟨this,by omega,by have:=hb.2;omega⟩
def bCf (s:AJ)(o:AS)(z:ByteArray)(i c:Int)(p:Bool):(iP s o z i c p).1.Seed=s.Seed/\(iP s o z i c p).1.Vendor=s.Vendor/\(iP s o z i c p).1.Serial=s.Serial/\(0<=s.Counter/\s.Counter<=1000000->(0<=(iP s o z i c p).1.Counter/\(iP s o z i c p).1.Counter<=1000000)/\(0<=(iP s o z i c p).2.1.Counter/\(iP s o z i c p).2.1.Counter<=1000000)):=by
 obtain⟨h1,h2,a,d,e⟩:=bNs s z i (dH (Sj s o z i c p));unfold iP;cases hb:lW o z&&(jD s z i (dH (Sj s o z i c p))).2.2 with
 |false=>exact⟨rfl,rfl,rfl,λh=>⟨h,cJ 0,show(0:Int)<=1000000 by decide⟩⟩
 |true=>
  grind
structure StIn (seed:Int) (k:Nat) (s:AJ):Prop where
 ven:s.Vendor=1
 ser:s.Serial=(k:Int)
 key:s.Seed=(aO seed (k:Int)).Seed
 cnt:0<=s.Counter/\s.Counter<=1000000
structure WIn (m:Nat) (w:AA):Prop where
 seed:bL w.Seed=true
 now:0<=w.Now/\w.Now<=999900
 dlen:1<=w.Devices.length/\w.Devices.length<=6
 slen:w.Stolen.length=w.Devices.length
 dev:∀k (h:k<w.Devices.length),StIn w.Seed k w.Devices[k].Store
 two:w.Sites.length=2
 mle:m<=6
 site:∀j (h:j<w.Sites.length),SiteIn w.Seed (j:Int) m w.Sites[j]
 mail:dR w.Mail=true
 log:aU w.aAA.Log=true
def WIn.ok {m:Nat}{w:AA}(h:WIn m w):aR w=true:=by
 have hs:iM nH 0 w.Sites=false:=Sq λk hk=>by
  have h2:=h.two;have:=h.site k hk;unfold nH;rw[this.ok (by omega) h.mle,this.name,cy];simp
 unfold aR;have h2:=h.two;have a:=h.slen;have c:=h.dlen;rw[hs,h.log,h.mail,h.seed,iK h.now.1 h.now.2,iK (by omega) (by omega),a,h2];simp
def WIn.upd {m:Nat}{w v:AA}(h:WIn m w)(h1:v.Seed=w.Seed)(h2:v.Now=w.Now)(a:v.Devices.length=w.Devices.length)(c:v.Stolen.length=w.Stolen.length)
  (l:∀k (h:k<v.Devices.length),StIn w.Seed k v.Devices[k].Store) (d:v.Sites.length=2) (o:∀j (h:j<v.Sites.length),SiteIn w.Seed (j:Int) m v.Sites[j]) (e:dR v.Mail=true) (f:aU v.aAA.Log=true):WIn m v where
 seed:=by rw[h1];exact h.seed
 now:=by rw[h2];exact h.now
 dlen:=by rw[a];exact h.dlen
 slen:=by rw[a,c];exact h.slen
 dev:=by simp[*]
 two:=d
 mle:=h.mle
 site:=by simp[*]
 mail:=e
 log:=f
def WIn.aBO {m:Nat}{w:AA}(h:WIn m w){i:Nat}{x:AB}(hi:i<w.Devices.length)(a:StIn w.Seed i x.Store):∀k (h:k<(w.Devices.set i x).length),StIn w.Seed k (w.Devices.set i x)[k].Store:=λk hk=>by
 rw[en];rw[ao] at hk;split
 ·simp_all
 ·exact h.dev k hk
def WIn.aDE {m:Nat}{w:AA}(h:WIn m w){i:Nat}{x:AF}(hi:i<2)(a:SiteIn w.Seed (i:Int) m x):∀k (h:k<(w.Sites.set i x).length),SiteIn w.Seed (k:Int) m (w.Sites.set i x)[k]:=λk hk=>by
 rw[en];rw[ao] at hk;split
 ·simp_all
 ·exact h.site k hk
def qV {w:AA}{d:Int}(h:aK w d=true):0<=d/\d.toNat<w.Devices.length/\aG w d=w.Devices.getD d.toNat default:=by simp only[aK,aa,cq] at h;exact⟨h.1,by omega,rfl⟩
theorem gY {w:AA}{d:Int}(h:aK w d=true):∃h:d.toNat<w.Devices.length,aG w d=w.Devices[d.toNat]:=by simp_all[List.getD,ab,qV]
def WIn.aBX {m:Nat}{w:AA}(h:WIn m w){d:Int}(hd:aK w d=true):StIn w.Seed d.toNat (aG w d).Store:=by obtain⟨h1,h2⟩:=gY hd;rw[h2];exact h.dev _ h1
def bJu {m:AP}(h:dR m=true)(k a t:Int):dR (nK m k a t).1=true:=by
 grind[dR,Dx,Bool.or_eq_false_iff,Bool.not_eq_false',nK]
def WIn.tell {m:Nat}{w:AA}(h:WIn m w)(k:Int):WIn m (nZ w k):=
 h.upd rfl rfl rfl rfl h.dev h.two h.site (bJu h.mail _ _ _) h.log
def StIn.make {seed:Int}{k:Nat}{s:AJ}(h:StIn seed k s)(o:AS)(z:ByteArray)(i c:Int)(p:Bool):StIn seed k (iP s o z i c p).1:=by obtain⟨h1,h2,a,d⟩:=bCf s o z i c p;exact⟨h2.trans h.ven,a.trans h.ser,h1.trans h.key,(d h.cnt).1⟩
def WIn.visit {m:Nat}{w:AA}(h:WIn m w)(d j:Int)(o:AS):WIn m (dV w d j o).1:=by
 unfold dV;cases ht:dM w d j with
 |false=>exact h
 |true=>
  have a:=ht;simp only[dM,aa] at a;have h2:=h.two;have hq:=a.2.2;simp only[lF,aa,cq] at hq;have hj:j.toNat<w.Sites.length:=by omega
  have es:dU w j=w.Sites[j.toNat]:=by grind[List.getD,List.getElem?_eq_getElem,dU]
  have hs:=h.site _ hj;rw[<-es,show((j.toNat:Nat):Int)=j by omega] at hs;have c:=h.aBX a.2.1;have hm:=bCf (aG w d).Store o (aA j) d (gZ w j).2.2.1 true;have hb:SiteIn w.Seed j m (gZ w j).1:=hs.begin 1 w.Now;have f:SiteIn w.Seed j m (Ac w d j o).1:=hb.finish _ _ _ (hm.2.2.2 c.cnt).2;have l:WIn m (aPh w d j o):=by obtain⟨p,e,_⟩:=qV a.2.1;refine h.upd rfl rfl (ao ..) rfl (h.aBO e (c.make o (aA j) d (gZ w j).2.2.1 true)) (by show(w.Sites.set _ _).length=2;rw[ao,h2]) (h.aDE (by omega) (by grind)) h.mail h.log
  simp only[ax,ae];cases !(gZ w j).2.2.2 with
  |true=>exact h
  |false=>
   cases !((Ac w d j o).2.1==0) with
   |true=>exact l
   |false=>exact l.tell 1
def WIn.sync {m:Nat}{w:AA}(h:WIn m w)(d b:Int):WIn m (aF w d b).1:=by
 unfold aF;cases hb:aR w&&aK w d with
 |false=>exact h
 |true=>rw[aa] at hb;obtain⟨e,a,_⟩:=qV hb.2;refine h.upd rfl rfl (ao ..) rfl (h.aBO a ?_) h.two h.site h.mail h.log;have c:=h.aBX hb.2;unfold bQ;cases iH (aG w d) w.aAA.Log w.aAA.Boxes (eF w.aAA b).1==0<;>exact c
def WIn.aCH {m:Nat}{w:AA}(h:WIn m w)(d:Int)(n:ByteArray)(a:Int)(r:Bool):WIn m (lS w d n a r).1:=by
 unfold lS;cases hb:aR w&&aK w d with
 |false=>exact h
 |true=>
  rw[aa] at hb;obtain⟨f,c,_⟩:=qV hb.2;have e:=h.aBX hb.2;simp only[ac];cases(bO (aG w d) n a r).2 with
  |false=>exact h
  |true=>refine h.upd rfl rfl (ao ..) rfl (h.aBO c ?_) h.two h.site h.mail h.log;unfold bO;cases(pO (aG w d) n a r).2<;>exact e
theorem aKo (d:AB):(bZ d).1.Store=d.Store:=by unfold bZ;cases(kK d.Key d.Epoch (IntKind.i64.wrap (d.Version+1)) d.aAD).2<;>rfl
def WIn.up {m:Nat}{w:AA}(h:WIn m w){d:Int}(hd:aK w d=true):WIn m (Dj w d).1:=by
 unfold Dj;cases(bZ (aG w d)).2.2&&(bM w.aAA (bZ (aG w d)).2.1).2 with
 |false=>exact h
 |true=>obtain⟨c,a,_⟩:=qV hd;refine h.upd rfl rfl (ao ..) rfl (h.aBO a (by rw[aKo];exact h.aBX hd)) h.two h.site h.mail ?_;show aU (bM w.aAA (bZ (aG w d)).2.1).1.Log=true;rw[(qQ _ _).2];exact h.log
def WIn.push {m:Nat}{w:AA}(h:WIn m w)(d:Int):WIn m (dI w d).1:=by
 unfold dI;cases hb:(aF w d 0).2==0&&(Dj (aF w d 0).1 d).2 with
 |false=>exact h
 |true=>
  rw[aa] at hb;have h0:=nY hb.1;exact(h.sync d 0).up (by
   grind[aK])
theorem fP (w:AA)(d b:Int):(aF w d b).1.Seed=w.Seed/\(aF w d b).1.Now=w.Now/\(aF w d b).1.Devices.length=w.Devices.length/\(aF w d b).1.Sites=w.Sites/\(aF w d b).1.Stolen=w.Stolen/\(aF w d b).1.aAA=w.aAA:=by
 grind[aR,aK,List.length_set,aF]
theorem aZa (w:AA)(d:Int):(Dj w d).1.Seed=w.Seed/\(Dj w d).1.Now=w.Now/\(Dj w d).1.Devices.length=w.Devices.length/\(Dj w d).1.Sites=w.Sites/\(Dj w d).1.Stolen=w.Stolen/\(Dj w d).1.aAA.Log=w.aAA.Log:=by
 grind[bZ,aG,bM,List.length_set,qQ,Dj]
def rQ (w:AA)(d:Int):(dI w d).1.Seed=w.Seed/\(dI w d).1.Now=w.Now/\(dI w d).1.Devices.length=w.Devices.length/\(dI w d).1.Sites=w.Sites/\(dI w d).1.Stolen=w.Stolen/\(dI w d).1.aAA.Log=w.aAA.Log:=by
 grind[aF,Dj,fP,aZa,dI]
def Mg (w:AA)(b k p:Int)(key:List AD->Int):(fV w b k p key).1.Seed=w.Seed/\(fV w b k p key).1.Now=w.Now/\(fV w b k p key).1.Devices=w.Devices/\(fV w b k p key).1.Sites=w.Sites/\(fV w b k p key).1.Stolen=w.Stolen/\(fV w b k p key).1.Mail=w.Mail/\(aU w.aAA.Log=true->aU (fV w b k p key).1.aAA.Log=true):=by
 unfold fV
 grind[gG,aU,bS,fQ,bC,bP,aG]
def WIn.aCW {m:Nat}{w:AA}(h:WIn m w)(b k p:Int)(key:List AD->Int):WIn m (fV w b k p key).1:=by obtain⟨d,e,a,c,f,j,l⟩:=Mg w b k p key;exact h.upd d e (by rw[a]) (by rw[f]) (by rw[a];exact h.dev) (by rw[c];exact h.two) (by rw[c];exact h.site) (by rw[j];exact h.mail) (l h.log)
def aW9 {seed:Int}{m:Nat}(hm:m<6):∀(l:List AF) (j:Nat),j+l.length<=2->(∀i (h:i<l.length),SiteIn seed ((j+i:Nat):Int) m l[i])->
  (fZ (aO seed (m:Int)) (m:Int) j l).2=true/\(fZ (aO seed (m:Int)) (m:Int) j l).1.length=l.length/\∀i (h:i<(fZ (aO seed (m:Int)) (m:Int) j l).1.length),SiteIn seed ((j+i:Nat):Int) (m+1) (fZ (aO seed (m:Int)) (m:Int) j l).1[i]
 |[],j,_,_=>⟨rfl,rfl,λi h=>by simp[fZ] at h⟩
 |s::l,j,hj,h=>by
  have h0:SiteIn seed (j:Int) m s:=h 0 (by simp);simp only[aw] at hj;obtain⟨a,c⟩:=h0.reg (by omega) hm;obtain⟨d,f,o⟩:=aW9 hm l (j+1) (by omega) (λi hi=>by
   have:=h (i+1) (by simpa using hi);rw[show j+1+i=j+(i+1) by omega];simpa using this)
  have e:eG (aO seed (m:Int)) (aA (j:Int)) (m:Int)=Sr seed (j:Int) m:=by unfold Sr;rfl
  have p:fZ (aO seed (m:Int)) (m:Int) j (s::l)=((eQ s 1 (m:Int) (Sr seed (j:Int) m)).1::(fZ (aO seed (m:Int)) (m:Int) (j+1) l).1,true):=by rw[fZ,e,a,d];rfl
  rw[p];refine⟨rfl,by simp[f],λi hi=> ?_⟩;cases i with
  |zero=>simpa using c
  |succ i=>simp only[aw] at hi;have:=o i (by omega);rw[show j+1+i=j+(i+1) by omega] at this;simpa using this
def Mh (d:AB)(n:ByteArray)(h:Int)(r:Bool):(bO d n h r).1.Store=d.Store:=by unfold bO;cases(pO d n h r).2<;>rfl
def aPs (d:AB)(h:Int)(r:Bool):(jI d h r).Store=d.Store:=by unfold jI;rw[Mh,Mh]
theorem He {w v:AA}{d:Int}(h:aK w d=true)(e:v.Devices.length=w.Devices.length):aK v d=true:=by
 grind[aK]
def WIn.app {m:Nat}{w:AA}(h:WIn m w)(hl:w.Devices.length<6):WIn m (appW w (bH (aO w.Seed (w.Devices.length:Int)))) where
 seed:=h.seed
 now:=h.now
 dlen:=by grind[List.length_append,List.length_cons,List.length_nil,appW]
 slen:=by unfold appW;simp only[ay,aw,bm,h.slen]
 dev:=λk hk=>by
  have a:k<(w.Devices++[bH (aO w.Seed (w.Devices.length:Int))]).length:=hk;show StIn w.Seed k ((w.Devices++[bH (aO w.Seed (w.Devices.length:Int))])[k]'a).Store;rw[List.getElem_append];split
  ·rename_i c;exact h.dev k c
  ·simp only[ay,aw,bm] at a;have e:k=w.Devices.length:=by omega
   subst e;simp only[gC,gO];exact⟨rfl,rfl,rfl,cJ 0,show(0:Int)<=1000000 by decide⟩
 two:=h.two
 mle:=h.mle
 site:=h.site
 mail:=h.mail
 log:=h.log
def WIn.aCQ {w:AA}(h:WIn w.Devices.length w){b:Int}(hn:w.Devices.length<6)(k2:aK w b=true):WIn (w.Devices.length+1) (aAT w b)/\(aAT w b).Seed=w.Seed/\(aAT w b).Devices.length=w.Devices.length:=by
 obtain⟨s1,s2,s3,s4,s5,s6⟩:=fP w b 0;have h0:=h.sync b 0;have h1:WIn w.Devices.length (add1 w b).1:=h0.aCW _ _ _ _;obtain⟨d,o,e,p,q,s,u⟩:=Mg (aF w b 0).1 b 1 (aS (aO w.Seed (w.Devices.length:Int))) (λ_=>(aG (aF w b 0).1 b).Key);have a:(add1 w b).1.Seed=w.Seed:=d.trans s1;have c:(add1 w b).1.Devices.length=w.Devices.length:=by show(fV _ _ _ _ _).1.Devices.length=_;rw[e,s3]
 obtain⟨x,f,l⟩:=aW9 (seed:=w.Seed) hn (add1 w b).1.Sites 0 (by rw[h1.two];omega) (λi hi=>by
  have:=h1.site i hi;simp_all)
 have hd:aK (add1 w b).1 b=true:=He k2 c;obtain⟨d0,d1,_⟩:=qV hd;refine⟨{
  seed:=by show bL (add1 w b).1.Seed=true;exact h1.seed
  now:=h1.now
  dlen:=by show 1<=((add1 w b).1.Devices.set _ _).length/\((add1 w b).1.Devices.set _ _).length<=6;rw[ao];exact h1.dlen
  slen:=by show(add1 w b).1.Stolen.length=((add1 w b).1.Devices.set _ _).length;rw[ao];exact h1.slen
  dev:=h1.aBO d1 (by rw[aPs];exact h1.aBX hd)
  two:=by show(M9 w b).1.length=2;exact f.trans h1.two
  mle:=by omega
  site:=λj hj=>by
   have:=l j hj;rw[cy] at this;show SiteIn (add1 w b).1.Seed (j:Int) _ _;rw[a];exact this
  mail:=h1.mail
  log:=h1.log},a,?_⟩
 show((add1 w b).1.Devices.set _ _).length=_;rw[ao,c]
theorem WIn.add {w:AA}(h:WIn w.Devices.length w)(b:Int):WIn (cK w b).1.Devices.length (cK w b).1/\(cK w b).1.Seed=w.Seed:=by
 unfold cK;cases a:xL w b with
 |false=>simp[*]
 |true=>
  unfold xL at a;simp only[aa,bv,cR] at a;obtain⟨⟨k1,k2,k3,k4⟩,k5,k6,k7,k8,k9⟩:=a;have hn:w.Devices.length<6:=by omega
  obtain⟨h2,f,j⟩:=h.aCQ hn k2;have l:WIn (w.Devices.length+1) (nL w b).1:=h2.push b;obtain⟨c,s,d,u,x,y⟩:=rQ (aAT w b) b;have c:(nL w b).1.Seed=w.Seed:=c.trans f;have d:(nL w b).1.Devices.length=w.Devices.length:=d.trans j;have e:=l.app (by omega);rw[c,d] at e;have o:WIn (w.Devices.length+1) (wY w b).1:=e.sync _ _;obtain⟨q1,q2,q3,q4,q5,q6⟩:=fP (appW (nL w b).1 (bH (aO w.Seed (w.Devices.length:Int)))) (w.Devices.length:Int) 0;have p:(nZ (wY w b).1 2).Devices.length=w.Devices.length+1:=by
   show(wY w b).1.Devices.length=_;refine q3.trans ?_
   grind[List.length_append,List.length_cons,List.length_nil,appW]
  have q:=o.tell 2;simp only[ac];rw[p];exact⟨q,q1.trans c⟩
def bCg {k:Int}(h:bL k=true)(l:List Int):iC (dQ k) l (rM k l)=true:=by
 have:=aPp h
 grind[Sm,bne,beq_eq_false_iff_ne,iC]
def bNt {l:List AD}{e:AD}(h:l=[]\/aU l=true)(hs:lC l e=true)(hl:l.length<40):aU (l++[e])=true:=by
 grind[iK,Bool.not_eq_true',aU,iM,lC,Sq,List.getElem_append_left,O1]
theorem Su (l:List AD)(e:AD):aC (l++[e])=jC (aC l) e:=by simp[gr,aC]
theorem Mi (l:List AD)(e:AD):aB (l++[e])=bif e.Kind==2 then IntKind.i64.wrap (aB l+1) else aB l:=by simp[gr,aB]
theorem yY (l:List AD)(e:AD)(p:Int):dW (l++[e]) p=(dW l p||(e.Kind==2&&e.Device==p)):=by simp[jn,dW]
def kL (seed:Int)(k:Nat):Int:=aS (aO seed (k:Int))
theorem aCl {seed:Int}{i k:Nat}(hi:i<6)(hk:k<6)(h:i≠k):kL seed i≠kL seed k:=bJs (by omega) (by omega) (by omega)
def O3 (s:AJ):bL (iO s)=true:=by simp[iJ,iO]
theorem lJ {l:List Int}{x:Int}:iW l x=true↔x∈l:=by
 grind[List.any_eq_true,iW]
structure NewLog (seed:Int) (n:Nat) (l:List AD):Prop where
 len:l.length=n
 devs:aC l=(List.range n).map (kL seed)
 rem:∀p,dW l p=false
 ep:aB l=0
 ok:n=0\/aU l=true
def pR (seed:Int):∀n,n<=6->NewLog seed n (aX seed n)
 |0,_=>⟨rfl,rfl,λ_=>rfl,rfl, .inl rfl⟩
 |n+1,hn=>by
  obtain⟨h1,h2,h,j,c⟩:=pR seed n (by omega);have a:iW (aC (aX seed n)) (kL seed n)=false:=by rw[jd,Ne,lJ,h2];intro hm;obtain⟨i,hi,e⟩:=ct.1 hm;have hi:=e9.1 hi;exact aCl (by omega) (by omega) (by omega) e
  have d:lC (aX seed n) (Gy (aX seed n) 1 (kL seed n) (aO seed 0))=true:=by
   unfold lC;have v:iC (aS (aO seed 0)) [dB (bBz (aX seed n) 1 (kL seed n) (aO seed 0))] (lH (aO seed 0) [dB (bBz (aX seed n) 1 (kL seed n) (aO seed 0))])=true:=by unfold lH aS;exact bCg (O3 _) _
   show(((aX seed n).length:Int)==((aX seed n).length:Int)&&(iE (aX seed n)==iE (aX seed n)&&((iW (aC (aX seed n)) (aS (aO seed 0))||(((aX seed n).length:Int)==0&&aS (aO seed 0)==kL seed n))&&(iC (aS (aO seed 0)) [dB (bBz (aX seed n) 1 (kL seed n) (aO seed 0))] (lH (aO seed 0) [dB (bBz (aX seed n) 1 (kL seed n) (aO seed 0))])&&
    (!dW (aX seed n) (kL seed n)&&(true&&(!iW (aC (aX seed n)) (kL seed n)&&decide (((aC (aX seed n)).length:Int)<6))))))))=true
   rw[v,h,a,h2,h1];have f:(iW ((List.range n).map (kL seed)) (aS (aO seed 0))||((n:Int)==0&&aS (aO seed 0)==kL seed n))=true:=by
    cases n with
    |zero=>simp[kL]
    |succ n=>rw[show iW ((List.range (n+1)).map (kL seed)) (aS (aO seed 0))=true from lJ.2 (ct.2 ⟨0,by simp,rfl⟩)];rfl
   rw[f];simp;omega
  have hl:=bNt (l:=aX seed n) (by
   rcases c with c|c
   ·subst c;exact .inl rfl
   ·exact .inr c) d (by omega)
  have e:aX seed (n+1)=aX seed n++[Gy (aX seed n) 1 (kL seed n) (aO seed 0)]:=by
   show(bP (aX seed n) 1 (aS (aO seed (n:Int))) (aO seed 0)).1=_;unfold bP;have hq:(decide (((aX seed n).length:Int)>0)&& !aU (aX seed n))=false:=by
    rcases c with c|c
    ·subst c;rfl
    ·rw[c];simp
   rw[hq,show aS (aO seed (n:Int))=kL seed n from rfl,hl];rfl
  rw[e];refine⟨by simp[h1],?_,λp=> ?_,?_, .inr hl⟩
  ·rw[Su,gS,ey,<-h2];unfold jC;have hc:(aC (aX seed n)).contains (kL seed n)=false:=by rw[jd] at a ⊢;intro hc;exact a (lJ.2 (by simpa using hc))
   show(bif (1:Int)==1 then(bif (aC (aX seed n)).contains (kL seed n) then _ else _) else _)=_;rw[hc];rfl
  ·rw[yY,h];rfl
  ·rw[Mi,j];rfl
theorem aXa {e:Int}{d:List Int}(hd:d.length<=200):∀(l:List Int) (i:Nat),(∀p∈l,bL p=true)->1<=e+(i:Int)->e+(i:Int)+(l.length:Int)<=2147483646->
  (fK e d i l).2=true/\(fK e d i l).1.length=l.length/\(fK e d i l).1.map (·.To)=l/\∀k (h:k<(fK e d i l).1.length) (h2:k<l.length),(fK e d i l).1[k]=nJ l[k] (e+((i+k:Nat):Int)) d
 |[],i,_,_,_=>⟨rfl,rfl,rfl,λk h _=>by simp[fK] at h⟩
 |p::l,i,hp,h1,h2=>by
  simp only[aw] at h2;obtain⟨j,o,s,u⟩:=aXa (e:=e) hd l (i+1) (λq hq=>hp q (by simp[hq])) (by push_cast;omega) (by push_cast at h2 ⊢;omega);have hk:=hp p (by simp);have hq:=aPp hk;have x:IntKind.i64.wrap (e+(i:Int))=e+(i:Int):=aM (by omega) (by push_cast at h2;omega);have a:gI p≠0:=by unfold gI;rw[hk,ax,ae];omega
  have hb:fE p (IntKind.i64.wrap (e+(i:Int))) d=(nJ p (e+(i:Int)) d,true):=by unfold fE;rw[x,ca.2 a,show bL (e+(i:Int))=true from iK (by omega) (by push_cast at h2;omega),av (show ¬(d.length:Int)>200 by omega)];rfl
  have y:fK e d i (p::l)=(nJ p (e+(i:Int)) d::(fK e d (i+1) l).1,true):=by rw[fK,hb,j];rfl
  rw[y];refine⟨rfl,by simp[o],?_,λk c f=> ?_⟩
  ·simp only[bw,s];rfl
  ·cases k with
   |zero=>rfl
   |succ k=>simp only[aw] at c f;have:=u k (by omega) (by omega);simp only[fb];rw[this];congr 1;push_cast;omega
def bNu {l:List AO}{p:Int}:∀(n:Int),0<=n->n+(l.length:Int)<=1000000->l.foldl (λn b=>bif b.To==p then IntKind.i64.wrap (n+1) else n) n=n+((l.filter λb=>b.To==p).length:Int):=by induction l<;>grind[List.length_cons,aM]
def bJv {l:List AO}(h:(l.map (·.To)).Nodup){p:Int}(hp:p∈l.map (·.To)):(l.filter λb=>b.To==p).length=1:=by induction l<;>grind[List.nodup_cons,List.filter_eq_nil_iff,absurd,beq_eq_false_iff_ne]
def bJw {log:List AD}{bx:AK}(h1:bx.Epoch=aB log)(h2:bx.Boxes.map (·.To)=aC log)(a:(aC log).Nodup)(c:(aC log).length<=1000):fQ bx log=true:=by
 have hl:bx.Boxes.length=(aC log).length:=by rw[<-h2,bj]
 unfold fQ;rw[h1,hl,dq,dq,dl,cY,co];intro p hp;unfold mV;rw[bNu 0 (by omega) (by omega),bJv (by rw[h2];exact a) (by rw[h2];exact hp)];rfl
theorem bHf (a b:Int):(iN [a,b]).length<=12:=by
 grind[List.flatten_cons,List.flatten_nil,List.length_append,iN,aB7]
def aGz {log:List AD}{key eph:Int}(h1:aU log=true)(h2:bL key=true)(a:∀p∈aC log,bL p=true)(c:(aC log).length<=1000)(d:1<=eph/\eph<=1000000):
  (bC log key eph).2=true/\(bC log key eph).1.Epoch=aB log/\(bC log key eph).1.Boxes.map (·.To)=aC log/\∀k (h:k<(bC log key eph).1.Boxes.length) (h2:k<(aC log).length),(bC log key eph).1.Boxes[k]=nJ (aC log)[k] (eph+(k:Int)) (iN [aB log,key]):=by
 grind[s4,s3,bC,aB,fK,iN,aC,s1,s2,aXa,bHf]
theorem aCm (seed:Int)(k:Nat):bL (kL seed k)=true:=by simp[bHd,O3,kL,aS]
def bCh {seed:Int}{n:Nat}(hn:n<=6):((List.range n).map (kL seed)).Nodup:=by
 rw[jq,jb];refine(List.pairwise_lt_range).imp_of_mem ?_
 grind[aCl]
theorem O4 {seed:Int}{n:Nat}(h0:1<=n)(hn:n<=6):fQ (gM seed n) (aX seed n)=true/\aU (aX seed n)=true/\(gM seed n).Epoch=0:=by
 obtain⟨h1,h2,f,c,d⟩:=pR seed n hn;have hl:aU (aX seed n)=true:=d.resolve_left (by omega);have hlen:(aC (aX seed n)).length<=1000:=by grind
 obtain⟨h,a,e,j⟩:=aGz (key:=bF seed 0) (eph:=1000) hl (by unfold bF;exact iJ _ _) (λp hp=>by
  rw[h2] at hp;obtain⟨i,_,rfl⟩:=ct.1 hp;exact aCm _ _) hlen ⟨by decide,by decide⟩
 refine⟨bJw a e (by rw[h2];exact bCh hn) hlen,hl,?_⟩;unfold gM;rw[a,c]
def bCi {seed:Int}{n:Nat}(h0:1<=n)(hn:n<=6):(iQ seed n).Log=aX seed n:=by
 grind[dF,qQ,iQ,O4]
theorem aKp (d:AB)(l:List AD)(k:Int):(jN d l k).1.Store=d.Store:=by unfold jN;cases !aU l||(!bS l d.Log||(decide (aB l<d.Epoch)|| !bL k))<;>rfl
theorem aT0 (d:AB)(l:List AD)(b:AK)(s:AI):(bQ d l b s).1.Store=d.Store:=by unfold bQ;cases iH d l b s==0<;>rfl
theorem aPt (nm:ByteArray):∀(i:Nat) (d:AB),(Me nm i d).Store=d.Store
 |0,d=>rfl
 |i+1,d=>by
  show(bO (Me nm i d) nm (i:Int) false).1.Store=_;rw[Mh,aPt nm i d]
def bJx {seed:Int}{n:Nat}(h0:1<=n):(kD seed n).length=n/\∀k (h:k<(kD seed n).length),(kD seed n)[k].Store=aO seed (k:Int):=by
 have hl:(kD seed n).length=n:=by
  grind[List.length_cons,List.length_map,List.length_drop,List.length_range,kD,dO]
 grind[nwW,aKo,lX,yU,aPt,aKp,dO,Af,kD,aT0,bH]
def Sw {n k t pin seed:Int}(h:yX n k t pin seed=true):WIn n.toNat (bI n k t pin seed)/\(bI n k t pin seed).Devices.length=n.toNat/\(bI n k t pin seed).Seed=seed:=by
 have hb:=h;unfold yX at hb;simp only[aa] at hb;obtain⟨b1,e,f,l,c⟩:=hb;have r:=iA b1;unfold bI;rw[h,ac];obtain⟨d1,d2⟩:=bJx (seed:=seed) (n:=n.toNat) (by omega);have a:=bCi (seed:=seed) (n:=n.toNat) (by omega) (by omega);have d:=(O4 (seed:=seed) (n:=n.toNat) (by omega) (by omega)).2.1;refine⟨{seed:=c,now:=⟨cJ 0,show(0:Int)<=999900 by decide⟩,dlen:= ?_,slen:= ?_,dev:= ?_,two:=rfl,mle:=by omega,site:= ?_,mail:=rfl,log:= ?_},d1,rfl⟩
 ·grind
 ·show(List.replicate n.toNat false).length=(kD seed n.toNat).length;rw[fj,d1]
 ·intro j hj;show StIn seed j ((kD seed n.toNat)[j]'hj).Store;rw[d2 j hj];exact⟨rfl,rfl,rfl,cJ 0,show(0:Int)<=1000000 by decide⟩
 all_goals grind[aU,iQ,Ae,dO,bCc]
theorem SiteIn.cut {seed j:Int}{n:Nat}{s:AF}(h:SiteIn seed j n s)(t:Int):SiteIn seed j n (gL t s):=by
 have a:=h.find;obtain⟨l,e,hl,hn⟩:=h.acc;have c:fF s 0=⟨1,3,l⟩:=by grind[fF]
 unfold gL;rw[a,show decide ((0:Int)>=0)=true from rfl,ac,c,show(0:Int).toNat=0 from rfl,e];have key:∃l',(jS ⟨1,3,l⟩ t).1=⟨1,3,l'⟩/\Mf seed j l'/\l'.length=l.length:=by
  unfold jS;cases hb: !bA ⟨1,3,l⟩||(decide (aW ⟨1,3,l⟩ t<0)||(fO ⟨1,3,l⟩ (aW ⟨1,3,l⟩ t)).Cut) with
  |true=>simp[*]
  |false=>
   simp only[bl] at hb;obtain⟨k,hk,d,p⟩:=wH (l:=l) hb.2.1;have f:aW ⟨1,3,l⟩ t=(k:Int):=d.trans (by simp);have o:fO ⟨1,3,l⟩ (k:Int)=l[k]:=by grind[List.getD,List.getElem?_eq_getElem,fO]
   rw[f,o,ae,bo];exact⟨_,rfl,hl.set hk rfl rfl (hl k hk).2.2,ao⟩
 obtain⟨l',q1,q2,q3⟩:=key;rw[q1];have:=h.aBV q2 (q3.trans hn) s.Logins s.Book (aCk h.book) rfl;exact this
def bVr {α β:Type}{P:Nat->β->Prop}{f:α->β}{l:List α}(h:∀j (hj:j<l.length),P j (f l[j])):∀j (hj:j<(l.map f).length),P j (l.map f)[j]:=(by simp[*])
theorem WIn.cut {m:Nat}{w:AA}(h:WIn m w)(b t:Int):WIn m (bE w b t).1/\(bE w b t).1.Seed=w.Seed/\(bE w b t).1.Devices.length=w.Devices.length:=by
 unfold bE;cases hq:(aF w b 0).2==0&&(!dE w b&&(!(b==t)&&bK w t)) with
 |false=>simp[*]
 |true=>
  simp only[aa] at hq;have h0:=(nY hq.1).1;simp only[ac];unfold kR;cases(jO w b t).2&&((vI w b t).2&&(sN w b t).2) with
  |false=>simp[*]
  |true=>
   obtain⟨s1,s2,s3,s4,s5,s6⟩:=fP w b 0;have e:WIn m (jJ w b):=h.sync b 0;have h1:WIn m (jO w b t).1:=e.aCW _ _ _ _;obtain⟨f,q,l,u,x,y,z⟩:=Mg (jJ w b) b 2 (aS (aG w t).Store) (jL (aG (jJ w b) b).Store);have d:(jO w b t).1.Devices=(jJ w b).Devices:=l;have hd:aK (jO w b t).1 b=true:=He h0.2 (by rw[d];exact s3);obtain⟨d0,d1,_⟩:=qV hd;have a:StIn (jO w b t).1.Seed b.toNat (jI (vI w b t).1 t true).Store:=by
    rw[aPs];unfold vI;rw[aKp];have:=h1.aBX hd
    grind[aG,jO,jJ]
   have o:WIn m (Gz w b t):=by refine h1.upd rfl rfl (ao ..) rfl (h1.aBO d1 a) (by show((jO w b t).1.Sites.map (gL t)).length=2;rw[bj];exact h1.two) (bVr (P:=λj s=>SiteIn (jO w b t).1.Seed ((j:Nat):Int) m s) λj hj=>(h1.site j hj).cut t) h1.mail h1.log
   have c:aK (Gz w b t) b=true:=He hd (ao ..);have p:WIn m (sN w b t).1:=o.up c;obtain⟨u1,u2,u3,u4,u5,u6⟩:=aZa (Gz w b t) b;refine⟨p.tell 4,?_,?_⟩
   ·show(sN w b t).1.Seed=w.Seed;exact u1.trans (f.trans s1)
   ·show(sN w b t).1.Devices.length=w.Devices.length;refine u3.trans ?_;show((jO w b t).1.Devices.set _ _).length=_;rw[ao,d];exact s3
def WIn.aBJ {m:Nat}{w:AA}(h:WIn m w)(d:Int):WIn m (gP w d).1/\(gP w d).1.Seed=w.Seed/\(gP w d).1.Devices.length=w.Devices.length:=by
 unfold gP;cases dM w d 0&& !dE w d with
 |false=>simp[*]
 |true=>exact⟨h.upd rfl rfl rfl (ao ..) h.dev h.two h.site h.mail h.log,rfl,rfl⟩
def Ai (w:AA)(d j:Int)(o:AS):(dV w d j o).1.Seed=w.Seed/\(dV w d j o).1.Devices.length=w.Devices.length:=by
 unfold dV;cases !dM w d j with
 |true=>simp
 |false=>
  cases !(gZ w j).2.2.2 with
  |true=>simp
  |false=>
   cases !((Ac w d j o).2.1==0) with
   |true=>exact⟨rfl,ao ..⟩
   |false=>exact⟨rfl,ao ..⟩
def zJ (w:AA)(d:Int)(n:ByteArray)(a:Int)(r:Bool):(lS w d n a r).1.Seed=w.Seed/\(lS w d n a r).1.Devices.length=w.Devices.length:=by
 grind[aR,aK,bO,aG,List.length_set,lS]
def aCn {α:Type}[Inhabited α]{f:α->Nat}{K:Nat}{x:α}:∀{l:List α} {i:Nat},i<l.length->f x<=f (l.getD i default)+K->((l.set i x).map f).sum<=(l.map f).sum+K
 |y::l,0,_,h=>by
  simp only[List.getD,gA,cI] at h;simp only[List.set_cons_zero,bw,eE];omega
 |y::l,i+1,hi,h=>by
  have:=aCn (f:=f) (l:=l) (i:=i) (x:=x) (K:=K) (by simpa using hi) (by simpa[List.getD] using h);simp only[iq,bw,eE];omega
def Ik {w:AA}{d:Int}(hd:aK w d=true){x:AB}{K:Nat}(a:x.sz<=(aG w d).sz+K):({w with Devices:=w.Devices.set d.toNat x}:AA).sz<=w.sz+K:=by
 obtain⟨h0,h1,h2⟩:=qV hd;have:=aCn (f:=AB.sz) (K:=K) h1 (by assumption)
 grind[AA.sz,List.length_set]
def bE3 {w:AA}{j:Nat}(hj:j<w.Sites.length){x:AF}{K:Nat}(a:x.sz<=(w.Sites.getD j default).sz+K):({w with Sites:=w.Sites.set j x}:AA).sz<=w.sz+K:=by
 have:=aCn (f:=AF.sz) (K:=K) hj a
 grind[AA.sz,List.length_set]
def WIn.aCO {m:Nat}{w:AA}(h:WIn m w):w.aAA.Log.length<=40:=by have:=h.log;unfold aU at this;rw[aa] at this;have:=iA this.1;omega
def bCj {m:Nat}{w:AA}(h:WIn m w)(d b:Int):(aF w d b).1.sz<=w.sz+60:=by
 have hl:=h.aCO;unfold aF;cases hb:aR w&&aK w d with
 |false=>simp
 |true=>rw[aa] at hb;simp only[ac];have:=aPf (aG w d) w.aAA.Log w.aAA.Boxes (eF w.aAA b).1;exact Ik hb.2 (by omega)
def bNv (w:AA)(d:Int)(n:ByteArray)(a:Int)(r:Bool):(lS w d n a r).1.sz<=w.sz+1:=by
 unfold lS;cases hb:aR w&&aK w d with
 |false=>simp
 |true=>
  rw[aa] at hb;simp only[ac];cases(bO (aG w d) n a r).2 with
  |false=>simp
  |true=>simp_all[Ik,Ih]
def bNw {m:Nat}{w:AA}(h:WIn m w)(d:Int):(dI w d).1.sz<=w.sz+561:=by
 have hl:=h.aCO
 grind[dI,aCb,aF,Dj]
def add_add {w:AA}(h:WIn w.Devices.length w)(b:Int):(cK w b).1.sz<=w.sz+2500:=by
 have hl:=h.aCO;unfold cK;cases a:xL w b with
 |false=>simp
 |true=>
  unfold xL at a;simp only[aa,bv,cR] at a;obtain⟨⟨k1,k2,k3,k4⟩,k5,k6,k7,k8,k9⟩:=a;obtain⟨s1,s2,s3,s4,s5,s6⟩:=fP w b 0;have a0:=bCj h b 0;have h0:=h.sync b 0;have h1:WIn w.Devices.length (add1 w b).1:=h0.aCW _ _ _ _;obtain⟨c,z2,f,p⟩:=aCd (aF w b 0).1 b 1 (aS (aO w.Seed (w.Devices.length:Int))) (λ_=>(aG (aF w b 0).1 b).Key);rw[s6] at c z2;have c:(add1 w b).1.sz<=(aF w b 0).1.sz+14*(w.aAA.Log.length+1):=c;have z2:(add1 w b).1.aAA.Log.length<=w.aAA.Log.length+1:=z2;have hd:aK (add1 w b).1 b=true:=He k2 (by show(fV _ _ _ _ _).1.Devices.length=_;rw[f,s3]);obtain⟨s,u⟩:=aGt (st:=aO w.Seed (w.Devices.length:Int)) (n:=(w.Devices.length:Int)) (j:=0) (l:=(add1 w b).1.Sites);have y:=h1.two;have o:(aAT w b).sz<=(add1 w b).1.sz+4:=by
   have q:=Ik (w:=(add1 w b).1) hd (x:=jI (aG (add1 w b).1 b) (w.Devices.length:Int) false) (K:=2) (aCe _ _ _)
   grind[AA.sz,aAT,M9]
  have e:=(aCb (w:=aAT w b) (d:=b) k8).2;have e:(nL w b).1.sz<=(aAT w b).sz+(aAT w b).aAA.Log.length+521:=e;have pl:=(aCb (w:=aAT w b) (d:=b) k8).1;have pl:(nL w b).1.aAA.Log=(aAT w b).aAA.Log:=pl;have z:(aAT w b).aAA.Log.length=(add1 w b).1.aAA.Log.length:=rfl;have ap:=aNe (nL w b).1 (bH (aO w.Seed (w.Devices.length:Int)));have nd:(bH (aO w.Seed (w.Devices.length:Int))).sz=0:=rfl;have A:=(nY (w:=appW (nL w b).1 (bH (aO w.Seed (w.Devices.length:Int)))) k9).2.2.2
  grind[aNf,wY,appW,nL,bH,aO]
def bRf {m:Nat}{w:AA}(h:WIn m w)(b t:Int):(bE w b t).1.sz<=w.sz+2500:=by
 have hl:=h.aCO;unfold bE;cases hq:(aF w b 0).2==0&&(!dE w b&&(!(b==t)&&bK w t)) with
 |false=>simp
 |true=>
  simp only[aa] at hq;obtain⟨q1,q2,q3,q4⟩:=nY hq.1;simp only[ac];unfold kR;cases(jO w b t).2&&((vI w b t).2&&(sN w b t).2) with
  |false=>simp
  |true=>
   obtain⟨c,z2,a,f⟩:=aCd (jJ w b) b 2 (aS (aG w t).Store) (jL (aG (jJ w b) b).Store);have e0:(jJ w b).aAA.Log=w.aAA.Log:=by show(aF w b 0).1.aAA.Log=_;rw[q2]
   rw[e0] at c z2;have c:(jO w b t).1.sz<=(jJ w b).sz+14*(w.aAA.Log.length+1):=c;have a:(jO w b t).1.Devices=(jJ w b).Devices:=a;have q4:(jJ w b).sz<=w.sz+w.aAA.Log.length+20:=q4;have hd:aK (jO w b t).1 b=true:=He q1.2 (by rw[a];exact q3);have j:(Mc w b t).length<=w.aAA.Log.length+1:=by
    grind[mW,jJ,aS,aG,Mc]
   have d:aG (jO w b t).1 b=aG (jJ w b) b:=by unfold aG;rw[a]
   have e:(jI (vI w b t).1 t true).sz<=(aG (jO w b t).1 b).sz+(w.aAA.Log.length+3):=by
    grind[vI,aG,jJ,Mc,aCf,jL,aCe]
   have l:(Gz w b t).sz<=(jO w b t).1.sz+(w.aAA.Log.length+3):=by
    have q:=Ik (w:=(jO w b t).1) hd e
    grind[AA.sz,List.length_map,Gz,aKk,jO]
   grind[aNf,sN,Gz,bM9,aK,He,List.length_set]
structure Kept (w v:AA):Prop where
 wi:WIn v.Devices.length v
 seed:v.Seed=w.Seed
 sz:v.sz<=w.sz+3000
def Kept.of {w v:AA}(h:WIn w.Devices.length v/\v.Seed=w.Seed/\v.Devices.length=w.Devices.length)(a:v.sz<=w.sz+3000):Kept w v:=⟨by rw[h.2.2];exact h.1,h.2.1,a⟩
def bJy (s:AF)(c t:Int)(x:AX)(h:aJ s 1=0)(h0:0<s.Accounts.length):(oC s 1 c t x).1.sz<=s.sz+1:=by
 have hb:(qB s.Book c 1 t).1.Open.length<=s.Book.Open.length:=by
  unfold qB;cases !fJ s.Book||decide (dN s.Book c<0) with
  |true=>exact ak _
  |false=>simp only[ae,ay,cp,cF];omega
 have d:∀a x z q,(iI a x z q).1.sz=a.sz:=λa x z q=>by
  unfold iI;cases !bA a||(decide (aW a x.Handle<0)||(fO a (aW a x.Handle)).Cut) with
  |true=>rfl
  |false=>simp only[ae,AH.sz];cases gU (fO a (aW a x.Handle)).Public x z q (fO a (aW a x.Handle)).Counter==0<;>cases gU (fO a (aW a x.Handle)).Public x z q (fO a (aW a x.Handle)).Counter==4<;>simp
 have hs:=aCn (f:=AH.sz) (K:=0) (l:=s.Accounts) (i:=0) (x:=(iI (fF s 0) x s.Name (eT s.Book c)).1) h0 (by rw[d];exact ak _);unfold oC;rw[h];cases !dD s||decide ((0:Int)<0) with
 |true=>exact eg _
 |false=>
  simp only[ae];cases !(qB s.Book c 1 t).2 with
  |true=>simp only[ac,AF.sz];omega
  |false=>
   simp only[ae];cases !qN (fF s 0) 3 with
   |true=>simp only[ac,AF.sz];omega
   |false=>
    simp only[ae];cases !((iI (fF s 0) x s.Name (eT s.Book c)).2==0) with
    |true=>simp only[ac,AF.sz,show(0:Int).toNat=0 from rfl,ao];omega
    |false=>simp only[ae,AF.sz,show(0:Int).toNat=0 from rfl,ao,ay,aw,bm];omega
def bJz (s:AF)(i n:Int):(mD s i n).1.sz<=s.sz+1:=by
 unfold mD;cases dD s&&(!decide (aJ s i<0)&&(fA s.Book i n).2.2) with
 |false=>exact eg _
 |true=>
  have hb:(fA s.Book i n).1.Open.length<=s.Book.Open.length+1:=by
   unfold fA;cases fJ s.Book&&(!(s.Book.Next==1000000)&&(bX i 0 1000000&&bX n 0 1000000)) with
   |false=>simp only[ae];omega
   |true=>
    simp only[ac];cases decide ((s.Book.Open.length:Int)>=16) with
    |true=>simp only[ac,ay,cF,aw,bm];omega
    |false=>simp only[ae,ay,aw,bm];omega
  simp only[ac,AF.sz];omega
def bJ0 {m:Nat}{w:AA}(h:WIn m w)(d j:Int)(o:AS):(dV w d j o).1.sz<=w.sz+3:=by
 unfold dV;cases ht:dM w d j with
 |false=>simp only[dc,ac];omega
 |true=>
  have a:=ht;simp only[dM,aa] at a;have h2:=h.two;have hq:=a.2.2;simp only[lF,aa,cq] at hq;have hj:j.toNat<w.Sites.length:=by omega
  have es:dU w j=w.Sites[j.toNat]:=by unfold dU;simp[List.getD,ab hj]
  have hs:=h.site _ hj;rw[<-es,show((j.toNat:Nat):Int)=j by omega] at hs;have hb:SiteIn w.Seed j m (gZ w j).1:=hs.begin 1 w.Now;have e:(gZ w j).1.sz<=(dU w j).sz+1:=bJz _ _ _;obtain⟨l,c,_⟩:=hb.acc;have z2:(Ac w d j o).1.sz<=(gZ w j).1.sz+1:=bJy _ _ _ _ hb.find (by rw[c];simp);have f:(aPh w d j o).sz<=w.sz+2:=by have q1:=Ik (w:=w) a.2.1 (x:={aG w d with Store:=(Md w d j o).1}) (K:=0) (ak _);have q2:=bE3 (w:=w) hj (x:=(Ac w d j o).1) (K:=2) (by show _<=(dU w j).sz+2;omega);unfold aPh;simp only[AA.sz] at q1 q2 ⊢;omega
  simp only[ax,ae];cases !(gZ w j).2.2.2 with
  |true=>simp only[ac];omega
  |false=>
   simp only[ae];cases !((Ac w d j o).2.1==0) with
   |true=>simp only[ac];omega
   |false=>have:=aNf (aPh w d j o) 1;simp only[ae];omega
def bE4 {w:AA}(h:WIn w.Devices.length w)(d j:Int)(o:AS):Kept w (dV w d j o).1:=by obtain⟨k1,k2⟩:=Ai w d j o;have:=bJ0 h d j o;exact .of ⟨h.visit d j o,k1,k2⟩ (by omega)
def Kept.refl {w:AA}(h:WIn w.Devices.length w):Kept w w:=⟨h,rfl,db _ _⟩
def bNx {w:AA}(h:WIn w.Devices.length w)(b:Bool)(d j:Int)(o:AS):Kept w (bif b then yT w d j o else(w,1)).1:=by
 cases b with
 |true=>exact bE4 h d j o
 |false=>exact .refl h
def aG0 {b:List Int}{p:Nat}{h:Int}{t:List Int}(e:b.drop p=h::t):p<b.length/\b.getD p 0=h/\b.drop (p+1)=t:=by
 grind[List.getD,List.getElem?_eq_getElem,List.drop_eq_getElem_cons,List.length,List.length_drop,List.length_cons]
def split_mul (r P:Int):r*P=r/128*(P*128)+r%128*P:=by
 have h:128*(r/128)+r%128=r:=Int.mul_ediv_add_emod r 128
 conv=>lhs;rw[<-h]
 rw[Int.add_mul,jc 128,Int.mul_assoc,jc 128 P]
def bHg {b y:List Int}{p:Nat}:∀(k i:Nat) (n r:Int),b.drop (p+i)=uvE k r++y->0<=r->r<128^(k+1)->(0<i->r≠0)->0<=n->n+r*128^i<=1000000000000->
  uvG b p (k+1) i n=(n+r*128^i,((p+i+(uvE k r).length:Nat):Int),true)
 |0,i,n,r,hd,h0,h1,hi,hn,hm=>by
  obtain⟨d1,d2,d3⟩:=aG0 (show b.drop (p+i)=r::y from hd);have hr:r<128:=by simpa using h1
  unfold uvG;rw[cW d1,d2,au hr,ac,show r%128=r by omega,av (show ¬n+r*128^i>1000000000000 by omega),gu];have:(decide (0<i)&&r==0)=false:=by
   by_cases c:0<i
   ·rw[ca.2 (hi c),di]
   ·rw[av c,gp]
  rw[this];rfl
 |k+1,i,n,r,hd,h0,h1,hi,hn,hm=>by
  have hp:(0:Int)<=128^i:=Int.pow_nonneg (by decide);have hs:=split_mul r (128^i);have a:(128:Int)^(i+1)=128^i*128:=fq ..;unfold uvE at hd ⊢;by_cases hb:r>127
  ·rw[au hb,ac] at hd ⊢;obtain⟨d1,d2,d3⟩:=aG0 (show b.drop (p+i)=(r%128+128)::(uvE k (r/128)++y) from hd);have hq:(r/128)<128^(k+1):=by have:(128:Int)^(k+1+1)=128^(k+1)*128:=fq ..;omega
   have e:0<=r%128*128^i:=jv (by omega) hp;have d:=bHg k (i+1) (n+r%128*128^i) (r/128) (by rw[show p+(i+1)=p+i+1 by omega];exact d3) (by omega) hq (λ_=>by omega) (by omega) (by rw[a];omega);rw[uvG,cW d1,d2,av (show ¬r%128+128<128 by omega),ae,show(r%128+128)%128=r%128 by omega,d,a];simp only[aw,cU,and_true];constructor
   ·omega
   ·congr 1;omega
  ·rw[av hb,ae] at hd ⊢;obtain⟨d1,d2,d3⟩:=aG0 (show b.drop (p+i)=r::y from hd);unfold uvG;rw[cW d1,d2,au (show r<128 by omega),ac,show r%128=r by omega,av (show ¬n+r*128^i>1000000000000 by omega),gu];have:(decide (0<i)&&r==0)=false:=by
    by_cases c:0<i
    ·rw[ca.2 (hi c),di]
    ·rw[av c,gp]
   rw[this];rfl
def bHh {x y:List Int}{n:Int}(h:0<=n/\n<=1000000000000):Dh (x++(enc1 n++y)) (x.length:Int)=(n,((x.length+(enc1 n).length:Nat):Int),true):=by
 have e:=aNc h;unfold Dh;rw[dm (by omega),bo,e];have hp:(128:Int)^(5+1)=4398046511104:=by decide
 have:=bHg (b:=x++(uvE 5 n++y)) (y:=y) (p:=x.length) 5 0 0 n (by simp) h.1 (by omega) (λh=>by omega) (by decide) (by simp;omega);simp[*]
def aPu:∀(t x y s:List Int),aTw t->kZ (x++(iN t++y)) t.length (x.length:Int) s=(s++t,((x.length+(iN t).length:Nat):Int),true)
 |[],x,y,s,_=>by simp[kZ,iN]
 |n::t,x,y,s,h=>by
  have hn:=h n (by simp);have c:=bHh (x:=x) (y:=iN t++y) hn;rw[vF,ck];show kZ _ (t.length+1) _ _=_;rw[kZ,c];simp only[ac];have a:=aPu t (x++enc1 n) y (s++[n]) (λv hv=>h v (by simp[hv]));rw[ay,ck] at a;rw[a];simp[fg]
def aPv:∀l:List AG,nI (kJ l)=l/\mU (kJ l)=true
 |[]=>⟨rfl,rfl⟩
 |e::l=>by
  obtain⟨h1,h2⟩:=aPv l;have a:kJ (e::l)=aTx e++kJ l:=by simp[kJ]
  rw[a];obtain⟨s,h,v,d⟩:=e;cases d with
  |true=>exact⟨by show(⟨s,h,v,(1:Int)==1⟩:AG)::nI (kJ l)=_;rw[h1];rfl,by show(decide ((1:Int)<=1)&&mU (kJ l))=true;rw[h2];rfl⟩
  |false=>exact⟨by show(⟨s,h,v,(0:Int)==1⟩:AG)::nI (kJ l)=_;rw[h1];rfl,by show(decide ((0:Int)<=1)&&mU (kJ l))=true;rw[h2];rfl⟩
def bJ1 {b:AC}(h:aP b=true):∀e∈b.Entries,(0<=e.Site/\e.Site<=2147483646)/\(0<=e.Handle/\e.Handle<=1000000)/\(1<=e.Version/\e.Version<=1000000):=λe he=>by
 unfold aP at h;rw[aa,bv] at h;obtain⟨i,hi,rfl⟩:=cE.1 he;have:=O1 h.2 i hi;unfold Rz at this;simp only[bl,cN] at this;have h1:=iA this.1;have h2:=iA this.2.1;have a:=iA this.2.2.1;omega
def bRg {b:AC}(h:aP b=true):aTw (uA b):=λv hv=>by
 have hl:=oN h;unfold uA at hv;rcases bp.1 hv with hv|hv
 ·grind
 ·unfold kJ at hv;obtain⟨e,he,hv⟩:=List.mem_flatMap.1 hv;obtain⟨h1,h2,a⟩:=bJ1 h e he
  grind[aTx]
def bJ2 {b:AC}(h:aP b=true):Dw (nX b)=(b,true):=by
 have hl:=oN h;have hv:=bRg h;have he:nX b=enc1 (b.Entries.length:Int)++iN (kJ b.Entries):=by unfold nX uA;rw[h,ac];rfl
 have c:Dh (nX b) 0=((b.Entries.length:Int),(((enc1 (b.Entries.length:Int)).length:Nat):Int),true):=by have:=bHh (x:=[]) (y:=iN (kJ b.Entries)) (n:=(b.Entries.length:Int)) (by omega);simp_all
 have hd:=aPu (kJ b.Entries) (enc1 (b.Entries.length:Int)) [] [] (λv d=>hv v (by grind[uA]));rw[eh,<-he,vG,bu] at hd;have a:(((enc1 (b.Entries.length:Int)).length+(iN (kJ b.Entries)).length:Nat):Int)=((nX b).length:Int):=by rw[he,ay]
 obtain⟨e,f⟩:=aPv b.Entries;unfold Dw;rw[c,show(4*(b.Entries.length:Int)).toNat=4*b.Entries.length by omega,hd,av (show ¬(b.Entries.length:Int)>20 by omega)];simp_all[bBx]
theorem aZb {α β:Type}{y:Nat->α->β}:∀{l:List α} {i k:Nat} (h:k<l.length) (h2:k<(Pe (λi x=>[y i x]) i l).length),(Pe (λi x=>[y i x]) i l)[k]=y (i+k) l[k]
 |x::l,i,0,_,_=>rfl
 |x::l,i,k+1,h,h2=>by
  have:=aZb (y:=y) (l:=l) (i:=i+1) (k:=k) (by simpa using h) (by rw[sK];simpa using h);rw[show i+1+k=i+(k+1) by omega] at this;exact this
theorem bCk {k:Int}{d:List Int}(h:∀z∈d,0<=z/\z<=255):Rt k (lG k d)=d:=by
 apply List.ext_getElem
 ·unfold Rt lG;rw[sK,sK]
 ·intro i h1 h2;have a:i<(lG k d).length:=by simp_all[sK,lG]
  grind[IntKind.wrap_u8,bU,aYy,bBy,List.getElem_mem,lG,aZb,Rt]
def aXb {k e v:Int}{b:AC}(hk:bL k=true)(he:0<=e/\e<=1000000)(hv:0<=v/\v<=1000000)(hb:aP b=true):iX k (eY k e v b)=(b,true):=by
 have hm:(eY k e v b).MAC=iR k (eY k e v b):=by simp[eY,iR]
 unfold iX;rw[hm,cA,hk,show(eY k e v b).Epoch=e from rfl,show(eY k e v b).Version=v from rfl,iK he.1 he.2,iK hv.1 hv.2];show Dw (Rt (lZ k e v) (lG (lZ k e v) (nX b)))=(b,true);rw[bCk (Sd (aCa b)),bJ2 hb]
def bNy {p e:Int}{d:List Int}(hp:bL p=true)(he:bL e=true)(hl:d.length<=200)(hd:∀z∈d,0<=z/\z<=255):gF p (nJ (dQ p) e d)=(d,true):=by
 grind[Ab,bne_self_eq_false,decide_eq_false,bCk,gF,nJ,dQ,Ru,gX,Sm,lG]
def bE5 {p:Int}{b:AO}(h:b.To≠dQ p):(gF p b).2=false:=by unfold gF;rw[bne,ca.2 h];cases bL p<;>rfl
def aPw {p:Int}{d:List Int}(hp:bL p=true)(hl:d.length<=200)(hd:∀z∈d,0<=z/\z<=255):∀{bs:List AO} {k:Nat} (hk:k<bs.length),(∀j (hj:j<bs.length),j<k->bs[j].To≠dQ p)->(∃e,bL e=true/\bs[k]=nJ (dQ p) e d)->gQ bs p=(d,true)
 |b::bs,0,_,_,⟨e,he,hb⟩=>by
  have hb:b=nJ (dQ p) e d:=hb;rw[gQ,hb,bNy hp he hl hd];rfl
 |b::bs,k+1,hk,hn,⟨e,he,hb⟩=>by
  have h0:b.To≠dQ p:=hn 0 (by simp) (by omega);rw[gQ,bE5 h0,ae];exact aPw hp hl hd (by simpa using hk) (λj hj a=>hn (j+1) (by simpa using hj) (by omega)) ⟨e,he,hb⟩
structure BoxIn (log:List AD) (bx:AK) (key:Int):Prop where
 ep:bx.Epoch=aB log
 to:bx.Boxes.map (·.To)=aC log
 nd:(aC log).Nodup
 kok:bL key=true
 box:∀k (h:k<bx.Boxes.length),∃e,bL e=true/\bx.Boxes[k]=nJ bx.Boxes[k].To e (iN [aB log,key])
 eps:0<=aB log/\aB log<=40
def bVs {k:Int}(h:bL k=true):0<=k/\k<=1000000000000:=by have:=aPp h;omega
def Mj {log:List AD}{bx:AK}{key:Int}(h:BoxIn log bx key){s:AJ}(hs:aS s∈aC log):dL s bx=(key,true):=by
 obtain⟨h1,h2,f,l,o,u⟩:=h;rw[<-h2] at hs f;obtain⟨k,hk,e⟩:=cE.1 hs;have a:k<bx.Boxes.length:=by simpa using hk
 have e:bx.Boxes[k].To=dQ (iO s):=by rw[gz] at e;rw[e];rfl
 have hd:(iN [aB log,key]).length<=12:=bHf _ _;have p:gQ bx.Boxes (iO s)=(iN [aB log,key],true):=by
  refine aPw (O3 s) (by omega) (M8 _) a (λj hj d he=> ?_) ?_
  ·have:=dt.1 f j k (by simpa using hj) (by simpa using a) d;rw[gz,gz] at this;exact this (by rw[he,e])
  ·obtain⟨q,hq,hb⟩:=o k a;rw[e] at hb;exact⟨q,hq,hb⟩
 have c:jK (iN [aB log,key]) 0 2=([aB log,key],((iN [aB log,key]).length:Int),true):=by
  have:=aPu [aB log,key] [] [] [] (λv hv=>by
   simp only[bc,dx,or_false] at hv;rcases hv with rfl|rfl
   ·omega
   ·exact bVs l)
  simp only[bu,eh,bm,cy] at this;unfold jK;rw[show bX 2 0 100=true from rfl,iK (by omega) (by omega)];exact this
 unfold dL Lu;rw[p,c];show(bif !true||(!true||(((iN [aB log,key]).length:Int) !=((iN [aB log,key]).length:Int)||(aB log !=bx.Epoch|| !bL key))) then(0,false) else(key,true))=(key,true);rw[cA,h1,cA,l];rfl
def aPx {log:List AD}{bx:AK}{key:Int}(h:BoxIn log bx key)(hl:aU log=true){d:AB}(he:bS log d.Log=true)(hs:aS d.Store∈aC log)
  {e v:Int} {b:AC} (hv:0<=v/\v<=1000000) (hb:aP b=true) (j:e=aB log) (ho:d.Epoch<e\/(d.Epoch=e/\d.Version<=v)) (hm:(iG d.aAD b).2=true):
  bQ d log bx (eY key e v b)=(⟨d.Store,log,key,e,v,(iG d.aAD b).1⟩,0):=by
 have a:=Mj h hs;have l:=h.eps;have c:iX key (eY key e v b)=(b,true):=aXb h.kok (by omega) hv hb;have f:iH d log bx (eY key e v b)=0:=by
  unfold iH;rw[hl,he,lJ.2 hs,a,h.ep,c,hm,cA,show(eY key e v b).Epoch=e from rfl,show(eY key e v b).Version=v from rfl];have:(decide (e<aB log)||(decide (e<d.Epoch)||(e==d.Epoch&&decide (v<d.Version))))=false:=by
   rw[av (show ¬e<aB log by omega),av (show ¬e<d.Epoch by omega),da,da];rcases ho with ho|ho
   ·rw[ca.2 (show e≠d.Epoch by omega),gp]
   ·rw[av (show ¬v<d.Version by omega),di]
  rw[this];rfl
 unfold bQ;rw[f,a,c];rfl
def bCl (log:List AD):bS log []=true:=by unfold bS;simp[iM]
def bNz (a:AD):aY2 a a=true:=by unfold aY2;simp
theorem Sy (log r:List AD):bS (log++r) log=true:=by
 unfold bS;rw[au (by simp),cY,bv];exact Sq λk hk=>by
  rw[cy,cN];have:(log++r).getD k default=log[k]:=by simp[List.getD,aq hk,ab hk]
  rw[this];exact bNz _
def bCm (log:List AD):bS log log=true:=by simpa using Sy log []
theorem aPy {seed:Int}{n:Nat}(h0:1<=n)(hn:n<=6):BoxIn (aX seed n) (gM seed n) (bF seed 0):=by
 obtain⟨h1,h2,s,h,j⟩:=pR seed n hn;have hl:aU (aX seed n)=true:=j.resolve_left (by omega);have hlen:(aC (aX seed n)).length<=1000:=by rw[h2,bj,gq];omega
 have hk:bL (bF seed 0)=true:=by unfold bF;exact iJ _ _
 obtain⟨u,l,f,o⟩:=aGz (key:=bF seed 0) (eph:=1000) hl hk (λp hp=>by
  rw[h2] at hp;obtain⟨i,_,rfl⟩:=ct.1 hp;exact aCm _ _) hlen ⟨by decide,by decide⟩
 have a:(aC (aX seed n)).Nodup:=by rw[h2];exact bCh hn
 refine⟨l,f,a,hk,λk c=> ?_,by rw[h];exact⟨by decide,by decide⟩⟩;have q:(gM seed n).Boxes.length=(aC (aX seed n)).length:=by have:=congrArg List.length f;rw[bj] at this;exact this
 have d:k<(aC (aX seed n)).length:=by omega
 have hb:=o k c d;have e:(gM seed n).Boxes[k].To=(aC (aX seed n))[k]:=by show(bC (aX seed n) (bF seed 0) 1000).1.Boxes[k].To=_;rw[hb];rfl
 refine⟨1000+(k:Int),iK (by omega) (by omega),?_⟩;rw[e];exact hb
def nwB:Nat->AC
 |1=>⟨[⟨1464438180,0,1,false⟩,⟨1941999745,0,1,false⟩]⟩
 |2=>⟨[⟨1464438180,0,1,false⟩,⟨1464438180,1,1,false⟩,⟨1941999745,0,1,false⟩,⟨1941999745,1,1,false⟩]⟩
 |3=>⟨[⟨1464438180,0,1,false⟩,⟨1464438180,1,1,false⟩,⟨1464438180,2,1,false⟩,⟨1941999745,0,1,false⟩,⟨1941999745,1,1,false⟩,⟨1941999745,2,1,false⟩]⟩
 |_=>⟨[]⟩
def Im (seed:Int)(n k:Nat)(v:Int)(b:AC):AB:=⟨aO seed (k:Int),aX seed n,bF seed 0,0,v,b⟩
def bN0 {seed:Int}{n:Nat}(h0:1<=n)(hn:n<=6)(k:Nat):yU seed n (bH (aO seed (k:Int)))=Im seed n k 0 ⟨[]⟩:=by
 obtain⟨h1,h2,d,a,c⟩:=pR seed n hn;have hl:aU (aX seed n)=true:=c.resolve_left (by omega);have hk:bL (bF seed 0)=true:=by unfold bF;exact iJ _ _
 unfold yU jN bH;rw[hl,bCl,hk,a];rfl
def bXp {n:Nat}(h:n=1\/n=2\/n=3)(s:AJ)(l:List AD)(k e v:Int):Me (aA 1) n (Me (aA 0) n ⟨s,l,k,e,v,⟨[]⟩⟩)=⟨s,l,k,e,v,nwB n⟩:=by rcases h with rfl|rfl|rfl<;>kernel_rfl
def bE6 {n:Nat}(h:n=1\/n=2\/n=3):aP (nwB n)=true/\iG ⟨[]⟩ (nwB n)=(nwB n,true)/\iG (nwB n) (nwB n)=(nwB n,true):=by rcases h with rfl|rfl|rfl<;>exact⟨by kernel_rfl,by kernel_rfl,by kernel_rfl⟩
def bJ3 {seed:Int}{n:Nat}(h:n=1\/n=2\/n=3):lX seed n=Im seed n 0 0 (nwB n):=by unfold lX;rw[show(0:Int)=((0:Nat):Int) from rfl,bN0 (by omega) (by omega)];exact bXp h _ _ _ _ _
def bN1 {seed:Int}{n:Nat}(h:n=1\/n=2\/n=3):nwW seed n=(Im seed n 0 1 (nwB n),eY (bF seed 0) 0 1 (nwB n),true):=by
 have hk:bL (bF seed 0)=true:=by unfold bF;exact iJ _ _
 unfold nwW;rw[bJ3 h];unfold bZ kK Im;simp only[];rw[show IntKind.i64.wrap (0+1)=1 from by decide,hk,(bE6 h).1];rfl
def aPz {seed:Int}{n k:Nat}(h:n=1\/n=2\/n=3)(hk:k<n):Af seed n (bH (aO seed (k:Int)))=Im seed n k 1 (nwB n):=by
 obtain⟨h1,h2,f,c,e⟩:=pR seed n (by omega);obtain⟨b1,a,j⟩:=bE6 h;unfold Af;rw[bN0 (by omega) (by omega),bN1 h];rw[aPx (aPy (by omega) (by omega)) (e.resolve_left (by omega)) (d:=Im seed n k 0 ⟨[]⟩) (bCm _) (by
  rw[h2];exact ct.2 ⟨k,e9.2 hk,rfl⟩) ⟨by decide,by decide⟩ b1 c.symm (.inr ⟨rfl,by show(0:Int)<=1;decide⟩) (by show(iG ⟨[]⟩ (nwB n)).2=true;rw[a])]
 show(AB.mk (aO seed (k:Int)) (aX seed n) (bF seed 0) 0 1 (iG ⟨[]⟩ (nwB n)).1)=_;rw[a];rfl
theorem aKq {seed:Int}{n:Nat}(h:n=1\/n=2\/n=3):kD seed n=(List.range n).map λk=>Im seed n k 1 (nwB n):=by
 unfold kD dO;rw[bN1 h];rcases h with rfl|rfl|rfl
 ·rfl
 ·show[_,Af seed 2 (bH (aO seed ((1:Nat):Int)))]=_;rw[aPz (.inr (.inl rfl)) (by decide)];rfl
 ·show[_,Af seed 3 (bH (aO seed ((1:Nat):Int))),Af seed 3 (bH (aO seed ((2:Nat):Int)))]=_;rw[aPz (.inr (.inr rfl)) (by decide),aPz (.inr (.inr rfl)) (by decide)];rfl
theorem Io {seed:Int}{n:Nat}(h:n=1\/n=2\/n=3):iQ seed n=⟨aX seed n,gM seed n,[eY (bF seed 0) 0 1 (nwB n)]⟩:=by
 obtain⟨h1,h2,_⟩:=O4 (seed:=seed) (n:=n) (by omega) (by omega);have a:=(pR seed n (by omega)).ep;have e:dF (aX seed n) (gM seed n)=(⟨aX seed n,gM seed n,[]⟩,true):=by unfold dF;rw[h1,h2];rfl
 unfold iQ;rw[e,bN1 h];show(bM ⟨aX seed n,gM seed n,[]⟩ (eY (bF seed 0) 0 1 (nwB n))).1=_;unfold bM;rw[show(eY (bF seed 0) 0 1 (nwB n)).Epoch=0 from rfl,a];rfl
def bCn (w:AA)(d j:Int)(o:AS):(dV w d j o).1.Hosts=w.Hosts:=by
 unfold dV;cases !dM w d j with
 |true=>rfl
 |false=>
  cases !(gZ w j).2.2.2 with
  |true=>rfl
  |false=>cases !((Ac w d j o).2.1==0)<;>rfl
def Aj (w:AA)(d b:Int):(aF w d b).1.Hosts=w.Hosts:=by unfold aF;cases aR w&&aK w d<;>rfl
def bCo (w:AA)(d:Int):(Dj w d).1.Hosts=w.Hosts:=by unfold Dj;cases(bZ (aG w d)).2.2&&(bM w.aAA (bZ (aG w d)).2.1).2<;>rfl
def aP0 (w:AA)(d:Int):(dI w d).1.Hosts=w.Hosts:=by
 unfold dI;cases(aF w d 0).2==0&&(Dj (aF w d 0).1 d).2 with
 |false=>rfl
 |true=>exact(bCo _ _).trans (Aj _ _ _)
def bE7 (w:AA)(d:Int)(n:ByteArray)(a:Int)(r:Bool):(lS w d n a r).1.Hosts=w.Hosts:=by
 unfold lS;cases aR w&&aK w d with
 |false=>rfl
 |true=>cases(bO (aG w d) n a r).2<;>rfl
def aKr (w:AA)(b k p:Int)(key:List AD->Int):(fV w b k p key).1.Hosts=w.Hosts:=by unfold fV;simp only[];generalize bP w.aAA.Log k p (aG w b).Store=l;generalize bC l.1 (key l.1) (IntKind.i64.wrap (1000+IntKind.i64.wrap (10*(l.1.length:Int))))=e;cases l.2&&(e.2&&(gG w.aAA l.1 e.1).2)<;>rfl
def bJ4 (w:AA)(b:Int):(cK w b).1.Hosts=w.Hosts:=by
 unfold cK;cases xL w b with
 |false=>rfl
 |true=>
  show(wY w b).1.Hosts=w.Hosts;have a:(nL w b).1.Hosts=w.Hosts:=by unfold nL;rw[aP0];exact(aKr _ _ _ _ _).trans (Aj _ _ _)
  unfold wY
  first
   |exact a
   |exact(Aj _ _ _).trans a
def bCp (w:AA)(d:Int):(gP w d).1.Hosts=w.Hosts:=by unfold gP;cases dM w d 0&& !dE w d<;>rfl
def bJ5 (w:AA)(b t:Int):(bE w b t).1.Hosts=w.Hosts:=by
 unfold bE;generalize((aF w b 0).2==0&&(!dE w b&&(!(b==t)&&bK w t)))=q;cases q with
 |false=>rfl
 |true=>
  show(kR w b t).1.Hosts=w.Hosts;have h1:(jO w b t).1.Hosts=w.Hosts:=(aKr _ _ _ _ _).trans (Aj _ _ _);have a:(sN w b t).1.Hosts=w.Hosts:=(bCo _ _).trans h1;unfold kR;cases(jO w b t).2&&((vI w b t).2&&(sN w b t).2) with
  |false=>rfl
  |true=>exact a
def bN2 (w:AA)(d:Int):(gP w d).1.sz=w.sz:=by
 unfold gP;cases dM w d 0&& !dE w d with
 |false=>rfl
 |true=>simp only[ac,AA.sz,ao]
structure KeptH (w v:AA):Prop where
 kept:Kept w v
 hosts:v.Hosts.length<=w.Hosts.length
def KeptH.of {w v:AA}(h:Kept w v)(e:v.Hosts=w.Hosts):KeptH w v:=⟨h,by rw[e];exact ak _⟩
def gV (seed:Int):AY:=(Xv seed 2 500 3).1
def bZu (seed:Int):Int:=IntKind.i64.wrap (1+(aV seed [293]).tmod 1018)
def gSh (seed x:Int):A0:=⟨x,Sb (bZu seed) (N7 seed 2) x⟩
def gK (s:A0)(i:Nat):A3:=⟨s,0,(i:Int),5⟩
def bN3 (s:A0)(i:Nat):AN:=⟨gK s i,(List.range i).map (gK s),(i:Int)⟩
def gHs (seed:Int)(i:Nat):List AN:=[bN3 (gSh seed 1) i,bN3 (gSh seed 2) i,bN3 (gSh seed 3) 0]
structure GS (seed:Int) (i:Nat) (w:AA):Prop where
 wi:WIn 1 w
 len:w.Devices.length=1
 sd:w.Seed=seed
 now:w.Now=0
 vault:w.aAP=gV seed
 hosts:w.Hosts=gHs seed i
 le:i<=5
def same (s h:Int)(e:AG):Bool:=e.Site==s&&e.Handle==h
def lk (l:List AG)(s h:Int):Option AG:=l.find? (same s h)
def bN4:Option AG->Option AG->Option AG
 |none,y=>y
 |some e,none=>some e
 |some e,some x=>some (rO e x)
theorem same_iff {s h:Int}{e:AG}:same s h e=true↔e.Site=s/\e.Handle=h:=by simp[same]
theorem aXc (e:AG):same e.Site e.Handle e=true:=same_iff.2 ⟨rfl,rfl⟩
theorem Xx {a b:AG}(h:dZ a b=true):¬(a.Site=b.Site/\a.Handle=b.Handle):=by grind[Ig]
def rR:∀(n:Nat) {a b:List AG} {e:AG},a.length+b.length<=n->e∈bR a b->e∈a\/e∈b
 |_,[],b,e,_,h=>by rw[jM] at h;exact .inr h
 |_,a::xs,[],e,_,h=>by rw[fB] at h;exact .inl h
 |0,a::xs,b::bs,e,h,_=>by simp at h
 |n+1,a::xs,b::bs,e,hn,h=>by
  simp only[aw] at hn;rw[vE] at h;cases h1:dZ a b with
  |true=>
   rw[h1,ac] at h;rcases bc.1 h with rfl|h
   ·exact .inl (cX ..)
   ·rcases rR n (by simp only[aw];omega) h with h|h
    ·exact .inl (cQ _ h)
    ·exact .inr h
  |false=>
   rw[h1,ae] at h;cases h2:dZ b a with
   |true=>
    rw[h2,ac] at h;rcases bc.1 h with rfl|h
    ·exact .inr (cX ..)
    ·rcases rR n (by simp only[aw];omega) h with h|h
     ·exact .inl h
     ·exact .inr (cQ _ h)
   |false=>
    rw[h2,ae] at h;rcases bc.1 h with rfl|h
    ·rcases bGy a b with e|e
     ·rw[e];exact .inl (cX ..)
     ·rw[e];exact .inr (cX ..)
    ·rcases rR n (by omega) h with h|h
     ·exact .inl (cQ _ h)
     ·exact .inr (cQ _ h)
def Xy:∀(n:Nat) {a b:List AG},a.length+b.length<=n->srt a->srt b->srt (bR a b)
 |_,[],b,_,_,h=>by rw[jM];exact h
 |_,a::xs,[],_,h,_=>by rw[fB];exact h
 |0,a::xs,b::bs,h,_,_=>by simp at h
 |n+1,a::xs,b::bs,hn,e,hb=>by
  simp only[aw] at hn;obtain⟨d,f⟩:=cw.1 e;obtain⟨b1,j⟩:=cw.1 hb;rw[vE];cases h1:dZ a b with
  |true=>
   rw[ac];refine cw.2 ⟨λy c=> ?_,Xy n (by simp only[aw];omega) f hb⟩;rcases rR _ (ak _) c with c|c
   ·exact d y c
   ·rcases bc.1 c with rfl|c
    ·exact h1
    ·exact oL h1 (b1 y c)
  |false=>
   rw[ae];cases h2:dZ b a with
   |true=>
    rw[ac];refine cw.2 ⟨λy c=> ?_,Xy n (by simp only[aw];omega) e j⟩;rcases rR _ (ak _) c with c|c
    ·rcases bc.1 c with rfl|c
     ·exact h2
     ·exact oL h2 (d y c)
    ·exact b1 y c
   |false=>
    rw[ae];have hk:=zZ h1 h2;have hp:=aB2 hk;refine cw.2 ⟨λy c=> ?_,Xy n (by omega) f j⟩;rw[zF hp];rcases rR _ (ak _) c with c|c
    ·rw[<-zF hk];exact d y c
    ·exact b1 y c
def Ea (a:AG)(l:List AG)(s h:Int):lk (a::l) s h=bif same s h a then some a else lk l s h:=by unfold lk;rw[List.find?_cons];cases same s h a<;>rfl
theorem aZc {l:List AG}{s h:Int}(hl:∀e∈l,same s h e=false):lk l s h=none:=by
 grind[List.find?_eq_none,lk]
def aP1 {l:List AG}{s h:Int}{e:AG}(hl:lk l s h=some e):e∈l/\e.Site=s/\e.Handle=h:=by
 grind[List.mem_of_find?_eq_some,same_iff,lk]
theorem bRh {a:AG}{l:List AG}(hs:srt (a::l)){s h:Int}(c:same s h a=true):∀e∈l,same s h e=false:=λe he=>by
 have:=Xx ((cw.1 hs).1 e he)
 grind[trans,same_iff]
theorem bS1 {l:List AG}(hs:srt l){e:AG}(he:e∈l):lk l e.Site e.Handle=some e:=by
 induction l with
 |nil=>simp at he
 |cons a l c=>
  rw[Ea];rcases bc.1 he with rfl|he
  ·rw[aXc];rfl
  ·cases hq:same e.Site e.Handle a with
   |true=>grind[aXc,bRh]
   |false=>exact c (cw.1 hs).2 he
def bJ6 {a b:AG}(hk:a.Site=b.Site/\a.Handle=b.Handle)(s h:Int):same s h (rO a b)=same s h b:=by have:=aB2 hk;unfold same;rw[this.1,this.2]
def aCo:∀(n:Nat) {a b:List AG},a.length+b.length<=n->srt a->srt b->∀s h,lk (bR a b) s h=bN4 (lk a s h) (lk b s h)
 |_,[],b,_,_,_,s,h=>by rw[jM];rfl
 |_,a::xs,[],_,_,_,s,h=>by
  rw[fB];show _=bN4 (lk (a::xs) s h) none;cases lk (a::xs) s h<;>rfl
 |0,a::xs,b::bs,h,_,_,_,_=>by simp at h
 |n+1,a::xs,b::bs,hn,d,hb,s,h=>by
  simp only[aw] at hn;obtain⟨j,e⟩:=cw.1 d;obtain⟨b1,f⟩:=cw.1 hb;rw[vE];cases h1:dZ a b with
  |true=>
   rw[ac,Ea,Ea a xs,aCo n (by grind) e hb];cases hq:same s h a with
   |false=>rfl
   |true=>have c:lk (b::bs) s h=none:=(by grind[aZc,dZ,oL,Xx,same_iff,trans]);rw[c];rfl
  |false=>
   rw[ae];cases h2:dZ b a with
   |true=>
    rw[ac,Ea,Ea b bs,aCo n (by grind) d f];cases hq:same s h b with
    |false=>rfl
    |true=>have c:lk (a::xs) s h=none:=(by grind[aZc,dZ,oL,Xx,same_iff,trans]);rw[c];rfl
   |false=>
    have hk:=zZ h1 h2;rw[ae,Ea,Ea a xs,Ea b bs,aCo n (by omega) e f,bJ6 hk];have:same s h a=same s h b:=by unfold same;rw[hk.1,hk.2]
    rw[this];cases same s h b<;>rfl
def lkM {a b:List AG}(c:srt a)(hb:srt b)(s h:Int):lk (bR a b) s h=bN4 (lk a s h) (lk b s h):=aCo _ (ak _) c hb s h
def bZw {a b:List AG}(c:srt a)(hb:srt b):srt (bR a b):=Xy _ (ak _) c hb
def rk (e:AG):Int:=2*e.Version+(bif e.Deleted then 1 else 0)
theorem bXq {x e:AG}(hk:x.Site=e.Site/\x.Handle=e.Handle)(h:rk x=rk e):x=e:=by obtain⟨s,a,v,d⟩:=x;obtain⟨s2,h2,c,d2⟩:=e;simp only[rk] at h hk;obtain⟨rfl,rfl⟩:=hk;cases d<;>cases d2<;>simp at h ⊢<;>omega
theorem bN5 {x e:AG}:qD x e=true↔rk e<rk x\/(rk e=rk x/\x.Deleted=true):=by unfold qD rk;simp only[cn,aa,cq,df];cases x.Deleted<;>cases e.Deleted<;>simp only[ac,ae,iv,and_false,and_true,or_false]<;>omega
def bRi {e x:AG}(hk:x.Site=e.Site/\x.Handle=e.Handle):rO e x=if rk e<rk x then x else e:=by
 grind[qD,bN5,absurd,bXq,rk,rO]
def Sub (a b:List AG):Prop:=∀e∈a,∃x∈b,x.Site=e.Site/\x.Handle=e.Handle/\rk e<=rk x
def Sub.refl (a:List AG):Sub a a:=λe he=>(by grind)
theorem Sub.trans {a b c:List AG}(h:Sub a b)(k:Sub b c):Sub a c:=λe he=>by
 obtain⟨x,d,x1,x2,f⟩:=h e he;obtain⟨y,j,l,o,p⟩:=k x d
 grind
def Sub.left {a b:List AG}(c:srt a)(hb:srt b):Sub a (bR a b):=λe he=>by
 have h1:=lkM c hb e.Site e.Handle;rw[bS1 c he] at h1;cases hq:lk b e.Site e.Handle with
 |none=>rw[hq] at h1;exact⟨e,(aP1 h1).1,rfl,rfl,cJ _⟩
 |some x=>rw[hq] at h1;obtain⟨d,f,h⟩:=aP1 h1;obtain⟨_,q2,q3⟩:=aP1 hq;refine⟨_,d,f,h,?_⟩;rw[bRi ⟨q2,q3⟩];split<;>omega
def bN7 {α:Type}[BEq α][LawfulBEq α]:∀{l S:List α},l.Nodup->(∀x∈l,x∈S)->l.length<=S.length
 |[],S,_,_=>by simp
 |x::l,S,hn,hs=>by
  obtain⟨h1,h2⟩:=cu.1 hn;have c:=hs x (cX ..);have:=bN7 (l:=l) (S:=S.erase x) h2 λy d=>by
   have a:y≠x:=λe=>h1 (e▸d);exact(List.mem_erase_of_ne a).2 (hs y (cQ _ d))
  rw[List.length_erase_of_mem c] at this;have:0<S.length:=List.length_pos_of_mem c;simp only[aw];omega
structure KeyS (S:List (Int×Int)):Prop where
 len:S.length<=20
 rg:∀p∈S,(0<=p.1/\p.1<=2147483646)/\(0<=p.2/\p.2<=1000000)
structure BunIn (S:List (Int×Int)) (V:Int) (b:List AG):Prop where
 st:srt b
 key:∀e∈b,(e.Site,e.Handle)∈S
 ver:∀e∈b,1<=e.Version/\e.Version<=V
def BunIn.mono {S:List (Int×Int)}{V W:Int}{b:List AG}(h:BunIn S V b)(hv:V<=W):BunIn S W b:=⟨h.st,h.key,λe he=>⟨(h.ver e he).1,fc (h.ver e he).2 hv⟩⟩
def BunIn.nil (S:List (Int×Int))(V:Int):BunIn S V []:=⟨List.Pairwise.nil,(by simp),(by simp)⟩
theorem BunIn.len {S:List (Int×Int)}{V:Int}{b:List AG}(h:BunIn S V b):b.length<=S.length:=by
 have hn:(b.map λe=>(e.Site,e.Handle)).Nodup:=by rw[jq,jb];exact h.st.imp (by grind[Xx])
 have:=bN7 hn λp hp=>by
  obtain⟨e,he,rfl⟩:=ct.1 hp;exact h.key e he
 rwa [bj] at this
def BunIn.ok {S:List (Int×Int)}{V:Int}{b:List AG}(a:KeyS S)(c:V<=1000000)(h:BunIn S V b):aP ⟨b⟩=true:=by
 have hl:=h.len;have:=a.len;unfold aP;rw[au (show((⟨b⟩:AC).Entries.length:Int)<=20 by show(b.length:Int)<=20;omega),cY,bv];refine Sq λk hk=> ?_;have hk:k<b.length:=hk;show Rz b (0+k) b[k]=false;have hm:=cf hk;have r:=a.rg _ (h.key _ hm);have v:=h.ver _ hm;unfold Rz;rw[iK r.1.1 r.1.2,iK r.2.1 r.2.2,iK v.1 (by omega)];simp only[ax,da,cy];by_cases h0:0<k
 ·have:b.getD (k-1) default=b[k-1]'(by omega):=by rw[List.getD,ab (by omega),cI]
  rw[this,dt.1 h.st (k-1) k (by omega) hk (by omega)];simp
 simp[*]
def BunIn.merge {S:List (Int×Int)}{V:Int}{a b:List AG}(c:BunIn S V a)(hb:BunIn S V b):BunIn S V (bR a b):=
 ⟨bZw c.st hb.st,λe he=>(rR _ (ak _) he).elim (c.key e) (hb.key e),λe he=>(rR _ (ak _) he).elim (c.ver e) (hb.ver e)⟩
def aXd {S:List (Int×Int)}{V:Int}{a b:AC}(c:KeyS S)(d:V<=1000000)(e:BunIn S V a.Entries)(hb:BunIn S V b.Entries):iG a b=(⟨bR a.Entries b.Entries⟩,true):=by unfold iG;rw[show aP a=true from e.ok c d,show aP b=true from hb.ok c d,(e.merge hb).ok c d];rfl
theorem aNk {l:List AG}(hs:srt l)(s h:Int):(aN ⟨l⟩ s h<0/\lk l s h=none)\/(0<=aN ⟨l⟩ s h/\∃e,lk l s h=some e/\l.getD (aN ⟨l⟩ s h).toNat default=e/\(aN ⟨l⟩ s h).toNat<l.length):=by
 by_cases a:aN ⟨l⟩ s h<0
 ·exact .inl ⟨a,aZc λe he=>Sa (p:=same s h) a e he⟩
 ·refine .inr ⟨by omega,?_⟩;obtain⟨l1,e,l2,d,f,c⟩:=Xt (p:=same s h) (l:=l) (i:=0) (by show 0<=aN ⟨l⟩ s h;omega);have c:aN ⟨l⟩ s h=((0+l1.length:Nat):Int):=c
  grind[same_iff,bS1]
theorem bN8 {x e:AG}(h:x.Version>e.Version):qD x e=true:=by
 grind[decide_eq_true,qD]
def aXe {l:List AG}(hs:srt l){x:AG}(h:∀e,lk l x.Site x.Handle=some e->x.Version>e.Version):(pM ⟨l⟩ x).Entries=bR l [x]:=by
 rw[<-bBo hs]
 grind[bN8,decide_eq_true,aNk]
def bVt (x:AG):srt [x]:=cw.2 ⟨λy a=>by simp at a,List.Pairwise.nil⟩
def BunIn.one {S:List (Int×Int)}{V:Int}{x:AG}(hk:(x.Site,x.Handle)∈S)(hv:1<=x.Version/\x.Version<=V):BunIn S V [x]:=
 ⟨bVt x,(by simp[*]),(by simp[*])⟩
def aCp (l:List AG)(s h:Int):Bool:=match lk l s h with|some e=> !e.Deleted|none=>false
def aBK (l:List AG)(s h:Int):Int:=match lk l s h with|some e=>e.Version|none=>0
theorem BunIn.aBK {S:List (Int×Int)}{V:Int}{l:List AG}(h:BunIn S V l)(a:0<=V)(s q:Int):0<=aBK l s q/\aBK l s q<=V:=by
 unfold VK.aBK;cases hq:lk l s q with
 |none=>simp[*]
 |some e=>have:=h.ver e (aP1 hq).1;grind
def bVu {S:List (Int×Int)}{V:Int}(f:KeyS S)(j:0<=V/\V<1000000){b:AC}(h:BunIn S V b.Entries){s q:Int}(hk:(s,q)∈S):
  aB5 b s q=bif aCp b.Entries s q then(b,false) else(⟨bR b.Entries [⟨s,q,aBK b.Entries s q+1,false⟩]⟩,true):=by
 obtain⟨l⟩:=b;have h:BunIn S V l:=h;have hv:=h.aBK j.1 s q;have c:(aN ⟨l⟩ s q<0->lk l s q=none)/\qP ⟨l⟩ s q=⟨s,q,aBK l s q+1,false⟩:=by
  unfold qP bJf;rcases aNk h.st s q with⟨h1,h2⟩|⟨h1,e,h2,o,p⟩
  all_goals grind[aBK,decide,aN,default,decide_eq_true,aM,decide_eq_false]
 have a:(pM ⟨l⟩ (qP ⟨l⟩ s q))=⟨bR l [⟨s,q,aBK l s q+1,false⟩]⟩:=by rw[c.2];have:(pM ⟨l⟩ ⟨s,q,aBK l s q+1,false⟩).Entries=bR l [⟨s,q,aBK l s q+1,false⟩]:=aXe h.st (by grind[aBK,lk]);rw[<-this]
 have d:aP ⟨bR l [⟨s,q,aBK l s q+1,false⟩]⟩=true:=((h.mono (W:=V+1) (by omega)).merge (.one (x:=⟨s,q,aBK l s q+1,false⟩) hk (by grind))).ok f (by omega);unfold aB5;rw[a,d,h.ok f (by omega)];rcases aNk h.st s q with⟨h1,h2⟩|⟨h1,e,h2,o,p⟩
 all_goals grind[decide_eq_true,aN,default,aCp,decide_eq_false]
def bVv {S:List (Int×Int)}{V:Int}(f:KeyS S)(j:0<=V/\V<1000000){b:AC}(h:BunIn S V b.Entries){s q:Int}:
  aB6 b s q=bif aCp b.Entries s q then(⟨bR b.Entries [⟨s,q,aBK b.Entries s q+1,true⟩]⟩,true) else(b,false):=by
 obtain⟨l⟩:=b;have h:BunIn S V l:=h;have hv:=h.aBK j.1 s q;unfold aB6;rw[h.ok f (by omega)];rcases aNk h.st s q with⟨h1,h2⟩|⟨h1,e,h2,d,o⟩
 ·grind[aCp,decide_eq_true,aN]
 ·have c:aBK l s q=e.Version:=by unfold aBK;rw[h2]
  have he:=h.ver e (aP1 h2).1;have hd:aPa ⟨l⟩ s q=⟨s,q,aBK l s q+1,true⟩:=by unfold aPa;show(⟨s,q,IntKind.i64.wrap ((l.getD (aN ⟨l⟩ s q).toNat default).Version+1),true⟩:AG)=_;rw[d,c,aM (by omega) (by omega)]
  have a:(pM ⟨l⟩ (aPa ⟨l⟩ s q))=⟨bR l [⟨s,q,aBK l s q+1,true⟩]⟩:=by rw[hd];have:(pM ⟨l⟩ ⟨s,q,aBK l s q+1,true⟩).Entries=bR l [⟨s,q,aBK l s q+1,true⟩]:=aXe h.st (by grind);rw[<-this]
  rw[a,av (show ¬aN ⟨l⟩ s q<0 by omega)];show(bif !true||(false||((l.getD (aN ⟨l⟩ s q).toNat default).Deleted||(l.getD (aN ⟨l⟩ s q).toNat default).Version==1000000)) then _ else _)=_;have hl:aCp l s q= !e.Deleted:=by unfold aCp;rw[h2]
  show _=bif aCp l s q then _ else _;rw[d,ca.2 (show e.Version≠1000000 by omega),hl];cases e.Deleted<;>rfl
structure ChgIn (S:List (Int×Int)) (V:Int) (d x:AB):Prop where
 store:x.Store=d.Store
 log:x.Log=d.Log
 key:x.Key=d.Key
 ep:x.Epoch=d.Epoch
 ver:x.Version=d.Version
 bun:BunIn S V x.aAD.Entries
 sub:Sub d.aAD.Entries x.aAD.Entries
def ChgIn.rfl' {S:List (Int×Int)}{V W:Int}{d:AB}(h:BunIn S V d.aAD.Entries)(hv:V<=W):ChgIn S W d d:=⟨rfl,rfl,rfl,rfl,rfl,h.mono hv, .refl _⟩
theorem ChgIn.trans {S:List (Int×Int)}{V W:Int}{a b c:AB}(h:ChgIn S V a b)(k:ChgIn S W b c):ChgIn S W a c:=
 ⟨k.store.trans h.store,k.log.trans h.log,k.key.trans h.key,k.ep.trans h.ep,k.ver.trans h.ver,k.bun,h.sub.trans k.sub⟩
def aG1 {S:List (Int×Int)}{V:Int}(c:KeyS S)(a:0<=V/\V<1000000){d:AB}(h:BunIn S V d.aAD.Entries){n:ByteArray}{q:Int}(hk:(bG n,q)∈S)(rm:Bool):ChgIn S (V+1) d (bO d n q rm).1:=by
 have hv:=h.aBK a.1 (bG n) q;unfold bO pO;have one:∀f,BunIn S (V+1) (bR d.aAD.Entries [⟨bG n,q,aBK d.aAD.Entries (bG n) q+1,f⟩]):=λf=>(h.mono (by omega)).merge (.one hk (by grind));cases rm with
 |true=>
  rw[ac,bVv c a h];cases aCp d.aAD.Entries (bG n) q with
  |true=>exact⟨rfl,rfl,rfl,rfl,rfl,one _, .left h.st (bVt _)⟩
  |false=>exact .rfl' h (by omega)
 |false=>
  rw[ae,bVu c a h hk];cases aCp d.aAD.Entries (bG n) q with
  |false=>exact⟨rfl,rfl,rfl,rfl,rfl,one _, .left h.st (bVt _)⟩
  |true=>exact .rfl' h (by omega)
def bN9 {S:List (Int×Int)}{V:Int}(a:KeyS S)(e:0<=V/\V+1<1000000){d:AB}(h:BunIn S V d.aAD.Entries){q:Int}(h0:(bG (aA 0),q)∈S)(h1:(bG (aA 1),q)∈S)(rm:Bool):ChgIn S (V+2) d (jI d q rm):=by unfold jI;have c:=aG1 a (by omega) h h0 rm;exact c.trans (by have:=aG1 a (V:=V+1) (by omega) c.bun h1 rm;rwa [show V+1+1=V+2 by omega] at this)
end Go.VK
set_option maxRecDepth 100000
namespace Go.VK
open D
structure Dv (S:List (Int×Int)) (T:Int) (log:List AD) (K ep v:Int) (d:AB):Prop where
 pre:∃r,log=d.Log++r
 at_:d.Epoch<ep\/(d.Epoch=ep/\d.Version<=v)
 key:d.Epoch=ep->d.Key=K
 bun:BunIn S T d.aAD.Entries
structure Hs (S:List (Int×Int)) (T:Int) (K ep v:Int) (s:AI):Prop where
 low:s.Epoch<=ep
 own:s.Epoch=ep->∃v' b',s=eY K ep v' b'/\0<=v'/\v'<=v/\BunIn S T b'.Entries
structure Net (S:List (Int×Int)) (t m:Nat) (w:AA) (K v:Int) (r:List AI) (b:AC):Prop where
 wi:WIn m w
 bx:BoxIn w.aAA.Log w.aAA.Boxes K
 devs:∀p∈aC w.aAA.Log,∃k,k<m/\p=kL w.Seed k
 rem:∀p,dW w.aAA.Log p=true->∃k,k<m/\p=kL w.Seed k
 hist:w.aAA.History=r++[eY K (aB w.aAA.Log) v b]
 old:∀s∈r,Hs S (t:Int) K (aB w.aAA.Log) v s
 bun:BunIn S (t:Int) b.Entries
 ver:0<=v/\v<=(t:Int)
 dev:∀k (h:k<w.Devices.length),Dv S (t:Int) w.aAA.Log K (aB w.aAA.Log) v w.Devices[k]
def Dv.mono {S:List (Int×Int)}{T U:Int}{log:List AD}{K ep v u:Int}{d:AB}(h:Dv S T log K ep v d)(a:T<=U)(hv:v<=u):Dv S U log K ep u d:=
 ⟨h.pre,h.at_.imp id (by omega),h.key,h.bun.mono a⟩
def Hs.mono {S:List (Int×Int)}{T U:Int}{K ep v u:Int}{s:AI}(h:Hs S T K ep v s)(a:T<=U)(hv:v<=u):Hs S U K ep u s:=
 ⟨h.low,λe=>let ⟨v',b',h1,h2,c,d⟩:=h.own e;⟨v',b',h1,h2,fc c hv,d.mono a⟩⟩
section
variable {S:List (Int×Int)} {t m:Nat} {w:AA} {K v:Int} {r:List AI} {b:AC}
def Net.last (h:Net S t m w K v r b):Hs S (t:Int) K (aB w.aAA.Log) v (eY K (aB w.aAA.Log) v b):=
 ⟨cJ _,λ_=>⟨v,b,rfl,h.ver.1,cJ _,h.bun⟩⟩
theorem Net.hs (h:Net S t m w K v r b){s:AI}(hs:s∈w.aAA.History):Hs S (t:Int) K (aB w.aAA.Log) v s:=by
 rw[h.hist] at hs;rcases bp.1 hs with hs|hs
 ·exact h.old s hs
 ·rw[cj.1 hs];exact h.last
def Net.pub (h:Net S t m w K v r b){k:Nat}(hk:k<w.Devices.length):aS w.Devices[k].Store=kL w.Seed k:=by unfold kL aS iO;rw[(h.wi.dev k hk).key]
theorem bJ7 (K:Int):(iX K ⟨0,0,[],0⟩).2=false:=by
 unfold iX;cases !(bL K&&(bX (AI.mk 0 0 [] 0).Epoch 0 1000000&&bX (AI.mk 0 0 [] 0).Version 0 1000000))||(AI.mk 0 0 [] 0).MAC !=iR K ⟨0,0,[],0⟩ with
 |true=>rfl
 |false=>rfl
theorem bHi {d:AB}{log:List AD}{bx:AK}{s:AI}(h:(iH d log bx s==0)=true):
  bS log d.Log=true/\aS d.Store∈aC log/\aB log<=s.Epoch/\(iX (dL d.Store bx).1 s).2=true/\(iG d.aAD (iX (dL d.Store bx).1 s).1).2=true:=by
 have h:=eq_of_beq h;unfold iH at h
 grind[aU,bS,iW,aC,aS,aB,dL,bx,decide,iX,iG,Bool.or_eq_false_iff,Bool.not_eq_false',decide_eq_false_iff_not,lJ]
def Net.set (h:Net S t m w K v r b){i:Nat}{x:AB}(hi:i<w.Devices.length)(a:Dv S (t:Int) w.aAA.Log K (aB w.aAA.Log) v x):∀k (hk:k<(w.Devices.set i x).length),Dv S (t:Int) w.aAA.Log K (aB w.aAA.Log) v (w.Devices.set i x)[k]:=λk hk=>by
 rw[en];rw[ao] at hk;split
 ·exact a
 ·exact h.dev k hk
def Net.upd (h:Net S t m w K v r b){u:AA}(h1:u.Seed=w.Seed)(h2:u.aAA=w.aAA)(c:u.Devices.length=w.Devices.length)(a:WIn m u)
  (d:∀k (hk:k<u.Devices.length),Dv S (t:Int) w.aAA.Log K (aB w.aAA.Log) v u.Devices[k]):Net S t m u K v r b where
 wi:=a
 bx:=by rw[h2];exact h.bx
 devs:=by rw[h1,h2];exact h.devs
 rem:=by rw[h1,h2];exact h.rem
 hist:=by rw[h2];exact h.hist
 old:=by rw[h2];exact h.old
 bun:=h.bun
 ver:=h.ver
 dev:=by simp[*]
def Net.mono (h:Net S t m w K v r b){u:Nat}(a:t<=u):Net S u m w K v r b where
 wi:=h.wi
 bx:=h.bx
 devs:=h.devs
 rem:=h.rem
 hist:=h.hist
 old:=λs hs=>(h.old s hs).mono (by omega) (cJ _)
 bun:=h.bun.mono (by omega)
 ver:=by have:=h.ver;omega
 dev:=λk hk=>(h.dev k hk).mono (by omega) (cJ _)
def Net.aDM (h:Net S t m w K v r b)(l:KeyS S)(ht:t<=900000){d:AB}(hd:Dv S (t:Int) w.aAA.Log K (aB w.aAA.Log) v d)(c:Int):Dv S (t:Int) w.aAA.Log K (aB w.aAA.Log) v (bQ d w.aAA.Log w.aAA.Boxes (eF w.aAA c).1).1:=by
 unfold bQ;cases h0:iH d w.aAA.Log w.aAA.Boxes (eF w.aAA c).1==0 with
 |false=>exact hd
 |true=>
  obtain⟨q1,q2,q3,q4,q5⟩:=bHi h0;have ho:=Mj h.bx q2;rw[ho] at q4 q5;rw[ac,ho];have o:=h.bx.eps;have a:(eF w.aAA c).1=⟨0,0,[],0⟩\/(eF w.aAA c).1∈w.aAA.History:=by
   grind[decide,Bool.or_eq_false_iff,decide_eq_false_iff_not,default,List.getD,List.getElem?_eq_getElem,List.getElem_mem,eF]
  rcases a with a|a
  ·grind[q4,bJ7]
  ·obtain⟨l1,l2⟩:=h.hs a;obtain⟨v',b',e,q,p,f⟩:=l2 (by omega);have hv:=h.ver;have j:iX K (eY K (aB w.aAA.Log) v' b')=(b',true):=aXb h.bx.kok (by omega) (by omega) (f.ok l (by omega));rw[e,j,aXd l (by omega) hd.bun f];exact⟨⟨[],by simp⟩, .inr ⟨rfl,p⟩,λ_=>rfl,hd.bun.merge f⟩
def Net.sync (h:Net S t m w K v r b)(f:KeyS S)(ht:t<=900000)(d c:Int):Net S t m (aF w d c).1 K v r b:=by
 have a:=h.wi.sync d c;unfold aF at a ⊢;cases hb:aR w&&aK w d with
 |false=>exact h
 |true=>rw[hb] at a;rw[aa] at hb;obtain⟨hd,e⟩:=gY hb.2;exact h.upd rfl rfl (ao ..) a (h.set hd (h.aDM f ht (by rw[e];exact h.dev _ hd) c))
def bVw (h:Net S t m w K v r b):(eF w.aAA 0).1=eY K (aB w.aAA.Log) v b:=by unfold eF;rw[av (show ¬(0:Int)<0 by decide),av (show ¬(0:Int)>=(w.aAA.History.length:Int) by rw[h.hist,ay,cx];omega)];show w.aAA.History.getD _ default=_;rw[h.hist];simp
def Net.aDG (h:Net S t m w K v r b){d:Int}(hd:aK w d=true):bK w d=iW (aC w.aAA.Log) (kL w.Seed d.toNat):=by obtain⟨hl,e⟩:=gY hd;unfold bK;rw[hd,e,h.pub hl];rfl
def oQ (w:AA)(K v:Int)(b:AC)(d:AB):AB:=⟨d.Store,w.aAA.Log,K,aB w.aAA.Log,v,⟨bR d.aAD.Entries b.Entries⟩⟩
def Net.aBP (h:Net S t m w K v r b)(a:KeyS S)(ht:t<=900000){d:AB}(h1:∃r',w.aAA.Log=d.Log++r')(h2:d.Epoch<aB w.aAA.Log\/(d.Epoch=aB w.aAA.Log/\d.Version<=v))(c:BunIn S (t:Int) d.aAD.Entries)(e:aS d.Store∈aC w.aAA.Log):
  bQ d w.aAA.Log w.aAA.Boxes (eF w.aAA 0).1=(oQ w K v b d,0):=by
 have hm:=aXd a (by omega) c h.bun;have hv:=h.ver;obtain⟨r',hr⟩:=h1;have hs:bQ d w.aAA.Log w.aAA.Boxes (eY K (aB w.aAA.Log) v b)=(⟨d.Store,w.aAA.Log,K,aB w.aAA.Log,v,(iG d.aAD b).1⟩,0):=
  aPx h.bx h.wi.log (by grind[Sy]) e (by omega) (h.bun.ok a (by omega)) rfl h2 (by rw[hm])
 rw[bVw h,hs,hm];rfl
def Net.aBZ (h:Net S t m w K v r b)(f:KeyS S)(ht:t<=900000){d:Int}(hd:bK w d=true):
  aF w d 0=({w with Devices:=w.Devices.set d.toNat (oQ w K v b (aG w d))},0):=by
 have a:aK w d=true:=by grind[bK]
 obtain⟨hl,e⟩:=gY a;have c:=h.dev _ hl;rw[<-e] at c;have hs:=h.aBP f ht c.pre c.at_ c.bun (by
  grind[lJ,bK])
 unfold aF;rw[h.wi.ok,a,hs];rfl
def Net.aCD (h:Net S t m w K v r b){d:Int}(hd:bK w d=false)(c:Int):((aF w d c).2==0)=false:=by
 grind[aR,aK,bQ,iH,aG,eF,bHi,bK,lJ,aF]
def aP2 (w:AA)(K v:Int)(b:AC)(d:AB):AB:={oQ w K v b d with Version:=v+1}
def aBT (w:AA)(K v:Int)(b:AC)(d:Int):AA:=
 {w with Devices:=w.Devices.set d.toNat (aP2 w K v b (aG w d)),aAA:={w.aAA with History:=w.aAA.History++[eY K (aB w.aAA.Log) (v+1) ⟨bR (aG w d).aAD.Entries b.Entries⟩]}}
def bCq {S:List (Int×Int)}{d:AB}(a:KeyS S){T:Int}(c:T<=1000000)(h1:bL d.Key=true)(h2:0<=d.Epoch/\d.Epoch<=1000000)(f: -1<=d.Version/\d.Version<1000000)(e:BunIn S T d.aAD.Entries):
  bZ d=({d with Version:=d.Version+1},eY d.Key d.Epoch (d.Version+1) d.aAD,true):=by
 have hs:kK d.Key d.Epoch (IntKind.i64.wrap (d.Version+1)) d.aAD=(eY d.Key d.Epoch (d.Version+1) d.aAD,true):=by rw[aM (by omega) (by omega)];unfold kK;rw[h1,iK h2.1 h2.2,iK (by omega) (by omega),show aP d.aAD=true from e.ok a c];rfl
 grind[aM,bZ]
def aXf {c:AM}{s:AI}(h1:s.Epoch=aB c.Log)(h2:c.History.length<60)(a:∀l,c.History.getLast? =some l->jY s l=true):bM c s=({c with History:=c.History++[s]},true):=by
 grind[bne_self_eq_false,decide_eq_false,bM,decide,jY,default,List.getD,List.getElem?_eq_getElem]
theorem Net.aBC (h:Net S t m w K v r b)(j:KeyS S)(ht:t<=900000)(hr:r.length<=58){d:Int}(hd:bK w d=true):dI w d=(aBT w K v b d,true):=by
 have a:aK w d=true:=by grind[bK]
 obtain⟨hl,e⟩:=gY a;have hs:=h.aBZ j (by omega) hd;have hv:=h.ver;have p:=h.bx.eps;have o:=h.dev _ hl;rw[<-e] at o;have c:aG (aF w d 0).1 d=oQ w K v b (aG w d):=by
  grind[List.getD,List.getElem?_set_self,default,aG,hs]
 have q:bZ (oQ w K v b (aG w d))=(aP2 w K v b (aG w d),eY K (aB w.aAA.Log) (v+1) ⟨bR (aG w d).aAD.Entries b.Entries⟩,true):=
  bCq j (T:=(t:Int)) (by omega) h.bx.kok (show 0<=aB w.aAA.Log/\aB w.aAA.Log<=1000000 by omega) (show-1<=v/\v<1000000 by omega) (o.bun.merge h.bun)
 have f:bM w.aAA (eY K (aB w.aAA.Log) (v+1) ⟨bR (aG w d).aAD.Entries b.Entries⟩)=({w.aAA with History:=w.aAA.History++[eY K (aB w.aAA.Log) (v+1) ⟨bR (aG w d).aAD.Entries b.Entries⟩]},true):=by
  refine aXf rfl ?_ λl hl=> ?_
  ·rw[h.hist];simp;omega
  ·rw[h.hist,List.getLast?_append] at hl
   grind[decide_eq_true,decide,aB,jY,eY]
 unfold dI Dj;rw[c,q];rw[show(aF w d 0).1.aAA=w.aAA by rw[hs]];rw[f,hs];show(bif (0:Int)==0&&(bif true&&true then _ else _:AA×Bool).2 then _ else _)=_;simp only[dl,ac,dq,eo];rfl
def Net.aCB (h:Net S t m w K v r b){d:Int}(hd:bK w d=false):dI w d=(w,false):=by unfold dI;rw[h.aCD hd 0];rfl
def Net.aBT (h:Net S t m w K v r b)(j:KeyS S)(ht:t<=900000)(hr:r.length<=58){d:Int}(hd:bK w d=true):
  Net S (t+1) m (VK.aBT w K v b d) K (v+1) (r++[eY K (aB w.aAA.Log) v b]) ⟨bR (aG w d).aAD.Entries b.Entries⟩:=by
 have c:aK w d=true:=by grind[bK]
 obtain⟨hl,e⟩:=gY c;have a:=h.wi.push d;rw[h.aBC j ht hr hd] at a;have hv:=h.ver;have hlen:(VK.aBT w K v b d).Devices.length=w.Devices.length:=ao ..;have f:=h.dev _ hl;rw[<-e] at f;refine⟨a,h.bx,h.devs,h.rem,?_,λs hs=> ?_,(f.bun.merge h.bun).mono (by omega),by omega,λk hk=> ?_⟩
 ·show w.aAA.History++[_]=_;rw[h.hist];rfl
 ·rcases bp.1 hs with hs|hs
  ·exact(h.old s hs).mono (by omega) (by omega)
  ·rw[cj.1 hs];exact h.last.mono (by omega) (by omega)
 ·have:∀k (hk:k<(w.Devices.set d.toNat (aP2 w K v b (aG w d))).length),Dv S ((t+1:Nat):Int) w.aAA.Log K (aB w.aAA.Log) (v+1) (w.Devices.set d.toNat (aP2 w K v b (aG w d)))[k]:=λk hk=>by
   rw[en];rw[ao] at hk;split
   ·exact⟨⟨[],by show w.aAA.Log=w.aAA.Log++[];simp⟩, .inr ⟨rfl,cJ _⟩,λ_=>rfl,(f.bun.merge h.bun).mono (by omega)⟩
   ·exact(h.dev k hk).mono (by omega) (by omega)
  exact this k hk
def Net.aCH (h:Net S t m w K v r b)(p:KeyS S)(ht:t<=900000)(d:Int){n:ByteArray}{a:Int}(hk:(bG n,a)∈S)(f:Bool):Net S (t+1) m (lS w d n a f).1 K v r b:=by
 have l:=h.wi.aCH d n a f;unfold lS at l ⊢;cases hb:aR w&&aK w d with
 |false=>exact h.mono (by omega)
 |true=>
  rw[hb] at l;rw[aa] at hb;obtain⟨hd,e⟩:=gY hb.2;have j:=h.dev _ hd;rw[<-e] at j;have c:=aG1 p (by omega) j.bun hk f;cases hc:(bO (aG w d) n a f).2 with
  |false=>exact h.mono (by omega)
  |true=>rw[hc] at l;have o:=h.mono (u:=t+1) (by omega);exact o.upd rfl rfl (ao ..) l (o.set hd ⟨by rw[c.log];exact j.pre,by rw[c.ep,c.ver];exact j.at_,by rw[c.ep,c.key];exact j.key,c.bun.mono (by omega)⟩)
end
end Go.VK
set_option maxRecDepth 100000
namespace Go.VK
open D
def aP3 {l:List AD}{e:AD}(h:aU (l++[e])=true):lC l e=true/\(l=[]\/aU l=true)/\l.length<40:=by
 unfold aU at h;rw[aa,bv] at h;have hr:=iA h.1;have hlen:(l++[e]).length=l.length+1:=by simp
 rw[hlen] at hr;have h1:=O1 h.2 l.length (by simp)
 grind[List.length_pos_iff,aU,iK,Bool.not_eq_true',Sq,O1,List.getElem_append_left]
def aCq {α:Type}{P:List α->Prop}(h0:P [])(hs:∀l a,P l->P (l++[a])):∀(n:Nat) (l:List α),l.length=n->P l
 |0,l,h=>by rw[gy.1 h];exact h0
 |n+1,l,h=>by
  have c:l≠[]:=by rintro rfl;simp at h
  rw[<-List.dropLast_concat_getLast c];exact hs _ _ (aCq h0 hs n _ (by rw[List.length_dropLast];omega))
def bVx (l:List AD):(aC l).Nodup:=
 aCq (P:=λl=>(aC l).Nodup) gl (by grind[Su,aPk]) l.length l rfl
def bCr (l:List AD):l.length<=1000->0<=aB l/\aB l<=(l.length:Int):=
 aCq (P:=λl=>l.length<=1000->0<=aB l/\aB l<=(l.length:Int)) (λ_=>⟨cJ 0,cJ 0⟩) (by grind[List.length_append,Mi,aM]) l.length l rfl
theorem bOa (l:List AD)(e:AD)(h:l.length<=999)(hk:e.Kind=2):aB (l++[e])=aB l+1:=by have:=bCr l (by omega);rw[Mi,hk,show((2:Int)==2)=true from rfl,ac,aM (by omega) (by omega)]
def bRj {l:List AD}:(l=[]\/aU l=true)->∀p,dW l p=true->p∉aC l:=
 aCq (P:=λl=>(l=[]\/aU l=true)->∀p,dW l p=true->p∉aC l) (by simp[dW]) (λl e a h p hp=>by
  have hl:aU (l++[e])=true:=h.resolve_left (by simp);obtain⟨h1,h2,_⟩:=aP3 hl;rw[yY,cn] at hp
  grind[aC,bne_self_eq_false,Bool.not_eq_true',Bool.false_eq_true,List.mem_singleton,jC,lC,Su]) l.length l rfl
theorem bVy {log:List AD}{key eph:Int}(hl:aU log=true)(hk:bL key=true)(hp:∀p∈aC log,bL p=true)(d:(aC log).length<=1000)(h:1<=eph/\eph<=1000000):(bC log key eph).2=true/\BoxIn log (bC log key eph).1 key:=by
 obtain⟨j,l,e,o⟩:=aGz hl hk hp d h;have f:log.length<=40:=by unfold aU at hl;rw[aa] at hl;have:=iA hl.1;omega
 refine⟨j,l,e,bVx log,hk,λk a=> ?_,by have:=bCr log (by omega);omega⟩;have q:(bC log key eph).1.Boxes.length=(aC log).length:=by have:=congrArg List.length e;rwa [bj] at this
 have c:k<(aC log).length:=by omega
 have s:(aC log).length<=1000:=d;have hb:=o k a c;refine⟨eph+(k:Int),iK (by omega) (by omega),?_⟩
 grind
theorem bOb (l:List AD):(aC l).length<=l.length:=fU l
def bOc {log:List AD}{k d:Int}{s:AJ}(h:(bP log k d s).2=true):bP log k d s=(log++[Gy log k d s],true)/\aU (log++[Gy log k d s])=true:=by
 grind[decide,aU,Gy,Bool.or_eq_false_iff,Bool.not_eq_false',bP]
theorem bOd {log:List AD}{key e:Int}(h:(bC log key e).2=true):bL key=true:=by
 grind[aU,bL,fK,iN,aB,aC,Bool.or_eq_false_iff,Bool.not_eq_false',bC]
def bRk {c:AM}{log:List AD}{e:AK}(h:(gG c log e).2=true):gG c log e=({c with Log:=log,Boxes:=e},true):=by
 grind[aU,bS,fQ,gG]
def bHj {w:AA}{b k p:Int}{key:List AD->Int}{l:List AD}(hl:l=w.aAA.Log++[Gy w.aAA.Log k p (aG w b).Store])(h:(fV w b k p key).2=true):
  ∃bx,fV w b k p key=({w with aAA:={w.aAA with Log:=l,Boxes:=bx}},true)/\aU l=true/\bL (key l)=true/\((∀q∈aC l,bL q=true)->BoxIn l bx (key l))/\(bP w.aAA.Log k p (aG w b).Store).1=l:=by
 have h0:(bP w.aAA.Log k p (aG w b).Store).2=true/\(bC (bP w.aAA.Log k p (aG w b).Store).1 (key (bP w.aAA.Log k p (aG w b).Store).1) (IntKind.i64.wrap (1000+IntKind.i64.wrap (10*((bP w.aAA.Log k p (aG w b).Store).1.length:Int))))).2=true/\(gG w.aAA (bP w.aAA.Log k p (aG w b).Store).1 (bC (bP w.aAA.Log k p (aG w b).Store).1 (key (bP w.aAA.Log k p (aG w b).Store).1) (IntKind.i64.wrap (1000+IntKind.i64.wrap (10*((bP w.aAA.Log k p (aG w b).Store).1.length:Int))))).1).2=true:=by
  grind[bP,aG,bC,gG,fV]
 obtain⟨h1,h2,a⟩:=h0;obtain⟨c,d⟩:=bOc h1;rw[c,<-hl] at h2 a;rw[<-hl] at c d;have e:=bRk a;have hlen:l.length<=40:=by have:=d;unfold aU at this;rw[aa] at this;have:=iA this.1;omega
 grind[fV,aM,bVy,bOd,bOb,bC]
end Go.VK
set_option maxRecDepth 100000
namespace Go.VK
open D
structure KeyD (S:List (Int×Int)):Prop where
 ks:KeyS S
 dv:∀q:Nat,q<6->(bG (aA 0),(q:Int))∈S/\(bG (aA 1),(q:Int))∈S
section
variable {S:List (Int×Int)} {t m:Nat} {w:AA} {K v:Int} {r:List AI} {b:AC}
def Net.keys (h:Net S t m w K v r b):∀q∈aC w.aAA.Log,bL q=true:=λq hq=>by
 obtain⟨k,_,rfl⟩:=h.devs q hq;exact aCm _ _
theorem jT {w:AA}{c:Int}(h:bK w c=true):aK w c=true:=by
 grind[bK]
theorem Net.inl (h:Net S t m w K v r b){c:Int}(hc:((aF w c 0).2==0)=true):bK w c=true:=by
 cases hl:bK w c with
 |true=>rfl
 |false=>rw[h.aCD hl 0] at hc;cases hc
def qW (w:AA)(c:Int):List AD:=w.aAA.Log++[Gy w.aAA.Log 1 (kL w.Seed w.Devices.length) (aG w c).Store]
def aCr {w:AA}{c:Int}(hl:aU (qW w c)=true):
  aC (qW w c)=aC w.aAA.Log++[kL w.Seed w.Devices.length]/\(∀p,dW (qW w c) p=dW w.aAA.Log p)/\aB (qW w c)=aB w.aAA.Log:=by
 obtain⟨h1,_,_⟩:=aP3 hl;have hk:(Gy w.aAA.Log 1 (kL w.Seed w.Devices.length) (aG w c).Store).Kind=1:=rfl;have hd:(Gy w.aAA.Log 1 (kL w.Seed w.Devices.length) (aG w c).Store).Device=kL w.Seed w.Devices.length:=rfl
 grind[qW,Mi,yY,Su,jC,aC,kL,lJ,iW,Bool.not_eq_true',lC]
theorem Net.aAT (h:Net S t w.Devices.length w K v r b)(x:KeyD S)(ht:t<=900000){c:Int}(h0:((aF w c 0).2==0)=true)(h1:(add1 w c).2=true)(hn:w.Devices.length<6):
  Net S (t+2) (w.Devices.length+1) (VK.aAT w c) K v r b/\(VK.aAT w c).Devices=w.Devices.set c.toNat (jI (oQ w K v b (aG w c)) (w.Devices.length:Int) false)/\(VK.aAT w c).aAA.Log=qW w c/\(VK.aAT w c).Seed=w.Seed:=by
 have f:=h.inl h0;have a:=jT f;obtain⟨hl,e⟩:=gY a;have hs:=h.aBZ x.ks ht f;have F:=h.dev _ hl;rw[<-e] at F;have j:aG (aF w c 0).1 c=oQ w K v b (aG w c):=by
  grind[List.getD,List.getElem?_set_self,default,aG,hs]
 obtain⟨bx,z,H,M,y,_⟩:=bHj (w:=(aF w c 0).1) (b:=c) (k:=1) (p:=aS (aO w.Seed (w.Devices.length:Int))) (key:=λ_=>(aG (aF w c 0).1 c).Key) (l:=qW w c) (by rw[j,hs];rfl) h1;obtain⟨G,I,A⟩:=aCr H;have z:add1 w c=({(aF w c 0).1 with aAA:={(aF w c 0).1.aAA with Log:=qW w c,Boxes:=bx}},true):=z;have y:(∀q∈aC (qW w c),bL q=true)->BoxIn (qW w c) bx (aG (aF w c 0).1 c).Key:=y;rw[j] at y;have o:=y λq hq=>by
  rw[G] at hq;rcases bp.1 hq with hq|hq
  ·exact h.keys q hq
  grind[List.mem_singleton,aCm]
 have J:(VK.aAT w c).Devices=w.Devices.set c.toNat (jI (oQ w K v b (aG w c)) (w.Devices.length:Int) false):=by
  show(add1 w c).1.Devices.set c.toNat (jI (aG (add1 w c).1 c) (w.Devices.length:Int) false)=_
  grind[List.set_set,hs,aF,aG,add1,oQ]
 have d:(VK.aAT w c).aAA={w.aAA with Log:=qW w c,Boxes:=bx}:=by show(add1 w c).1.aAA=_;rw[z];show({(aF w c 0).1.aAA with Log:=qW w c,Boxes:=bx}:AM)=_;rw[hs]
 obtain⟨L,D,N⟩:=h.wi.aCQ hn a;have u:ChgIn S ((t:Int)+2) (oQ w K v b (aG w c)) (jI (oQ w K v b (aG w c)) (w.Devices.length:Int) false):=bN9 x.ks (by omega) (F.bun.merge h.bun) (x.dv _ hn).1 (x.dv _ hn).2 false;have hv:=h.ver;refine⟨⟨L,by rw[d];exact o,λp hp=> ?_,λp hp=> ?_,?_,λs hs=> ?_,h.bun.mono (by omega),by omega,?_⟩,J,by rw[d],D⟩
 ·rw[d] at hp;rw[D];have hp:p∈aC (qW w c):=hp;rw[G] at hp;rcases bp.1 hp with hp|hp
  ·obtain⟨k,hk,e⟩:=h.devs p hp;grind
  grind
 ·rw[d] at hp;rw[D];have hp:dW (qW w c) p=true:=hp;rw[I] at hp;obtain⟨k,hk,e⟩:=h.rem p hp;grind
 ·rw[d];show w.aAA.History=r++[eY K (aB (qW w c)) v b];rw[A];exact h.hist
 ·rw[d];show Hs S _ K (aB (qW w c)) v s;rw[A];exact(h.old s hs).mono (by omega) (cJ _)
 ·rw[d];show ∀k (hk:k<(VK.aAT w c).Devices.length),Dv S _ (qW w c) K (aB (qW w c)) v (VK.aAT w c).Devices[k];rw[A];have:∀k (hk:k<(w.Devices.set c.toNat (jI (oQ w K v b (aG w c)) (w.Devices.length:Int) false)).length),Dv S ((t+2:Nat):Int) (qW w c) K (aB w.aAA.Log) v (w.Devices.set c.toNat (jI (oQ w K v b (aG w c)) (w.Devices.length:Int) false))[k]:=λk hk=>by
   rw[en];rw[ao] at hk;split
   ·refine⟨⟨[Gy w.aAA.Log 1 (kL w.Seed w.Devices.length) (aG w c).Store],?_⟩, .inr ⟨?_,?_⟩,λ_=> ?_,u.bun.mono (by omega)⟩
    ·rw[u.log];rfl
    ·rw[u.ep];rfl
    ·rw[u.ver];exact cJ _
    ·rw[u.key];rfl
   ·have q:=(h.dev k hk).mono (U:=((t+2:Nat):Int)) (by omega) (cJ v);obtain⟨r',hr⟩:=q.pre;exact⟨⟨r'++[Gy w.aAA.Log 1 (kL w.Seed w.Devices.length) (aG w c).Store],by unfold qW;rw[<-ck,<-hr]⟩,q.at_,q.key,q.bun⟩
  simp_all
def bRl (U:AA)(K v:Int)(B:AC)(n:Nat):AB:=⟨aO U.Seed (n:Int),U.aAA.Log,K,aB U.aAA.Log,v,⟨bR [] B.Entries⟩⟩
def bJ8 (U:AA)(K v:Int)(B:AC):AA:={U with Devices:=U.Devices++[bRl U K v B U.Devices.length],Stolen:=U.Stolen++[false]}
def Net.app (h:Net S t (w.Devices.length+1) w K v r b)(q:KeyS S)(ht:t<=900000)(hn:w.Devices.length<6)(j:kL w.Seed w.Devices.length∈aC w.aAA.Log):
  aF (appW w (bH (aO w.Seed (w.Devices.length:Int)))) (w.Devices.length:Int) 0=(bJ8 w K v b,0)/\Net S t (w.Devices.length+1) (bJ8 w K v b) K v r b:=by
 have hv:=h.ver;have s:=h.bx.eps;have a:=h.wi.app hn;have hs:=h.aBP q ht (d:=bH (aO w.Seed (w.Devices.length:Int))) ⟨w.aAA.Log,rfl⟩ (by
  show(0:Int)<_\/((0:Int)=_/\(0:Int)<=v);omega) (BunIn.nil S _) j
 have c:aK (appW w (bH (aO w.Seed (w.Devices.length:Int)))) (w.Devices.length:Int)=true:=by
  grind[aK,appW]
 have l:aG (appW w (bH (aO w.Seed (w.Devices.length:Int)))) (w.Devices.length:Int)=bH (aO w.Seed (w.Devices.length:Int)):=by simp[aG,appW]
 have e:∀x,(w.Devices++[bH (aO w.Seed (w.Devices.length:Int))]).set w.Devices.length x=w.Devices++[x]:=(by simp);have he:aF (appW w (bH (aO w.Seed (w.Devices.length:Int)))) (w.Devices.length:Int) 0=(bJ8 w K v b,0):=by unfold aF;rw[a.ok,c,l];show(({appW w (bH (aO w.Seed (w.Devices.length:Int))) with Devices:=(w.Devices++[bH (aO w.Seed (w.Devices.length:Int))]).set ((w.Devices.length:Int)).toNat (bQ (bH (aO w.Seed (w.Devices.length:Int))) w.aAA.Log w.aAA.Boxes (eF w.aAA 0).1).1}:AA),(bQ (bH (aO w.Seed (w.Devices.length:Int))) w.aAA.Log w.aAA.Boxes (eF w.aAA 0).1).2)=_;rw[hs,bo,e];rfl
 have f:=a.sync (w.Devices.length:Int) 0;rw[he] at f;refine⟨he,⟨f,h.bx,h.devs,h.rem,h.hist,h.old,h.bun,h.ver,λk hk=> ?_⟩⟩;have o:k<(w.Devices++[bRl w K v b w.Devices.length]).length:=hk;show Dv S _ w.aAA.Log K (aB w.aAA.Log) v ((w.Devices++[bRl w K v b w.Devices.length])[k]'o);rw[List.getElem_append];split
 ·rename_i p;exact h.dev k p
 ·rw[List.getElem_singleton];exact⟨⟨[],by show w.aAA.Log=w.aAA.Log++[];simp⟩, .inr ⟨rfl,cJ _⟩,λ_=>rfl,(BunIn.nil S _).merge h.bun⟩
def Net.tell (h:Net S t m w K v r b)(k:Int):Net S t m (nZ w k) K v r b:=h.upd rfl rfl rfl (h.wi.tell k) h.dev
def Hf (w:AA)(K v:Int)(b:AC)(c:Int):AA:=VK.aBT (VK.aAT w c) K v b c
def aZd (w:AA)(K v:Int)(b:AC)(c:Int):AC:=⟨bR (jI (oQ w K v b (aG w c)) (w.Devices.length:Int) false).aAD.Entries b.Entries⟩
theorem Net.add (h:Net S t w.Devices.length w K v r b)(u:KeyD S)(ht:t<=800000)(hr:r.length<=58){c:Int}(d:xL w c=true):
  Net S (t+3) (w.Devices.length+1) (Hf w K v b c) K (v+1) (r++[eY K (aB w.aAA.Log) v b]) (aZd w K v b c)/\(Hf w K v b c).Devices.length=w.Devices.length/\(Hf w K v b c).Seed=w.Seed/\
  Net S (t+3) (w.Devices.length+1) (cK w c).1 K (v+1) (r++[eY K (aB w.aAA.Log) v b]) (aZd w K v b c)/\(cK w c).1=nZ (bJ8 (Hf w K v b c) K (v+1) (aZd w K v b c)) 2/\(Hf w K v b c).aAA.Log=qW w c/\bK w c=true/\
  (Hf w K v b c).Devices=w.Devices.set c.toNat (aP2 (VK.aAT w c) K v b (jI (oQ w K v b (aG w c)) (w.Devices.length:Int) false)):=by
 have l:=d;unfold xL at d;simp only[aa,bv,cR] at d;obtain⟨⟨k1,k2,k3,k4⟩,k5,k6,k7,k8,k9⟩:=d;have hn:w.Devices.length<6:=by omega
 obtain⟨n1,n2,n3,n4⟩:=h.aAT u (by omega) k5 k6 hn;have a:=h.inl k5;obtain⟨hl,e⟩:=gY (jT a);have n5:(VK.aAT w c).Devices.length=w.Devices.length:=by rw[n2,ao]
 have x:c.toNat<(VK.aAT w c).Devices.length:=by omega
 have o:aU (qW w c)=true:=by rw[<-n3];exact n1.wi.log
 obtain⟨y,D,z⟩:=aCr o;have j:aK (VK.aAT w c) c=true:=He (jT a) n5;have f:bK (VK.aAT w c) c=true:=by rw[n1.aDG j,n3,n4,y,lJ];rw[h.aDG (jT a),lJ] at a;simp[*]
 have p:aG (VK.aAT w c) c=jI (oQ w K v b (aG w c)) (w.Devices.length:Int) false:=by
  grind[n2,List.getD,List.getElem?_set_self,aG]
 have hp:=n1.aBC u.ks (by omega) hr f;have q:=n1.aBT u.ks (by omega) hr f;rw[p,n3,z] at q;have F:nL w c=(Hf w K v b c,true):=hp;have u1:(Hf w K v b c).Devices.length=w.Devices.length:=by show((VK.aAT w c).Devices.set _ _).length=_;rw[ao,n5]
 have u2:(Hf w K v b c).Seed=w.Seed:=n4;have u3:(Hf w K v b c).aAA.Log=qW w c:=n3;have u4:(Hf w K v b c).Devices=w.Devices.set c.toNat (aP2 (VK.aAT w c) K v b (jI (oQ w K v b (aG w c)) (w.Devices.length:Int) false)):=by show(VK.aAT w c).Devices.set c.toNat (aP2 (VK.aAT w c) K v b (aG (VK.aAT w c) c))=_;rw[p,n2,eo]
 have q:Net S (t+3) (w.Devices.length+1) (Hf w K v b c) K (v+1) (r++[eY K (aB w.aAA.Log) v b]) (aZd w K v b c):=q;have s:=q;rw[<-u1] at s;obtain⟨s1,s2⟩:=s.app u.ks (by omega) (by omega) (by simp[*]);have A:wY w c=(bJ8 (Hf w K v b c) K (v+1) (aZd w K v b c),0):=by
  grind[s1,u2,u1,wY]
 have eA:(cK w c).1=nZ (bJ8 (Hf w K v b c) K (v+1) (aZd w K v b c)) 2:=by unfold cK;rw[l,ac,A]
 rw[u1] at s2;exact⟨q,u1,u2,by rw[eA];exact s2.tell 2,eA,u3,a,u4⟩
end
end Go.VK
set_option maxRecDepth 100000
namespace Go.VK
open D
def kS (w:AA)(c x:Int):List AD:=w.aAA.Log++[Gy w.aAA.Log 2 (aS (aG w x).Store) (aG w c).Store]
def Ph (w:AA)(c x:Int):Int:=jL (aG w c).Store (kS w c x)
def Xz {w:AA}{c x:Int}(hl:aU (kS w c x)=true):
  aC (kS w c x)=(aC w.aAA.Log).filter (λd=>d !=aS (aG w x).Store)/\(∀p,dW (kS w c x) p=(dW w.aAA.Log p||aS (aG w x).Store==p))/\aB (kS w c x)=aB w.aAA.Log+1:=by
 obtain⟨_,_,h1⟩:=aP3 hl;have hk:(Gy w.aAA.Log 2 (aS (aG w x).Store) (aG w c).Store).Kind=2:=rfl;have hd:(Gy w.aAA.Log 2 (aS (aG w x).Store) (aG w c).Store).Device=aS (aG w x).Store:=rfl;refine⟨?_,λp=> ?_,?_⟩
 all_goals grind[kS,bOa,yY,Su,jC]
def bRm {d:AB}{log:List AD}{key:Int}(h:(jN d log key).2=true):(jN d log key).1={d with Log:=log,Key:=key,Epoch:=aB log,Version:=0}:=by
 grind[aU,bS,decide,aB,bL,jN]
section
variable {S:List (Int×Int)} {t m:Nat} {w:AA} {K v:Int} {r:List AI} {b:AC}
def yZ (w:AA)(K v:Int)(b:AC)(c x:Int):AB:=jI {oQ w K v b (aG w c) with Log:=kS w c x,Key:=Ph w c x,Epoch:=aB (kS w c x),Version:=0} x true
def bE8 (w:AA)(K v:Int)(b:AC)(bx:AK)(c x:Int):AA:=
 {w with Devices:=w.Devices.set c.toNat {yZ w K v b c x with Version:=1},Sites:=w.Sites.map (gL x),aAA:=⟨kS w c x,bx,w.aAA.History++[eY (Ph w c x) (aB (kS w c x)) 1 (yZ w K v b c x).aAD]⟩}
theorem aP4 {w:AA}{c x:Int}(h:(bE w c x).2=false):bE w c x=(w,false):=by
 grind[aF,dE,bK,kR,jO,vI,sN,bE]
def Mk {w:AA}{c x:Int}(h:(bE w c x).2=true):((aF w c 0).2==0)=true/\dE w c=false/\(c==x)=false/\bK w x=true/\(jO w c x).2=true/\(vI w c x).2=true/\(sN w c x).2=true/\bE w c x=(nZ (sN w c x).1 4,true):=by
 unfold bE at h ⊢
 grind[aF,dE,bK,kR,jO,vI,sN,Bool.not_eq_true']
def Net.cutAt (h:Net S t m w K v r b)(d:KeyD S)(ht:t<=900000){c:Int}(a:bK w c=true):aF w c 0=({w with Devices:=w.Devices.set c.toNat (oQ w K v b (aG w c))},0)/\aG (jJ w c) c=oQ w K v b (aG w c):=by
 have hs:=h.aBZ d.ks ht a
 grind[List.getD,List.getElem?_set_self,default,aG,hs,jJ,gY,jT]
def Net.aCY (h:Net S t m w K v r b)(d:KeyD S){T:Int}(p:0<=T/\T<=900000)(ht:(t:Int)<=T){c x:Int}(a:bK w c=true)(f:bK w x=true):
  ChgIn S (T+2) {oQ w K v b (aG w c) with Log:=kS w c x,Key:=Ph w c x,Epoch:=aB (kS w c x),Version:=0} (yZ w K v b c x):=by
 obtain⟨hl,e⟩:=gY (jT a);obtain⟨l,q⟩:=gY (jT f);have j:=h.dev _ hl;rw[<-e] at j;obtain⟨o,_,_⟩:=qV (jT f);have hd:=h.wi.dlen;have hk:=d.dv x.toNat (by omega);rw[eV o] at hk;exact bN9 d.ks (by omega) ((j.bun.merge h.bun).mono (by omega)) hk.1 hk.2 true
def Net.aDP (h:Net S t m w K v r b)(A:KeyD S)(ht:t<=800000)(hr:r.length<=58){c x:Int}(o:bK w c=true)(k2:dE w c=false)(k3:(c==x)=false)(k4:bK w x=true)(k5:(jO w c x).2=true)(k6:(vI w c x).2=true):
  ∃bx,bE w c x=(nZ (bE8 w K v b bx c x) 4,true)/\Net S (t+3) m (nZ (bE8 w K v b bx c x) 4) (Ph w c x) 1 (r++[eY K (aB w.aAA.Log) v b]) (yZ w K v b c x).aAD:=by
 obtain⟨hl,e⟩:=gY (jT o);obtain⟨D,M⟩:=gY (jT k4);obtain⟨hs,u⟩:=h.cutAt A (by omega) o;have y:jJ w c={w with Devices:=w.Devices.set c.toNat (oQ w K v b (aG w c))}:=by unfold jJ;rw[hs]
 obtain⟨bx,F,N,e4,O,Q⟩:=bHj (w:=jJ w c) (b:=c) (k:=2) (p:=aS (aG w x).Store) (key:=jL (aG (jJ w c) c).Store) (l:=kS w c x) (by rw[u,y];rfl) k5;obtain⟨g1,R,g3⟩:=Xz N;have j:∀q∈aC (kS w c x),q∈aC w.aAA.Log:=(by simp_all);have f:BoxIn (kS w c x) bx (Ph w c x):=by have:=O λq hq=>h.keys q (j q hq);rw[u] at this;exact this
 have G:Mc w c x=kS w c x:=Q;have h2:(vI w c x).1={oQ w K v b (aG w c) with Log:=kS w c x,Key:=Ph w c x,Epoch:=aB (kS w c x),Version:=0}:=by have:=bRm k6;unfold vI;rw[this,G,u];rfl
 have a:=h.aCY A (T:=(t:Int)) (by omega) (cJ _) o k4;have V:=f.eps;have hv:=h.ver;have W:bZ (yZ w K v b c x)=({yZ w K v b c x with Version:=1},eY (Ph w c x) (aB (kS w c x)) 1 (yZ w K v b c x).aAD,true):=by
  have:=bCq (d:=yZ w K v b c x) A.ks (T:=(t:Int)+2) (by omega) (by rw[a.key];exact f.kok) (by rw[a.ep];grind) (by rw[a.ver];simp) a.bun;have X:(yZ w K v b c x).Key=Ph w c x:=a.key;have Z:(yZ w K v b c x).Epoch=aB (kS w c x):=a.ep;have f3:(yZ w K v b c x).Version+1=1:=by rw[show(yZ w K v b c x).Version=0 from a.ver];rfl
  refine this.trans ?_;rw[f3,<-X,<-Z]
 have H:bM {w.aAA with Log:=kS w c x,Boxes:=bx} (eY (Ph w c x) (aB (kS w c x)) 1 (yZ w K v b c x).aAD)=({w.aAA with Log:=kS w c x,Boxes:=bx,History:=w.aAA.History++[eY (Ph w c x) (aB (kS w c x)) 1 (yZ w K v b c x).aAD]},true):=by
  refine aXf rfl ?_ λl hl=> ?_
  ·show w.aAA.History.length<60;rw[h.hist];simp;omega
  ·have hl:w.aAA.History.getLast? =some l:=hl;rw[h.hist,List.getLast?_append] at hl
   grind[decide_eq_true,decide,aB,kS,jY,eY]
 have I:Gz w c x={w with Devices:=w.Devices.set c.toNat (yZ w K v b c x),Sites:=w.Sites.map (gL x),aAA:={w.aAA with Log:=kS w c x,Boxes:=bx}}:=by unfold Gz;rw[h2];have F:jO w c x=({jJ w c with aAA:={(jJ w c).aAA with Log:=kS w c x,Boxes:=bx}},true):=F;rw[F,y];show(AA.mk _ _ ((w.Devices.set c.toNat _).set c.toNat _) _ _ _ _ _ _ _)=_;rw[eo];rfl
 have h3:sN w c x=(bE8 w K v b bx c x,true):=by
  unfold sN Dj;have:aG (Gz w c x) c=yZ w K v b c x:=by
   grind[List.getD,List.getElem?_set_self,default,aG]
  rw[this,W,I];show(bif true&&(bM {w.aAA with Log:=kS w c x,Boxes:=bx} _).2 then(({w with Devices:=(w.Devices.set c.toNat _).set c.toNat _,Sites:=_,aAA:=(bM {w.aAA with Log:=kS w c x,Boxes:=bx} _).1}:AA),true) else _)=_;rw[H,eo];rfl
 have L:bE w c x=(nZ (bE8 w K v b bx c x) 4,true):=by
  grind[aF,hs,k2,k3,k4,k5,k6,bE,kR]
 have z:=(h.wi.cut c x).1;rw[L] at z;refine⟨bx,L,z,f,λp hp=>h.devs p (j p hp),λp hp=> ?_,?_,λs hs=> ?_,a.bun.mono (by omega),by omega,?_⟩
 ·have hp:dW (kS w c x) p=true:=hp;rw[R,cn] at hp;rcases hp with hp|hp
  ·exact h.rem p hp
  ·rw[<-eq_of_beq hp];have:=(h.aDG (jT k4)).symm.trans k4;rw[lJ] at this;rw[M,h.pub D];exact h.devs _ this
 ·show w.aAA.History++[_]=_;rw[h.hist];rfl
 ·have hle:s.Epoch<=aB w.aAA.Log:=by
   rcases bp.1 hs with hs|hs
   ·exact(h.old s hs).low
   ·rw[cj.1 hs];exact cJ _
  refine⟨?_,λhe=> ?_⟩
  ·show s.Epoch<=aB (kS w c x);omega
  ·have he:s.Epoch=aB (kS w c x):=he;omega
 ·have:∀k (hk:k<(w.Devices.set c.toNat {yZ w K v b c x with Version:=1}).length),Dv S ((t+3:Nat):Int) (kS w c x) (Ph w c x) (aB (kS w c x)) 1 (w.Devices.set c.toNat {yZ w K v b c x with Version:=1})[k]:=λk hk=>by
   rw[en];rw[ao] at hk;split
   ·exact⟨⟨[],by show kS w c x=(yZ w K v b c x).Log++[];rw[a.log];simp⟩, .inr ⟨a.ep,cJ 1⟩,λ_=>a.key,a.bun.mono (by omega)⟩
   ·have q:=h.dev k hk;obtain⟨r',hr⟩:=q.pre;have J:w.Devices[k].Epoch<aB (kS w c x):=by rcases q.at_ with q|q<;>omega
    exact⟨⟨r'++[Gy w.aAA.Log 2 (aS (aG w x).Store) (aG w c).Store],by unfold kS;rw[<-ck,<-hr]⟩, .inl J,λhe=>by omega,q.bun.mono (by omega)⟩
  exact this
theorem Net.cut (h:Net S t m w K v r b)(d:KeyD S)(ht:t<=800000)(hr:r.length<=58){c x:Int}(a:(bE w c x).2=true):
  ∃bx,bE w c x=(nZ (bE8 w K v b bx c x) 4,true)/\Net S (t+3) m (nZ (bE8 w K v b bx c x) 4) (Ph w c x) 1 (r++[eY K (aB w.aAA.Log) v b]) (yZ w K v b c x).aAD:=by
 obtain⟨k1,k2,k3,k4,k5,k6,k7,k8⟩:=Mk a;exact h.aDP d ht hr (h.inl k1) k2 k3 k4 k5 k6
end
end Go.VK
set_option maxRecDepth 100000
namespace Go.VK
open D
def rT (w:AA)(d j:Int)(o:AS):((dV w d j o).1=w/\(dV w d j o).2.2=1)\/(dM w d j=true/\(gZ w j).2.2.2=true/\(dV w d j o).1=aPh w d j o/\(dV w d j o).2.2=2/\((Ac w d j o).2.1==0)=false)\/
  (dM w d j=true/\(gZ w j).2.2.2=true/\(dV w d j o).1=nZ (aPh w d j o) 1/\(dV w d j o).2.2=0/\((Ac w d j o).2.1==0)=true):=by
 grind[dM,gZ,Ac,dV]
def Ip {w:AA}{d j:Int}(h:dM w d j=true):aR w=true/\aK w d=true/\lF w j=true:=by
 grind[dM]
section
variable {S:List (Int×Int)} {t m:Nat} {w:AA} {K v:Int} {r:List AI} {b:AC}
def Net.visit (h:Net S t m w K v r b)(d j:Int)(o:AS):Net S t m (dV w d j o).1 K v r b:=by
 have c:=h.wi.visit d j o;have key:∀u,WIn m u->dM w d j=true->u.Seed=w.Seed->u.aAA=w.aAA->u.Devices=(aPh w d j o).Devices->Net S t m u K v r b:=λu l ht p q f=>by
  obtain⟨hl,e⟩:=gY (Ip ht).2.1;have a:=h.dev _ hl;rw[<-e] at a;refine h.upd p q (by rw[f];exact ao ..) l (by rw[f];exact h.set hl ⟨a.pre,a.at_,a.key,a.bun⟩)
 rcases rT w d j o with⟨e,_⟩|⟨ht,_,e,_,_⟩|⟨ht,_,e,_,_⟩
 ·simp[*]
 ·rw[e] at c ⊢;exact key _ c ht rfl rfl rfl
 ·rw[e] at c ⊢;exact key _ c ht rfl rfl rfl
def Net.same (h:Net S t m w K v r b){u:AA}(c:WIn m u)(d:u.Seed=w.Seed)(e:u.aAA=w.aAA)(a:u.Devices=w.Devices):Net S t m u K v r b:=
 h.upd d e (by rw[a]) c (by rw[a];exact h.dev)
def Net.aBJ (h:Net S t m w K v r b)(d:Int):Net S t m (gP w d).1 K v r b:=by
 have:=(h.wi.aBJ d).1;unfold gP at this ⊢;cases hb:dM w d 0&& !dE w d with
 |false=>exact h
 |true=>rw[hb] at this;exact h.same this rfl rfl rfl
end
def aXg (Q:AV->Prop)(s:AF):Prop:=∀a∈s.Accounts,∀c∈a.Credentials,Q c
def aZe (P:Int->Prop)(s:AF):Prop:=aXg (λc=>P c.Handle->c.Cut=true) s
def aCs (log:List AD)(seed q:Int):Prop:=dW log (kL seed q.toNat)=true
def Dk (w:AA):Prop:=∀s∈w.Sites,aZe (aCs w.aAA.Log w.Seed) s
def bRn {a:AH}{x:AX}{z:ByteArray}{q:Int}{d:AV}(h:d∈(iI a x z q).1.Credentials):∃c∈a.Credentials,c.Handle=d.Handle/\(c.Cut=true->d.Cut=true):=by
 unfold iI at h
 grind[bA,decide,aW,fO,id,Bool.or_eq_false_iff,wH,List.getD,List.getElem?_eq_getElem,Int.toNat_natCast,List.mem_or_eq_of_mem_set,List.getElem_mem,gU]
def aZe.finish {P:Int->Prop}{seed j:Int}{n:Nat}{s:AF}(hs:SiteIn seed j n s)(h:aZe P s)(c t:Int)(x:AX):aZe P (oC s 1 c t x).1:=by
 have p:=hs.find;obtain⟨l,e,hl,hn⟩:=hs.acc;have q:fF s 0=⟨1,3,l⟩:=by grind[fF]
 have d:aZe P {s with Accounts:=s.Accounts.set (0:Int).toNat (iI ⟨1,3,l⟩ x s.Name (eT s.Book c)).1}:=λa f A o hp=>by
  have f:a∈s.Accounts.set (0:Int).toNat (iI ⟨1,3,l⟩ x s.Name (eT s.Book c)).1:=f;rw[e] at f;have f:a=(iI ⟨1,3,l⟩ x s.Name (eT s.Book c)).1:=by simp_all
  subst f;obtain⟨u,y,D,z⟩:=bRn o;exact z (h ⟨1,3,l⟩ (by grind) u y (by simp[*]))
 unfold oC;rw[p];cases !dD s||decide ((0:Int)<0) with
 |true=>exact h
 |false=>
  simp only[ae];cases !(qB s.Book c 1 t).2 with
  |true=>exact h
  |false=>
   simp only[ae];cases !qN (fF s 0) 3 with
   |true=>exact h
   |false=>
    simp only[ae,q];cases !((iI ⟨1,3,l⟩ x s.Name (eT s.Book c)).2==0) with
    |true=>exact d
    |false=>exact d
theorem aP5 (s:AF)(i n:Int):(mD s i n).1.Accounts=s.Accounts/\(mD s i n).1.Logins=s.Logins/\(mD s i n).1.Name=s.Name:=by unfold mD;cases dD s&&(!decide (aJ s i<0)&&(fA s.Book i n).2.2)<;>exact⟨rfl,rfl,rfl⟩
section
variable {m:Nat} {w:AA}
def aNl (h:WIn m w){j:Int}(hj:lF w j=true):∃hl:j.toNat<w.Sites.length,dU w j=w.Sites[j.toNat]/\(j=0\/j=1)/\SiteIn w.Seed j m (dU w j):=by
 simp only[lF,aa,cq] at hj;have h2:=h.two;have hl:j.toNat<w.Sites.length:=by omega
 have e:dU w j=w.Sites[j.toNat]:=by unfold dU;rw[List.getD,ab hl,cI]
 refine⟨hl,e,by omega,?_⟩;have:=h.site _ hl
 grind
def Dk.visit (h:WIn m w)(hc:Dk w)(d j:Int)(o:AS):Dk (dV w d j o).1:=by
 have key:dM w d j=true->Dk (aPh w d j o):=λht=>by
  obtain⟨hl,e,hj,hs⟩:=aNl h (Ip ht).2.2;intro s hm;have hm:s∈w.Sites.set j.toNat (Ac w d j o).1:=hm;show aZe (aCs w.aAA.Log w.Seed) s;rcases fu hm with hm|rfl
  ·exact hc s hm
  ·have hb:=hs.begin 1 w.Now;refine aZe.finish hb (λa c=> ?_) _ _ _;have c:a∈(mD (dU w j) 1 w.Now).1.Accounts:=c;rw[(aP5 _ _ _).1] at c;exact hc (dU w j) (by simp[*]) a c
 rcases rT w d j o with⟨e,_⟩|⟨ht,_,e,_,_⟩|⟨ht,_,e,_,_⟩
 ·simp[*]
 ·simp[*]
 ·rw[e];exact key ht
def Dk.same (hc:Dk w){u:AA}(d:u.Seed=w.Seed)(f:u.aAA.Log=w.aAA.Log)(h:∀s∈u.Sites,∃s'∈w.Sites,s.Accounts=s'.Accounts):Dk u:=λs hs=>by
 obtain⟨s',hm,e⟩:=h s hs;rw[d,f];intro a c;rw[e] at c;exact hc s' hm a c
def Dk.keep (hc:Dk w){u:AA}(a:u.Seed=w.Seed)(c:u.aAA.Log=w.aAA.Log)(d:u.Sites=w.Sites):Dk u:=hc.same a c λs hs=>(by grind)
def bRo {Q:AV->Prop}{s:AF}(h:aXg Q s){id q p:Int}(hq:Q ⟨q,p,0,false⟩):aXg Q (eQ s id q p).1:=by
 unfold eQ;cases hb: !dD s||decide (aJ s id<0) with
 |true=>exact h
 |false=>
  rw[ae];cases h2:(fT (s.Accounts.getD (aJ s id).toNat default) q p).2 with
  |false=>exact h
  |true=>
   intro a d c hc;rw[bl] at hb;obtain⟨k,hk,e,o⟩:=wH (l:=s.Accounts) hb.2;have f:aJ s id=(k:Int):=e.trans (by simp);have j:s.Accounts.getD (aJ s id).toNat default=s.Accounts[k]:=by rw[f,bo,List.getD,ab hk,cI]
   have d:a∈s.Accounts.set (aJ s id).toNat (fT (s.Accounts.getD (aJ s id).toNat default) q p).1:=d;rcases fu d with d|d
   ·exact h a d c hc
   ·rw[j] at d;have hm:c∈s.Accounts[k].Credentials\/c=⟨q,p,0,false⟩:=by
     grind[bA,aCc,Yh,List.mem_singleton,List.mem_of_mem_take,List.mem_of_mem_drop,fT]
    rcases hm with hm|rfl
    ·exact h _ (cf hk) c hm
    ·exact hq
def aP6 {Q:AV->Prop}{st:AJ}{q:Int}(hq:∀p,Q ⟨q,p,0,false⟩):∀{l:List AF} {j:Nat},(∀s∈l,aXg Q s)->∀s∈(fZ st q j l).1,aXg Q s
 |[],j,_,s,hs=>by simp[fZ] at hs
 |x::l,j,h,s,hs=>by
  unfold fZ at hs;cases hb:(eQ x 1 q (eG st (aA (j:Int)) q)).2&&(fZ st q (j+1) l).2 with
  |false=>rw[hb] at hs;simp at hs
  |true=>
   rw[hb,ac] at hs;rcases bc.1 hs with rfl|hs
   ·exact bRo (h x (cX ..)) (hq _)
   ·exact aP6 hq (λs hs=>h s (cQ _ hs)) s hs
def bHk {seed j:Int}{l:List AV}(h:Mf seed j l){k:Nat}(hk:k<l.length):aW ⟨1,3,l⟩ (k:Int)=(k:Int):=by
 have hd:decide (aW ⟨1,3,l⟩ (k:Int)<0)=false:=by rw[cR];intro hn;have:=Sa (p:=λc:AV=>c.Handle==(k:Int)) hn l[k] (cf hk);rw[(h k hk).1,dq] at this;cases this
 obtain⟨i,hi,a,d⟩:=wH (l:=l) hd;have:=(h i hi).1
 grind[aW]
def bOe {seed j:Int}{n:Nat}{s:AF}(hj:j=0\/j=1)(hn:n<=6)(hs:SiteIn seed j n s){k:Nat}(hk:k<n):∃l l',s.Accounts=[⟨1,3,l⟩]/\(gL (k:Int) s).Accounts=[⟨1,3,l'⟩]/\l'.length=l.length/\Mf seed j l/\Mf seed j l'/\
  (∀c∈l',c.Handle=(k:Int)->c.Cut=true)/\(∀i (h1:i<l.length) (h2:i<l'.length),i≠k->l'[i]=l[i])/\(∀d∈l',∃c∈l,c.Handle=d.Handle/\c.Counter=d.Counter/\(c.Cut=true->d.Cut=true))/\(gL (k:Int) s).Logins=s.Logins/\(gL (k:Int) s).Book=s.Book:=by
 have z:=hs.find;obtain⟨l,e,hl,f⟩:=hs.acc;subst f;have A:fF s 0=⟨1,3,l⟩:=by grind[fF]
 have o:=bHk hl hk;have p:fO ⟨1,3,l⟩ (k:Int)=l[k]:=by grind[List.getD,List.getElem?_eq_getElem,fO]
 have q:=aPq (m:=3) hj hl hn (by grind);have x:gL (k:Int) s={s with Accounts:=[(jS ⟨1,3,l⟩ (k:Int)).1]}:=by unfold gL;simp[*]
 have y:∀{l':List AV},Mf seed j l'->∀c∈l',c.Handle=(k:Int)->∃h:k<l'.length,c=l'[k]:=λa c hc D=>by
  obtain⟨i,hi,e⟩:=cE.1 hc;have:=(a i hi).1
  grind
 rw[x];unfold jS;rw[q,o,p,av (show ¬(k:Int)<0 by omega)];cases u:l[k].Cut with
 |true=>
  grind
 |false=>
  have a:Mf seed j (l.set k {l[k] with Cut:=true}):=hl.set hk rfl rfl (hl k hk).2.2
  grind
end
end Go.VK
set_option maxRecDepth 100000
namespace Go.VK
open D
def bE9:List (Int×Int):=[(1941999745,0),(1941999745,1),(1941999745,2),(1941999745,3),(1941999745,4),(1941999745,5),(1464438180,0),(1464438180,1),(1464438180,2),(1464438180,3),(1464438180,4),(1464438180,5)]
def bRp {x:List (Int×Int)}(h:x.length<=8)(a:∀p∈x,(0<=p.1/\p.1<=2147483646)/\(0<=p.2/\p.2<=1000000)):KeyD (bE9++x):=by
 refine⟨⟨by rw[ay];show 12+x.length<=20;omega,λp hp=> ?_⟩,λq hq=> ?_⟩
 ·rcases bp.1 hp with hp|hp
  ·have:∀p∈bE9,(0<=p.1/\p.1<=2147483646)/\(0<=p.2/\p.2<=1000000):=by decide
   simp[*]
  simp[*]
 simp_all[bXn,bXo,bE9,List.mem_append_left];omega
def bOf {x:List (Int×Int)}{n:Nat}(h:n=1\/n=2\/n=3):BunIn (bE9++x) 3 (nwB n).Entries:=by
 refine⟨(aO6 (bE6 h).1).2,λe he=>List.mem_append_left _ ?_,λe he=> ?_⟩
 ·rcases h with rfl|rfl|rfl<;>revert e<;>decide
 ·rcases h with rfl|rfl|rfl<;>revert e<;>decide
def bHl {x:List (Int×Int)}{n k t pin seed:Int}(h:yX n k t pin seed=true):Net (bE9++x) 3 (bI n k t pin seed).Devices.length (bI n k t pin seed) (bF seed 0) 1 [] (nwB n.toNat):=by
 obtain⟨a,c,l⟩:=Sw h;have hn:n.toNat=1\/n.toNat=2\/n.toNat=3:=by unfold yX at h;simp only[aa] at h;have:=iA h.1;omega
 obtain⟨h1,h2,o,d,q⟩:=pR seed n.toNat (by omega);have f:(bI n k t pin seed).aAA=⟨aX seed n.toNat,gM seed n.toNat,[eY (bF seed 0) 0 1 (nwB n.toNat)]⟩:=by
  grind[Io,bI]
 have s:(bI n k t pin seed).Devices=(List.range n.toNat).map λk=>Im seed n.toNat k 1 (nwB n.toNat):=by
  grind[aKq,bI]
 rw[c];refine⟨a,by grind[aPy],λp hp=> ?_,λp hp=> ?_,?_,(by simp),bOf hn,by decide,λi hi=> ?_⟩
 ·grind
 ·simp_all
 ·simp[*]
 ·rw[f];show Dv _ _ (aX seed n.toNat) _ (aB (aX seed n.toNat)) 1 (bI n k t pin seed).Devices[i];have j:i<((List.range n.toNat).map λk=>Im seed n.toNat k 1 (nwB n.toNat)).length:=by simp_all
  have e:(bI n k t pin seed).Devices[i]=Im seed n.toNat i 1 (nwB n.toNat):=by simp[*]
  rw[e,d];exact⟨⟨[],by show _=aX seed n.toNat++[];simp⟩, .inr ⟨rfl,cJ _⟩,λ_=>rfl,bOf hn⟩
def bRq {n k t pin seed:Int}(h:yX n k t pin seed=true):Dk (bI n k t pin seed):=λs hs a e c hc hp=>by
 have hn:n.toNat=1\/n.toNat=2\/n.toNat=3:=by unfold yX at h;simp only[aa] at h;have:=iA h.1;omega
 have d:(bI n k t pin seed).aAA.Log=aX seed n.toNat:=by unfold bI;rw[h];show(iQ seed n.toNat).Log=_;rw[Io hn]
 unfold aCs at hp;rw[d,(pR seed n.toNat (by omega)).rem] at hp;cases hp
section
variable {S:List (Int×Int)} {t m:Nat} {w:AA} {K v:Int} {r:List AI} {b:AC}
theorem aNm {w:AA}{c:Int}(h:(cK w c).2=false):cK w c=(w,false):=by
 grind[xL,cK]
def Ak {w:AA}{c:Int}(h:(cK w c).2=true):xL w c=true:=by
 grind[xL,cK]
theorem Dk.add (h:Net S t w.Devices.length w K v r b)(f:KeyD S)(ht:t<=800000)(hr:r.length<=58)(hc:Dk w)(a:Int):Dk (cK w a).1:=by
 cases hk:(cK w a).2 with
 |false=>grind[aNm]
 |true=>
  obtain⟨n1,u1,u2,n2,eA,u3,j,u4⟩:=h.add f ht hr (Ak hk);have d:aU (qW w a)=true:=by rw[<-u3];exact n1.wi.log
  obtain⟨x,l,y⟩:=aCr d;have hd:=h.wi.dlen;have o:=n1.wi.mle;have eP:aCs (qW w a) w.Seed=aCs w.aAA.Log w.Seed:=by funext q;unfold aCs;rw[l]
  have p:¬aCs (qW w a) w.Seed (w.Devices.length:Int):=λhq=>by
   rw[eP] at hq;obtain⟨k,hk,e⟩:=h.rem _ hq
   grind[aCl,Int.toNat_natCast]
  rw[eA];intro s hs;show aZe (aCs (Hf w K v b a).aAA.Log (Hf w K v b a).Seed) s;rw[u3,u2];have hs:s∈(M9 w a).1:=hs;have es:(add1 w a).1.Sites=w.Sites:=by obtain⟨z,A,D,u,_⟩:=Mg (aF w a 0).1 a 1 (aS (aO w.Seed (w.Devices.length:Int))) (λ_=>(aG (aF w a 0).1 a).Key);exact u.trans (fP w a 0).2.2.2.1
  unfold M9 at hs;rw[es] at hs;exact aP6 (Q:=λc=>aCs (qW w a) w.Seed c.Handle->c.Cut=true) (by simp[*]) (λs hs=>by rw[eP];exact hc s hs) s hs
theorem Dk.cut (h:Net S t m w K v r b)(hm:m=w.Devices.length)(A:KeyD S)(ht:t<=800000)(hr:r.length<=58)(hc:Dk w)(c x:Int):Dk (bE w c x).1:=by
 cases hk:(bE w c x).2 with
 |false=>grind[aP4]
 |true=>
  obtain⟨bx,e,n1⟩:=h.cut A ht hr hk;obtain⟨k1,k2,k3,k4,_⟩:=Mk hk;obtain⟨q,D⟩:=gY (jT k4);obtain⟨F,_,_⟩:=qV (jT k4);have o:aU (kS w c x)=true:=n1.wi.log;obtain⟨N,G,O⟩:=Xz o;have hd:=h.wi.dlen;have y:=h.wi.mle;rw[e];intro s hs;have hs:s∈w.Sites.map (gL x):=hs;obtain⟨s',p,rfl⟩:=ct.1 hs;obtain⟨j,hj,es⟩:=cE.1 p;have h2:=h.wi.two;have f:=h.wi.site j hj;rw[es] at f;obtain⟨l,l',q1,q2,q3,q4,q5,q6,q7,q8,_⟩:=bOe (j:=(j:Int)) (by omega) h.wi.mle f (k:=x.toNat) (by omega);rw[eV F] at q2 q6;show aZe (aCs (kS w c x) w.Seed) _;intro a u z d hp;rw[q2] at u;have u:a=⟨1,3,l'⟩:=by simp_all
  subst u;have d:z∈l':=d;unfold aCs at hp;rw[G,cn] at hp;rcases hp with hp|hp
  ·obtain⟨H,I,Q,_,J⟩:=q8 z d;exact J (hc s' p ⟨1,3,l⟩ (by simp[*]) H I (by grind[aCs]))
  ·have hp:=eq_of_beq hp;rw[D,h.pub q] at hp;obtain⟨i,hi,L⟩:=cE.1 d;have M:=(q5 i hi).1;rw[L] at M;have hl:=f.acc
   grind[q6,aCl,Int.toNat_natCast,q1]
end
def bOg (M:Int)(k:A3):Prop:=k.Guesses<=k.Limit/\Rq k<=M
def bOh (h:AN):Prop:=bOg h.Monotonic h.State/\∀k∈h.Saved,bOg h.Monotonic k
def bOg.mono {M N:Int}{k:A3}(h:bOg M k)(hm:M<=N):bOg N k:=⟨h.1,fc h.2 hm⟩
def aNn (l:List AN):Prop:=∀h∈l,bOh h
theorem bJ9 {k:A3}(h:k.Guesses<=k.Limit):bOh (Dz k):=⟨⟨h,cJ _⟩,λk hk=>by simp[Dz] at hk⟩
end Go.VK
set_option maxRecDepth 100000
namespace Go.VK
open D
structure All (S:List (Int×Int)) (t:Nat) (w:AA):Prop where
 net:∃K v r b,Net S (3+3*t) w.Devices.length w K v r b/\r.length<=t
 cut:Dk w
 hosts:aNn w.Hosts
def All.wi {S:List (Int×Int)}{t:Nat}{w:AA}(h:All S t w):WIn w.Devices.length w:=let ⟨_,_,_,_,n,_⟩:=h.net;n.wi
def All.mono {S:List (Int×Int)}{t u:Nat}{w:AA}(h:All S t w)(a:t<=u):All S u w:=
 let ⟨K,v,r,b,n,hr⟩:=h.net;⟨⟨K,v,r,b,n.mono (by omega),by omega⟩,h.cut,h.hosts⟩
def bKa {n k t pin seed:Int}:aNn (bI n k t pin seed).Hosts:=by
 unfold bI;cases yX n k t pin seed with
 |false=>intro h a;grind[aNh]
 |true=>
  intro h a
  grind[aNg,aV,wZ,N7,Dz,bJ9,Xv,Ha]
def bRr {x:List (Int×Int)}{n k t pin seed:Int}(h:yX n k t pin seed=true):All (bE9++x) 0 (bI n k t pin seed):=
 ⟨⟨_,_,_,_,bHl (x:=x) h,ak _⟩,bRq h,bKa⟩
section
variable {S:List (Int×Int)} {t:Nat} {w:AA}
def All.of (h:All S t w){u:AA}{t':Nat}(ht:t<=t')(hn:∀K v r b,Net S (3+3*t) w.Devices.length w K v r b->Net S (3+3*t') w.Devices.length u K v r b)(hl:u.Devices.length=w.Devices.length)(hc:Dk u)(a:aNn u.Hosts):All S t' u:=
 let ⟨K,v,r,b,n,hr⟩:=h.net;⟨(by grind),hc,a⟩
def All.visit (h:All S t w)(d j:Int)(o:AS):All S t (dV w d j o).1:=
 h.of (ak _) (λK v r b n=>n.visit d j o) (Ai w d j o).2 (h.cut.visit h.wi d j o) (by rw[bCn];exact h.hosts)
def All.aBJ (h:All S t w)(d:Int):All S t (gP w d).1:=
 h.of (ak _) (λK v r b n=>n.aBJ d) (h.wi.aBJ d).2.2 (by
  unfold gP;cases dM w d 0&& !dE w d with
  |false=>exact h.cut
  |true=>exact h.cut.keep rfl rfl rfl) (by rw[bCp];exact h.hosts)
def All.sync (h:All S t w)(a:KeyD S)(ht:t<=58)(d c:Int):All S t (aF w d c).1:=
 h.of (ak _) (λK v r b n=>n.sync a.ks (by omega) d c) (fP w d c).2.2.1 (h.cut.keep (fP w d c).1 (by rw[(fP w d c).2.2.2.2.2]) (fP w d c).2.2.2.1) (by rw[Aj];exact h.hosts)
def Ml (w:AA)(d:Int)(n:ByteArray)(a:Int)(f:Bool):(lS w d n a f).1.aAA=w.aAA/\(lS w d n a f).1.Sites=w.Sites:=by
 grind[aR,aK,bO,aG,lS]
def All.aCH (h:All S t w)(c:KeyD S)(ht:t<=58)(d:Int){n:ByteArray}{a:Int}(hk:(bG n,a)∈S)(f:Bool):All S (t+1) (lS w d n a f).1:=
 h.of (eg _) (λK v r b q=>(q.aCH c.ks (by omega) d hk f).mono (by omega)) (zJ w d n a f).2 (h.cut.keep (zJ w d n a f).1 (by rw[(Ml w d n a f).1]) (Ml w d n a f).2) (by rw[bE7];exact h.hosts)
def All.push (h:All S t w)(a:KeyD S)(ht:t<=58)(d:Int):All S (t+1) (dI w d).1:=by
 obtain⟨K,v,r,b,n,hr⟩:=h.net;obtain⟨c,o,e,f,p,j⟩:=rQ w d;have hc:Dk (dI w d).1:=h.cut.keep c j f;have l:aNn (dI w d).1.Hosts:=by rw[aP0];exact h.hosts
 cases hl:bK w d with
 |false=>rw[n.aCB hl];exact h.mono (by omega)
 |true=>
  have:=n.aBT a.ks (by omega) (by omega) hl;refine⟨⟨K,v+1,r++[eY K (aB w.aAA.Log) v b],⟨bR (aG w d).aAD.Entries b.Entries⟩,?_,by simp;omega⟩,hc,l⟩
  ·rw[e,n.aBC a.ks (by omega) (by omega) hl];exact this.mono (by omega)
theorem All.add (h:All S t w)(a:KeyD S)(ht:t<=58)(d:Int):All S (t+1) (cK w d).1:=by
 obtain⟨K,v,r,b,n,hr⟩:=h.net;cases hk:(cK w d).2 with
 |false=>rw[aNm hk];exact h.mono (by omega)
 |true=>
  obtain⟨n1,u1,u2,n2,eA,u3,c,u4⟩:=n.add a (by omega) (by omega) (Ak hk);refine⟨⟨K,v+1,r++[eY K (aB w.aAA.Log) v b],aZd w K v b d,?_,by simp;omega⟩,Dk.add n a (by omega) (by omega) h.cut d,by rw[bJ4];exact h.hosts⟩
  ·have hl:(cK w d).1.Devices.length=w.Devices.length+1:=by rw[eA];show((Hf w K v b d).Devices++[_]).length=_;simp[*]
   grind
def All.aDT (h:All S t w)(a:KeyD S)(ht:t<=58)(d x:Int):All S (t+1) (bE w d x).1:=by
 obtain⟨K,v,r,b,n,hr⟩:=h.net;cases hk:(bE w d x).2 with
 |false=>rw[aP4 hk];exact h.mono (by omega)
 |true=>obtain⟨bx,e,n1⟩:=n.cut a (by omega) (by omega) hk;refine⟨⟨Ph w d x,1,r++[eY K (aB w.aAA.Log) v b],(yZ w K v b d x).aAD,?_,by simp;omega⟩,Dk.cut n rfl a (by omega) (by omega) h.cut d x,by rw[bJ5];exact h.hosts⟩;rw[(h.wi.cut d x).2.2,e];assumption
def All.final (h:All S t w){d:Int}(hd:aK w d=true):aGr w d=true->bK w d=false/\(w.Sites.take 2).any (bGu d)=false:=λhc=>by
 obtain⟨K,v,r,b,n,hr⟩:=h.net;obtain⟨hl,e⟩:=gY hd;obtain⟨d0,_,_⟩:=qV hd;have hr:dW w.aAA.Log (kL w.Seed d.toNat)=true:=by unfold aGr at hc;rw[hd,e,n.pub hl] at hc;exact hc
 refine⟨?_,?_⟩
 ·rw[n.aDG hd,jd,Ne,lJ];exact bRj (.inr n.wi.log) _ hr
 ·rw[List.any_eq_false];intro s hs hb;have hs:=fm hs;obtain⟨j,hj,es⟩:=cE.1 hs;have a:=n.wi.site j hj;rw[es] at a;obtain⟨l,f,o,p⟩:=a.acc;unfold bGu at hb;rw[a.find,f,aa] at hb;obtain⟨c,hc1,hc2⟩:=fp.1 hb.2;rw[aa,bv] at hc2;have hc1:c∈l:=hc1;have:=h.cut s hs ⟨1,3,l⟩ (by rw[f];simp) c hc1 (by unfold aCs;rw[eq_of_beq hc2.1];exact hr);simp_all
end
end Go.VK
set_option maxRecDepth 100000
namespace Go.VK
open D
section
variable {S:List (Int×Int)} {t m:Nat} {w:AA} {K v:Int} {r:List AI} {b:AC}
def bRs {l:List AB}{x:AB}{c:Nat}(hc:c<l.length):(l.set c x).getD c default=x:=by simp[*]
structure Settled (S:List (Int×Int)) (t:Nat) (w:AA) (K:Int) (r:List AI) (b:AC) (y:AA) (v':Int) (r':List AI) (b':AC):Prop where
 eq:bQ1 w=(y,true)
 net:Net S (t+w.Devices.length) w.Devices.length y K v' r' b'
 rlen:r'.length<=r.length+w.Devices.length
 log:y.aAA.Log=w.aAA.Log
 seed:y.Seed=w.Seed
 stolen:y.Stolen=w.Stolen
 len:y.Devices.length=w.Devices.length
 sites:y.Sites=w.Sites
 hosts:y.Hosts=w.Hosts
 reach:zY y=zY w
 own:∀d∈zY w,(aG y d).aAD=b'/\(aG y d).Epoch=aB w.aAA.Log/\(aG y d).Version=v'/\(aG y d).Key=K
 other:∀d,aK w d=true->(aG y d).Store=(aG w d).Store/\(d∉zY w->aG y d=aG w d)
 sub:∀d∈zY w,Sub (aG w d).aAD.Entries b'.Entries
 last:Sub b.Entries b'.Entries
 mem:∀e∈b'.Entries,e∈b.Entries\/∃d∈zY w,e∈(aG w d).aAD.Entries
end
end Go.VK
set_option maxRecDepth 100000
namespace Go.VK
open D
theorem bCs (s:AJ)(o:AS)(z:ByteArray)(i c:Int)(p:Bool):iP s o z i c p=(s,aTy,false)\/(lW o z=true/\lI s=true/\s.Counter<1000000/\iP s o z i c p=({s with Counter:=s.Counter+1},{Sj s o z i c p with Counter:=s.Counter+1,Signature:=rM (dC s z i) (dH (Sj s o z i c p)++[s.Counter+1])},true)):=by
 unfold iP;cases hm:lW o z with
 |false=>simp
 |true=>
  unfold jD;cases hs:lI s&& !(s.Counter==1000000) with
  |false=>simp
  |true=>
   simp only[aa,bv,ca] at hs;have hc:=hs.1;unfold lI at hc;simp only[aa] at hc;have hr:=iA hc.2.2.2
   grind[bNf,aM]
def bRt {s:AJ}{o:AS}{z:ByteArray}{i c:Int}{p:Bool}(h1:lW o z=true)(h2:lI s=true)(a:s.Counter<1000000):iP s o z i c p=({s with Counter:=s.Counter+1},{Sj s o z i c p with Counter:=s.Counter+1,Signature:=rM (dC s z i) (dH (Sj s o z i c p)++[s.Counter+1])},true):=by
 grind[iP,jD,beq_eq_false_iff_ne,bCs]
def bXr {seed:Int}{k:Nat}{s:AJ}(h:StIn seed k s)(hk:k<6):lI s=true:=by unfold lI;rw[h.ven,h.ser,h.key,iK (show(0:Int)<=(k:Int) by omega) (by omega),iK h.cnt.1 h.cnt.2];show(true&&(true&&(bL (aV seed [277,(k:Int)])&&true)))=true;rw[iJ];rfl
theorem bOi (pub:Int){z:ByteArray}(a:0<z.size)(c n:Int):gU pub aTy z c n=1:=by
 unfold gU;have:((aTy.Site.toList==z.toList):Bool)=false:=by rw[ca];intro e;have:=congrArg List.length e;simp only[ByteArray.toList_eq] at this;have h1:(aTy.Site.data.toList).length=0:=rfl;simp_all
 simp[*]
theorem bOj {j:Int}(hj:j=0\/j=1):0<(aA j).size:=by rcases hj with rfl|rfl<;>decide
def bOk {a:AH}{x:AX}{z:ByteArray}{c:Int}:((iI a x z c).1=a/\(iI a x z c).2≠0)\/(∃k,∃h:k<a.Credentials.length,aW a x.Handle=(k:Int)/\a.Credentials[k].Handle=x.Handle/\a.Credentials[k].Cut=false/\(iI a x z c).2=gU a.Credentials[k].Public x z c a.Credentials[k].Counter/\
  (iI a x z c).1={a with Credentials:=bif gU a.Credentials[k].Public x z c a.Credentials[k].Counter==0 then a.Credentials.set k {a.Credentials[k] with Counter:=x.Counter} else bif gU a.Credentials[k].Public x z c a.Credentials[k].Counter==4 then a.Credentials.set k {a.Credentials[k] with Cut:=true} else a.Credentials}):=by
 grind[bA,decide,aW,fO,Bool.or_eq_false_iff,wH,List.getD,List.getElem?_eq_getElem,Int.toNat_natCast,iI]
def bFa {b:AR}(h:BookIn b)(hn:b.Next<1000000){now:Int}(ht:0<=now/\now<=999900):fA b 1 now=((fA b 1 now).1,⟨b.Next,1,now+5⟩,true)/\(fA b 1 now).1.Next=b.Next+1/\(qB (fA b 1 now).1 b.Next 1 now).2=true:=by
 have q:=aCk h.ok;have hq:=(bCe h 1 now).1;have s:IntKind.i64.wrap (now+5)=now+5:=(by grind[aM]);have u:0<=b.Next:=by have:=h.ok;unfold fJ at this;simp only[aa] at this;exact(iA this.1.1).1
 have f:fA b 1 now=(⟨b.Seed,b.Next+1,(bif decide ((b.Open.length:Int)>=16) then b.Open.drop 1 else b.Open)++[⟨b.Next,1,now+5⟩]⟩,⟨b.Next,1,now+5⟩,true):=by unfold fA aCg;rw[h.ok,ca.2 (show b.Next≠1000000 by omega),iK (show(0:Int)<=1 by decide) (by decide),iK ht.1 (by omega),s,aM (by omega) (by omega)];rfl
 refine⟨by rw[f],by rw[f],?_⟩;have j:∀c∈b.Open,c.Id<=b.Next-1:=λc hc=>by
  have:=h.ok;unfold fJ at this;simp only[aa,bv] at this;obtain⟨i,hi,e⟩:=cE.1 hc;have h2:=O1 this.2 i hi;unfold iD at h2;simp only[bl,cN] at h2;have:=(iA h2.1).2
  grind[aM]
 have hm:∀c∈(fA b 1 now).1.Open,c.Id=b.Next->c=⟨b.Next,1,now+5⟩:=(by grind[decide,List.mem_of_mem_drop,List.mem_singleton]);have d:(⟨b.Next,1,now+5⟩:AZ)∈(fA b 1 now).1.Open:=by simp[*]
 have o:decide (dN (fA b 1 now).1 b.Next<0)=false:=by
  rw[cR];intro a;have:=Sa (p:=λc:AZ=>c.Id==b.Next) a _ d
  grind
 obtain⟨k,hk,y,z⟩:=wH (l:=(fA b 1 now).1.Open) o;have x:aGw (fA b 1 now).1 (dN (fA b 1 now).1 b.Next)=⟨b.Next,1,now+5⟩:=by
  grind[List.getElem_mem,Int.toNat_natCast,List.getD,List.getElem?_eq_getElem,aGw,dN,fA]
 unfold qB;rw[hq.ok,o,x]
 grind
section
variable {m:Nat} {w:AA}
def bKb (h:WIn m w){d j:Int}(ht:dM w d j=true)(o:AS):SiteIn w.Seed j m (gZ w j).1/\(gZ w j).1.Name=aA j/\(j=0\/j=1):=by obtain⟨hl,e,hj,hs⟩:=aNl h (Ip ht).2.2;have hb:=hs.begin 1 w.Now;exact⟨hb,hb.name,hj⟩
def bOl (h:WIn m w){d j:Int}{o:AS}(ht:dM w d j=true)(hm:d.toNat<m)(ho:lW o (aA j)=true)(hn:(dU w j).Book.Next<1000000)(hc:(aG w d).Store.Counter<1000000)
  (D:∀a∈(dU w j).Accounts,∀(hk:d.toNat<a.Credentials.length),a.Credentials[d.toNat].Cut=false/\a.Credentials[d.toNat].Counter<=(aG w d).Store.Counter):(dV w d j o).2.2=0:=by
 obtain⟨R,t2,F⟩:=Ip ht;obtain⟨hl,es,hj,hs⟩:=aNl h F;obtain⟨d0,d1,_⟩:=qV t2;have y:=h.mle;have hb:=aCk hs.book;obtain⟨G,T,V⟩:=bFa hb hn h.now;have H:gZ w j=({dU w j with Book:=(fA (dU w j).Book 1 w.Now).1},(dU w j).Book.Next,eT (fA (dU w j).Book 1 w.Now).1 (dU w j).Book.Next,true):=by unfold gZ mD;rw[hs.ok hj h.mle,hs.find,G];rfl
 have p:=h.aBX t2;have q:=bXr p (by omega);have z:Md w d j o=({(aG w d).Store with Counter:=(aG w d).Store.Counter+1},{Sj (aG w d).Store o (aA j) d (gZ w j).2.2.1 true with Counter:=(aG w d).Store.Counter+1,Signature:=rM (dC (aG w d).Store (aA j) d) (dH (Sj (aG w d).Store o (aA j) d (gZ w j).2.2.1 true)++[(aG w d).Store.Counter+1])},true):=bRt ho q hc;have c:=hs.begin 1 w.Now;rw[show(mD (dU w j) 1 w.Now)=gZ w j from rfl] at c;obtain⟨l,e,f,u⟩:=hs.acc;subst u;have x:=f d.toNat hm;obtain⟨u1,u2⟩:=D ⟨1,3,l⟩ (by grind) hm;have u2:l[d.toNat].Counter<=(aG w d).Store.Counter:=u2;have u1:l[d.toNat].Cut=false:=u1;have I:fF (gZ w j).1 0=⟨1,3,l⟩:=by grind[dU,fF]
 have J:=aPq (m:=3) hj f h.mle (by grind);have L:aW ⟨1,3,l⟩ d=(d.toNat:Int):=by have:=bHk f hm;rwa [eV d0] at this ⊢
 have N:fO ⟨1,3,l⟩ (d.toNat:Int)=l[d.toNat]:=by unfold fO;rw[bo];show l.getD d.toNat default=_;rw[List.getD,ab hm,cI]
 have s:dC (aG w d).Store (aA j) d=dC (aO w.Seed (d.toNat:Int)) (aA j) (d.toNat:Int):=by rw[dC,dC,p.key,eV d0]
 have hv:∀M,iC (dQ (dC (aO w.Seed (d.toNat:Int)) (aA j) (d.toNat:Int))) M (rM (dC (aO w.Seed (d.toNat:Int)) (aA j) (d.toNat:Int)) M)=true:=(by simp[bCg,dC,iJ]);have A:gU l[d.toNat].Public (Md w d j o).2.1 (gZ w j).1.Name (eT (gZ w j).1.Book (gZ w j).2.1) l[d.toNat].Counter=0:=by rw[c.name,z,H];unfold gU;show(bif !((aA j).toList==(aA j).toList) then(1:Int) else bif !true then 2 else bif !(eT (fA (dU w j).Book 1 w.Now).1 (dU w j).Book.Next==eT (fA (dU w j).Book 1 w.Now).1 (dU w j).Book.Next) then 3 else bif !iC l[d.toNat].Public (dH (Sj (aG w d).Store o (aA j) d (eT (fA (dU w j).Book 1 w.Now).1 (dU w j).Book.Next) true)++[(aG w d).Store.Counter+1]) (rM (dC (aG w d).Store (aA j) d) (dH (Sj (aG w d).Store o (aA j) d (eT (fA (dU w j).Book 1 w.Now).1 (dU w j).Book.Next) true)++[(aG w d).Store.Counter+1])) then 5 else bif decide ((aG w d).Store.Counter+1<=l[d.toNat].Counter) then 4 else 0)=0;rw[x.2.1,s,show Sr w.Seed j d.toNat=dQ (dC (aO w.Seed (d.toNat:Int)) (aA j) (d.toNat:Int)) from rfl,hv,av (show ¬(aG w d).Store.Counter+1<=l[d.toNat].Counter by omega)];simp
 have W:(Ac w d j o).2.1=0:=by
  unfold Ac oC;rw[c.ok hj h.mle,c.find];have O:(qB (gZ w j).1.Book (gZ w j).2.1 1 w.Now).2=true:=by grind
  have Q:qN (fF (gZ w j).1 0) 3=true:=by
   grind[List.any_eq_true,List.getElem_mem,u1,qN]
  have X:(Md w d j o).2.1.Handle=d:=by rw[z];rfl
  grind[iI,fF,gZ,Md,eT,u1,decide_eq_false]
 grind[dV]
def bOm (h:WIn m w){d j:Int}{o:AS}(hq:lW o (aA j)=false\/∀a∈(dU w j).Accounts,∀c∈a.Credentials,c.Handle=d->c.Cut=true):(dV w d j o).2.2≠0:=by
 rcases rT w d j o with⟨_,e⟩|⟨_,_,_,e,_⟩|⟨ht,_,_,e,f⟩
 ·rw[e];decide
 ·rw[e];decide
 ·exfalso;obtain⟨hb,p,hj⟩:=bKb h ht o;have f:=eq_of_beq f;unfold Ac oC at f;rw[hb.find] at f;cases h1: !dD (gZ w j).1||decide ((0:Int)<0) with
  |true=>simp_all
  |false=>
  rw[h1] at f;simp only[ae] at f;cases h2: !(qB (gZ w j).1.Book (gZ w j).2.1 1 w.Now).2 with
  |true=>simp_all
  |false=>
  rw[h2] at f;simp only[ae] at f;cases s: !qN (fF (gZ w j).1 0) 3 with
  |true=>simp_all
  |false=>
  rw[s] at f;simp only[ae] at f;have u:(iI (fF (gZ w j).1 0) (Md w d j o).2.1 (gZ w j).1.Name (eT (gZ w j).1.Book (gZ w j).2.1)).2≠0:=by
   rcases bOk (a:=fF (gZ w j).1 0) (x:=(Md w d j o).2.1) (z:=(gZ w j).1.Name) (c:=eT (gZ w j).1.Book (gZ w j).2.1) with⟨_,q⟩|⟨k,hk,F,y,G,A,_⟩
   ·exact q
   ·rw[A];rcases bCs (aG w d).Store o (aA j) d (gZ w j).2.2.1 true with e|⟨H,_,_,e⟩
    ·grind[bOi,bOj,Md,aTy]
    ·rcases hq with hq|hq
     ·simp_all
     ·exfalso;have D:(Md w d j o).2.1.Handle=d:=by unfold Md;rw[e];rfl
      rw[D] at y;obtain⟨l,el,_,_⟩:=hb.acc
      grind[List.getElem_mem,fF,gZ,dU,aP5]
  grind
end
end Go.VK
set_option maxRecDepth 100000
namespace Go.VK
open D
def bOn (w:AA)(k:Nat):Int:=(w.Devices.getD k default).Store.Counter
def bS2 (w:AA)(k:Nat):Prop:=dW w.aAA.Log (kL w.Seed k)=true
def CrU (cnt:Nat->Int)(rem:Nat->Prop)(c:AV):Prop:=c.Counter<=cnt c.Handle.toNat/\(c.Cut=true->rem c.Handle.toNat)
structure Us (B:Int) (w:AA):Prop where
 cnt:∀k,k<w.Devices.length->bOn w k<=B
 next:∀s∈w.Sites,s.Book.Next<=B
 cred:∀s∈w.Sites,aXg (CrU (bOn w) (bS2 w)) s
def CrU.mono {cnt cnt':Nat->Int}{rem rem':Nat->Prop}(hc:∀k,cnt k<=cnt' k)(hr:∀k,rem k->rem' k){c:AV}(h:CrU cnt rem c):CrU cnt' rem' c:=⟨fc h.1 (hc _),λq=>hr _ (h.2 q)⟩
section
variable {m:Nat} {w:AA} {B:Int}
end
section
variable {S:List (Int×Int)} {t m:Nat} {w:AA} {K v:Int} {r:List AI} {b:AC} {B:Int}
end
section
variable {m:Nat} {w:AA} {B:Int}
def Us.ok (s:WIn m w)(h:Us B w)(x:B<1000000){d j:Int}{o:AS}(ht:dM w d j=true)(hm:d.toNat<m)(ho:lW o (aA j)=true)(hr:¬bS2 w d.toNat):(dV w d j o).2.2=0:=by
 obtain⟨y,t2,u⟩:=Ip ht;obtain⟨hl,es,hj,hs⟩:=aNl s u;obtain⟨f,z⟩:=gY t2;have p:bOn w d.toNat=(aG w d).Store.Counter:=rfl;have c:dU w j∈w.Sites:=by simp[*]
 have hn:=h.next _ c;have hc:=h.cnt _ f;rw[p] at hc;refine bOl s ht hm ho (by omega) (by omega) λa e hk=> ?_;have hq:=h.cred _ c a e _ (cf hk);obtain⟨l,el,q,_⟩:=hs.acc;rw[el] at e;have e:a=⟨1,3,l⟩:=by simp_all
 subst e;have A:(AH.mk 1 3 l).Credentials[d.toNat].Handle=(d.toNat:Int):=(q d.toNat hk).1
 grind[absurd,Int.toNat_natCast,CrU]
end
end Go.VK
set_option maxRecDepth 100000
namespace Go.VK
open D
def bKc {n k t pin seed:Int}(h:yX n k t pin seed=true):(bI n k t pin seed).Stolen=List.replicate n.toNat false/\(bI n k t pin seed).aAA.Log=aX seed n.toNat/\(bI n k t pin seed).Devices.length=n.toNat/\(bI n k t pin seed).Seed=seed:=by
 have hn:n.toNat=1\/n.toNat=2\/n.toNat=3:=by unfold yX at h;simp only[aa] at h;have:=iA h.1;omega
 obtain⟨_,h2,a⟩:=Sw h;refine⟨by unfold bI;rw[h];rfl,?_,h2,a⟩;unfold bI;rw[h];show(iQ seed n.toNat).Log=_;rw[Io hn]
end Go.VK
set_option maxRecDepth 100000
namespace Go.VK
open D
def bFb (k:Int)(b:List Int):∀z∈lG k b,0<=z/\z<=255:=λz a=>by
 obtain⟨i,hi,e⟩:=cE.1 a;unfold lG at hi e;have hl:i<b.length:=by have:=Ab k b;unfold lG at this;omega
 rw[aZb hl] at e;rw[<-e];unfold bBy;rw[IntKind.wrap_u8];omega
def aCt {k:Int}{b:List Int}(h:b.length<=34359738368):aT (lG k b):=
 ⟨by rw[Ab];exact h,co.2 λz a=>by
  have:=bFb k b z a;rw[au this.1,au this.2];rfl⟩
def bKd {n k t pin seed:Int}(h:yX n k t pin seed=true):Ah (bI n k t pin seed).aAA:=by
 have hn:n.toNat=1\/n.toNat=2\/n.toNat=3:=by unfold yX at h;simp only[aa] at h;have:=iA h.1;omega
 have a:(bI n k t pin seed).aAA=⟨aX seed n.toNat,gM seed n.toNat,[eY (bF seed 0) 0 1 (nwB n.toNat)]⟩:=by unfold bI;rw[h];exact Io hn
 rw[a];refine⟨λx c=> ?_,λs hs=> ?_⟩
 ·obtain⟨i,hi,e⟩:=cE.1 c;obtain⟨e',_,he⟩:=(aPy (seed:=seed) (n:=n.toNat) (by omega) (by omega)).box i hi;have e:(gM seed n.toNat).Boxes[i]=x:=e;rw[<-e,he];exact aCt (by have:=bHf (aB (aX seed n.toNat)) (bF seed 0);omega)
 ·have hs:s=eY (bF seed 0) 0 1 (nwB n.toNat):=by simpa using hs
  rw[hs];refine aCt ?_;have:=Ii (nwB n.toNat);omega
def bHm (l:List AI):Prop:=l.Pairwise λa b=>jY b a=true
def bKe {a b:AI}:jY a b=true↔b.Epoch<a.Epoch\/(a.Epoch=b.Epoch/\b.Version<a.Version):=by unfold jY;simp
def bCt {a b c:AI}(h:jY a b=true)(k:jY b c=true):jY a c=true:=by rw[bKe] at*;omega
structure CldOk (c:AM):Prop where
 bytes:Ah c
 inc:bHm c.History
def aP7 {c:AM}(h:CldOk c){s:AI}(hs:aT s.Data):CldOk (bM c s).1:=by
 unfold bM;cases hb:s.Epoch !=aB c.Log||((decide ((c.History.length:Int)>0)&& !jY s (c.History.getD (c.History.length-1) default))||decide ((c.History.length:Int)>=60)) with
 |true=>exact h
 |false=>
  simp only[bl] at hb;refine⟨⟨h.bytes.1,λx d=> ?_⟩,?_⟩
  ·rcases bp.1 d with d|d
   ·exact h.bytes.2 x d
   ·rw[cj.1 d];exact hs
  ·show bHm (c.History++[s]);refine List.pairwise_append.2 ⟨h.inc,fS ..,λa j b hb'=> ?_⟩
   rw[cj.1 hb'];obtain⟨i,hi,e⟩:=cE.1 j;have f:=hb.2.1;rw[au (show(c.History.length:Int)>0 by omega),cY,cN,List.getD,ab (by omega),cI] at f;by_cases hl:i=c.History.length-1
   ·subst hl;rw[<-e];exact f
   ·have:=dt.1 h.inc i (c.History.length-1) hi (by omega) (by omega);rw[e] at this;exact bCt f this
def bKf {c:AM}(h:CldOk c){log:List AD}{e:AK}(he:aY9 e):CldOk (gG c log e).1:=by
 unfold gG;cases !aU log||(!bS log c.Log|| !fQ e log) with
 |true=>exact h
 |false=>exact⟨⟨he,h.bytes.2⟩,h.inc⟩
def aT1 (p e:Int)(d:List Int)(hd:d.length<=34359738368):aT (fE p e d).1.Data:=by
 unfold fE;cases gI p==0||(!bL e||decide ((d.length:Int)>200)) with
 |true=>exact⟨by show 0<=_;omega,rfl⟩
 |false=>exact aCt hd
def aKs {e:Int}{d:List Int}(hd:d.length<=34359738368):∀(l:List Int) (i:Nat),∀x∈(fK e d i l).1,aT x.Data
 |[],i,x,a=>by simp[fK] at a
 |p::l,i,x,a=>by
  unfold fK at a;cases hb:(fE p (IntKind.i64.wrap (e+(i:Int))) d).2&&(fK e d (i+1) l).2 with
  |false=>rw[hb] at a;simp at a
  |true=>
   rw[hb,ac] at a;rcases bc.1 a with rfl|a
   ·exact aT1 _ _ _ hd
   ·exact aKs hd l (i+1) x a
def aCu (log:List AD)(k e:Int):aY9 (bC log k e).1:=by
 unfold bC;cases !aU log||(!bL k|| !(fK e (iN [aB log,k]) 0 (aC log)).2) with
 |true=>intro x a;simp at a
 |false=>exact λx a=>aKs (by have:=bHf (aB log) k;omega) _ _ x a
def bCu (d:AB):aT (bZ d).2.1.Data:=by
 have h0:aT ([]:List Int):=⟨by show 0<=_;omega,rfl⟩;unfold bZ;cases a:(kK d.Key d.Epoch (IntKind.i64.wrap (d.Version+1)) d.aAD).2 with
 |false=>exact h0
 |true=>
  show aT (kK d.Key d.Epoch (IntKind.i64.wrap (d.Version+1)) d.aAD).1.Data;unfold kK;cases bL d.Key&&(bX d.Epoch 0 1000000&&bX (IntKind.i64.wrap (d.Version+1)) 0 1000000)&&aP d.aAD with
  |false=>exact h0
  |true=>refine aCt ?_;have:=Ii d.aAD;omega
section
variable {w:AA}
def bOo (h:CldOk w.aAA)(d:Int):CldOk (Dj w d).1.aAA:=by
 unfold Dj;cases(bZ (aG w d)).2.2&&(bM w.aAA (bZ (aG w d)).2.1).2 with
 |false=>exact h
 |true=>exact aP7 h (bCu _)
def bCv (h:CldOk w.aAA)(d:Int):CldOk (dI w d).1.aAA:=by
 unfold dI;cases(aF w d 0).2==0&&(Dj (aF w d 0).1 d).2 with
 |false=>exact h
 |true=>exact bOo (by rw[(fP w d 0).2.2.2.2.2];exact h) d
def aXh (h:CldOk w.aAA)(b k p:Int)(key:List AD->Int):CldOk (fV w b k p key).1.aAA:=by
 unfold fV;dsimp only;cases(bP w.aAA.Log k p (aG w b).Store).2&&((bC (bP w.aAA.Log k p (aG w b).Store).1 (key (bP w.aAA.Log k p (aG w b).Store).1) (IntKind.i64.wrap (1000+IntKind.i64.wrap (10*((bP w.aAA.Log k p (aG w b).Store).1.length:Int))))).2&&(gG w.aAA (bP w.aAA.Log k p (aG w b).Store).1 (bC (bP w.aAA.Log k p (aG w b).Store).1 (key (bP w.aAA.Log k p (aG w b).Store).1) (IntKind.i64.wrap (1000+IntKind.i64.wrap (10*((bP w.aAA.Log k p (aG w b).Store).1.length:Int))))).1).2) with
 |false=>exact h
 |true=>exact bKf h (aCu _ _ _)
def bRu (h:CldOk w.aAA)(b:Int):CldOk (cK w b).1.aAA:=by
 unfold cK;cases xL w b with
 |false=>exact h
 |true=>
  show CldOk (wY w b).1.aAA;have h0:CldOk (aF w b 0).1.aAA:=by rw[(fP w b 0).2.2.2.2.2];exact h
  have h1:CldOk (add1 w b).1.aAA:=aXh h0 _ _ _ _;have a:CldOk (nL w b).1.aAA:=bCv (w:=aAT w b) h1 b;show CldOk (aF (appW (nL w b).1 (bH (aO w.Seed (w.Devices.length:Int)))) (w.Devices.length:Int) 0).1.aAA;rw[(fP _ _ _).2.2.2.2.2];exact a
def bRv (h:CldOk w.aAA)(c x:Int):CldOk (bE w c x).1.aAA:=by
 unfold bE;cases(aF w c 0).2==0&&(!dE w c&&(!(c==x)&&bK w x)) with
 |false=>exact h
 |true=>
  simp only[ac];unfold kR;cases(jO w c x).2&&((vI w c x).2&&(sN w c x).2) with
  |false=>exact h
  |true=>
   have h0:CldOk (jJ w c).aAA:=by unfold jJ;rw[(fP w c 0).2.2.2.2.2];exact h
   have h1:CldOk (jO w c x).1.aAA:=aXh h0 _ _ _ _;exact bOo (w:=Gz w c x) h1 c
def bOp (h:CldOk w.aAA)(d:Int)(n:ByteArray)(a:Int)(f:Bool):CldOk (lS w d n a f).1.aAA:=by
 unfold lS;cases aR w&&aK w d with
 |false=>exact h
 |true=>simp only[ac];cases(bO (aG w d) n a f).2<;>exact h
def bKg (h:CldOk w.aAA)(d j:Int)(o:AS):CldOk (dV w d j o).1.aAA:=by
 unfold dV;cases !dM w d j with
 |true=>exact h
 |false=>
  simp only[ae];cases !(gZ w j).2.2.2 with
  |true=>exact h
  |false=>simp only[ae];cases !((Ac w d j o).2.1==0)<;>exact h
def bKh (h:CldOk w.aAA)(d:Int):CldOk (gP w d).1.aAA:=by unfold gP;cases dM w d 0&& !dE w d<;>exact h
def bRw {n k t pin seed:Int}:CldOk (bI n k t pin seed).aAA:=by
 cases h:yX n k t pin seed with
 |false=>unfold bI;rw[h];exact⟨⟨λx a=>by simp[aNh] at a,λx a=>by simp[aNh] at a⟩,List.Pairwise.nil⟩
 |true=>
  have hn:n.toNat=1\/n.toNat=2\/n.toNat=3:=by unfold yX at h;simp only[aa] at h;have:=iA h.1;omega
  have c:(bI n k t pin seed).aAA=⟨aX seed n.toNat,gM seed n.toNat,[eY (bF seed 0) 0 1 (nwB n.toNat)]⟩:=by unfold bI;rw[h];exact Io hn
  exact⟨bKd h,by rw[c];exact fS ..⟩
end
end Go.VK
set_option maxRecDepth 100000
namespace Go.VK
open D
def jZ (n k:Int)(m:AP)(w:AA):AA:={w with Now:=n,Seed:=k,Mail:=m}
section
variable {n k:Int} {m:AP} {w:AA}
def bOq (h:aR w=true)(h1:bX n 0 999900=true)(h2:bL k=true)(a:dR m=true):aR (jZ n k m w)=true:=by unfold aR at h ⊢;simp only[aa] at h ⊢;obtain⟨⟨⟨⟨⟨⟨⟨q1,q2⟩,q3⟩,q4⟩,q5⟩,q6⟩,q7⟩,q8⟩:=h;exact⟨⟨⟨⟨⟨⟨⟨h1,q2⟩,q3⟩,q4⟩,a⟩,q6⟩,h2⟩,q8⟩
def aXi (h:aR (jZ n k m w)=true):bX n 0 999900=true/\bL k=true/\dR m=true:=by unfold aR at h;simp only[aa] at h;obtain⟨⟨⟨⟨⟨⟨⟨q1,q2⟩,q3⟩,q4⟩,q5⟩,q6⟩,q7⟩,q8⟩:=h;exact⟨q1,q7,q5⟩
def aCv (h:aR (jZ n k m w)=true)(h0:aR w=true)(d b:Int):aF (jZ n k m w) d b=(jZ n k m (aF w d b).1,(aF w d b).2):=by unfold aF;rw[h,h0];show(bif true&&aK w d then _ else _)=_;cases aK w d<;>rfl
def bOr (d:Int):Dj (jZ n k m w) d=(jZ n k m (Dj w d).1,(Dj w d).2):=by unfold Dj;show(bif (bZ (aG w d)).2.2&&(bM w.aAA (bZ (aG w d)).2.1).2 then _ else _)=_;cases(bZ (aG w d)).2.2&&(bM w.aAA (bZ (aG w d)).2.1).2<;>rfl
def bOs (h:aR (jZ n k m w)=true)(h0:aR w=true)(d:Int):dI (jZ n k m w) d=(jZ n k m (dI w d).1,(dI w d).2):=by unfold dI;rw[aCv h h0 d 0];show(bif (aF w d 0).2==0&&(Dj (jZ n k m (aF w d 0).1) d).2 then((Dj (jZ n k m (aF w d 0).1) d).1,true) else(jZ n k m w,false))=_;rw[bOr];cases(aF w d 0).2==0&&(Dj (aF w d 0).1 d).2<;>rfl
def bRx (b q p:Int)(key:List AD->Int):fV (jZ n k m w) b q p key=(jZ n k m (fV w b q p key).1,(fV w b q p key).2):=by unfold fV;simp only[];show(bif _ then _ else _)=_;have e:bP (jZ n k m w).aAA.Log q p (aG (jZ n k m w) b).Store=bP w.aAA.Log q p (aG w b).Store:=rfl;rw[e];generalize bP w.aAA.Log q p (aG w b).Store=l;generalize bC l.1 (key l.1) (IntKind.i64.wrap (1000+IntKind.i64.wrap (10*(l.1.length:Int))))=x;have a:gG (jZ n k m w).aAA l.1 x.1=gG w.aAA l.1 x.1:=rfl;rw[a];cases l.2&&(x.2&&(gG w.aAA l.1 x.1).2)<;>rfl
def bKi {t:Int}(h:dR m=true)(q:Int):dR (nK m q 1 t).1=true:=by
 unfold nK;cases hb: !dR m|| !dR ⟨Dx (m.Notices++[⟨q,1,t,false⟩])⟩ with
 |true=>exact h
 |false=>simp only[bl,cN] at hb;exact hb.2
def bRy (h:aR (jZ n k m w)=true)(h0:aR w=true){b t:Int}(a:(bE (jZ n k m w) b t).2=true):(bE w b t).2=true/\∃m',dR m'=true/\(bE (jZ n k m w) b t).1=jZ n k m' (bE w b t).1:=by
 have eO:jJ (jZ n k m w) b=jZ n k m (jJ w b):=by unfold jJ;rw[aCv h h0]
 have eS:(aF (jZ n k m w) b 0).2=(aF w b 0).2:=by rw[aCv h h0]
 have c:jO (jZ n k m w) b t=(jZ n k m (jO w b t).1,(jO w b t).2):=by unfold jO;rw[eO];exact bRx ..
 have eL:Mc (jZ n k m w) b t=Mc w b t:=by unfold Mc;rw[eO];rfl
 have d:vI (jZ n k m w) b t=vI w b t:=by unfold vI;rw[eO,eL];rfl
 have eW:Gz (jZ n k m w) b t=jZ n k m (Gz w b t):=by unfold Gz;rw[c,d];rfl
 have e:sN (jZ n k m w) b t=(jZ n k m (sN w b t).1,(sN w b t).2):=by unfold sN;rw[eW];exact bOr _
 obtain⟨k1,k2,k3,k4,k5,k6,k7,k8⟩:=Mk a;rw[eS] at k1;rw[c] at k5;rw[d] at k6;rw[e] at k7;have f:bE w b t=(nZ (sN w b t).1 4,true):=by unfold bE;have k2:dE w b=false:=k2;have k4:bK w t=true:=k4;rw[k1,k2,k3,k4];unfold kR;have k5:(jO w b t).2=true:=k5;have k7:(sN w b t).2=true:=k7;rw[k5,k6,k7];rfl
 refine⟨by rw[f],(nK m 4 1 n).1,bKi (aXi h).2.2 4,?_⟩;rw[k8,e,f];show nZ (jZ n k m (sN w b t).1) 4=_;rfl
end
end Go.VK
set_option maxRecDepth 100000
namespace Go.VK
open D
def kk (s:Int)(c:Nat)(e:Int):Int:=bF (aV (aV s [277,(c:Int)]) [311]) e
def Ks (s E K:Int):Prop:=K=bF s 0\/∃(c:Nat) (e:Int),c<6/\1<=e/\e<=E/\K=kk s c e
def Ks.mono {s E F K:Int}(h:Ks s E K)(d:E<=F):Ks s F K:=h.imp id λ⟨c,e,h1,h2,f,a⟩=>⟨c,e,h1,h2,by omega,a⟩
structure KyW (S:List (Int×Int)) (t:Nat) (w:AA):Prop where
 net:∃K v r b,Net S (3+3*t) w.Devices.length w K v r b/\r.length<=t/\Ks w.Seed (aB w.aAA.Log) K
 dev:∀d∈w.Devices,Ks w.Seed (aB w.aAA.Log) d.Key
section
variable {S:List (Int×Int)} {t:Nat} {w:AA}
def KyW.mono (h:KyW S t w){u:Nat}(a:t<=u):KyW S u w:=
 let ⟨K,v,r,b,n,hr,hk⟩:=h.net;⟨⟨K,v,r,b,n.mono (by omega),by omega,hk⟩,h.dev⟩
def KyW.of (h:KyW S t w){u:AA}{t':Nat}(ht:t<=t')(hn:∀K v r b,Net S (3+3*t) w.Devices.length w K v r b->Net S (3+3*t') w.Devices.length u K v r b)(hl:u.Devices.length=w.Devices.length)(a:u.Seed=w.Seed)(c:aB u.aAA.Log=aB w.aAA.Log)
  (hd:∀d∈u.Devices,(∃d'∈w.Devices,d.Key=d'.Key)\/∀K v r b,Net S (3+3*t) w.Devices.length w K v r b->d.Key=K):KyW S t' u:=by
 obtain⟨K,v,r,b,n,hr,hk⟩:=h.net;refine⟨⟨K,v,r,b,by rw[hl];exact hn K v r b n,by omega,by rw[a,c];exact hk⟩,λd hm=> ?_⟩;rw[a,c];rcases hd d hm with⟨d',h1,h2⟩|h2
 ·rw[h2];exact h.dev d' h1
 ·rw[h2 K v r b n];exact hk
def Ya {l:List AB}{i:Nat}{x:AB}{P:AB->Prop}(h:∀d∈l,P d)(a:i<l.length->P x):∀d∈l.set i x,P d:=λd hd=>by
 rcases cE.1 hd with⟨j,hj,rfl⟩;rw[en];split
 ·rename_i e;subst e;exact a (by rw[ao] at hj;exact hj)
 ·exact h _ (cf _)
def KyW.aBJ (h:KyW S t w)(d:Int):KyW S t (gP w d).1:=by
 have e:(gP w d).1.Devices=w.Devices/\(gP w d).1.Seed=w.Seed/\(gP w d).1.aAA=w.aAA:=by unfold gP;cases dM w d 0&& !dE w d<;>exact⟨rfl,rfl,rfl⟩
 exact h.of (ak _) (λK v r b n=>n.aBJ d) (by rw[e.1]) e.2.1 (by rw[e.2.2]) λx a=> .inl ⟨x,by rw[<-e.1];exact a,rfl⟩
def Yc {w:AA}{d:Int}(h:d.toNat<w.Devices.length):aG w d∈w.Devices:=by unfold aG;rw[List.getD,ab h,cI];exact cf h
def KyW.visit (h:KyW S t w)(d j:Int)(o:AS):KyW S t (dV w d j o).1:=by
 have e:∀x∈(dV w d j o).1.Devices,∃d'∈w.Devices,x.Key=d'.Key:=by
  have hs:∀x∈(aPh w d j o).Devices,∃d'∈w.Devices,x.Key=d'.Key:=Ya (P:=λx=>∃d'∈w.Devices,x.Key=d'.Key) (λx a=>⟨x,a,rfl⟩) λhl=>⟨aG w d,Yc hl,rfl⟩;rcases rT w d j o with⟨e,_⟩|⟨_,_,e,_⟩|⟨_,_,e,_,_⟩
  ·rw[e];exact λx a=>⟨x,a,rfl⟩
  ·rw[e];exact hs
  ·rw[e];exact hs
 have hc:(dV w d j o).1.aAA=w.aAA:=by rcases rT w d j o with⟨e,_⟩|⟨_,_,e,_⟩|⟨_,_,e,_,_⟩<;>rw[e]<;>rfl
 exact h.of (ak _) (λK v r b n=>n.visit d j o) (Ai w d j o).2 (Ai w d j o).1 (by rw[hc]) λx a=> .inl (e x a)
def KyW.aCH (h:KyW S t w)(e:KeyD S)(ht:t<=58)(d:Int){n:ByteArray}{a:Int}(hk:(bG n,a)∈S)(f:Bool):KyW S (t+1) (lS w d n a f).1:=by
 refine h.of (eg _) (λK v r b q=>(q.aCH e.ks (by omega) d hk f).mono (by omega)) (zJ w d n a f).2 (zJ w d n a f).1 (by rw[(Ml w d n a f).1]) λx c=> .inl ?_;unfold lS at c
 revert c
 cases aR w&&aK w d with
 |false=>exact λc=>⟨x,c,rfl⟩
 |true=>
  simp only[ac];unfold bO;cases(pO (aG w d) n a f).2 with
  |false=>exact λc=>⟨x,c,rfl⟩
  |true=>intro c;have c:x∈w.Devices.set d.toNat {aG w d with aAD:=(pO (aG w d) n a f).1}:=c;exact Ya (x:={aG w d with aAD:=(pO (aG w d) n a f).1}) (P:=λx=>∃d'∈w.Devices,x.Key=d'.Key) (λx c=>⟨x,c,rfl⟩) (λhl=>⟨aG w d,Yc hl,rfl⟩) x c
def KyW.now (h:KyW S t w){n:Int}(hn:0<=n/\n<=999900):KyW S t {w with Now:=n}:=
 h.of (ak _) (λK v r b q=>q.same ⟨q.wi.seed,hn,q.wi.dlen,q.wi.slen,q.wi.dev,q.wi.two,q.wi.mle,q.wi.site,q.wi.mail,q.wi.log⟩ rfl rfl rfl) rfl rfl rfl λx a=> .inl ⟨x,a,rfl⟩
def All.now (h:All S t w){n:Int}(hn:0<=n/\n<=999900):All S t {w with Now:=n}:=
 h.of (ak _) (λK v r b q=>q.same ⟨q.wi.seed,hn,q.wi.dlen,q.wi.slen,q.wi.dev,q.wi.two,q.wi.mle,q.wi.site,q.wi.mail,q.wi.log⟩ rfl rfl rfl) rfl (h.cut.keep rfl rfl rfl) h.hosts
def bOt {K v:Int}{r:List AI}{b:AC}{u:Nat}(n:Net S u w.Devices.length w K v r b)(d c:Int):∀x∈(aF w d c).1.Devices,x∈w.Devices\/x.Key=K:=by
 unfold aF;cases hb:aR w&&aK w d with
 |false=>exact λx a=> .inl a
 |true=>
  refine Ya (P:=λx=>x∈w.Devices\/x.Key=K) (λx a=> .inl a) λhl=> ?_;unfold bQ;cases h0:iH (aG w d) w.aAA.Log w.aAA.Boxes (eF w.aAA c).1==0 with
  |false=>exact .inl (Yc hl)
  |true=>right;show(dL (aG w d).Store w.aAA.Boxes).1=K;rw[Mj n.bx (bHi h0).2.1]
def KyW.sync (h:KyW S t w)(j:KeyD S)(ht:t<=58)(d c:Int):KyW S t (aF w d c).1:=by
 obtain⟨e,o,l,p,q,f⟩:=fP w d c;obtain⟨K,v,r,b,n,hr,hk⟩:=h.net;refine⟨⟨K,v,r,b,by rw[l];exact n.sync j.ks (by omega) d c,hr,by rw[e,f];exact hk⟩,λx a=> ?_⟩;rw[e,f];rcases bOt n d c x a with a|a
 ·exact h.dev x a
 ·rw[a];exact hk
def KyW.push (h:KyW S t w)(a:KeyD S)(ht:t<=58)(d:Int):KyW S (t+1) (dI w d).1:=by
 obtain⟨c,j,f,l,o,e⟩:=rQ w d;obtain⟨K,v,r,b,n,hr,hk⟩:=h.net;cases hl:bK w d with
 |false=>rw[n.aCB hl];exact h.mono (by omega)
 |true=>
  have hp:=n.aBT a.ks (by omega) (by omega) hl;refine⟨⟨K,v+1,r++[eY K (aB w.aAA.Log) v b],⟨bR (aG w d).aAD.Entries b.Entries⟩,?_,by simp;omega,by rw[c,e];exact hk⟩,?_⟩
  ·rw[f,n.aBC a.ks (by omega) (by omega) hl];exact hp.mono (by omega)
  ·rw[c,e,n.aBC a.ks (by omega) (by omega) hl];exact Ya (P:=λx=>Ks w.Seed (aB w.aAA.Log) x.Key) h.dev λ_=>hk
theorem KyW.add (h:KyW S t w)(l:KeyD S)(ht:t<=58)(d:Int):KyW S (t+1) (cK w d).1:=by
 obtain⟨K,v,r,b,n,hr,hk⟩:=h.net;cases c:(cK w d).2 with
 |false=>rw[aNm c];exact h.mono (by omega)
 |true=>
  obtain⟨n1,u1,u2,n2,eA,u3,o,u4⟩:=n.add l (by omega) (by omega) (Ak c);have hl:(cK w d).1.Devices.length=w.Devices.length+1:=by rw[eA];show((Hf w K v b d).Devices++[_]).length=_;rw[ay,u1];rfl
  have hs:(cK w d).1.Seed=w.Seed:=by rw[eA];exact u2
  have e:(cK w d).1.aAA.Log=qW w d:=by rw[eA];exact u3
  have j:aU (qW w d)=true:=by rw[<-u3];exact n1.wi.log
  have f:aB (cK w d).1.aAA.Log=aB w.aAA.Log:=by rw[e];exact(aCr j).2.2
  refine⟨⟨K,v+1,r++[eY K (aB w.aAA.Log) v b],aZd w K v b d,by rw[hl];exact n2.mono (by omega),by simp;omega,by rw[hs,f];exact hk⟩,λx a=> ?_⟩;rw[hs,f];rw[eA] at a;have a:x∈(Hf w K v b d).Devices++[bRl (Hf w K v b d) K (v+1) (aZd w K v b d) (Hf w K v b d).Devices.length]:=a;rcases bp.1 a with a|a
  ·rw[u4] at a;exact Ya (P:=λx=>Ks w.Seed (aB w.aAA.Log) x.Key) h.dev (λ_=>hk) x a
  ·rw[cj.1 a];exact hk
def bOu {m:Nat}{K v:Int}{r:List AI}{b:AC}{u:Nat}(n:Net S u m w K v r b){c x:Int}(hc:aK w c=true)(hl:aU (kS w c x)=true):Ph w c x=kk w.Seed c.toNat (aB w.aAA.Log+1):=by obtain⟨a,e⟩:=gY hc;unfold Ph jL kk;rw[(Xz hl).2.2,e,(n.wi.dev _ a).key];rfl
theorem KyW.cut (h:KyW S t w)(l:KeyD S)(ht:t<=58)(d x:Int):KyW S (t+1) (bE w d x).1:=by
 obtain⟨K,v,r,b,n,hr,hk⟩:=h.net;cases c:(bE w d x).2 with
 |false=>rw[aP4 c];exact h.mono (by omega)
 |true=>
  obtain⟨bx,e,n1⟩:=n.cut l (by omega) (by omega) c;have hlen:(bE w d x).1.Devices.length=w.Devices.length:=(n.wi.cut d x).2.2;obtain⟨k1,k2,k3,k4,k5,k6,k7,k8⟩:=Mk c;have hd:=jT (n.inl k1);obtain⟨d0,d1,_⟩:=qV hd;have p:=n.wi.dlen;have hs:(bE w d x).1.Seed=w.Seed:=by rw[e];rfl
  have a:(bE w d x).1.aAA.Log=kS w d x:=by rw[e];rfl
  have f:aU (kS w d x)=true:=by rw[<-a,e];exact n1.wi.log
  have j:=(Xz f).2.2;have o:=n.bx.eps;have hK:Ks w.Seed (aB w.aAA.Log+1) (Ph w d x):= .inr ⟨d.toNat,aB w.aAA.Log+1,by omega,by omega,cJ _,bOu n hd f⟩;refine⟨⟨Ph w d x,1,r++[eY K (aB w.aAA.Log) v b],(yZ w K v b d x).aAD,by rw[hlen,e];exact n1.mono (by omega),by simp;omega,by rw[hs,a,j];exact hK⟩,?_⟩;rw[hs,a,j,e];refine Ya (P:=λy=>Ks w.Seed (aB w.aAA.Log+1) y.Key) (λy q=>(h.dev y q).mono (by omega)) λ_=> ?_;have:=(n.aCY l (T:=((3+3*t:Nat):Int)) (by omega) (by omega) (n.inl k1) k4).key;show Ks w.Seed (aB w.aAA.Log+1) (yZ w K v b d x).Key;rw[this];exact hK
end
end Go.VK
set_option maxRecDepth 100000
namespace Go.VK
open D
def kkL (s:Int):List (Nat×Int):=(List.range 6).flatMap λc=>(List.range 5).map λe=>(e+1,kk s c ((e:Int)+1))
def bRz:List (Nat×Int)->List (Nat×Int)->Bool
 |_,[]=>true
 |l,p::r=>(l.all λq=>decide (q.1=p.1)|| !(q.2==p.2))&&bRz (p::l) r
def aG2 (s:Int):Bool:=bRz [(0,bF s 0)] (kkL s)
def bVz:((List.range 100).all λ(s:Nat)=>aG2 ((s:Int)+1))=true:=by kernel_rfl
def bV0:((List.range 100).all λ(s:Nat)=>aG2 ((s:Int)+101))=true:=by kernel_rfl
def bV1:((List.range 100).all λ(s:Nat)=>aG2 ((s:Int)+201))=true:=by kernel_rfl
def bV2:((List.range 100).all λ(s:Nat)=>aG2 ((s:Int)+301))=true:=by kernel_rfl
def bV3:((List.range 100).all λ(s:Nat)=>aG2 ((s:Int)+401))=true:=by kernel_rfl
def bV4:((List.range 100).all λ(s:Nat)=>aG2 ((s:Int)+501))=true:=by kernel_rfl
def bV5:((List.range 100).all λ(s:Nat)=>aG2 ((s:Int)+601))=true:=by kernel_rfl
def bV6:((List.range 100).all λ(s:Nat)=>aG2 ((s:Int)+701))=true:=by kernel_rfl
def bV7:((List.range 100).all λ(s:Nat)=>aG2 ((s:Int)+801))=true:=by kernel_rfl
def bV8:((List.range 100).all λ(s:Nat)=>aG2 ((s:Int)+901))=true:=by kernel_rfl
def bXt {s:Int}(h:1<=s/\s<=1000):aG2 s=true:=by
 have at_:∀{a:Int},((List.range 100).all λ(s:Nat)=>aG2 ((s:Int)+a))=true->a<=s->s<a+100->aG2 s=true:=λ{a} h h1 h2=>by
  have:=co.1 h (s-a).toNat (e9.2 (by omega));rwa [show(((s-a).toNat:Nat):Int)+a=s by omega] at this
 have hs:(1<=s/\s<101)\/(101<=s/\s<201)\/(201<=s/\s<301)\/(301<=s/\s<401)\/(401<=s/\s<501)\/(501<=s/\s<601)\/(601<=s/\s<701)\/(701<=s/\s<801)\/(801<=s/\s<901)\/(901<=s/\s<1001):=by omega
 rcases hs with h|h|h|h|h|h|h|h|h|h
 ·exact at_ bVz h.1 h.2
 ·exact at_ bV0 h.1 h.2
 ·exact at_ bV1 h.1 h.2
 ·exact at_ bV2 h.1 h.2
 ·exact at_ bV3 h.1 h.2
 ·exact at_ bV4 h.1 h.2
 ·exact at_ bV5 h.1 h.2
 ·exact at_ bV6 h.1 h.2
 ·exact at_ bV7 h.1 h.2
 ·exact at_ bV8 h.1 h.2
def bHn:∀{r l:List (Nat×Int)},bRz l r=true->(∀p∈r,∀q∈l,q.1≠p.1->q.2≠p.2)/\∀p∈r,∀q∈r,q.1≠p.1->q.2≠p.2
 |[],l,_=>⟨λp hp=>by simp at hp,λp hp=>by simp at hp⟩
 |x::r,l,h=>by
  simp only[bRz,aa] at h;obtain⟨h1,h2⟩:=h;obtain⟨k1,k2⟩:=bHn h2;have a:∀q∈l,q.1≠x.1->q.2≠x.2:=λq hq hn=>by
   have:=co.1 h1 q hq;rw[av hn,da,bv,ca] at this;exact this
  refine⟨λp hp q hq hn=> ?_,λp hp q hq hn=> ?_⟩
  ·rcases bc.1 hp with e|hp
   ·rw[e] at hn ⊢;exact a q hq hn
   ·exact k1 p hp q (by simp[hq]) hn
  ·rcases bc.1 hp with ep|hp<;>rcases bc.1 hq with eq|hq
   ·rw[ep,eq] at hn;exact absurd rfl hn
   ·rw[ep] at hn ⊢;exact λe=>k1 q hq x (by simp) (λh=>hn h.symm) e.symm
   ·rw[eq] at hn ⊢;exact k1 p hp x (by simp) hn
   ·exact k2 p hp q hq hn
def bOv {s:Int}{c:Nat}{e:Int}(hc:c<6)(he:1<=e/\e<=5):(e.toNat,kk s c e)∈kkL s:=by unfold kkL;refine List.mem_flatMap.2 ⟨c,e9.2 hc,ct.2 ⟨(e-1).toNat,e9.2 (by omega),?_⟩⟩;rw[show(((e-1).toNat:Nat):Int)+1=e by omega,show(e-1).toNat+1=e.toNat by omega]
def bV9 {s:Int}(h:1<=s/\s<=1000){c:Nat}(hc:c<6){E:Int}(a:0<=E/\E<=4){K:Int}(hK:Ks s E K):kk s c (E+1)≠K:=by
 obtain⟨k1,k2⟩:=bHn (bXt h);have hm:=bOv (s:=s) (e:=E+1) hc (by omega);rcases hK with rfl|⟨d,e,h1,h2,f,rfl⟩
 ·have:=k1 _ hm (0,bF s 0) (by simp) (by show(0:Nat)≠(E+1).toNat;omega);exact λe=>this e.symm
 ·exact k2 _ (bOv h1 ⟨h2,by omega⟩) _ hm (by show(E+1).toNat≠e.toNat;omega)
section
variable {S:List (Int×Int)} {t m:Nat} {w:AA} {K v:Int} {r:List AI} {b:AC}
def Net.aCK (h:Net S t m w K v r b){d:Int}(hd:aK w d=true)(hi:bK w d=false)(c:Int):(aF w d c).2=2:=by
 obtain⟨hl,e⟩:=gY hd;obtain⟨r',hr⟩:=(h.dev _ hl).pre;rw[<-e] at hr;have a:bS w.aAA.Log (aG w d).Log=true:=by rw[hr];exact Sy _ _
 have f:iW (aC w.aAA.Log) (aS (aG w d).Store)=false:=by unfold bK at hi;rw[hd,cY] at hi;exact hi
 have hb:∀s,iH (aG w d) w.aAA.Log w.aAA.Boxes s=2:=λs=>by
  unfold iH;rw[h.wi.log,a,f];rfl
 unfold aF;rw[h.wi.ok,hd];show(bQ (aG w d) w.aAA.Log w.aAA.Boxes (eF w.aAA c).1).2=2;unfold bQ;rw[hb];rfl
def All.aCN (h:All S t w){d:Int}(hd:aK w d=true):aGr w d=dW w.aAA.Log (kL w.Seed d.toNat):=by obtain⟨K,v,r,b,n,hr⟩:=h.net;obtain⟨hl,e⟩:=gY hd;unfold aGr;rw[hd,e,n.pub hl,cY]
end
section
variable {n k:Int} {m:AP} {w:AA}
def bKj (h:aR (jZ n k m w)=true)(h0:aR {w with Now:=n}=true)(d j:Int)(o:AS):(dV (jZ n k m w) d j o).2.2=(dV {w with Now:=n} d j o).2.2:=by
 unfold dV dM;rw[h,h0];show(bif !(true&&(aK w d&&lF w j)) then _ else bif !(gZ {w with Now:=n} j).2.2.2 then _ else bif !((Ac {w with Now:=n} d j o).2.1==0) then _ else _:AA×AX×Int).2.2=(bif !(true&&(aK w d&&lF w j)) then _ else bif !(gZ {w with Now:=n} j).2.2.2 then _ else bif !((Ac {w with Now:=n} d j o).2.1==0) then _ else _:AA×AX×Int).2.2;cases !(true&&(aK w d&&lF w j)) with
 |true=>rfl
 |false=>
  cases !(gZ {w with Now:=n} j).2.2.2 with
  |true=>rfl
  |false=>cases !((Ac {w with Now:=n} d j o).2.1==0)<;>rfl
end
structure Gone (w x:AA) (c t:Int):Prop where
 sync:(aF x t 0).2=2
 push:(dI x c).2=true
 again:(bE x c t).2=false
 back:(cK x t).2=false
 login:∀j o,(dV (dI x c).1 t j o).2.2≠0
 gone:bK (dI x c).1 t=false
 ok:aR (dI x c).1=true
 key:(aG x c).Key≠(aG w t).Key
 lc:aK x c=true
 lt:aK w t=true
def bR0 {S:List (Int×Int)}{i:Nat}{w:AA}(h:All S i w)(hk:KyW S i w)(D:KeyD S)(hi:i<=40)(hs:1<=w.Seed/\w.Seed<=1000)(hE:aB w.aAA.Log<=4){n k:Int}{W:AP}(hw:aR (jZ n k W w)=true){c t:Int}(Z:(bE (jZ n k W w) c t).2=true):
  Gone (jZ n k W w) (bE (jZ n k W w) c t).1 c t:=by
 obtain⟨e1,e2,e3⟩:=aXi hw;obtain⟨u,m',F,hx⟩:=bRy hw h.wi.ok Z;obtain⟨X,dX⟩:∃X,X=(bE w c t).1:=⟨_,rfl⟩;rw[<-dX] at hx;rw[hx];have hX:All S (i+1) X:=by rw[dX];exact h.aDT D (by omega) c t
 obtain⟨k1,k2,k3,k4,k5,k6,k7,k8⟩:=Mk u;obtain⟨K,v,r,b,n0,hr,hK⟩:=hk.net;have d:=n0.inl k1;have q:=jT d;have s:=jT k4;obtain⟨c0,c1,_⟩:=qV q;obtain⟨t0,t1,_⟩:=qV s;have hdl:=h.wi.dlen;obtain⟨bx,e,n1⟩:=n0.cut D (by omega) (by omega) u;have eX:X=nZ (bE8 w K v b bx c t) 4:=by rw[dX,e]
 rw[<-eX] at n1;have G:X.Devices.length=w.Devices.length:=by rw[dX];exact(h.wi.cut c t).2.2
 have H:X.Seed=w.Seed:=by rw[eX];rfl
 have f:X.aAA.Log=kS w c t:=by rw[eX];rfl
 have I:aU (kS w c t)=true:=by rw[<-f];exact n1.wi.log
 obtain⟨g1,g2,g3⟩:=Xz I;have y:aK X c=true:=He q G;have l:aK X t=true:=He s G;have J:aS (aG w t).Store=kL w.Seed t.toNat:=by obtain⟨hl,e⟩:=gY s;rw[e,n0.pub hl]
 have x:aGr X t=true:=by rw[hX.aCN l,f,g2,H,J,dq,Bool.or_true]
 obtain⟨L,_⟩:=hX.final l x;have hne:c.toNat≠t.toNat:=λe=>by
  rw[ca] at k3;omega
 have hXi:bK X c=true:=by
  rw[n1.aDG y,f,g1,H,lJ,jm];refine⟨?_,?_⟩
  ·rw[n0.aDG q,lJ] at d;exact d
  ·rw[J,bne,show(kL w.Seed c.toNat==kL w.Seed t.toNat)=false by rw[ca];exact aCl (by omega) (by omega) hne];rfl
 have okX:aR (jZ n k m' X)=true:=bOq hX.wi.ok e1 e2 F;have hp:=n1.aBC D.ks (by omega) (by simp;omega) hXi;obtain⟨Y,dY⟩:∃Y,Y=(dI X c).1:=⟨_,rfl⟩;have hY:All S (i+2) Y:=by rw[dY];exact hX.push D (by omega) c
 have M:=bOs okX hX.wi.ok c;have z:(dI (jZ n k m' X) c).1=jZ n k m' Y:=by rw[M,dY]
 have N:=rQ X c;have A:aK Y t=true:=by rw[dY];exact He l N.2.2.1
 have hYl:Y.aAA.Log=X.aAA.Log:=by rw[dY,hp];rfl
 have hYs:Y.Seed=X.Seed:=by rw[dY];exact N.1
 have O:aGr Y t=true:=by rw[hY.aCN A,hYl,hYs,<-hX.aCN l];exact x
 have hYo:=(hY.final A O).1;have okY:aR (jZ n k m' Y)=true:=bOq hY.wi.ok e1 e2 F;have hn:=iA e1;have Q:(aF (jZ n k m' X) t 0).2=2:=by rw[aCv okX hX.wi.ok];exact n1.aCK l L 0
 refine⟨Q,by rw[M,hp],?_,?_,λj o=> ?_,by rw[z];exact hYo,by rw[z];exact okY,?_,y,s⟩
 ·cases hc:(bE (jZ n k m' X) c t).2 with
  |false=>rfl
  |true=>have:=(Mk hc).2.2.2.1;have R:bK (jZ n k m' X) t=false:=L;rw[R] at this;cases this
 ·cases hc:(cK (jZ n k m' X) t).2 with
  |false=>rfl
  |true=>have:=Ak hc;unfold xL at this;rw[Q] at this;simp at this
 ·rw[z,bKj okY (hY.now hn).wi.ok];refine bOm (hY.now hn).wi (.inr λa ha cr hcr he=> ?_);have hYC:=(hY.now (n:=n) hn).cut;have p:dU {Y with Now:=n} j=default\/dU {Y with Now:=n} j∈({Y with Now:=n}:AA).Sites:=by
   unfold dU;by_cases hl:j.toNat<Y.Sites.length
   ·right;rw[List.getD,ab hl,cI];exact cf hl
   ·left;rw[List.getD,eM (by show Y.Sites.length<=_;omega)];rfl
  rcases p with p|p
  ·rw[p] at ha;exact absurd ha (by show a∉([]:List AH);simp)
  ·refine hYC _ p a ha cr hcr ?_;unfold aCs;rw[he];have:=O;rw[hY.aCN A] at this;exact this
 ·have V:(aG X c).Key=Ph w c t:=by
   obtain⟨hl,e'⟩:=gY y;have hd:aG X c={yZ w K v b c t with Version:=1}:=by rw[eX];exact bRs (by exact c1)
   rw[hd];exact(n0.aCY D (T:=((3+3*i:Nat):Int)) (by omega) (by omega) d k4).key
  show(aG X c).Key≠(aG w t).Key;rw[V,bOu n0 q I];have he0:=n0.bx.eps;exact bV9 hs (by omega) ⟨by omega,hE⟩ (hk.dev _ (Yc t1))
end Go.VK
set_option maxRecDepth 100000
namespace Go.VK
open D
def aXj (n:Int):AJ:=⟨1,n,IntKind.i64.wrap (500+n),0⟩
def aP8:List Int:=[866342416,827955894,789569372,751182850,712796328,674409806]
def bR1 {n:Int}(h:0<=n/\n<6):aS (aXj n)∈aP8:=by
 have:∀k:Nat,k<6->aP8.contains (aS (aXj (k:Int)))=true:=by
  intro k hk;have:(List.range 6).all (λk=>aP8.contains (aS (aXj (k:Int))))=true:=by kernel_rfl
  exact co.1 this k (e9.2 hk)
 have:=this n.toNat (by omega);rw[eV h.1] at this;simpa using this
def oU (l:List AD):Prop:=∀e∈l,e.Device∈aP8
def bR2:∀{l:List AD},oU l->∀p∈aC l,p∈aP8:=λ{l} h=>by
 have:∀(l:List AD) (s:List Int),(∀e∈l,e.Device∈aP8)->(∀p∈s,p∈aP8)->∀p∈l.foldl jC s,p∈aP8:=by
  intro l;induction l with
  |nil=>exact λs _ hs=>hs
  |cons e l a=>
   intro s hl hs;refine a _ (λe he=>hl e (by simp[he])) λp hp=> ?_
   unfold jC at hp;have he:=hl e (by simp)
   revert hp
   cases e.Kind==1 with
   |true=>
    cases s.contains e.Device with
    |true=>exact λhp=>hs p hp
    |false=>
     intro hp;rcases bp.1 hp with hp|hp
     ·exact hs p hp
     ·rw[cj.1 hp];exact he
   |false=>
    cases e.Kind==2 with
    |true=>exact λhp=>hs p (jm.1 hp).1
    |false=>exact λhp=>hs p hp
 exact this l [] h (λp hp=>by simp at hp)
def bR3 {l:List AD}(h:oU l){n:Int}(hn:0<=n/\n<6)(k:Int)(s:AJ):oU (bP l k (aS (aXj n)) s).1:=by
 unfold bP;cases(decide ((l.length:Int)>0)&& !aU l)|| !aU (l++[Gy l k (aS (aXj n)) s]) with
 |true=>exact h
 |false=>
  intro e he;rcases bp.1 he with he|he
  ·exact h e he
  ·rw[cj.1 he];exact bR1 hn
def bZy (s:Int):Bool:=(List.range 6).all λk=> !aP8.contains (kL s k)
def bWa:((List.range 1000).all λ(s:Nat)=>bZy ((s:Int)+1))=true:=by kernel_rfl
def bWb {s:Int}(h:1<=s/\s<=1000){k:Nat}(hk:k<6):kL s k∉aP8:=λhm=>by
 have h1:=co.1 bWa (s-1).toNat (e9.2 (by omega));rw[show(((s-1).toNat:Nat):Int)+1=s by omega] at h1;have h2:=co.1 h1 k (e9.2 hk);rw[show aP8.contains (kL s k)=true by simpa using hm] at h2;cases h2
def bOw {S:List (Int×Int)}{t m:Nat}{w:AA}{K v:Int}{r:List AI}{b:AC}(h:Net S t m w K v r b)(hs:1<=w.Seed/\w.Seed<=1000){q:AM}(hq:oU q.Log)(d c:Int):((aF {w with aAA:=q} d c).2==0)=false:=by
 unfold aF;cases hb:aR {w with aAA:=q}&&aK {w with aAA:=q} d with
 |false=>rfl
 |true=>
  rw[aa] at hb;have hd:aK w d=true:=hb.2;obtain⟨hl,e⟩:=gY hd;have a:=h.wi.dlen;show((bQ (aG w d) q.Log q.Boxes (eF q c).1).2==0)=false;unfold bQ;cases h0:iH (aG w d) q.Log q.Boxes (eF q c).1==0 with
  |false=>exact h0
  |true=>have:=bR2 hq _ (bHi h0).2.1;rw[e,h.pub hl] at this;exact absurd this (bWb hs (by omega))
def exL:List (Int×Int):=[(387010709,0),(387010709,1),(387010709,2),(387010709,3),(192960288,0),(192960288,1),(192960288,2),(192960288,3)]
def drS:List (Int×Int):=bE9++exL
def vJ:KeyD drS:=bRp (x:=exL) (by decide) (by decide)
structure DrW (i:Nat) (w:AA):Prop where
 all:All drS i w
 ky:KyW drS i w
 ep:aB w.aAA.Log<=(i:Int)
 seed:1<=w.Seed/\w.Seed<=1000
def DrW.mono {i:Nat}{w:AA}(h:DrW i w){j:Nat}(hj:i<=j):DrW j w:=⟨h.all.mono hj,h.ky.mono hj,by have:=h.ep;omega,h.seed⟩
section
variable {i:Nat} {w:AA}
def DrW.aBJ (h:DrW i w)(d:Int):DrW (i+1) (gP w d).1:=by
 have e:(gP w d).1.Seed=w.Seed/\(gP w d).1.aAA=w.aAA:=by unfold gP;cases dM w d 0&& !dE w d<;>exact⟨rfl,rfl⟩
 exact⟨(h.all.aBJ d).mono (by omega),(h.ky.aBJ d).mono (by omega),by rw[e.2];have:=h.ep;omega,by rw[e.1];exact h.seed⟩
def DrW.person (h:DrW i w)(d j:Int):DrW (i+1) (pQ w d j).1:=by
 unfold pQ;cases dM w d j&& !dE w d with
 |false=>exact h.mono (by omega)
 |true=>
  have hc:(dV w d j (Nl j)).1.aAA=w.aAA:=by rcases rT w d j (Nl j) with⟨e,_⟩|⟨_,_,e,_⟩|⟨_,_,e,_,_⟩<;>rw[e]<;>rfl
  exact⟨(h.all.visit d j _).mono (by omega),(h.ky.visit d j _).mono (by omega),by show aB (dV w d j (Nl j)).1.aAA.Log<=_;rw[hc];have:=h.ep;omega,by show 1<=(dV w d j (Nl j)).1.Seed/\(dV w d j (Nl j)).1.Seed<=1000;rw[(Ai w d j (Nl j)).1];exact h.seed⟩
def DrW.aCH (h:DrW i w)(hi:i<=50)(d:Int){n:ByteArray}{a:Int}(hk:(bG n,a)∈drS)(f:Bool):DrW (i+1) (lS w d n a f).1:=
 ⟨h.all.aCH vJ (by omega) d hk f,h.ky.aCH vJ (by omega) d hk f,by rw[(Ml w d n a f).1];have:=h.ep;omega,by rw[(zJ w d n a f).1];exact h.seed⟩
def DrW.push (h:DrW i w)(hi:i<=50)(d:Int):DrW (i+1) (dI w d).1:=by obtain⟨a,e,f,j,l,c⟩:=rQ w d;exact⟨h.all.push vJ (by omega) d,h.ky.push vJ (by omega) d,by rw[c];have:=h.ep;omega,by rw[a];exact h.seed⟩
def DrW.sync (h:DrW i w)(hi:i<=50)(d c:Int):DrW (i+1) (aF w d c).1:=by obtain⟨a,f,j,l,o,e⟩:=fP w d c;exact⟨(h.all.sync vJ (by omega) d c).mono (by omega),(h.ky.sync vJ (by omega) d c).mono (by omega),by rw[e];have:=h.ep;omega,by rw[a];exact h.seed⟩
def DrW.now (h:DrW i w){n:Int}(hn:0<=n/\n<=999900):DrW (i+1) {w with Now:=n}:=
 ⟨(h.all.now hn).mono (by omega),(h.ky.now hn).mono (by omega),by have:=h.ep;show aB w.aAA.Log<=_;omega,h.seed⟩
theorem DrW.add (h:DrW i w)(hi:i<=50)(d:Int):DrW (i+1) (cK w d).1:=by
 refine⟨h.all.add vJ (by omega) d,h.ky.add vJ (by omega) d,?_,?_⟩
 all_goals
  obtain⟨K,v,r,b,n,hr⟩:=h.all.net;have h0:=h.ep;cases a:(cK w d).2 with
  |false=>rw[aNm a];first|exact h.seed|(show aB w.aAA.Log<=_;omega)
  |true=>
   obtain⟨n1,u1,u2,n2,eA,u3,f,u4⟩:=n.add vJ (by omega) (by omega) (Ak a);have hs:(cK w d).1.Seed=w.Seed:=by rw[eA];exact u2
   have c:(cK w d).1.aAA.Log=qW w d:=by rw[eA];exact u3
   have e:aU (qW w d)=true:=by rw[<-u3];exact n1.wi.log
   first
    |(rw[hs];exact h.seed)
    |(rw[c,(aCr e).2.2];omega)
theorem DrW.cut (h:DrW i w)(hi:i<=50)(d x:Int):DrW (i+1) (bE w d x).1:=by
 refine⟨h.all.aDT vJ (by omega) d x,h.ky.cut vJ (by omega) d x,?_,?_⟩
 all_goals
  obtain⟨K,v,r,b,n,hr⟩:=h.all.net;have h0:=h.ep;cases c:(bE w d x).2 with
  |false=>rw[aP4 c];first|exact h.seed|(show aB w.aAA.Log<=_;omega)
  |true=>
   obtain⟨bx,e,n1⟩:=n.cut vJ (by omega) (by omega) c;have hs:(bE w d x).1.Seed=w.Seed:=by rw[e];rfl
   have a:(bE w d x).1.aAA.Log=kS w d x:=by rw[e];rfl
   have f:aU (kS w d x)=true:=by rw[<-a,e];exact n1.wi.log
   first
    |(rw[hs];exact h.seed)
    |(rw[a,(Xz f).2.2];omega)
def bWc {n k t pin seed:Int}(h:yX n k t pin seed=true){j:Nat}(hj:j<(bI n k t pin seed).Devices.length):(bI n k t pin seed).Devices[j].Epoch=0:=by
 have hn:n.toNat=1\/n.toNat=2\/n.toNat=3:=by unfold yX at h;simp only[aa] at h;have:=iA h.1;omega
 have a:(bI n k t pin seed).Devices=(List.range n.toNat).map λk=>Im seed n.toNat k 1 (nwB n.toNat):=by unfold bI;rw[h];exact aKq hn
 have e:(bI n k t pin seed).Devices[j]=((List.range n.toNat).map λk=>Im seed n.toNat k 1 (nwB n.toNat))[j]'(by rw[<-a];exact hj):=by simp only[a]
 rw[e,gz];rfl
def DrW.new {n k t pin seed:Int}(h:yX n k t pin seed=true)(hs:1<=seed/\seed<=1000):DrW 0 (bI n k t pin seed):=by
 obtain⟨o,l,p,e⟩:=bKc h;have hn:n.toNat<=6:=by unfold yX at h;simp only[aa] at h;have:=iA h.1;omega
 have c:aB (bI n k t pin seed).aAA.Log=0:=by rw[l];exact(pR seed n.toNat hn).ep
 have a:=bHl (x:=exL) h;refine⟨bRr h,⟨⟨_,_,_,_,a,ak _, .inl (by rw[e])⟩,λd hd=> ?_⟩,by rw[c];exact cJ _,by rw[e];exact hs⟩;obtain⟨j,hj,rfl⟩:=cE.1 hd;have f:(bI n k t pin seed).Devices[j].Epoch=aB (bI n k t pin seed).aAA.Log:=by have:=(a.dev j hj).at_;rw[c] at this ⊢;have h0:=bWc h hj;exact h0
 rw[(a.dev j hj).key f];exact .inl (by rw[e])
end
def aZf (w v:AA):Prop:=(∃n k m,v=jZ n k m w)\/aR v=false\/∃q,v={w with aAA:=q}/\oU q.Log
end Go.VK
set_option maxRecDepth 100000
namespace Go.VK
open D
def bS4 {s:ByteArray}{a:Int}(hs:s∈[ByteArray.mk #[UInt8.ofNat 98,UInt8.ofNat 97,UInt8.ofNat 110,UInt8.ofNat 107,UInt8.ofNat 46,UInt8.ofNat 99,UInt8.ofNat 111,UInt8.ofNat 109],ByteArray.mk #[UInt8.ofNat 97,UInt8.ofNat 46,UInt8.ofNat 110,UInt8.ofNat 101,UInt8.ofNat 116],ByteArray.mk #[UInt8.ofNat 98,UInt8.ofNat 46,UInt8.ofNat 110,UInt8.ofNat 101,UInt8.ofNat 116]])(d:0<=a/\a<4):(bG s,a)∈drS/\s.size<=100:=by
 obtain⟨k,rfl,hk⟩:∃k:Nat,a=(k:Int)/\k<4:=⟨a.toNat,by omega,by omega⟩;simp only[bc,dx,or_false] at hs;have c:∀k:Nat,k<4->((1941999745:Int),(k:Int))∈drS/\((387010709:Int),(k:Int))∈drS/\((192960288:Int),(k:Int))∈drS:=by decide
 obtain⟨q1,q2,q3⟩:=c k hk;rcases hs with rfl|rfl|rfl
 ·exact⟨by rw[show bG (ByteArray.mk #[UInt8.ofNat 98,UInt8.ofNat 97,UInt8.ofNat 110,UInt8.ofNat 107,UInt8.ofNat 46,UInt8.ofNat 99,UInt8.ofNat 111,UInt8.ofNat 109])=1941999745 by kernel_rfl];exact q1,by decide⟩
 ·exact⟨by rw[show bG (ByteArray.mk #[UInt8.ofNat 97,UInt8.ofNat 46,UInt8.ofNat 110,UInt8.ofNat 101,UInt8.ofNat 116])=387010709 by kernel_rfl];exact q2,by decide⟩
 ·exact⟨by rw[show bG (ByteArray.mk #[UInt8.ofNat 98,UInt8.ofNat 46,UInt8.ofNat 110,UInt8.ofNat 101,UInt8.ofNat 116])=192960288 by kernel_rfl];exact q3,by decide⟩
def bHo {w:AA}(h:w.Stolen.length≠w.Devices.length):aR w=false:=by unfold aR;rw[show((w.Stolen.length:Int)==(w.Devices.length:Int))=false by rw[ca];omega];simp
def bR4 {w:AA}(h:w.Sites.length≠2):aR w=false:=by unfold aR;rw[show((w.Sites.length:Int)==2)=false by rw[ca];omega];simp
def bR5 {l:List AD}(h:oU l){b:AK}:oU (dF l b).1.Log:=by
 unfold dF;cases aU l&&fQ b l with
 |true=>exact h
 |false=>exact λe he=>absurd he dx
def bWd {q:AM}(h:oU q.Log){s:AI}:oU (bM q s).1.Log:=by unfold bM;cases s.Epoch !=aB q.Log||((decide ((q.History.length:Int)>0)&& !jY s (q.History.getD (q.History.length-1) default))||decide ((q.History.length:Int)>=60))<;>exact h
def bR6 {w0 w:AA}(h:DrW 4 w0)(e:aZf w0 w){c t:Int}(a:(bE w c t).2=true):Gone w (bE w c t).1 c t:=by
 obtain⟨k1,k2,k3,k4,k5,k6,k7,k8⟩:=Mk a;have d:aR w=true:=by
  unfold aF at k1;cases hb:aR w&&aK w c with
  |false=>rw[hb] at k1;cases k1
  |true=>rw[aa] at hb;exact hb.1
 rcases e with⟨n,k,m,rfl⟩|hb|⟨q,rfl,hq⟩
 ·exact bR0 h.all h.ky vJ (by omega) h.seed h.ep d a
 ·rw[hb] at d;cases d
 ·obtain⟨K,v,r,b,n,hr⟩:=h.all.net;rw[bOw n h.seed hq c 0] at k1;cases k1
end Go.VK
