import Derived.Test.YtfllllgehgablaaGreatDoorXsPw
import Derived.Test.YtfllllgehgablaaGreatDoorXsM
/- Printed by wip/tools: models, walks, proofs. -/
set_option linter.all false
set_option maxRecDepth 100000
set_option maxHeartbeats 4000000
namespace Go.VK
open Go.RowKit Go.Proofs
noncomputable section
open EV (bU)
def Oq {σ τ:Type}{F:(σ->Option τ)->σ->Option τ}(S:Nat->σ)(N:Nat){r:τ}(hN:N<=1000000)(hF:∀rec i,i<N->F rec (S i)=rec (S (i+1)))(hE:∀rec,F rec (S N)=some r){s:σ}(hs:s=S 0):EV.bU FUEL F s=some r:=by
 subst hs
 have go:∀(k i n:Nat),i+k=N->k<n->EV.bU n F (S i)=some r:=by
  intro k
  induction k with
  |zero=>
   intro i n h hn
   obtain⟨m,rfl⟩:∃m,n=m+1:=⟨n-1,by omega⟩
   rw[gX,show i=N by omega];exact hE _
  |succ k ih=>
   intro i n h hn
   obtain⟨m,rfl⟩:∃m,n=m+1:=⟨n-1,by omega⟩
   rw[gX,hF _ i (by omega)];exact ih (i+1) m (by omega) (by omega)
 exact go N 0 FUEL (by omega) (by have:=fO;omega)
def aVp {m:Int}{F:(Int×Int×Int->Option Int)->Int×Int×Int->Option Int}(hF:∀rec (b n s:Int),0<=n->n<9223372036854775807->F rec (b,n,s)=bif decide (n>0) then rec ((IntKind.i64.wrap (b*b)).tmod m,n/2,bif n%2==1 then(IntKind.i64.wrap (s*b)).tmod m else s) else some s):
  ∀(k:Nat) (b n s:Int) (f:Nat),k<f->0<=n->n<2^k->k<=62->bU f F (b,n,s)=some (aXb m k b n s)
 |0,b,n,s,f+1,hf,h0,h1,hk=>by
  have:n=0:=by simp at h1;omega
  subst this;rw[gX,hF _ _ _ _ (by omega) (by omega)];rfl
 |k+1,b,n,s,f+1,hf,h0,h1,hk=>by
  have h2:(2:Int)^(k+1)=2*2^k:=by rw[e8];omega
  have h3:n<2^62:=Int.lt_of_lt_of_le h1 (by exact_mod_cast hH (by omega) hk)
  rw[gX,hF _ _ _ _ h0 (by omega)]
  unfold aXb
  by_cases hn:n>0
  ·rw[ao hn,ae,cH hn]
   exact aVp hF k _ (n/2) _ f (by omega) (by omega) (by omega) (by omega)
  ·rw[au hn,ab,cX hn]
def bN6:((2039:Int)≠0)=True:=by simp
def P8 (b n:Int)(h:0<=n/\n<2048):pM b n=some (aXb 2039 11 b n 1):=by
 unfold pM
 rw[aVp (m:=2039) (λrec b n s h0 h1=>by simp only[show mF .i64 n 1=n%2 from and_one h0 (by omega),show Bf .i64 n 1=n/2 from aZc h0,bN6,gd_T,lF,bd_s,aB (show(0:Int)<=1 by decide)]) 11 b n 1 FUEL (by have:=fO;omega) h.1 (by have:=h.2;omega) (by omega)];rfl
def Jl (x:Int):qJ x=some (aIl x):=by
 unfold qJ aIl
 rw[P8 _ _ (by decide)]
 cases bI x 1 2038<;>rfl
def aFj (g n:Int):Hy g n=some (wM g n):=by
 unfold Hy wM
 have hr:=vV (p:=n) (q:=1019) (by decide)
 rw[P8 _ _ ⟨hr.1,by omega⟩]
 cases aIl g<;>rfl
def Xj (a b:Int):xG a b=some (I5 a b):=by
 unfold xG
 rw[aB (by simp),bd_s,aB (by decide),aB (by decide)];rfl
def Rt (a b c:Int):Qx a b c=some (Qm a b c):=rfl
def aB9 (a b:Int):Df a b=some (zC a b):=by
 unfold Df zC
 rw[aB (by simp),bd_s]
 have h:=(kF a [157,b]).1
 generalize bJ a [157,b]=n at h ⊢
 unfold aRf iI
 by_cases h1:n>1
 ·rw[ao h1,show(n==0)=false by simp;omega];rfl
 ·rw[au h1]
  by_cases h2:n=0
  ·subst h2;rfl
  ·have:n=1:=by omega
   subst this;rfl
def P9 (a b:Int):zR a b=some (I6 a b):=by
 unfold zR
 rw[aB (by simp)];rfl
def aKh (a b:Int):Ni a b=some (aPt a b):=by
 unfold Ni aPt
 rw[aB (by simp)]
 cases bI a 0 2147483647<;>rfl
def aCa (k:D.aAV):aBa k=some (I7 k):=rfl
def aX3 {c n:Int}{l:List Int}(hn:1<=n/\n<=7)(hl:l.length<=34359738368){F:(List D.aAS×Int->Option (List D.aAS))->List D.aAS×Int->Option (List D.aAS)}(hF:∀rec (s:List D.aAS) (i:Int),1<=i->i<=8->s.length<=8->F rec (s,i)=bif decide (i<=n) then rec (s++[⟨i,Uc c l i⟩],i+1) else some s):EV.bU FUEL F ([],1)=some ((List.range n.toNat).map λ(i:Nat)=>(⟨(i:Int)+1,Uc c l ((i:Int)+1)⟩:D.aAS)):=
 Oq (λi=>((List.range i).map λ(i:Nat)=>(⟨(i:Int)+1,Uc c l ((i:Int)+1)⟩:D.aAS),(i:Int)+1)) n.toNat (by omega) (λrec i hi=>by
  rw[hF rec _ _ (by omega) (by omega) (by simp;omega),ao (by omega),ae,gO,cT];rfl) (λrec=>by
  rw[hF rec _ _ (by omega) (by omega) (by simp;omega),au (by omega),ab]) rfl
def Xk (c:Int)(l:List Int)(n:Int)(h:l.length<=34359738368):xE c l n=some (wN c l n):=by
 unfold xE wN
 cases h1:bI n 1 7 with
 |false=>rfl
 |true=>
  have hn:=jS h1
  rw[aX3 (c:=c) hn h (λrec s i h0 h1 h2=>by
   simp only[aB (show(0:Int)<=i/\i<=1000/\l.length<=34359738368 from⟨by omega,by omega,h⟩),bd_s,aB (show aW s [D.aAS.mk i (Uc c l i)] by unfold aW;simp;omega),aI (show-9223372036854775808<=i+1 by omega) (show i+1<=9223372036854775807 by omega)])]
  by_cases h2:(l.length:Int)<n
  ·rw[ao h2,au (show ¬(l.length:Int)>=n by omega)];rfl
  ·rw[au h2,ao (show(l.length:Int)>=n by omega)];rfl
def aCb (pin salt key sec:Int)(cs:List Int)(n lim:Int)(h:cs.length<=34359738368):Dh pin salt key sec cs n lim=some (Gf pin salt key sec cs n lim):=by
 unfold Dh Gf aRr
 simp only[aB h,bd_s]
 have hl:=aPw sec cs n
 generalize wN sec cs n=l at hl ⊢
 cases bI pin 0 9999 with
 |false=>rfl
 |true=>
 cases bI salt 0 1000000 with
 |false=>rfl
 |true=>
 cases bG key with
 |false=>rfl
 |true=>
 cases gK sec 1019==0 with
 |true=>rfl
 |false=>
 cases bI lim 1 10 with
 |false=>rfl
 |true=>
 rw[bPn (l:=l) (λs=>I7 ⟨s,0,0,lim⟩) (by omega) (λrec i s hi hs=>by
  have ha:∀x:D.aAG,aW s [x]:=λx=>by unfold aW;simp;omega
  simp only[dL hi,ae,aM hi,bd_s,aB (ha _)];rfl) (λrec s=>by simp only[dP,ab])]
 cases l with
 |nil=>rfl
 |cons x l=>
  have e:(((x::l).length:Int)==0)=false:=by simp;omega
  have e2:((x::l).length==0)=false:=by simp
  rw[e,e2];rfl
def aFk (l:List D.aAC)(b:D.aAE)(h:l.length<=34359738368/\b.sz<=34359738368):Hm l b=some (dF l b):=by
 unfold Hm dF
 have hb:b.Boxes.length<=34359738368:=by have:=h.2;simp only[D.aAE.sz] at this;omega
 simp only[aB h.1,aB h.2,aB (show b.Boxes.length<=34359738368/\l.length<=34359738368 from⟨hb,h.1⟩),bd_s]
 cases bC l<;>cases gF b l<;>rfl
def aVq (s:D.Site)(id m:Int):(nG s id m).sz=s.sz+1:=by
 have e:(s.Accounts.map D.aAH.sz).sum=((s.Accounts.take (pI id s.Accounts)).map D.aAH.sz).sum+((s.Accounts.drop (pI id s.Accounts)).map D.aAH.sz).sum:=by rw[<-eN,<-cT,cF]
 have el:(s.Accounts.take (pI id s.Accounts)).length+(s.Accounts.drop (pI id s.Accounts)).length=s.Accounts.length:=by rw[<-aw,cF]
 simp only[nG,D.Site.sz,aw,cT,eN,av,bo,bm,ex,df,fy,D.aAH.sz] at e el ⊢
 omega
def bCs {l:List D.aAH}{id:Int}{F:(Int->Option Int)->Int->Option Int}(hl:l.length<=34359738368)(hF:∀rec (i:Nat) (hi:i<l.length),F rec (i:Int)=bif decide (l[i].Id<id) then rec ((i+1:Nat):Int) else some (i:Int))(hE:∀rec,F rec (l.length:Int)=some (l.length:Int)):EV.bU FUEL F 0=some (pI id l:Int):=
 aPp (λa:D.aAH=>decide (a.Id<id)) (λi=>some (i:Int)) (λi=>(i:Int)) hl hF hE
def bGj (id:Int)(l:List D.aAH):pI id l<=l.length:=Lt
def Xl (s:D.Site)(id m:Int)(h:s.sz<=34359738300):wW s id m=some (kQ s id m):=by
 unfold wW kQ
 have hl:s.Accounts.length<=s.sz:=by simp only[D.Site.sz];omega
 have hk:=bGj id s.Accounts
 have ha:∀(x y:List D.aAH),x.length+y.length<=34359738400->aW x y:=λx y h=>by unfold aW;omega
 have hs:s.sz<=34359738368:=by omega
 have h1:=aVq s id m
 rw[aB hs,bd_s,bCs (id:=id) (l:=s.Accounts) (by omega) (λrec i hi=>by simp only[dL hi,ae,aM hi,bd_s,aI (show-9223372036854775808<=(i:Int)+1 by omega) (show(i:Int)+1<=9223372036854775807 by omega)];rfl) (λrec=>by simp only[dP,ab,bd_s]),bd_s]
 have hh:jH s.Accounts (pI id s.Accounts:Int):=⟨by omega,by omega⟩
 have he:(List.take (pI id s.Accounts) s.Accounts).length+(List.drop (pI id s.Accounts) s.Accounts).length=s.Accounts.length:=by rw[<-aw,cF]
 have ht:(List.take (pI id s.Accounts) s.Accounts).length<=s.Accounts.length:=by omega
 have hd:(List.drop (pI id s.Accounts) s.Accounts).length<=s.Accounts.length:=by omega
 rw[cm,aB hh,aB hh,aB (ha _ _ (by simp only[bo];omega)),aB (ha _ _ (by simp only[bn,av,bo];omega)),aB (ha _ _ (by simp only[bn,aw,av,bo];omega)),aB hs,bd_s,bn]
 rw[show(D.Site.mk s.Name (List.take (pI id s.Accounts) s.Accounts++[D.aAH.mk id m []]++List.drop (pI id s.Accounts) s.Accounts) s.Book s.Logins)=nG s id m from rfl,aB (show(nG s id m).sz<=34359738368 by omega)]
 cases dE s<;>cases dE (nG s id m)<;>rfl
def bI7 {α:Type}{x y:List α}(h:x.length<=1000)(h':y.length<=1000):aW x y:=by unfold aW;omega
def Ot (seed:Int)(n:Nat):(dB seed n).length=n:=by simp[dB]
def Q0 (seed:Int)(n:Nat):dB seed (n+1)=dB seed n++[bM (aL seed (n:Int))]:=by simp[dB,gO]
def bCt (seed:Int)(n:Nat):bA (dB seed (n+1)) 0=some (bM (aL seed 0)):=by
 rw[show(0:Int)=((0:Nat):Int) from rfl,aM (by rw[Ot];omega)]
 simp[dB]
def aSa (seed:Int)(n:Nat)(h:1<=n):dB seed n=bM (aL seed 0)::(dB seed n).drop 1:=by
 obtain⟨m,rfl⟩:∃m,n=m+1:=⟨n-1,by omega⟩
 simp[dB,List.range_succ_eq_map]
abbrev sT (s:D.Site):ByteArray×List D.aAH×Int×Int×List D.aAM×List Int:=(s.Name,s.Accounts,s.Book.Seed,s.Book.Next,s.Book.Open,s.Logins)
def Q3 (nm:ByteArray):∀(l:List D.Device) (k:Nat) (d:D.Device) (s:D.Site),rX nm k (l++[d]) s=(eG (rX nm k l s) 1 ((k+l.length:Nat):Int) (dM d.Store nm ((k+l.length:Nat):Int))).1
 |[],k,d,s=>rfl
 |x::l,k,d,s=>by
  rw[cA]
  show rX nm (k+1) (l++[d]) _=_
  rw[Q3 nm l (k+1) d,av,show k+1+l.length=k+(l.length+1) by omega];rfl
def bCu {nm:ByteArray}{l:List D.Device}{s0:D.Site}(hl:l.length<=3)(hs:s0.sz<=1000){F:(Nat×ByteArray×List D.aAH×Int×Int×List D.aAM×List Int->Option (ByteArray×List D.aAH×Int×Int×List D.aAM×List Int))->Nat×ByteArray×List D.aAH×Int×Int×List D.aAM×List Int->Option (ByteArray×List D.aAH×Int×Int×List D.aAM×List Int)}
  (hF:∀rec (i:Nat) (hi:i<l.length) (s:D.Site),s.sz<=2000->F rec (i,sT s)=rec (i+1,sT (eG s 1 (i:Int) (dM l[i].Store nm (i:Int))).1)) (hE:∀rec s,F rec (l.length,sT s)=some (sT s)):EV.bU FUEL F (0,sT s0)=some (sT (rX nm 0 l s0)):=
 Oq (λi=>(i,sT (rX nm 0 (l.take i) s0))) l.length (by omega) (λrec i hi=>by
  have h1:=Vt nm 0 (l.take i) s0
  have h2:(l.take i).length=i:=by rw[bz];omega
  rw[hF rec i hi _ (by omega),ir hi,Q3,h2,ca]) (λrec=>by rw[hE,dy (aj _)]) rfl
def aVr {α:Type}{p r:List α}{s:α}:bA (p++s::r) ((p.length:Nat):Int)=some s:=by
 rw[aM (by simp)];simp
def bGk {α ι:Type}(e:Nat->ι){p0 l:List α}(f:α->α){F:(ι×List α->Option (List α))->ι×List α->Option (List α)}(hl:l.length<=1000)
  (hF:∀rec (p:List α) (d:α) (r:List α),p.length+1+r.length=p0.length+l.length->d∈l->F rec (e p.length,p++d::r)=rec (e (p.length+1),p++f d::r)) (hE:∀rec (p:List α),p.length=p0.length+l.length->F rec (e (p0.length+l.length),p)=some p):EV.bU FUEL F (e p0.length,p0++l)=some (p0++l.map f):=
 Oq (λi=>(e (p0.length+i),p0++(l.take i).map f++l.drop i)) l.length (by omega) (λrec i hi=>by
  have h2:(p0++(l.take i).map f).length=p0.length+i:=by rw[aw,bl,bz];omega
  have h3:(l.drop (i+1)).length=l.length-(i+1):=ck
  have h4:l.drop i=l[i]::l.drop (i+1):=co hi
  have:=hF rec (p0++(l.take i).map f) l[i] (l.drop (i+1)) (by omega) (cN hi)
  rw[h2,<-h4] at this
  show F rec (e (p0.length+i),p0++(l.take i).map f++l.drop i)=_
  rw[this,ir hi,cT,List.map_singleton]
  simp only[ce,fb,ga]) (λrec=>by
  rw[dy (aj _),List.drop_of_length_le (aj _),cW]
  exact hE rec _ (by rw[aw,bl])) (by simp)
def aKi (n:Nat)(d:D.Device):Nat->D.Device
 |0=>d
 |j+1=>Cm (aA (j:Int)) n (aKi n d j)
def aEe (j:Int):(aA j).size<=100:=by unfold aA;cases j==0<;>cases j==1<;>decide
def bCv {nm:ByteArray}{n:Nat}{d:D.Device}{r:List D.Device}(hn:n<=3)(hd:d.sz<=100){F:(Nat×List D.Device->Option (List D.Device))->Nat×List D.Device->Option (List D.Device)}
  (hF:∀rec (i:Nat) (x:D.Device),i<n->x.sz<=1000->F rec (i,x::r)=rec (i+1,(cO x nm (i:Int) false).1::r)) (hE:∀rec x,F rec (n,x::r)=some (x::r)):EV.bU FUEL F (0,d::r)=some (Cm nm n d::r):=
 Oq (λi=>(i,Cm nm i d::r)) n (by omega) (λrec i hi=>by
  have h1:=I8 nm i d
  rw[hF rec i _ hi (by omega)];rfl) (λrec=>hE rec _) rfl
def bCw {n:Nat}{d:D.Device}{r:List D.Device}{F:(Nat×List D.Device->Option (List D.Device))->Nat×List D.Device->Option (List D.Device)}(hn:n<=3)(hd:d.sz<=10)
  (hF:∀rec (j:Nat) (x:D.Device),j<2->x.sz<=100->F rec (j,x::r)=rec (j+1,Cm (aA (j:Int)) n x::r)) (hE:∀rec x,F rec (2,x::r)=some (x::r)):EV.bU FUEL F (0,d::r)=some (aKi n d 2::r):=
 Oq (λj=>(j,aKi n d j::r)) 2 (by omega) (λrec j hj=>by
  have h1:∀j:Nat,(aKi n d j).sz<=d.sz+j*n:=by
   intro j
   induction j with
   |zero=>exact db _ _
   |succ j ih=>have:=I8 (aA (j:Int)) n (aKi n d j);show(Cm (aA (j:Int)) n (aKi n d j)).sz<=_;rw[dr];omega
  have h2:=h1 j
  have h3:j*n<=2*3:=ia (by omega) hn
  rw[hF rec j _ hj (by omega)];rfl) (λrec=>hE rec _) rfl
def aX4 {seed t:Int}(ht:1<=t/\t<=7){F:(List Int×Int->Option (List Int))->List Int×Int->Option (List Int)}(hF:∀rec (s:List Int) (i:Int),1<=i->i<=8->s.length<=8->F rec (s,i)=bif decide (i<t) then rec (s++[aT seed [307,i]],i+1) else some s):EV.bU FUEL F ([],1)=some (aIm seed t):=
 Oq (λi=>((List.range i).map λ(k:Nat)=>aT seed [307,(k:Int)+1],(i:Int)+1)) (t-1).toNat (by omega) (λrec i hi=>by
  rw[hF rec _ _ (by omega) (by omega) (by simp;omega),ao (by omega),ae,gO,cT];rfl) (λrec=>by
  rw[hF rec _ _ (by omega) (by omega) (by simp;omega),au (by omega),ab];rfl) rfl
def aZ6 (s:D.Site):D.Site.mk s.Name s.Accounts (D.aAD.mk s.Book.Seed s.Book.Next s.Book.Open) s.Logins=s:=rfl
def bMq (s:D.aAI):D.Device.mk s [] (0:Int) (0:Int) (0:Int) (D.aAF.mk [])=bM s:=rfl
def bN7 (seed:Int)(i:Nat):D.aAI.mk (1:Int) (i:Int) (aT seed [277,(i:Int)]) (0:Int)=aL seed (i:Int):=rfl
end
end Go.VK
