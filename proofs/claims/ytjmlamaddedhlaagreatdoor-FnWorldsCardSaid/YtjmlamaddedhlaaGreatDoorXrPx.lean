import Derived.Test.YtjmlamaddedhlaaGreatDoorXrPw
import Derived.Test.YtjmlamaddedhlaaGreatDoorXrM
/- Printed by wip/tools: models, walks, proofs. -/
set_option linter.all false
set_option maxRecDepth 100000
set_option maxHeartbeats 4000000
namespace Go.VK
open Go.RowKit Go.Proofs
noncomputable section
open EV (bO)
def vC {σ τ:Type}{F:(σ->Option τ)->σ->Option τ}(S:Nat->σ)(N:Nat){r:τ}(hN:N<=1000000)(hF:∀rec i,i<N->F rec (S i)=rec (S (i+1)))(hE:∀rec,F rec (S N)=some r){s:σ}(hs:s=S 0):EV.bO FUEL F s=some r:=by
 subst hs
 have go:∀(k i n:Nat),i+k=N->k<n->EV.bO n F (S i)=some r:=by
  intro k
  induction k with
  |zero=>
   intro i n h hn
   obtain⟨m,rfl⟩:∃m,n=m+1:=⟨n-1,by omega⟩
   rw[iT,show i=N by omega];exact hE _
  |succ k ih=>
   intro i n h hn
   obtain⟨m,rfl⟩:∃m,n=m+1:=⟨n-1,by omega⟩
   rw[iT,hF _ i (by omega)];exact ih (i+1) m (by omega) (by omega)
 exact go N 0 FUEL (by omega) (by have:=fP;omega)
def aIn {m:Int}{F:(Int×Int×Int->Option Int)->Int×Int×Int->Option Int}(hF:∀rec (b n s:Int),0<=n->n<9223372036854775807->F rec (b,n,s)=bif decide (n>0) then rec ((IntKind.i64.wrap (b*b)).tmod m,n/2,bif n%2==1 then(IntKind.i64.wrap (s*b)).tmod m else s) else some s):
  ∀(k:Nat) (b n s:Int) (f:Nat),k<f->0<=n->n<2^k->k<=62->bO f F (b,n,s)=some (aRp m k b n s)
 |0,b,n,s,f+1,hf,h0,h1,hk=>by
  have:n=0:=by simp at h1;omega
  subst this;rw[iT,hF _ _ _ _ (by omega) (by omega)];rfl
 |k+1,b,n,s,f+1,hf,h0,h1,hk=>by
  have h2:(2:Int)^(k+1)=2*2^k:=by rw[eM];omega
  have h3:n<2^62:=Int.lt_of_lt_of_le h1 (by exact_mod_cast gz (by omega) hk)
  rw[iT,hF _ _ _ _ h0 (by omega)]
  unfold aRp
  by_cases hn:n>0
  ·rw[ap hn,ae,cr hn]
   exact aIn hF k _ (n/2) _ f (by omega) (by omega) (by omega) (by omega)
  ·rw[aq hn,ac,cJ hn]
def bB5:((2039:Int)≠0)=True:=by simp
def o8 (b n:Int)(h:0<=n/\n<2048):mZ b n=some (aRp 2039 11 b n 1):=by
 unfold mZ
 rw[aIn (m:=2039) (λrec b n s h0 h1=>by simp only[show kR .i64 n 1=n%2 from and_one h0 (by omega),show yB .i64 n 1=n/2 from aVl h0,bB5,gd_T,iK,bd_s,aA (show(0:Int)<=1 by decide)]) 11 b n 1 FUEL (by have:=fP;omega) h.1 (by have:=h.2;omega) (by omega)];rfl
def Qi (b n:Int)(h:0<=n/\n<2048)(hb:0<=b/\b<2039):iD b n 2039=some (aRp 2039 11 b n 1):=by
 unfold iD
 rw[show b.tmod 2039=b by rw[cb hb.1];omega,show(1:Int).tmod 2039=1 by decide,aIn (m:=2039) (λrec b n s h0 h1=>by
  have h4:((2:Int)≠0)=True:=by simp
  simp only[show n.tmod 2=n%2 from cb h0,show n.tdiv 2=n/2 from gh h0,show IntKind.i64.wrap (n/2)=n/2 from aH (by omega) (by omega),bB5,h4,gd_T,iK,bd_s]) 11 b n 1 FUEL (by have:=fP;omega) h.1 (by have:=h.2;omega) (by omega)]
 simp only[bB5,gd_T,bd_s]
def Fp (x:Int):nW x=some (Ie x):=by
 unfold nW Ie
 rw[o8 _ _ (by decide)]
 cases bE x 1 2038<;>rfl
def Fq (x:Int):nR x=some (Ie x):=by
 unfold nR Ie
 cases h:bE x 1 2038 with
 |false=>rfl
 |true=>
  have:=gX h
  rw[Qi _ _ (by decide) ⟨by omega,by omega⟩];rfl
def aDv (g n:Int):Ei g n=some (lD g n):=by
 unfold Ei lD
 have hr:=lN (p:=n) (q:=1019) (by decide)
 rw[o8 _ _ ⟨hr.1,by omega⟩]
 cases Ie g<;>rfl
def aDw (g n:Int):Dw g n=some (lD g n):=by
 unfold Dw lD
 have hr:=lN (p:=n) (q:=1019) (by decide)
 cases h:Ie g with
 |false=>rfl
 |true=>
  have h':=h
  unfold Ie at h'
  rw[aa] at h'
  have:=gX h'.1
  rw[Qi _ _ ⟨hr.1,by omega⟩ ⟨by omega,by omega⟩];rfl
def Tq (a b:Int):uV a b=some (vY a b):=by
 unfold uV
 rw[aA (by simp),bd_s,aA (by decide),aA (by decide)];rfl
def Tt (a b:Int):uG a b=some (vY a b):=by
 unfold uG
 rw[aA (by simp),bd_s,aA (by decide),aA (by decide)];rfl
def Ng (a b c:Int):Mh a b c=some (pF a b c):=rfl
def Nh (a b c:Int):Me a b c=some (pF a b c):=rfl
def Z8 (a b:Int):Ai a b=some (lM a b):=by
 unfold Ai lM
 rw[aA (by simp),bd_s]
 have h:=(jK a [157,b]).1
 generalize aX a [157,b]=n at h ⊢
 unfold aOq fI
 by_cases h1:n>1
 ·rw[ap h1,show(n==0)=false by simp;omega];rfl
 ·rw[aq h1]
  by_cases h2:n=0
  ·subst h2;rfl
  ·have:n=1:=by omega
   subst this;rfl
def Z9 (a b:Int):zQ a b=some (lM a b):=by
 unfold zQ
 rw[aA (by simp)];rfl
def o9 (a b:Int):xL a b=some (vZ a b):=by
 unfold xL
 rw[aA (by simp)];rfl
def p8 (a b:Int):wX a b=some (vZ a b):=by
 unfold wX
 rw[aA (by simp)];rfl
def aIo (a b:Int):Ju a b=some (Po a b):=by
 unfold Ju Po
 rw[aA (by simp)]
 cases bE a 0 2147483647<;>rfl
def aIp (a b:Int):Iz a b=some (Po a b):=by
 unfold Iz Po
 rw[aA (by simp)]
 cases bE a 0 2147483647<;>rfl
def aAa (k:D.aAP):U5 k=some (wF k):=rfl
def aAb (k:D.aAP):U3 k=some (wF k):=rfl
def Tu (w:D.World):uE w=some (aFd w):=by
 unfold uE
 rw[aA (by simp)];rfl
def aIq (n:ByteArray)(s:Int)(h:n.size<=34359738368):Ir n s=some (dB n s):=by
 unfold Ir dB
 rw[aA (by omega),bd_s]
 cases fV n s<;>rfl
def aIr {c n:Int}{l:List Int}(hn:1<=n/\n<=7)(hl:l.length<=34359738368){F:(List D.aAN×Int->Option (List D.aAN))->List D.aAN×Int->Option (List D.aAN)}(hF:∀rec (s:List D.aAN) (i:Int),1<=i->i<=8->s.length<=8->F rec (s,i)=bif decide (i<=n) then rec (s++[⟨i,qO c l i⟩],i+1) else some s):EV.bO FUEL F ([],1)=some ((List.range n.toNat).map λ(i:Nat)=>(⟨(i:Int)+1,qO c l ((i:Int)+1)⟩:D.aAN)):=
 vC (λi=>((List.range i).map λ(i:Nat)=>(⟨(i:Int)+1,qO c l ((i:Int)+1)⟩:D.aAN),(i:Int)+1)) n.toNat (by omega) (λrec i hi=>by
  rw[hF rec _ _ (by omega) (by omega) (by simp;omega),ap (by omega),ae,gv,cQ];rfl) (λrec=>by
  rw[hF rec _ _ (by omega) (by omega) (by simp;omega),aq (by omega),ac]) rfl
def Tv (c:Int)(l:List Int)(n:Int)(h:l.length<=34359738368):uU c l n=some (jT c l n):=by
 unfold uU jT
 cases h1:bE n 1 7 with
 |false=>rfl
 |true=>
  have hn:=gX h1
  rw[aIr (c:=c) hn h (λrec s i h0 h1 h2=>by
   simp only[aA (show(0:Int)<=i/\i<=1000/\l.length<=34359738368 from⟨by omega,by omega,h⟩),bd_s,aA (show aS s [D.aAN.mk i (qO c l i)] by unfold aS;simp;omega),aH (show-9223372036854775808<=i+1 by omega) (show i+1<=9223372036854775807 by omega)])]
  by_cases h2:(l.length:Int)<n
  ·rw[ap h2,aq (show ¬(l.length:Int)>=n by omega)];rfl
  ·rw[aq h2,ap (show(l.length:Int)>=n by omega)];rfl
def Tw (c:Int)(l:List Int)(n:Int)(h:l.length<=34359738368):uF c l n=some (jT c l n):=by
 unfold uF jT
 cases h1:bE n 1 7 with
 |false=>rfl
 |true=>
  have hn:=gX h1
  rw[aIr (c:=c) hn h (λrec s i h0 h1 h2=>by
   simp only[aA (show(0:Int)<=i/\i<=1000/\l.length<=34359738368 from⟨by omega,by omega,h⟩),bd_s,aA (show aS s [D.aAN.mk i (qO c l i)] by unfold aS;simp;omega),aH (show-9223372036854775808<=i+1 by omega) (show i+1<=9223372036854775807 by omega)])]
  by_cases h2:(l.length:Int)<n
  ·rw[ap h2,aq (show ¬(l.length:Int)>=n by omega)];rfl
  ·rw[aq h2,ap (show(l.length:Int)>=n by omega)];rfl
def aAc (pin salt key sec:Int)(cs:List Int)(n lim:Int)(h:cs.length<=34359738368):Aj pin salt key sec cs n lim=some (mU pin salt key sec cs n lim):=by
 unfold Aj mU Lt
 simp only[aA h,bd_s]
 have hl:=R9 sec cs n
 generalize jT sec cs n=l at hl ⊢
 cases bE pin 0 9999 with
 |false=>rfl
 |true=>
 cases bE salt 0 1000000 with
 |false=>rfl
 |true=>
 cases bB key with
 |false=>rfl
 |true=>
 cases dW sec 1019==0 with
 |true=>rfl
 |false=>
 cases bE lim 1 10 with
 |false=>rfl
 |true=>
 rw[bI2 (l:=l) (λs=>wF ⟨s,0,0,lim⟩) (by omega) (λrec i s hi hs=>by
  have ha:∀x:D.aAF,aS s [x]:=λx=>by unfold aS;simp;omega
  simp only[bY hi,ae,aK hi,bd_s,aA (ha _)];rfl) (λrec s=>by simp only[cB,ac])]
 cases l with
 |nil=>rfl
 |cons x l=>
  have e:(((x::l).length:Int)==0)=false:=by simp;omega
  have e2:((x::l).length==0)=false:=by simp
  rw[e,e2];rfl
def aAd (pin salt key sec:Int)(cs:List Int)(n lim:Int)(h:cs.length<=34359738368):zR pin salt key sec cs n lim=some (mU pin salt key sec cs n lim):=by
 unfold zR mU Lt
 simp only[aA h,bd_s]
 have hl:=R9 sec cs n
 generalize jT sec cs n=l at hl ⊢
 cases bE pin 0 9999 with
 |false=>rfl
 |true=>
 cases bE salt 0 1000000 with
 |false=>rfl
 |true=>
 cases bB key with
 |false=>rfl
 |true=>
 cases dW sec 1019==0 with
 |true=>rfl
 |false=>
 cases bE lim 1 10 with
 |false=>rfl
 |true=>
 rw[bI2 (l:=l) (λs=>wF ⟨s,0,0,lim⟩) (by omega) (λrec i s hi hs=>by
  have ha:∀x:D.aAF,aS s [x]:=λx=>by unfold aS;simp;omega
  simp only[bY hi,ae,aK hi,bd_s,aA (ha _)];rfl) (λrec s=>by simp only[cB,ac])]
 cases l with
 |nil=>rfl
 |cons x l=>
  have e:(((x::l).length:Int)==0)=false:=by simp;omega
  have e2:((x::l).length==0)=false:=by simp
  rw[e,e2];rfl
def aDx (l:List D.aAB)(b:D.aAD)(h:l.length<=34359738368/\b.sz<=34359738368):Eb l b=some (bT l b):=by
 unfold Eb bT
 have hb:b.Boxes.length<=34359738368:=by have:=h.2;simp only[D.aAD.sz] at this;omega
 simp only[aA h.1,aA h.2,aA (show b.Boxes.length<=34359738368/\l.length<=34359738368 from⟨hb,h.1⟩),bd_s]
 cases aV l<;>cases fZ b l<;>rfl
def aDy (l:List D.aAB)(b:D.aAD)(h:l.length<=34359738368/\b.sz<=34359738368):Dk l b=some (bT l b):=by
 unfold Dk bT
 have hb:b.Boxes.length<=34359738368:=by have:=h.2;simp only[D.aAD.sz] at this;omega
 simp only[aA h.1,aA h.2,aA (show b.Boxes.length<=34359738368/\l.length<=34359738368 from⟨hb,h.1⟩),bd_s]
 cases aV l<;>cases fZ b l<;>rfl
def aCv (s:D.Site)(id m:Int):(iX s id m).sz=s.sz+1:=by
 have e:(s.Accounts.map D.aAG.sz).sum=((s.Accounts.take (jH id s.Accounts)).map D.aAG.sz).sum+((s.Accounts.drop (jH id s.Accounts)).map D.aAG.sz).sum:=by rw[<-fW,<-cQ,cy]
 have el:(s.Accounts.take (jH id s.Accounts)).length+(s.Accounts.drop (jH id s.Accounts)).length=s.Accounts.length:=by rw[<-aw,cy]
 simp only[iX,D.Site.sz,aw,cQ,fW,az,ce,bj,ey,dT,gr,D.aAG.sz] at e el ⊢
 omega
def aNr {l:List D.aAG}{id:Int}{F:(Int->Option Int)->Int->Option Int}(hl:l.length<=34359738368)(hF:∀rec (i:Nat) (hi:i<l.length),F rec (i:Int)=bif decide (l[i].Id<id) then rec ((i+1:Nat):Int) else some (i:Int))(hE:∀rec,F rec (l.length:Int)=some (l.length:Int)):EV.bO FUEL F 0=some (jH id l:Int):=
 aNf (λa:D.aAG=>decide (a.Id<id)) (λi=>some (i:Int)) (λi=>(i:Int)) hl hF hE
def aSf (id:Int)(l:List D.aAG):jH id l<=l.length:=Ib
def Tx (s:D.Site)(id m:Int)(h:s.sz<=34359738300):uM s id m=some (fO s id m):=by
 unfold uM fO
 have hl:s.Accounts.length<=s.sz:=by simp only[D.Site.sz];omega
 have hk:=aSf id s.Accounts
 have ha:∀(x y:List D.aAG),x.length+y.length<=34359738400->aS x y:=λx y h=>by unfold aS;omega
 have hs:s.sz<=34359738368:=by omega
 have h1:=aCv s id m
 rw[aA hs,bd_s,aNr (id:=id) (l:=s.Accounts) (by omega) (λrec i hi=>by simp only[bY hi,ae,aK hi,bd_s,aH (show-9223372036854775808<=(i:Int)+1 by omega) (show(i:Int)+1<=9223372036854775807 by omega)];rfl) (λrec=>by simp only[cB,ac,bd_s]),bd_s]
 have hh:jF s.Accounts (jH id s.Accounts:Int):=⟨by omega,by omega⟩
 have he:(List.take (jH id s.Accounts) s.Accounts).length+(List.drop (jH id s.Accounts) s.Accounts).length=s.Accounts.length:=by rw[<-aw,cy]
 have ht:(List.take (jH id s.Accounts) s.Accounts).length<=s.Accounts.length:=by omega
 have hd:(List.drop (jH id s.Accounts) s.Accounts).length<=s.Accounts.length:=by omega
 rw[bp,aA hh,aA hh,aA (ha _ _ (by simp only[ce];omega)),aA (ha _ _ (by simp only[bh,az,ce];omega)),aA (ha _ _ (by simp only[bh,aw,az,ce];omega)),aA hs,bd_s,bh]
 rw[show(D.Site.mk s.Name (List.take (jH id s.Accounts) s.Accounts++[D.aAG.mk id m []]++List.drop (jH id s.Accounts) s.Accounts) s.Book s.Logins)=iX s id m from rfl,aA (show(iX s id m).sz<=34359738368 by omega)]
 cases cO s<;>cases cO (iX s id m)<;>rfl
def Ty (s:D.Site)(id m:Int)(h:s.sz<=34359738300):tV s id m=some (fO s id m):=by
 unfold tV fO
 have hl:s.Accounts.length<=s.sz:=by simp only[D.Site.sz];omega
 have hk:=aSf id s.Accounts
 have ha:∀(x y:List D.aAG),x.length+y.length<=34359738400->aS x y:=λx y h=>by unfold aS;omega
 have hs:s.sz<=34359738368:=by omega
 have h1:=aCv s id m
 simp only[aA hs,bd_s]
 cases cO s with
 |false=>rfl
 |true=>
 rw[bl,ac,aNr (id:=id) (l:=s.Accounts) (by omega) (λrec i hi=>by simp only[bY hi,ae,aK hi,bd_s,aH (show-9223372036854775808<=(i:Int)+1 by omega) (show(i:Int)+1<=9223372036854775807 by omega)];rfl) (λrec=>by simp only[cB,ac,bd_s]),bd_s]
 have hh:jF s.Accounts (jH id s.Accounts:Int):=⟨by omega,by omega⟩
 have he:(List.take (jH id s.Accounts) s.Accounts).length+(List.drop (jH id s.Accounts) s.Accounts).length=s.Accounts.length:=by rw[<-aw,cy]
 have ht:(List.take (jH id s.Accounts) s.Accounts).length<=s.Accounts.length:=by omega
 have hd:(List.drop (jH id s.Accounts) s.Accounts).length<=s.Accounts.length:=by omega
 rw[bp,aA hh,aA hh,aA (ha _ _ (by simp only[ce];omega)),aA (ha _ _ (by simp only[bh,az,ce];omega)),aA (ha _ _ (by simp only[bh,aw,az,ce];omega)),bh]
 rw[show(D.Site.mk s.Name (List.take (jH id s.Accounts) s.Accounts++[D.aAG.mk id m []]++List.drop (jH id s.Accounts) s.Accounts) s.Book s.Logins)=iX s id m from rfl,aA (show(iX s id m).sz<=34359738368 by omega)]
 cases cO (iX s id m)<;>rfl
def aUf {α:Type}{x y:List α}(h:x.length<=1000)(h':y.length<=1000):aS x y:=by unfold aS;omega
def mG (seed:Int)(n:Nat):(aT seed n).length=n:=by simp[aT]
def rX (seed:Int)(n:Nat):aT seed (n+1)=aT seed n++[bQ (aN seed (n:Int))]:=by simp[aT,gv]
def aNs (seed:Int)(n:Nat):aZ (aT seed (n+1)) 0=some (bQ (aN seed 0)):=by
 rw[show(0:Int)=((0:Nat):Int) from rfl,aK (by rw[mG];omega)]
 simp[aT]
def aYk (seed:Int)(n:Nat):aZ (aT seed (n+1)) (n:Int)=some (bQ (aN seed (n:Int))):=by
 rw[aK (by rw[mG];omega)]
 simp[aT]
def p9 (seed:Int)(n:Nat)(h:1<=n):aT seed n=bQ (aN seed 0)::(aT seed n).drop 1:=by
 obtain⟨m,rfl⟩:∃m,n=m+1:=⟨n-1,by omega⟩
 simp[aT,List.range_succ_eq_map]
abbrev sT (s:D.Site):ByteArray×List D.aAG×Int×Int×List D.aAL×List Int:=(s.Name,s.Accounts,s.Book.Seed,s.Book.Next,s.Book.Open,s.Logins)
def q8 (nm:ByteArray):∀(l:List D.Device) (k:Nat) (d:D.Device) (s:D.Site),pG nm k (l++[d]) s=(fG (pG nm k l s) 1 ((k+l.length:Nat):Int) (eZ d.Store nm ((k+l.length:Nat):Int))).1
 |[],k,d,s=>rfl
 |x::l,k,d,s=>by
  rw[cz]
  show pG nm (k+1) (l++[d]) _=_
  rw[q8 nm l (k+1) d,az,show k+1+l.length=k+(l.length+1) by omega];rfl
def aNt {nm:ByteArray}{l:List D.Device}{s0:D.Site}(hl:l.length<=3)(hs:s0.sz<=1000){F:(Nat×ByteArray×List D.aAG×Int×Int×List D.aAL×List Int->Option (ByteArray×List D.aAG×Int×Int×List D.aAL×List Int))->Nat×ByteArray×List D.aAG×Int×Int×List D.aAL×List Int->Option (ByteArray×List D.aAG×Int×Int×List D.aAL×List Int)}
  (hF:∀rec (i:Nat) (hi:i<l.length) (s:D.Site),s.sz<=2000->F rec (i,sT s)=rec (i+1,sT (fG s 1 (i:Int) (eZ l[i].Store nm (i:Int))).1)) (hE:∀rec s,F rec (l.length,sT s)=some (sT s)):EV.bO FUEL F (0,sT s0)=some (sT (pG nm 0 l s0)):=
 vC (λi=>(i,sT (pG nm 0 (l.take i) s0))) l.length (by omega) (λrec i hi=>by
  have h1:=Rn nm 0 (l.take i) s0
  have h2:(l.take i).length=i:=by rw[ci];omega
  rw[hF rec i hi _ (by omega),ig hi,q8,h2,bu]) (λrec=>by rw[hE,dh (ak _)]) rfl
def q9 {α:Type}{p r:List α}{s:α}:aZ (p++s::r) ((p.length:Nat):Int)=some s:=by
 rw[aK (by simp)];simp
def aPh {α ι:Type}(e:Nat->ι){p0 l:List α}(f:α->α){F:(ι×List α->Option (List α))->ι×List α->Option (List α)}(hl:l.length<=1000)
  (hF:∀rec (p:List α) (d:α) (r:List α),p.length+1+r.length=p0.length+l.length->d∈l->F rec (e p.length,p++d::r)=rec (e (p.length+1),p++f d::r)) (hE:∀rec (p:List α),p.length=p0.length+l.length->F rec (e (p0.length+l.length),p)=some p):EV.bO FUEL F (e p0.length,p0++l)=some (p0++l.map f):=
 vC (λi=>(e (p0.length+i),p0++(l.take i).map f++l.drop i)) l.length (by omega) (λrec i hi=>by
  have h2:(p0++(l.take i).map f).length=p0.length+i:=by rw[aw,bc,ci];omega
  have h3:(l.drop (i+1)).length=l.length-(i+1):=cp
  have h4:l.drop i=l[i]::l.drop (i+1):=cj hi
  have:=hF rec (p0++(l.take i).map f) l[i] (l.drop (i+1)) (by omega) (cR hi)
  rw[h2,<-h4] at this
  show F rec (e (p0.length+i),p0++(l.take i).map f++l.drop i)=_
  rw[this,ig hi,cQ,List.map_singleton]
  simp only[ca,du,fN]) (λrec=>by
  rw[dh (ak _),List.drop_of_length_le (ak _),cI]
  exact hE rec _ (by rw[aw,bc])) (by simp)
def aCw (n:Nat)(d:D.Device):Nat->D.Device
 |0=>d
 |j+1=>yZ (aC (j:Int)) n (aCw n d j)
def qA (j:Int):(aC j).size<=100:=by unfold aC;cases j==0<;>cases j==1<;>decide
def aNu {nm:ByteArray}{n:Nat}{d:D.Device}{r:List D.Device}(hn:n<=3)(hd:d.sz<=100){F:(Nat×List D.Device->Option (List D.Device))->Nat×List D.Device->Option (List D.Device)}
  (hF:∀rec (i:Nat) (x:D.Device),i<n->x.sz<=1000->F rec (i,x::r)=rec (i+1,(eH x nm (i:Int) false).1::r)) (hE:∀rec x,F rec (n,x::r)=some (x::r)):EV.bO FUEL F (0,d::r)=some (yZ nm n d::r):=
 vC (λi=>(i,yZ nm i d::r)) n (by omega) (λrec i hi=>by
  have h1:=Ym nm i d
  rw[hF rec i _ hi (by omega)];rfl) (λrec=>hE rec _) rfl
def aNv {n:Nat}{d:D.Device}{r:List D.Device}{F:(Nat×List D.Device->Option (List D.Device))->Nat×List D.Device->Option (List D.Device)}(hn:n<=3)(hd:d.sz<=10)
  (hF:∀rec (j:Nat) (x:D.Device),j<2->x.sz<=100->F rec (j,x::r)=rec (j+1,yZ (aC (j:Int)) n x::r)) (hE:∀rec x,F rec (2,x::r)=some (x::r)):EV.bO FUEL F (0,d::r)=some (aCw n d 2::r):=
 vC (λj=>(j,aCw n d j::r)) 2 (by omega) (λrec j hj=>by
  have h1:∀j:Nat,(aCw n d j).sz<=d.sz+j*n:=by
   intro j
   induction j with
   |zero=>exact cP _ _
   |succ j ih=>have:=Ym (aC (j:Int)) n (aCw n d j);show(yZ (aC (j:Int)) n (aCw n d j)).sz<=_;rw[de];omega
  have h2:=h1 j
  have h3:j*n<=2*3:=gA (by omega) hn
  rw[hF rec j _ hj (by omega)];rfl) (λrec=>hE rec _) rfl
def aIs {seed t:Int}(ht:1<=t/\t<=7){F:(List Int×Int->Option (List Int))->List Int×Int->Option (List Int)}(hF:∀rec (s:List Int) (i:Int),1<=i->i<=8->s.length<=8->F rec (s,i)=bif decide (i<t) then rec (s++[aO seed [307,i]],i+1) else some s):EV.bO FUEL F ([],1)=some (oL seed t):=
 vC (λi=>((List.range i).map λ(k:Nat)=>aO seed [307,(k:Int)+1],(i:Int)+1)) (t-1).toNat (by omega) (λrec i hi=>by
  rw[hF rec _ _ (by omega) (by omega) (by simp;omega),ap (by omega),ae,gv,cQ];rfl) (λrec=>by
  rw[hF rec _ _ (by omega) (by omega) (by simp;omega),aq (by omega),ac];rfl) rfl
def aFk (s:D.Site):D.Site.mk s.Name s.Accounts (D.aAE.mk s.Book.Seed s.Book.Next s.Book.Open) s.Logins=s:=rfl
def bB6 (s:D.aAH):D.Device.mk s [] (0:Int) (0:Int) (0:Int) (D.aAC.mk [])=bQ s:=rfl
def bFh (seed:Int)(i:Nat):D.aAH.mk (1:Int) (i:Int) (aO seed [277,(i:Int)]) (0:Int)=aN seed (i:Int):=rfl
def aDz (n k t pin seed:Int):Ej n k t pin seed=some (aR n k t pin seed):=by
 unfold Ej aR Mc
 cases h1:bE n 1 3 with
 |false=>rfl
 |true=>
 cases h2:bE k 1 7 with
 |false=>rfl
 |true=>
 cases h3:bE t 1 k with
 |false=>rfl
 |true=>
 cases h4:bE pin 0 9999 with
 |false=>rfl
 |true=>
 cases h5:bB seed with
 |false=>rfl
 |true=>
 have hn:=gX h1;have hk:=gX h2;have ht:=gX h3
 obtain⟨N,rfl⟩:∃N:Nat,n=(N:Int):=⟨n.toNat,by omega⟩
 rw[bp]
 have hN:1<=N/\N<=3:=by omega
 have hL:=jN seed N
 have hB:=Rl seed N
 have hC:=Rm seed N
 simp only[bl,ac,dl,ae,bd_s,bB6,bFh]
 rw[vC (r:=(aM seed N,aT seed N,List.replicate N false)) (λi=>(aM seed i,i,aT seed i,List.replicate i false)) N (s:=([],0,[],[])) (by omega) (λrec i hi=>by
  have e2:=aNs seed i
  have e3:=jN seed i
  have e4:=mG seed i
  rw[rX] at e2
  simp only[bY hi,ae,aA (show aS (aT seed i) [bQ (aN seed (i:Int))] from aUf (by omega) (by simp)),aA (show aS (List.replicate i false) [false] from aUf (by rw[eV];omega) (by simp)),e2,bd_s,aA (show(aM seed i).length<=34359738300 by omega),rX,List.replicate_succ']
  rfl) (λrec=>by simp only[cB,ac]) rfl]
 have hE:(bK (aM seed N) (bH seed 0) 1000).1=dF seed N:=rfl
 simp only[bd_s,aA (show(aM seed N).length<=34359738300 by omega),hE,aA (show(aM seed N).length<=34359738368/\(dF seed N).sz<=34359738368 from⟨by omega,by omega⟩)]
 have hD:=mG seed N
 rw[vC (r:=iY (aT seed N) seed) (λj=>((iY (aT seed N) seed).take j,j)) 2 (s:=([],0)) (by omega) (λrec j hj=>by
  have hs:=qA (j:Int)
  have h6:=Ii (aC (j:Int)) (aO seed [281,(j:Int)])
  have h7:=Ro (dB (aC (j:Int)) (aO seed [281,(j:Int)])) 1 3
  simp only[ap (show(j:Int)<2 by omega),ae,aA (show[281,(j:Int)].length<=34359738300 by simp),bd_s,aA (show(aC (j:Int)).size<=34359738368 by omega),aA (show(dB (aC (j:Int)) (aO seed [281,(j:Int)])).sz<=34359738300 by omega)]
  rw[aNt (nm:=aC (j:Int)) (l:=aT seed N) (s0:=(fO (dB (aC (j:Int)) (aO seed [281,(j:Int)])) 1 3).1) (by omega) (by omega) (λrec i hi s hsz=>by
   simp only[bY hi,ae,aK hi,bd_s,aA (show(aC (j:Int)).size<=34359738300 by omega),aFk,aA (show s.sz<=34359738300 by omega)]) (λrec s=>by simp only[cB,ac])]
  have e1:((iY (aT seed N) seed).take j).length<=1000:=by rw[ci];omega
  have ha:∀x:D.Site,aS ((iY (aT seed N) seed).take j) [x]:=λx=>aUf e1 (by simp)
  simp only[bd_s,aFk,aA (ha _)]
  have hj':j=0\/j=1:=by omega
  rcases hj' with rfl|rfl<;>rfl) (λrec=>by rfl) rfl]
 simp only[bd_s]
 have hd1:∀d∈aT seed N,d.sz=0:=λd hd=>by
  simp only[aT,bo] at hd
  obtain⟨i,_,rfl⟩:=hd;rfl
 rw[show(0,aT seed N)=((λi:Nat=>i) ([]:List D.Device).length,([]:List D.Device)++aT seed N) from rfl,aPh (λi:Nat=>i) (p0:=[]) (l:=aT seed N) (lF seed N) (by omega) (λrec p d r hp hd=>by
  have h0:=hd1 d hd
  simp only[ce] at hp
  simp only[bY (show p.length<N by omega),ae,q9,bd_s,aA (show d.sz<=34359738368/\(aM seed N).length<=34359738368 from⟨by omega,by omega⟩),bp,set_mid rfl,ca,du];rfl) (λrec p hp=>by
  simp only[ce,hD,bu,cB,ac])]
 obtain⟨R,hR⟩:∃R,R=((aT seed N).drop 1).map (lF seed N):=⟨_,rfl⟩
 have hm:(aT seed N).map (lF seed N)=lF seed N (bQ (aN seed 0))::R:=by
  have:=congrArg (List.map (lF seed N)) (p9 seed N hN.1)
  rw[this,hR];rfl
 have hRl:R.length=N-1:=by rw[hR,bc,cp,hD]
 have hRz:∀d∈R,d.sz<=10:=λd hd=>by
  rw[hR,bo] at hd
  obtain⟨x,hx,rfl⟩:=hd
  have h0:=hd1 x (cY hx)
  have:=Lu seed N x
  omega
 have hA:=Lu seed N (bQ (aN seed 0))
 rw[Lv] at hA
 have hq:∀x:D.Device,aZ (x::R) 0=some x:=λx=>rfl
 rw[bh,hm,bd_s,aNv (n:=N) (d:=lF seed N (bQ (aN seed 0))) (r:=R) hN.2 (by omega) (λrec j x hj hx=>by
  simp only[ap (show(j:Int)<2 by omega),ae]
  rw[aNu (nm:=aC (j:Int)) (n:=N) (d:=x) (r:=R) hN.2 hx (λrec i x hi hx=>by
   have hs:=qA (j:Int)
   simp only[bY hi,ae,hq,bd_s,aA (show x.sz<=34359738360/\(aC (j:Int)).size<=34359738300 from⟨by omega,by omega⟩)];rfl) (λrec x=>by simp only[cB,ac])]
  simp only[bd_s]) (λrec x=>by rfl)]
 have hf:aCw N (lF seed N (bQ (aN seed 0))) 2=fH seed N:=rfl
 have hw:gQ (fH seed N)=Ey seed N:=rfl
 have hc:(dO (bT (aM seed N) (dF seed N)).1 (Ey seed N).2.1).1=dZ seed N:=rfl
 have hF:=Rk seed N
 have hW:=Ls (fH seed N)
 rw[hw] at hW
 have hNC:=Ih (aM seed N) (dF seed N)
 have hset:∀x y:D.Device,(x::R).set (0:Int).toNat y=y::R:=λ_ _=>rfl
 simp only[bd_s,hf,hq,aA (show(fH seed N).sz<=34359738368 by omega),hw,aA (show(bT (aM seed N) (dF seed N)).1.sz<=34359738300/\(Ey seed N).2.1.sz<=34359738300 from⟨by omega,by have:=hW.2;simp only[D.aAA.sz];omega⟩),hc,hset]
 rw[show((1:Int),(Ey seed N).1::R)=((λi:Nat=>(i:Int)) ([(Ey seed N).1]:List D.Device).length,[(Ey seed N).1]++R) from rfl,aPh (λi:Nat=>(i:Int)) (p0:=[(Ey seed N).1]) (l:=R) (λd=>(bW d (dZ seed N).Log (dZ seed N).Boxes (lC (dZ seed N) 0).1).1) (by omega) (λrec p d r hp hd=>by
  have h0:=hRz d hd
  simp only[az,ce] at hp
  simp only[bY (show p.length<N by omega),ae,q9,bd_s,aA (show d.sz<=34359738100/\(dZ seed N).sz<=34359738100 from⟨by omega,by omega⟩),bp,set_mid rfl,ca,du,aH (show-9223372036854775808<=(p.length:Int)+1 by omega) (show(p.length:Int)+1<=9223372036854775807 by omega)];rfl) (λrec p hp=>by
  simp only[show([(Ey seed N).1]:List D.Device).length+R.length=N by simp only[az,ce];omega,cB,ac])]
 have hS:[(Ey seed N).1]++R.map (λd=>(bW d (dZ seed N).Log (dZ seed N).Boxes (lC (dZ seed N) 0).1).1)=dR seed N:=by
  rw[hR,ga]
  show(Ey seed N).1::_=(Ey seed N).1::_
  congr 1
  exact fX λd _=>bD6 seed N d
 rw[hS]
 simp only[bd_s]
 rw[aIs (seed:=seed) (t:=t) ⟨by omega,by omega⟩ (λrec s i h0 h1 h2=>by
  have ha:∀x:Int,aS s [x]:=λx=>aUf (by omega) (by simp)
  simp only[aA (show([307,i]:List Int).length<=34359738300 by simp),bd_s,aA (ha _),aH (show-9223372036854775808<=i+1 by omega) (show i+1<=9223372036854775807 by omega)])]
 have hcl:(oL seed t).length<=34359738368:=by simp only[oL,bc,ez];omega
 simp only[bd_s,aA (show([283]:List Int).length<=34359738300 by simp),aA (show([293]:List Int).length<=34359738300 by simp),aA (show(1018:Int)≠0 by decide),aA hcl]
 rfl
def aD0 (n k t pin seed:Int):Dz n k t pin seed=some (aR n k t pin seed):=by
 unfold Dz aR Mc
 cases h1:bE n 1 3 with
 |false=>rfl
 |true=>
 cases h2:bE k 1 7 with
 |false=>rfl
 |true=>
 cases h3:bE t 1 k with
 |false=>rfl
 |true=>
 cases h4:bE pin 0 9999 with
 |false=>rfl
 |true=>
 cases h5:bB seed with
 |false=>rfl
 |true=>
 have hn:=gX h1;have hk:=gX h2;have ht:=gX h3
 obtain⟨N,rfl⟩:∃N:Nat,n=(N:Int):=⟨n.toNat,by omega⟩
 rw[bp]
 have hN:1<=N/\N<=3:=by omega
 have hL:=jN seed N
 have hB:=Rl seed N
 have hC:=Rm seed N
 simp only[bl,ac,dl,ae,bd_s,bB6,bFh,aA (show aYy (N:Int) from⟨by omega,by omega⟩)]
 rw[vC (r:=(aM seed N,aT seed N)) (λi=>(aM seed i,i,aT seed i)) N (s:=([],0,[])) (by omega) (λrec i hi=>by
  have e2:=aNs seed i
  have e5:=aYk seed i
  have e3:=jN seed i
  have e4:=mG seed i
  rw[rX] at e2 e5
  simp only[bY hi,ae,aA (show aS (aT seed i) [bQ (aN seed (i:Int))] from aUf (by omega) (by simp)),e2,e5,bd_s,aA (show(aM seed i).length<=34359738300 by omega),rX]
  rfl) (λrec=>by simp only[cB,ac]) rfl]
 have hE:(bK (aM seed N) (bH seed 0) 1000).1=dF seed N:=rfl
 simp only[bd_s,aA (show(aM seed N).length<=34359738300 by omega),hE,aA (show(aM seed N).length<=34359738368/\(dF seed N).sz<=34359738368 from⟨by omega,by omega⟩)]
 have hD:=mG seed N
 rw[vC (r:=iY (aT seed N) seed) (λj=>(j,(iY (aT seed N) seed).take j)) 2 (s:=(0,[])) (by omega) (λrec j hj=>by
  have hs:=qA (j:Int)
  have h6:=Ii (aC (j:Int)) (aO seed [281,(j:Int)])
  have h7:=Ro (dB (aC (j:Int)) (aO seed [281,(j:Int)])) 1 3
  simp only[ap (show(j:Int)<2 by omega),ae,aA (show[281,(j:Int)].length<=34359738300 by simp),bd_s,aA (show(aC (j:Int)).size<=34359738368 by omega),aA (show(dB (aC (j:Int)) (aO seed [281,(j:Int)])).sz<=34359738300 by omega)]
  rw[aNt (nm:=aC (j:Int)) (l:=aT seed N) (s0:=(fO (dB (aC (j:Int)) (aO seed [281,(j:Int)])) 1 3).1) (by omega) (by omega) (λrec i hi s hsz=>by
   simp only[bY hi,ae,aK hi,bd_s,aA (show(aC (j:Int)).size<=34359738300 by omega),aFk,aA (show s.sz<=34359738300 by omega)]) (λrec s=>by simp only[cB,ac])]
  have e1:((iY (aT seed N) seed).take j).length<=1000:=by rw[ci];omega
  have ha:∀x:D.Site,aS ((iY (aT seed N) seed).take j) [x]:=λx=>aUf e1 (by simp)
  simp only[bd_s,aFk,aA (ha _)]
  have hj':j=0\/j=1:=by omega
  rcases hj' with rfl|rfl<;>rfl) (λrec=>by rfl) rfl]
 simp only[bd_s]
 have hd1:∀d∈aT seed N,d.sz=0:=λd hd=>by
  simp only[aT,bo] at hd
  obtain⟨i,_,rfl⟩:=hd;rfl
 rw[show(0,aT seed N)=((λi:Nat=>i) ([]:List D.Device).length,([]:List D.Device)++aT seed N) from rfl,aPh (λi:Nat=>i) (p0:=[]) (l:=aT seed N) (lF seed N) (by omega) (λrec p d r hp hd=>by
  have h0:=hd1 d hd
  simp only[ce] at hp
  simp only[hD,bY (show p.length<N by omega),ae,q9,bd_s,aA (show d.sz<=34359738368/\(aM seed N).length<=34359738368 from⟨by omega,by omega⟩),bp,set_mid rfl,ca,du];rfl) (λrec p hp=>by
  simp only[ce,hD,bu,cB,ac])]
 obtain⟨R,hR⟩:∃R,R=((aT seed N).drop 1).map (lF seed N):=⟨_,rfl⟩
 have hm:(aT seed N).map (lF seed N)=lF seed N (bQ (aN seed 0))::R:=by
  have:=congrArg (List.map (lF seed N)) (p9 seed N hN.1)
  rw[this,hR];rfl
 have hRl:R.length=N-1:=by rw[hR,bc,cp,hD]
 have hRz:∀d∈R,d.sz<=10:=λd hd=>by
  rw[hR,bo] at hd
  obtain⟨x,hx,rfl⟩:=hd
  have h0:=hd1 x (cY hx)
  have:=Lu seed N x
  omega
 have hA:=Lu seed N (bQ (aN seed 0))
 rw[Lv] at hA
 have hq:∀x:D.Device,aZ (x::R) 0=some x:=λx=>rfl
 rw[bh,hm,bd_s,aNv (n:=N) (d:=lF seed N (bQ (aN seed 0))) (r:=R) hN.2 (by omega) (λrec j x hj hx=>by
  simp only[ap (show(j:Int)<2 by omega),ae]
  rw[aNu (nm:=aC (j:Int)) (n:=N) (d:=x) (r:=R) hN.2 hx (λrec i x hi hx=>by
   have hs:=qA (j:Int)
   simp only[bY hi,ae,hq,bd_s,aA (show x.sz<=34359738360/\(aC (j:Int)).size<=34359738300 from⟨by omega,by omega⟩)];rfl) (λrec x=>by simp only[cB,ac])]
  simp only[bd_s]) (λrec x=>by rfl)]
 have hf:aCw N (lF seed N (bQ (aN seed 0))) 2=fH seed N:=rfl
 have hw:gQ (fH seed N)=Ey seed N:=rfl
 have hc:(dO (bT (aM seed N) (dF seed N)).1 (Ey seed N).2.1).1=dZ seed N:=rfl
 have hF:=Rk seed N
 have hW:=Ls (fH seed N)
 rw[hw] at hW
 have hNC:=Ih (aM seed N) (dF seed N)
 have hset:∀x y:D.Device,(x::R).set (0:Int).toNat y=y::R:=λ_ _=>rfl
 simp only[bd_s,hf,hq,aA (show(fH seed N).sz<=34359738368 by omega),hw,aA (show(bT (aM seed N) (dF seed N)).1.sz<=34359738300/\(Ey seed N).2.1.sz<=34359738300 from⟨by omega,by have:=hW.2;simp only[D.aAA.sz];omega⟩),hc,hset]
 rw[show((1:Int),(Ey seed N).1::R)=((λi:Nat=>(i:Int)) ([(Ey seed N).1]:List D.Device).length,[(Ey seed N).1]++R) from rfl,aPh (λi:Nat=>(i:Int)) (p0:=[(Ey seed N).1]) (l:=R) (λd=>(bW d (aM seed N) (dF seed N) (Ey seed N).2.1).1) (by omega) (λrec p d r hp hd=>by
  have h0:=hRz d hd
  have h9:=hW.2
  simp only[az,ce] at hp
  simp only[bY (show p.length<N by omega),ae,q9,bd_s,aA (show d.sz<=34359738368/\(aM seed N).length<=34359738368/\(dF seed N).sz<=34359738368/\(Ey seed N).2.1.Data.length<=34359738200 from⟨by omega,by omega,by omega,by omega⟩),bp,set_mid rfl,ca,du,aH (show-9223372036854775808<=(p.length:Int)+1 by omega) (show(p.length:Int)+1<=9223372036854775807 by omega)];rfl) (λrec p hp=>by
  simp only[show([(Ey seed N).1]:List D.Device).length+R.length=N by simp only[az,ce];omega,cB,ac])]
 have hS:[(Ey seed N).1]++R.map (λd=>(bW d (aM seed N) (dF seed N) (Ey seed N).2.1).1)=dR seed N:=by
  rw[hR,ga]
  rfl
 rw[hS]
 simp only[bd_s]
 rw[aIs (seed:=seed) (t:=t) ⟨by omega,by omega⟩ (λrec s i h0 h1 h2=>by
  have ha:∀x:Int,aS s [x]:=λx=>aUf (by omega) (by simp)
  simp only[aA (show([307,i]:List Int).length<=34359738300 by simp),bd_s,aA (ha _),aH (show-9223372036854775808<=i+1 by omega) (show i+1<=9223372036854775807 by omega)])]
 have hcl:(oL seed t).length<=34359738368:=by simp only[oL,bc,ez];omega
 have hz:=aCp (N:Int) k t pin seed
 have hnw:aR (N:Int) k t pin seed=⟨0,seed,dR seed N,List.replicate N false,dZ seed N,iY (aT seed N) seed,(pI seed t pin k).1,(pI seed t pin k).2.1,pin,⟨[]⟩⟩:=by
  unfold aR Mc
  rw[h1,h2,h3,h4,h5,bp];rfl
 rw[hnw] at hz
 have hv:mU pin 7 (aFd (D.World.mk 0 seed (dR seed N) (List.replicate N false) (dZ seed N) (iY (aT seed N) seed) (D.aAQ.mk 0 0 0 0) [] pin (D.aAM.mk []))) (IntKind.i64.wrap (1+(aO seed [293]).tmod 1018)) (oL seed t) k 5=pI seed t pin k:=rfl
 simp only[bp,bd_s,aA (show([293]:List Int).length<=34359738300 by simp),aA (show(1018:Int)≠0 by decide),aA hcl,hv]
 rw[aA (by omega)];rfl
end
end Go.VK
