import Derived.Test.YtlnjelnfjgjanaaGreatDoorXqPw
import Derived.Test.YtlnjelnfjgjanaaGreatDoorXqM
/- Printed by wip/tools: models, walks, proofs. -/
set_option linter.all false
set_option maxRecDepth 100000
set_option maxHeartbeats 4000000
namespace Go.VK
open Go.RowKit Go.Proofs
noncomputable section
open EV (cB)
def Om {σ τ:Type}{F:(σ->Option τ)->σ->Option τ}(S:Nat->σ)(N:Nat){r:τ}(hN:N<=1000000)(hF:∀rec i,i<N->F rec (S i)=rec (S (i+1)))(hE:∀rec,F rec (S N)=some r){s:σ}(hs:s=S 0):EV.cB FUEL F s=some r:=by
 subst hs
 have go:∀(k i n:Nat),i+k=N->k<n->EV.cB n F (S i)=some r:=by
  intro k
  induction k with
  |zero=>
   intro i n h hn
   obtain⟨m,rfl⟩:∃m,n=m+1:=⟨n-1,by omega⟩
   rw[iP,show i=N by omega];exact hE _
  |succ k ih=>
   intro i n h hn
   obtain⟨m,rfl⟩:∃m,n=m+1:=⟨n-1,by omega⟩
   rw[iP,hF _ i (by omega)];exact ih (i+1) m (by omega) (by omega)
 exact go N 0 FUEL (by omega) (by have:=gL;omega)
def aUg {m:Int}{F:(Int×Int×Int->Option Int)->Int×Int×Int->Option Int}(hF:∀rec (b n s:Int),0<=n->n<9223372036854775807->F rec (b,n,s)=bif decide (n>0) then rec ((IntKind.i64.wrap (b*b)).tmod m,n/2,bif n%2==1 then(IntKind.i64.wrap (s*b)).tmod m else s) else some s):
  ∀(k:Nat) (b n s:Int) (f:Nat),k<f->0<=n->n<2^k->k<=62->cB f F (b,n,s)=some (aV1 m k b n s)
 |0,b,n,s,f+1,hf,h0,h1,hk=>by
  have:n=0:=by simp at h1;omega
  subst this;rw[iP,hF _ _ _ _ (by omega) (by omega)];rfl
 |k+1,b,n,s,f+1,hf,h0,h1,hk=>by
  have h2:(2:Int)^(k+1)=2*2^k:=by rw[eW];omega
  have h3:n<2^62:=Int.lt_of_lt_of_le h1 (by exact_mod_cast ib (by omega) hk)
  rw[iP,hF _ _ _ _ h0 (by omega)]
  unfold aV1
  by_cases hn:n>0
  ·rw[ao hn,ac,cz hn]
   exact aUg hF k _ (n/2) _ f (by omega) (by omega) (by omega) (by omega)
  ·rw[ap hn,ab,cR hn]
def bMo:((2039:Int)≠0)=True:=by simp
def O6 (b n:Int)(h:0<=n/\n<2048):pR b n=some (aV1 2039 11 b n 1):=by
 unfold pR
 rw[aUg (m:=2039) (λrec b n s h0 h1=>by simp only[show sF .i64 n 1=n%2 from and_one h0 (by omega),show Kj .i64 n 1=n/2 from aXx h0,bMo,gd_T,kZ,bd_s,aB (show(0:Int)<=1 by decide)]) 11 b n 1 FUEL (by have:=gL;omega) h.1 (by have:=h.2;omega) (by omega)];rfl
def Jh (x:Int):qH x=some (aHt x):=by
 unfold qH aHt
 rw[O6 _ _ (by decide)]
 cases bH x 1 2038<;>rfl
def aE3 (g n:Int):Hf g n=some (wM g n):=by
 unfold Hf wM
 have hr:=vZ (p:=n) (q:=1019) (by decide)
 rw[O6 _ _ ⟨hr.1,by omega⟩]
 cases aHt g<;>rfl
def Xv (a b:Int):xE a b=some (H7 a b):=by
 unfold xE
 rw[aB (by simp),bd_s,aB (by decide),aB (by decide)];rfl
def Sa (a b c:Int):Ra a b c=some (Ql a b c):=rfl
def aBy (a b:Int):Cm a b=some (yY a b):=by
 unfold Cm yY
 rw[aB (by simp),bd_s]
 have h:=(kE a [157,b]).1
 generalize bE a [157,b]=n at h ⊢
 unfold aQg gX
 by_cases h1:n>1
 ·rw[ao h1,show(n==0)=false by simp;omega];rfl
 ·rw[ap h1]
  by_cases h2:n=0
  ·subst h2;rfl
  ·have:n=1:=by omega
   subst this;rfl
def O7 (a b:Int):zN a b=some (H8 a b):=by
 unfold zN
 rw[aB (by simp)];rfl
def aJx (a b:Int):Ni a b=some (aOx a b):=by
 unfold Ni aOx
 rw[aB (by simp)]
 cases bH a 0 2147483647<;>rfl
def aBz (k:D.aAR):aA1 k=some (yZ k):=rfl
def aWu {c n:Int}{l:List Int}(hn:1<=n/\n<=7)(hl:l.length<=34359738368){F:(List D.aAQ×Int->Option (List D.aAQ))->List D.aAQ×Int->Option (List D.aAQ)}(hF:∀rec (s:List D.aAQ) (i:Int),1<=i->i<=8->s.length<=8->F rec (s,i)=bif decide (i<=n) then rec (s++[⟨i,Li c l i⟩],i+1) else some s):EV.cB FUEL F ([],1)=some ((List.range n.toNat).map λ(i:Nat)=>(⟨(i:Int)+1,Li c l ((i:Int)+1)⟩:D.aAQ)):=
 Om (λi=>((List.range i).map λ(i:Nat)=>(⟨(i:Int)+1,Li c l ((i:Int)+1)⟩:D.aAQ),(i:Int)+1)) n.toNat (by omega) (λrec i hi=>by
  rw[hF rec _ _ (by omega) (by omega) (by simp;omega),ao (by omega),ac,gh,da];rfl) (λrec=>by
  rw[hF rec _ _ (by omega) (by omega) (by simp;omega),ap (by omega),ab]) rfl
def Xw (c:Int)(l:List Int)(n:Int)(h:l.length<=34359738368):xD c l n=some (rG c l n):=by
 unfold xD rG
 cases h1:bH n 1 7 with
 |false=>rfl
 |true=>
  have hn:=iE h1
  rw[aWu (c:=c) hn h (λrec s i h0 h1 h2=>by
   simp only[aB (show(0:Int)<=i/\i<=1000/\l.length<=34359738368 from⟨by omega,by omega,h⟩),bd_s,aB (show aS s [D.aAQ.mk i (Li c l i)] by unfold aS;simp;omega),aJ (show-9223372036854775808<=i+1 by omega) (show i+1<=9223372036854775807 by omega)])]
  by_cases h2:(l.length:Int)<n
  ·rw[ao h2,ap (show ¬(l.length:Int)>=n by omega)];rfl
  ·rw[ap h2,ao (show(l.length:Int)>=n by omega)];rfl
def aB0 (pin salt key sec:Int)(cs:List Int)(n lim:Int)(h:cs.length<=34359738368):Cn pin salt key sec cs n lim=some (Fw pin salt key sec cs n lim):=by
 unfold Cn Fw aGa
 simp only[aB h,bd_s]
 have hl:=aO0 sec cs n
 generalize rG sec cs n=l at hl ⊢
 cases bH pin 0 9999 with
 |false=>rfl
 |true=>
 cases bH salt 0 1000000 with
 |false=>rfl
 |true=>
 cases bG key with
 |false=>rfl
 |true=>
 cases gJ sec 1019==0 with
 |true=>rfl
 |false=>
 cases bH lim 1 10 with
 |false=>rfl
 |true=>
 rw[bN9 (l:=l) (λs=>yZ ⟨s,0,0,lim⟩) (by omega) (λrec i s hi hs=>by
  have ha:∀x:D.aAF,aS s [x]:=λx=>by unfold aS;simp;omega
  simp only[dB hi,ac,aN hi,bd_s,aB (ha _)];rfl) (λrec s=>by simp only[dF,ab])]
 cases l with
 |nil=>rfl
 |cons x l=>
  have e:(((x::l).length:Int)==0)=false:=by simp;omega
  have e2:((x::l).length==0)=false:=by simp
  rw[e,e2];rfl
def aE4 (l:List D.aAD)(b:D.aAG)(h:l.length<=34359738368/\b.sz<=34359738368):Gv l b=some (dS l b):=by
 unfold Gv dS
 have hb:b.Boxes.length<=34359738368:=by have:=h.2;simp only[D.aAG.sz] at this;omega
 simp only[aB h.1,aB h.2,aB (show b.Boxes.length<=34359738368/\l.length<=34359738368 from⟨hb,h.1⟩),bd_s]
 cases bL l<;>cases lF b l<;>rfl
def aUh (s:D.Site)(id m:Int):(mD s id m).sz=s.sz+1:=by
 have e:(s.Accounts.map D.Account.sz).sum=((s.Accounts.take (pI id s.Accounts)).map D.Account.sz).sum+((s.Accounts.drop (pI id s.Accounts)).map D.Account.sz).sum:=by rw[<-gf,<-da,cL]
 have el:(s.Accounts.take (pI id s.Accounts)).length+(s.Accounts.drop (pI id s.Accounts)).length=s.Accounts.length:=by rw[<-av,cL]
 simp only[mD,D.Site.sz,av,da,gf,au,bn,bo,eM,dz,gA,D.Account.sz] at e el ⊢
 omega
def bBf {l:List D.Account}{id:Int}{F:(Int->Option Int)->Int->Option Int}(hl:l.length<=34359738368)(hF:∀rec (i:Nat) (hi:i<l.length),F rec (i:Int)=bif decide (l[i].Id<id) then rec ((i+1:Nat):Int) else some (i:Int))(hE:∀rec,F rec (l.length:Int)=some (l.length:Int)):EV.cB FUEL F 0=some (pI id l:Int):=
 aAs (λa:D.Account=>decide (a.Id<id)) (λi=>some (i:Int)) (λi=>(i:Int)) hl hF hE
def bFc (id:Int)(l:List D.Account):pI id l<=l.length:=Ls
def Xx (s:D.Site)(id m:Int)(h:s.sz<=34359738300):wV s id m=some (kM s id m):=by
 unfold wV kM
 have hl:s.Accounts.length<=s.sz:=by simp only[D.Site.sz];omega
 have hk:=bFc id s.Accounts
 have ha:∀(x y:List D.Account),x.length+y.length<=34359738400->aS x y:=λx y h=>by unfold aS;omega
 have hs:s.sz<=34359738368:=by omega
 have h1:=aUh s id m
 rw[aB hs,bd_s,bBf (id:=id) (l:=s.Accounts) (by omega) (λrec i hi=>by simp only[dB hi,ac,aN hi,bd_s,aJ (show-9223372036854775808<=(i:Int)+1 by omega) (show(i:Int)+1<=9223372036854775807 by omega)];rfl) (λrec=>by simp only[dF,ab,bd_s]),bd_s]
 have hh:iQ s.Accounts (pI id s.Accounts:Int):=⟨by omega,by omega⟩
 have he:(List.take (pI id s.Accounts) s.Accounts).length+(List.drop (pI id s.Accounts) s.Accounts).length=s.Accounts.length:=by rw[<-av,cL]
 have ht:(List.take (pI id s.Accounts) s.Accounts).length<=s.Accounts.length:=by omega
 have hd:(List.drop (pI id s.Accounts) s.Accounts).length<=s.Accounts.length:=by omega
 rw[bv,aB hh,aB hh,aB (ha _ _ (by simp only[bn];omega)),aB (ha _ _ (by simp only[bm,au,bn];omega)),aB (ha _ _ (by simp only[bm,av,au,bn];omega)),aB hs,bd_s,bm]
 rw[show(D.Site.mk s.Name (List.take (pI id s.Accounts) s.Accounts++[D.Account.mk id m []]++List.drop (pI id s.Accounts) s.Accounts) s.Book s.Logins)=mD s id m from rfl,aB (show(mD s id m).sz<=34359738368 by omega)]
 cases bR s<;>cases bR (mD s id m)<;>rfl
def bHm {α:Type}{x y:List α}(h:x.length<=1000)(h':y.length<=1000):aS x y:=by unfold aS;omega
def Oo (seed:Int)(n:Nat):(bS seed n).length=n:=by simp[bS]
def O8 (seed:Int)(n:Nat):bS seed (n+1)=bS seed n++[dH (aP seed (n:Int))]:=by simp[bS,gh]
def bBg (seed:Int)(n:Nat):bD (bS seed (n+1)) 0=some (dH (aP seed 0)):=by
 rw[show(0:Int)=((0:Nat):Int) from rfl,aN (by rw[Oo];omega)]
 simp[bS]
def aQ9 (seed:Int)(n:Nat)(h:1<=n):bS seed n=dH (aP seed 0)::(bS seed n).drop 1:=by
 obtain⟨m,rfl⟩:∃m,n=m+1:=⟨n-1,by omega⟩
 simp[bS,List.range_succ_eq_map]
abbrev sT (s:D.Site):ByteArray×List D.Account×Int×Int×List D.aAI×List Int:=(s.Name,s.Accounts,s.Book.Seed,s.Book.Next,s.Book.Open,s.Logins)
def O9 (nm:ByteArray):∀(l:List D.Device) (k:Nat) (d:D.Device) (s:D.Site),mM nm k (l++[d]) s=(gQ (mM nm k l s) 1 ((k+l.length:Nat):Int) (iK d.Store nm ((k+l.length:Nat):Int))).1
 |[],k,d,s=>rfl
 |x::l,k,d,s=>by
  rw[cH]
  show mM nm (k+1) (l++[d]) _=_
  rw[O9 nm l (k+1) d,au,show k+1+l.length=k+(l.length+1) by omega];rfl
def bBh {nm:ByteArray}{l:List D.Device}{s0:D.Site}(hl:l.length<=3)(hs:s0.sz<=1000){F:(Nat×ByteArray×List D.Account×Int×Int×List D.aAI×List Int->Option (ByteArray×List D.Account×Int×Int×List D.aAI×List Int))->Nat×ByteArray×List D.Account×Int×Int×List D.aAI×List Int->Option (ByteArray×List D.Account×Int×Int×List D.aAI×List Int)}
  (hF:∀rec (i:Nat) (hi:i<l.length) (s:D.Site),s.sz<=2000->F rec (i,sT s)=rec (i+1,sT (gQ s 1 (i:Int) (iK l[i].Store nm (i:Int))).1)) (hE:∀rec s,F rec (l.length,sT s)=some (sT s)):EV.cB FUEL F (0,sT s0)=some (sT (mM nm 0 l s0)):=
 Om (λi=>(i,sT (mM nm 0 (l.take i) s0))) l.length (by omega) (λrec i hi=>by
  have h1:=Wd nm 0 (l.take i) s0
  have h2:(l.take i).length=i:=by rw[ca];omega
  rw[hF rec i hi _ (by omega),iS hi,O9,h2,ce]) (λrec=>by rw[hE,eC (ak _)]) rfl
def aUi {α:Type}{p r:List α}{s:α}:bD (p++s::r) ((p.length:Nat):Int)=some s:=by
 rw[aN (by simp)];simp
def bFd {α ι:Type}(e:Nat->ι){p0 l:List α}(f:α->α){F:(ι×List α->Option (List α))->ι×List α->Option (List α)}(hl:l.length<=1000)
  (hF:∀rec (p:List α) (d:α) (r:List α),p.length+1+r.length=p0.length+l.length->d∈l->F rec (e p.length,p++d::r)=rec (e (p.length+1),p++f d::r)) (hE:∀rec (p:List α),p.length=p0.length+l.length->F rec (e (p0.length+l.length),p)=some p):EV.cB FUEL F (e p0.length,p0++l)=some (p0++l.map f):=
 Om (λi=>(e (p0.length+i),p0++(l.take i).map f++l.drop i)) l.length (by omega) (λrec i hi=>by
  have h2:(p0++(l.take i).map f).length=p0.length+i:=by rw[av,bl,ca];omega
  have h3:(l.drop (i+1)).length=l.length-(i+1):=ci
  have h4:l.drop i=l[i]::l.drop (i+1):=cn hi
  have:=hF rec (p0++(l.take i).map f) l[i] (l.drop (i+1)) (by omega) (cx hi)
  rw[h2,<-h4] at this
  show F rec (e (p0.length+i),p0++(l.take i).map f++l.drop i)=_
  rw[this,iS hi,da,List.map_singleton]
  simp only[ck,e9,ga]) (λrec=>by
  rw[eC (ak _),List.drop_of_length_le (ak _),cP]
  exact hE rec _ (by rw[av,bl])) (by simp)
def aJy (n:Nat)(d:D.Device):Nat->D.Device
 |0=>d
 |j+1=>Bo (aA (j:Int)) n (aJy n d j)
def aD3 (j:Int):(aA j).size<=100:=by unfold aA;cases j==0<;>cases j==1<;>decide
def bBi {nm:ByteArray}{n:Nat}{d:D.Device}{r:List D.Device}(hn:n<=3)(hd:d.sz<=100){F:(Nat×List D.Device->Option (List D.Device))->Nat×List D.Device->Option (List D.Device)}
  (hF:∀rec (i:Nat) (x:D.Device),i<n->x.sz<=1000->F rec (i,x::r)=rec (i+1,(dC x nm (i:Int) false).1::r)) (hE:∀rec x,F rec (n,x::r)=some (x::r)):EV.cB FUEL F (0,d::r)=some (Bo nm n d::r):=
 Om (λi=>(i,Bo nm i d::r)) n (by omega) (λrec i hi=>by
  have h1:=H9 nm i d
  rw[hF rec i _ hi (by omega)];rfl) (λrec=>hE rec _) rfl
def bBj {n:Nat}{d:D.Device}{r:List D.Device}{F:(Nat×List D.Device->Option (List D.Device))->Nat×List D.Device->Option (List D.Device)}(hn:n<=3)(hd:d.sz<=10)
  (hF:∀rec (j:Nat) (x:D.Device),j<2->x.sz<=100->F rec (j,x::r)=rec (j+1,Bo (aA (j:Int)) n x::r)) (hE:∀rec x,F rec (2,x::r)=some (x::r)):EV.cB FUEL F (0,d::r)=some (aJy n d 2::r):=
 Om (λj=>(j,aJy n d j::r)) 2 (by omega) (λrec j hj=>by
  have h1:∀j:Nat,(aJy n d j).sz<=d.sz+j*n:=by
   intro j
   induction j with
   |zero=>exact cY _ _
   |succ j ih=>have:=H9 (aA (j:Int)) n (aJy n d j);show(Bo (aA (j:Int)) n (aJy n d j)).sz<=_;rw[cX];omega
  have h2:=h1 j
  have h3:j*n<=2*3:=ic (by omega) hn
  rw[hF rec j _ hj (by omega)];rfl) (λrec=>hE rec _) rfl
def aWv {seed t:Int}(ht:1<=t/\t<=7){F:(List Int×Int->Option (List Int))->List Int×Int->Option (List Int)}(hF:∀rec (s:List Int) (i:Int),1<=i->i<=8->s.length<=8->F rec (s,i)=bif decide (i<t) then rec (s++[aW seed [307,i]],i+1) else some s):EV.cB FUEL F ([],1)=some (Lu seed t):=
 Om (λi=>((List.range i).map λ(k:Nat)=>aW seed [307,(k:Int)+1],(i:Int)+1)) (t-1).toNat (by omega) (λrec i hi=>by
  rw[hF rec _ _ (by omega) (by omega) (by simp;omega),ao (by omega),ac,gh,da];rfl) (λrec=>by
  rw[hF rec _ _ (by omega) (by omega) (by simp;omega),ap (by omega),ab];rfl) rfl
def aYz (s:D.Site):D.Site.mk s.Name s.Accounts (D.aAB.mk s.Book.Seed s.Book.Next s.Book.Open) s.Logins=s:=rfl
def bKq (s:D.aAH):D.Device.mk s [] (0:Int) (0:Int) (0:Int) (D.aAC.mk [])=dH s:=rfl
def bMp (seed:Int)(i:Nat):D.aAH.mk (1:Int) (i:Int) (aW seed [277,(i:Int)]) (0:Int)=aP seed (i:Int):=rfl
def aE5 (n k t pin seed:Int):Hg n k t pin seed=some (aY n k t pin seed):=by
 unfold Hg aY Bp
 cases h1:bH n 1 3 with
 |false=>rfl
 |true=>
 cases h2:bH k 1 7 with
 |false=>rfl
 |true=>
 cases h3:bH t 1 k with
 |false=>rfl
 |true=>
 cases h4:bH pin 0 9999 with
 |false=>rfl
 |true=>
 cases h5:bG seed with
 |false=>rfl
 |true=>
 have hn:=iE h1;have hk:=iE h2;have ht:=iE h3
 obtain⟨N,rfl⟩:∃N:Nat,n=(N:Int):=⟨n.toNat,by omega⟩
 rw[bv]
 have hN:1<=N/\N<=3:=by omega
 have hL:=nJ seed N
 have hB:=aHv seed N
 have hC:=aHw seed N
 simp only[ay,ab,dt,ac,bd_s,bKq,bMp]
 rw[Om (r:=(aO seed N,bS seed N,List.replicate N false)) (λi=>(aO seed i,i,bS seed i,List.replicate i false)) N (s:=([],0,[],[])) (by omega) (λrec i hi=>by
  have e2:=bBg seed i
  have e3:=nJ seed i
  have e4:=Oo seed i
  rw[O8] at e2
  simp only[dB hi,ac,aB (show aS (bS seed i) [dH (aP seed (i:Int))] from bHm (by omega) (by simp)),aB (show aS (List.replicate i false) [false] from bHm (by rw[fb];omega) (by simp)),e2,bd_s,aB (show(aO seed i).length<=34359738300 by omega),O8,List.replicate_succ']
  rfl) (λrec=>by simp only[dF,ab]) rfl]
 have hE:(cK (aO seed N) (bI seed 0) 1000).1=fO seed N:=rfl
 simp only[bd_s,aB (show(aO seed N).length<=34359738300 by omega),hE,aB (show(aO seed N).length<=34359738368/\(fO seed N).sz<=34359738368 from⟨by omega,by omega⟩)]
 have hD:=Oo seed N
 rw[Om (r:=pJ (bS seed N) seed) (λj=>((pJ (bS seed N) seed).take j,j)) 2 (s:=([],0)) (by omega) (λrec j hj=>by
  have hs:=aD3 (j:Int)
  have h6:=aDq (aA (j:Int)) (aW seed [281,(j:Int)])
  have h7:=aHx (dZ (aA (j:Int)) (aW seed [281,(j:Int)])) 1 3
  simp only[ao (show(j:Int)<2 by omega),ac,aB (show[281,(j:Int)].length<=34359738300 by simp),bd_s,aB (show(aA (j:Int)).size<=34359738368 by omega),aB (show(dZ (aA (j:Int)) (aW seed [281,(j:Int)])).sz<=34359738300 by omega)]
  rw[bBh (nm:=aA (j:Int)) (l:=bS seed N) (s0:=(kM (dZ (aA (j:Int)) (aW seed [281,(j:Int)])) 1 3).1) (by omega) (by omega) (λrec i hi s hsz=>by
   simp only[dB hi,ac,aN hi,bd_s,aB (show(aA (j:Int)).size<=34359738300 by omega),aYz,aB (show s.sz<=34359738300 by omega)]) (λrec s=>by simp only[dF,ab])]
  have e1:((pJ (bS seed N) seed).take j).length<=1000:=by rw[ca];omega
  have ha:∀x:D.Site,aS ((pJ (bS seed N) seed).take j) [x]:=λx=>bHm e1 (by simp)
  simp only[bd_s,aYz,aB (ha _)]
  have hj':j=0\/j=1:=by omega
  rcases hj' with rfl|rfl<;>rfl) (λrec=>by rfl) rfl]
 simp only[bd_s]
 have hd1:∀d∈bS seed N,d.sz=0:=λd hd=>by
  simp only[bS,bu] at hd
  obtain⟨i,_,rfl⟩:=hd;rfl
 rw[show(0,bS seed N)=((λi:Nat=>i) ([]:List D.Device).length,([]:List D.Device)++bS seed N) from rfl,bFd (λi:Nat=>i) (p0:=[]) (l:=bS seed N) (sS seed N) (by omega) (λrec p d r hp hd=>by
  have h0:=hd1 d hd
  simp only[bn] at hp
  simp only[dB (show p.length<N by omega),ac,aUi,bd_s,aB (show d.sz<=34359738368/\(aO seed N).length<=34359738368 from⟨by omega,by omega⟩),bv,set_mid rfl,ck,e9];rfl) (λrec p hp=>by
  simp only[bn,hD,ce,dF,ab])]
 obtain⟨R,hR⟩:∃R,R=((bS seed N).drop 1).map (sS seed N):=⟨_,rfl⟩
 have hm:(bS seed N).map (sS seed N)=sS seed N (dH (aP seed 0))::R:=by
  have:=congrArg (List.map (sS seed N)) (aQ9 seed N hN.1)
  rw[this,hR];rfl
 have hRl:R.length=N-1:=by rw[hR,bl,ci,hD]
 have hRz:∀d∈R,d.sz<=10:=λd hd=>by
  rw[hR,bu] at hd
  obtain⟨x,hx,rfl⟩:=hd
  have h0:=hd1 x (cU hx)
  have:=aGb seed N x
  omega
 have hA:=aGb seed N (dH (aP seed 0))
 rw[aAt] at hA
 have hq:∀x:D.Device,bD (x::R) 0=some x:=λx=>rfl
 rw[bm,hm,bd_s,bBj (n:=N) (d:=sS seed N (dH (aP seed 0))) (r:=R) hN.2 (by omega) (λrec j x hj hx=>by
  simp only[ao (show(j:Int)<2 by omega),ac]
  rw[bBi (nm:=aA (j:Int)) (n:=N) (d:=x) (r:=R) hN.2 hx (λrec i x hi hx=>by
   have hs:=aD3 (j:Int)
   simp only[dB hi,ac,hq,bd_s,aB (show x.sz<=34359738360/\(aA (j:Int)).size<=34359738300 from⟨by omega,by omega⟩)];rfl) (λrec x=>by simp only[dF,ab])]
  simp only[bd_s]) (λrec x=>by rfl)]
 have hf:aJy N (sS seed N (dH (aP seed 0))) 2=jM seed N:=rfl
 have hw:dK (jM seed N)=nwW seed N:=rfl
 have hc:(dD (dS (aO seed N) (fO seed N)).1 (nwW seed N).2.1).1=fT seed N:=rfl
 have hF:=aHu seed N
 have hW:=Bn (jM seed N)
 rw[hw] at hW
 have hNC:=aDp (aO seed N) (fO seed N)
 have hset:∀x y:D.Device,(x::R).set (0:Int).toNat y=y::R:=λ_ _=>rfl
 simp only[bd_s,hf,hq,aB (show(jM seed N).sz<=34359738368 by omega),hw,aB (show(dS (aO seed N) (fO seed N)).1.sz<=34359738300/\(nwW seed N).2.1.sz<=34359738300 from⟨by omega,by have:=hW.2;simp only[D.aAA.sz];omega⟩),hc,hset]
 rw[show((1:Int),(nwW seed N).1::R)=((λi:Nat=>(i:Int)) ([(nwW seed N).1]:List D.Device).length,[(nwW seed N).1]++R) from rfl,bFd (λi:Nat=>(i:Int)) (p0:=[(nwW seed N).1]) (l:=R) (λd=>(bQ d (fT seed N).Log (fT seed N).Boxes (dW (fT seed N) 0).1).1) (by omega) (λrec p d r hp hd=>by
  have h0:=hRz d hd
  simp only[au,bn] at hp
  simp only[dB (show p.length<N by omega),ac,aUi,bd_s,aB (show d.sz<=34359738100/\(fT seed N).sz<=34359738100 from⟨by omega,by omega⟩),bv,set_mid rfl,ck,e9,aJ (show-9223372036854775808<=(p.length:Int)+1 by omega) (show(p.length:Int)+1<=9223372036854775807 by omega)];rfl) (λrec p hp=>by
  simp only[show([(nwW seed N).1]:List D.Device).length+R.length=N by simp only[au,bn];omega,dF,ab])]
 have hS:[(nwW seed N).1]++R.map (λd=>(bQ d (fT seed N).Log (fT seed N).Boxes (dW (fT seed N) 0).1).1)=gB seed N:=by
  rw[hR,gC]
  show(nwW seed N).1::_=(nwW seed N).1::_
  congr 1
  exact gi λd _=>bGx seed N d
 rw[hS]
 simp only[bd_s]
 rw[aWv (seed:=seed) (t:=t) ⟨by omega,by omega⟩ (λrec s i h0 h1 h2=>by
  have ha:∀x:Int,aS s [x]:=λx=>bHm (by omega) (by simp)
  simp only[aB (show([307,i]:List Int).length<=34359738300 by simp),bd_s,aB (ha _),aJ (show-9223372036854775808<=i+1 by omega) (show i+1<=9223372036854775807 by omega)])]
 have hcl:(Lu seed t).length<=34359738368:=by simp only[Lu,bl,fL];omega
 simp only[bd_s,aB (show([283]:List Int).length<=34359738300 by simp),aB (show([293]:List Int).length<=34359738300 by simp),aB (show(1018:Int)≠0 by decide),aB hcl]
 rfl
end
end Go.VK
