import Derived.Test.YtjmlamaddedhlaaGreatDoorXrPzf
import Derived.Test.YtjmlamaddedhlaaGreatDoorXrM
import Derived.Test.YtjmlamaddedhlaaGreatDoorLKatop
/- Printed by wip/tools: models, walks, proofs. -/
set_option linter.all false
set_option maxRecDepth 100000
set_option maxHeartbeats 4000000
namespace Go.VK
open Go.RowKit Go.Proofs
noncomputable section
open EV (bO)
def bB8 (a:List D.aAB):bS a a=true:=by
 unfold bS
 rw[ap (ak _),dc,cq]
 have key:∀(l r:List D.aAB) (i:Nat),a=l++r->l.length=i->fD (λi e=> !aOw (a.getD i default) e) i r=false:=by
  intro l r
  induction r generalizing l with
  |nil=>intro i _ _;rfl
  |cons x r ih=>
   intro i he hi
   have hx:a.getD i default=x:=by rw[he,<-hi];simp
   have hr:aOw x x=true:=by unfold aOw;simp
   rw[fD,hx,hr]
   simpa using ih (l++[x]) (i+1) (by simpa using he) (by simp[hi])
 exact key [] a 0 rfl rfl
def aAe (a b:List D.aAB)(h:lI a.length a b/\a.length<=34359738368):Ak a b=some true:=by
 obtain⟨⟨rfl,_⟩,hl⟩:=h
 unfold Ak
 rw[dg,ae,aA hl,bB8];rfl
def Nj (a b:D.Device)(h:lI a.sz a b/\a.sz<=34359738368):rG a b=some true:=by
 obtain⟨⟨rfl,_⟩,hz⟩:=h
 have h1:a.Log.length<=34359738368:=by simp only[D.Device.sz] at hz;omega
 have h2:a.aAC.sz<=34359738368:=by simp only[D.Device.sz,D.aAC.sz] at hz ⊢;omega
 unfold rG
 simp[aA (show lI a.Log.length a.Log a.Log/\a.Log.length<=34359738368 from⟨⟨rfl,by omega⟩,h1⟩),aA h2,aGq,bd]
def x8 (a b:D.aAE)(h:lI a.sz a b/\a.sz<=34359738368):xM a b=some true:=by
 obtain⟨⟨rfl,_⟩,hz⟩:=h
 have hl:a.Open.length<=34359738368:=hz
 unfold xM
 simp only[co,ac,bd_s]
 rw[qC (a:=a.Open) (by omega) (λrec i hi=>by simp[hi,aK hi]) (λrec=>by simp)];rfl
def aAf (a b:List Int)(h:lI a.length a b/\a.length<=34359738368):Al a b=some true:=by
 obtain⟨⟨rfl,_⟩,hl⟩:=h
 unfold Al
 rw[co,ac,qC (a:=a) (by omega) (λrec i hi=>by simp[hi,aK hi]) (λrec=>by simp)];rfl
def Ka (a b:D.aAG)(h:lI a.sz a b/\a.sz<=34359738368):pY a b=some true:=by
 obtain⟨⟨rfl,_⟩,hz⟩:=h
 have hl:a.Credentials.length<=34359738368:=hz
 unfold pY
 simp only[co,ac,bd_s]
 rw[qC (a:=a.Credentials) (by omega) (λrec i hi=>by simp[hi,aK hi]) (λrec=>by simp)];rfl
def aAg {α:Type}{f:α->Nat}{l:List α}{i:Nat}(hi:i<l.length):f l[i]<=(l.map f).sum:=by
 induction l generalizing i with
 |nil=>simp at hi
 |cons x l ih=>
  cases i with
  |zero=>simp
  |succ i=>have:=ih (i:=i) (by simpa using hi);simp only[eK,bj,dT];omega
def x9 (a b:D.Site)(h:lI a.sz a b/\a.sz<=34359738368):xN a b=some true:=by
 obtain⟨⟨rfl,_⟩,hz⟩:=h
 have h1:a.Book.sz<=34359738368:=by simp only[D.Site.sz,D.aAE.sz] at hz ⊢;omega
 have h2:a.Logins.length<=34359738368:=by simp only[D.Site.sz] at hz;omega
 have h3:a.Accounts.length<=34359738368:=by simp only[D.Site.sz] at hz;omega
 have h4:∀i (hi:i<a.Accounts.length),a.Accounts[i].sz<=34359738368:=λi hi=>by
  have:=aAg (f:=D.aAG.sz) hi
  simp only[D.Site.sz] at hz;omega
 unfold xN
 simp only[dg,bl,co,ac,bd_s,aA (show lI a.Book.sz a.Book a.Book/\a.Book.sz<=34359738368 from⟨⟨rfl,by omega⟩,h1⟩),aA (show lI a.Logins.length a.Logins a.Logins/\a.Logins.length<=34359738368 from⟨⟨rfl,by omega⟩,h2⟩)]
 rw[qC (a:=a.Accounts) (by omega) (λrec i hi=>by
  have:=h4 i hi
  simp[hi,aK hi,aA (show lI a.Accounts[i].sz a.Accounts[i] a.Accounts[i]/\a.Accounts[i].sz<=34359738368 from⟨⟨rfl,by omega⟩,this⟩),bd]) (λrec=>by simp)];rfl
def y7 (a b:List Int)(h:lI a.length a b/\a.length<=68719476736):xO a b=some true:=by
 obtain⟨⟨rfl,_⟩,hl⟩:=h
 unfold xO
 rw[aA hl,aA hl,dg]
def y9 (a b:D.Box)(h:lI a.sz a b/\a.sz<=34359738368):xP a b=some true:=by
 obtain⟨⟨rfl,_⟩,hz⟩:=h
 have hl:a.Data.length<=68719476736:=by simp only[D.Box.sz] at hz;omega
 unfold xP
 simp[aA (show lI a.Data.length a.Data a.Data/\a.Data.length<=68719476736 from⟨⟨rfl,by omega⟩,hl⟩),bd]
def Cm (a b:D.aAD)(h:lI a.sz a b/\a.sz<=34359738368):nA a b=some true:=by
 obtain⟨⟨rfl,_⟩,hz⟩:=h
 have h3:a.Boxes.length<=34359738368:=by simp only[D.aAD.sz] at hz;omega
 have h4:∀i (hi:i<a.Boxes.length),a.Boxes[i].sz<=34359738368:=λi hi=>by
  have:=aAg (f:=D.Box.sz) hi
  simp only[D.aAD.sz] at hz;omega
 unfold nA
 simp only[co,ac,bd_s]
 rw[qC (a:=a.Boxes) (by omega) (λrec i hi=>by
  have:=h4 i hi
  simp[hi,aK hi,aA (show lI a.Boxes[i].sz a.Boxes[i] a.Boxes[i]/\a.Boxes[i].sz<=34359738368 from⟨⟨rfl,by omega⟩,this⟩),bd]) (λrec=>by simp)];rfl
def Tz (a b:D.aAA)(h:lI a.sz a b/\a.sz<=34359738368):uW a b=some true:=by
 obtain⟨⟨rfl,_⟩,hz⟩:=h
 have hl:a.Data.length<=68719476736:=by simp only[D.aAA.sz] at hz;omega
 unfold uW
 simp[aA (show lI a.Data.length a.Data a.Data/\a.Data.length<=68719476736 from⟨⟨rfl,by omega⟩,hl⟩),bd]
def Ua (a b:D.aAI)(h:lI a.sz a b/\a.sz<=34359738368):uX a b=some true:=by
 obtain⟨⟨rfl,_⟩,hz⟩:=h
 have h1:a.Log.length<=34359738368:=by simp only[D.aAI.sz] at hz;omega
 have h2:a.Boxes.sz<=34359738368:=by simp only[D.aAI.sz,D.aAD.sz] at hz ⊢;omega
 have h3:a.History.length<=34359738368:=by simp only[D.aAI.sz] at hz;omega
 have h4:∀i (hi:i<a.History.length),a.History[i].sz<=34359738368:=λi hi=>by
  have:=aAg (f:=D.aAA.sz) hi
  simp only[D.aAI.sz] at hz;omega
 unfold uX
 simp only[aA (show lI a.Log.length a.Log a.Log/\a.Log.length<=34359738368 from⟨⟨rfl,by omega⟩,h1⟩),aA (show lI a.Boxes.sz a.Boxes a.Boxes/\a.Boxes.sz<=34359738368 from⟨⟨rfl,by omega⟩,h2⟩),bd_s,bl,ac,co]
 rw[qC (a:=a.History) (by omega) (λrec i hi=>by
  have:=h4 i hi
  simp[hi,aK hi,aA (show lI a.History[i].sz a.History[i] a.History[i]/\a.History[i].sz<=34359738368 from⟨⟨rfl,by omega⟩,this⟩),bd]) (λrec=>by simp)];rfl
def A7 (a b:D.aAF)(h:lI a.sz a b/\a.sz<=34359738368):xQ a b=some true:=by
 obtain⟨⟨rfl,_⟩,hz⟩:=h
 have hl:a.Saved.length<=34359738368:=hz
 unfold xQ
 simp only[dg,dl,eg,bl,co,ac,bd_s]
 rw[qC (a:=a.Saved) (by omega) (λrec i hi=>by simp[hi,aK hi]) (λrec=>by simp)];rfl
def Cn (a b:List D.aAF)(h:lI (szL D.aAF.sz a) a b/\szL D.aAF.sz a<=34359738368):nC a b=some true:=by
 obtain⟨⟨rfl,_⟩,hz⟩:=h
 have hl:a.length<=34359738368:=by unfold szL at hz;omega
 have h4:∀i (hi:i<a.length),a[i].sz<=34359738368:=λi hi=>by
  have:=aAg (f:=D.aAF.sz) hi
  unfold szL at hz;omega
 unfold nC
 rw[co,ac,qC (a:=a) (by omega) (λrec i hi=>by
  have:=h4 i hi
  simp[hi,aK hi,aA (show lI a[i].sz a[i] a[i]/\a[i].sz<=34359738368 from⟨⟨rfl,by omega⟩,this⟩),bd]) (λrec=>by simp)];rfl
def Fs (a b:D.aAM)(h:lI a.sz a b/\a.sz<=34359738368):nX a b=some true:=by
 obtain⟨⟨rfl,_⟩,hz⟩:=h
 have hl:a.Notices.length<=34359738368:=hz
 unfold nX
 rw[co,ac,qC (a:=a.Notices) (by omega) (λrec i hi=>by simp[hi,aK hi]) (λrec=>by simp)];rfl
def Ub (a b:D.World)(h:lI a.sz a b/\a.sz<=34359738368):uY a b=some true:=by
 obtain⟨⟨rfl,_⟩,hz⟩:=h
 have h1:a.Devices.length<=34359738368/\a.Stolen.length<=34359738368/\a.Sites.length<=34359738368/\a.aAI.sz<=34359738368/\szL D.aAF.sz a.Hosts<=34359738368/\a.Mail.sz<=34359738368:=by
  simp only[D.World.sz,D.aAI.sz,D.aAD.sz,D.aAM.sz,szL] at hz ⊢;omega
 have h4:∀i (hi:i<a.Devices.length),a.Devices[i].sz<=34359738368:=λi hi=>by
  have:=aAg (f:=D.Device.sz) hi
  simp only[D.World.sz] at hz;omega
 have h5:∀i (hi:i<a.Sites.length),a.Sites[i].sz<=34359738368:=λi hi=>by
  have:=aAg (f:=D.Site.sz) hi
  simp only[D.World.sz] at hz;omega
 unfold uY
 simp only[co,dg,dl,eg,bl,ac,bd_s]
 rw[qC (a:=a.Devices) (by omega) (λrec i hi=>by
  have:=h4 i hi
  simp[hi,aK hi,aA (show lI a.Devices[i].sz a.Devices[i] a.Devices[i]/\a.Devices[i].sz<=34359738368 from⟨⟨rfl,by omega⟩,this⟩),bd]) (λrec=>by simp),nx_r]
 rw[qC (a:=a.Stolen) (by omega) (λrec i hi=>by simp[hi,aK hi]) (λrec=>by simp),nx_r]
 rw[qC (a:=a.Sites) (by omega) (λrec i hi=>by
  have:=h5 i hi
  simp[hi,aK hi,aA (show lI a.Sites[i].sz a.Sites[i] a.Sites[i]/\a.Sites[i].sz<=34359738368 from⟨⟨rfl,by omega⟩,this⟩),bd]) (λrec=>by simp),nx_r]
 simp only[aA (show lI a.aAI.sz a.aAI a.aAI/\a.aAI.sz<=34359738368 from⟨⟨rfl,by omega⟩,h1.2.2.2.1⟩),aA (show lI (szL D.aAF.sz a.Hosts) a.Hosts a.Hosts/\szL D.aAF.sz a.Hosts<=34359738368 from⟨⟨rfl,by omega⟩,h1.2.2.2.2.1⟩),aA (show lI a.Mail.sz a.Mail a.Mail/\a.Mail.sz<=34359738368 from⟨⟨rfl,by omega⟩,h1.2.2.2.2.2⟩),bd_s,ae]
def Nk (l:List Int)(h:l.length<=1048576):qP l=some (aFh l):=by
 unfold qP
 refine rH (a:=bFa l) (vC (λi=>(aV2 l i,(i:Int))) (min l.length 4000) (by omega) (λrec i hi=> ?_) (λrec=> ?_) rfl) ?_
 ·simp only[ap (show(i:Int)<(l.length:Int) by omega),ap (show(i:Int)<4000 by omega),ae,bd_s,aK (show i<l.length by omega)]
  rw[show IntKind.i64.wrap ((i:Int)+1)=((i+1:Nat):Int) by rw[aH (by omega) (by omega)];omega,aV2,List.getD,ab (show i<l.length by omega)];rfl
 ·by_cases hl:l.length<4000
  ·simp only[aq (show ¬((min l.length 4000:Nat):Int)<(l.length:Int) by omega),ac,bd_s];rfl
  ·simp only[aq (show ¬((min l.length 4000:Nat):Int)<4000 by omega),bGk,bd_s,ac]
   cases decide (((min l.length 4000:Nat):Int)<(l.length:Int))<;>rfl
 ·have h0:=bH5 h
  have hA:eT (wA l).1:=(w9 h0 5).1
  have hB:eT (wB l).1:=(aUh hA _).1
  have hC:eT (wC l).1:=(aUh hB _).1
  have hD:eT (wD l).1:=(aUh hC _).1
  exact rH (a:=wA l) (aA h0) (rH (a:=wB l) (aA ⟨hA,by decide⟩) (rH (a:=wC l) (aA ⟨hB,by decide⟩) (rH (a:=wD l) (aA ⟨hC,by decide⟩) (rH (a:=wE l) (aA hD) rfl))))
def bB9 {n k t p s:Int}(h:Mc n k t p s=true):((aR n k t p s).Hosts.length:Int)=k:=by
 have hb:=h
 unfold Mc at hb
 simp only[aa] at hb
 obtain⟨b1,b2,b3,b4,b5⟩:=hb
 have r2:=gX b2
 have r3:=gX b3
 unfold aR
 rw[h,ae]
 show((pI s t p k).2.1.length:Int)=k
 have hd:=eO s [283]
 have hs:(dW (IntKind.i64.wrap (1+(aO s [293]).tmod 1018)) 1019==0)=false:=by
  rw[ct]
  refine bHz ?_
  have:=(gX (eO s [293])).1;omega
 have hc:(oL s t).length<k.toNat:=by unfold oL;rw[bc,ez];omega
 have hl:(jT (IntKind.i64.wrap (1+(aO s [293]).tmod 1018)) (oL s t) k).length=k.toNat:=by
  unfold jT
  rw[jP r2.1 r2.2,ap (show((oL s t).length:Int)<k by omega)]
  simp
 unfold pI mU
 have hv:Lt p 7 (aO s [283]) (IntKind.i64.wrap (1+(aO s [293]).tmod 1018)) 5=true:=by
  unfold Lt
  rw[hd,hs,b4];decide
 rw[hv,hl,show(k.toNat==0)=false by rw[ct];omega]
 simp only[eJ,eg,ae,bc,hl]
 omega
def bH6 (n k t p s:Int):(bif decide (n<1) then some true else(bif decide (n>3) then some true else(bif decide (k<1) then some true else(bif decide (k>7) then some true else(bif decide (t<1) then some true else(bif decide (t>k) then some true else(bif decide (p<0) then some true else(bif decide (p>9999) then some true else some (!bB s)))))))))=some (!Mc n k t p s):=by
 have hd:∀a b:Int,decide (a<b)= !decide (b<=a):=λa b=>by by_cases h:a<b<;>simp[h,show ¬b<=a↔a<b by omega,show b<=a↔¬a<b by omega]
 unfold Mc bE
 simp only[gt_iff_lt,hd,show(0:Int)=0 from rfl]
 cases decide (1<=n)<;>cases decide (n<=3)<;>cases decide (1<=k)<;>cases decide (k<=7)<;>cases decide (1<=t)<;>cases decide (t<=k)<;>cases decide (0<=p)<;>cases decide (p<=9999)<;>rfl
def bCa {n:Nat}(h:n=1\/n=2\/n=3){i j:Nat}(hi:i<n)(hj:j<2):¬aG (nwB n) (aY (aC (j:Int))) (i:Int)<0:=by
 have hh:aY (aC (j:Int))=1941999745\/aY (aC (j:Int))=1464438180:=by
  rcases(show j=0\/j=1 by omega) with rfl|rfl
  ·exact .inl bJn
  ·exact .inr bJo
 rcases hh with e|e<;>rw[e]<;>rcases h with rfl|rfl|rfl<;>rcases(show i=0\/i=1\/i=2 by omega) with rfl|rfl|rfl<;>first|omega|decide
structure NewIn (n:Nat) (s:Int) (w:D.World):Prop where
 ok:eY w=true
 len:w.Devices.length=n
 dev:∀i (hi:i<n),w.Devices[i]? =some (Dh s n i 1 (nwB n))
 acc:∀j (hj:j<2),∃x l,w.Sites[j]? =some x/\x.Accounts=[⟨1,3,l⟩]/\l.length=n
 two:w.Sites.length=2
 list:∀i:Nat,i<n->jX w (i:Int)=true
 no:jX w (n:Int)=false
def bCb {n k t p s:Int}(h:Mc n k t p s=true):NewIn n.toNat s (aR n k t p s)/\(n.toNat=1\/n.toNat=2\/n.toNat=3):=by
 obtain⟨w1,w2,w3⟩:=aRz h
 have hn:n.toNat=1\/n.toNat=2\/n.toNat=3:=by
  unfold Mc at h
  simp only[aa] at h
  have:=gX h.1;omega
 have ed:(aR n k t p s).Devices=(List.range n.toNat).map λk=>Dh s n.toNat k 1 (nwB n.toNat):=by
  unfold aR;rw[h];exact aR4 hn
 have ec:(aR n k t p s).aAI.Log=aM s n.toNat:=by
  unfold aR;rw[h]
  show(dZ s n.toNat).Log=_
  rw[aYf hn]
 have hs:=w1.two
 refine⟨⟨w1.ok,w2,λi hi=> ?_,λj hj=> ?_,hs,λi hi=> ?_,?_⟩,hn⟩
 ·rw[ed,aE,cV hi];rfl
 ·obtain⟨l,e1,e2,e3⟩:=(w1.site j (by omega)).acc
  exact⟨_,l,ab (by omega),e1,e3⟩
 ·have hd:iA (aR n k t p s) (i:Int)=true:=by
   unfold iA;rw[w2,ap (by omega),ap (by omega)];rfl
  unfold jX
  rw[hd,dc,tF,ec,(oM s n.toNat (by omega)).devs]
  have:jW (aR n k t p s) (i:Int)=Dh s n.toNat i 1 (nwB n.toNat):=by
   show(aR n k t p s).Devices.getD (i:Int).toNat default=_
   rw[bp,List.getD,ed,aE,cV hi];rfl
  rw[this]
  exact bo.2 ⟨i,gf.2 hi,rfl⟩
 ·have hd:iA (aR n k t p s) (n.toNat:Int)=false:=by
   unfold iA;rw[w2,aq (show ¬(n.toNat:Int)<(n.toNat:Int) by omega),cT]
  unfold jX
  rw[hd];rfl
def bCc {α:Type}{l:List α}{i:Nat}{x:α}(h:l[i]? =some x):aZ l (i:Int)=some x:=by
 unfold aZ;rw[cr (by omega),bp];exact h
def aD1 (l:List Int)(h:aO4 l):Em l=some true:=by
 unfold Em
 cases hb:bBd l with
 |true=>rfl
 |false=>
  have hlen:l.length<=1048576:=by
   unfold bBd at hb
   rw[eI] at hb;omega
  rw[ac,aA hlen,bd_s]
  generalize aFh l=z
  obtain⟨n,k,t,p,s⟩:=z
  dsimp only
  rw[bH6,bd_s]
  have hz:(aR n k t p s).sz<=100000:=aCp ..
  cases ok:Mc n k t p s with
  |false=>
   have e:aR n k t p s=aO1:=by unfold aR;rw[ok];rfl
   rw[e] at hz ⊢
   rw[eJ,ae]
   refine rH (a:=true) ?_ rfl
   rw[show((aO1.Devices.length:Int)==0)=true from rfl,ae]
   exact rH (a:=false) (aA (by omega)) rfl
  |true=>
   obtain⟨W,hn⟩:=bCb ok
   have hk:=bB9 ok
   generalize aR n k t p s=w at*
   obtain⟨N,rfl⟩:∃N:Nat,n=(N:Int):=⟨n.toNat,by
    have hb:=ok
    unfold Mc at hb
    simp only[aa] at hb
    have:=gX hb.1;omega⟩
   rw[bp] at W hn
   have hw:w.sz<=34359738368:=by omega
   have hbz:(nwB N).sz<=34359738368:=by rcases hn with rfl|rfl|rfl<;>decide
   have hl:=W.len
   have h2:=W.two
   rw[bl,ac,aA hw,bd_s,W.ok]
   refine rH (a:=false) ?_ ?_
   ·rw[bl,ac,hl,co,ac,h2,hk,co,ac,aA (show lI w.sz w w/\w.sz<=34359738368 from⟨⟨rfl,by omega⟩,hw⟩)]
    rfl
   ·rw[ac]
    refine bB3 (b:=PUnit.unit) (bB4 N (by omega) (λrec i hi=> ?_) (λrec=>by simp only[Int.lt_irrefl,decide_false,ac])) ?_
    ·rw[ap (show(i:Int)<(N:Int) by omega),ae]
     have hd:=bCc (W.dev i hi)
     refine bB3 (b:=PUnit.unit) (bB3 (b:=PUnit.unit) (bB4 2 (by omega) (λrec j hj=> ?_) (λrec=>rfl)) ?_) rfl
     ·obtain⟨x,c,e1,e2,e3⟩:=W.acc j hj
      have e1:=bCc e1
      have hsn:=qA (j:Int)
      rw[ap (show(j:Int)<2 by omega),ae,hd,bd_s,aA (show(aC (j:Int)).size<=34359738300 by omega),bd_s]
      refine rH (aA hbz) ?_
      refine rH (a:=false) ?_ rfl
      rw[show decide (aG (Dh s N i 1 (nwB N)).aAC (aY (aC (j:Int))) (i:Int)<0)=false from aq (bCa hn hi hj),ac,e1,bd_s,e2,show(([(⟨1,3,c⟩:D.aAG)].length:Int) !=1)=false from rfl,ac,bd_s,e2]
      refine rH (a:=(⟨1,3,c⟩:D.aAG)) rfl ?_
      simp[e3]
     ·rw[aA (bBz hw),bd_s,W.list i hi]
      refine rH (a:=false) ?_ rfl
      rw[bl,ac,hd,bd_s]
      simp[Dh,aN]
    ·rw[aA (bBz hw),bd_s,W.no,show((aC 2).toList==(ByteArray.mk #[]).toList)=true by kernel_rfl];rfl
end
end Go.VK
