import Derived.Test.YtfllllgehgablaaGreatDoorXsPyb
import Derived.Test.YtfllllgehgablaaGreatDoorXsM
import Derived.Test.YtfllllgehgablaaGreatDoorLKatob
import Derived.Test.YtfllllgehgablaaGreatDoorLMctop
/- Printed by wip/tools: models, walks, proofs. -/
set_option linter.all false
set_option maxRecDepth 100000
set_option maxHeartbeats 4000000
namespace Go.VK
open Go.RowKit Go.Proofs
noncomputable section
open EV (bU)
def aX5 (l:List Int):aXr l=some (bBt l):=rfl
def aKj (a b:List D.aAC)(h:nI a.length a b/\a.length<=34359738368):Ny a b=some true:=by
 obtain⟨⟨rfl,_⟩,hl⟩:=h
 unfold Ny
 have:bZ a a=true:=by
  unfold bZ
  rw[ao (aj _),da,cz]
  have key:∀(l r:List D.aAC) (i:Nat),a=l++r->l.length=i->gL (λi e=> !aW1 (a.getD i default) e) i r=false:=by
   intro l r
   induction r generalizing l with
   |nil=>intro i _ _;rfl
   |cons x r ih=>
    intro i he hi
    have hx:a.getD i default=x:=by rw[he,<-hi];simp
    have hr:aW1 x x=true:=by unfold aW1;simp
    rw[gL,hx,hr]
    simpa using ih (l++[x]) (i+1) (by simpa using he) (by simp[hi])
  exact key [] a 0 rfl rfl
 rw[dx,ae,aB hl,this];rfl
def Ru (a b:D.aAF)(h:nI a.sz a b/\a.sz<=34359738368):uR a b=some true:=by
 obtain⟨⟨rfl,_⟩,hz⟩:=h
 have hl:a.Entries.length<=34359738368:=hz
 unfold uR
 rw[cC,ab,rC (a:=a.Entries) (by omega) (λrec i hi=>by simp[hi,aM hi]) (λrec=>by simp)];rfl
def Rv (a b:D.Device)(h:nI a.sz a b/\a.sz<=34359738368):uS a b=some true:=by
 obtain⟨⟨rfl,_⟩,hz⟩:=h
 have h1:a.Log.length<=34359738368:=by simp only[D.Device.sz] at hz;omega
 have h2:a.aAF.sz<=34359738368:=by simp only[D.Device.sz,D.aAF.sz] at hz ⊢;omega
 unfold uS
 simp[aB (show nI a.Log.length a.Log a.Log/\a.Log.length<=34359738368 from⟨⟨rfl,by omega⟩,h1⟩),aB (show nI a.aAF.sz a.aAF a.aAF/\a.aAF.sz<=34359738368 from⟨⟨rfl,by omega⟩,h2⟩),bd]
def Q4 (a b:D.aAD)(h:nI a.sz a b/\a.sz<=34359738368):Ai a b=some true:=by
 obtain⟨⟨rfl,_⟩,hz⟩:=h
 have hl:a.Open.length<=34359738368:=hz
 unfold Ai
 simp only[cC,ab,bd_s]
 rw[rC (a:=a.Open) (by omega) (λrec i hi=>by simp[hi,aM hi]) (λrec=>by simp)];rfl
def aCc (a b:List Int)(h:nI a.length a b/\a.length<=34359738368):Ec a b=some true:=by
 obtain⟨⟨rfl,_⟩,hl⟩:=h
 unfold Ec
 rw[cC,ab,rC (a:=a) (by omega) (λrec i hi=>by simp[hi,aM hi]) (λrec=>by simp)];rfl
def Ou (a b:D.aAH)(h:nI a.sz a b/\a.sz<=34359738368):tJ a b=some true:=by
 obtain⟨⟨rfl,_⟩,hz⟩:=h
 have hl:a.Credentials.length<=34359738368:=hz
 unfold tJ
 simp only[cC,ab,bd_s]
 rw[rC (a:=a.Credentials) (by omega) (λrec i hi=>by simp[hi,aM hi]) (λrec=>by simp)];rfl
def aQh {α:Type}{f:α->Nat}{l:List α}{i:Nat}(hi:i<l.length):f l[i]<=(l.map f).sum:=by
 induction l generalizing i with
 |nil=>simp at hi
 |cons x l ih=>
  cases i with
  |zero=>simp
  |succ i=>have:=ih (i:=i) (by simpa using hi);simp only[eI,bm,df];omega
def Q5 (a b:D.Site)(h:nI a.sz a b/\a.sz<=34359738368):Aj a b=some true:=by
 obtain⟨⟨rfl,_⟩,hz⟩:=h
 have h1:a.Book.sz<=34359738368:=by simp only[D.Site.sz,D.aAD.sz] at hz ⊢;omega
 have h2:a.Logins.length<=34359738368:=by simp only[D.Site.sz] at hz;omega
 have h3:a.Accounts.length<=34359738368:=by simp only[D.Site.sz] at hz;omega
 have h4:∀i (hi:i<a.Accounts.length),a.Accounts[i].sz<=34359738368:=λi hi=>by
  have:=aQh (f:=D.aAH.sz) hi
  simp only[D.Site.sz] at hz;omega
 unfold Aj
 simp only[dx,bf,cC,ab,bd_s,aB (show nI a.Book.sz a.Book a.Book/\a.Book.sz<=34359738368 from⟨⟨rfl,by omega⟩,h1⟩),aB (show nI a.Logins.length a.Logins a.Logins/\a.Logins.length<=34359738368 from⟨⟨rfl,by omega⟩,h2⟩)]
 rw[rC (a:=a.Accounts) (by omega) (λrec i hi=>by
  have:=h4 i hi
  simp[hi,aM hi,aB (show nI a.Accounts[i].sz a.Accounts[i] a.Accounts[i]/\a.Accounts[i].sz<=34359738368 from⟨⟨rfl,by omega⟩,this⟩),bd]) (λrec=>by simp)];rfl
def Q6 (a b:D.Box)(h:nI a.sz a b/\aQ a.Data):Ak a b=some true:=by
 obtain⟨⟨rfl,_⟩,hb⟩:=h
 unfold Ak
 simp[aB hb,bd]
def Gn (a b:D.aAE)(h:nI a.sz a b/\(a.sz<=34359738368/\aRw a)):pQ a b=some true:=by
 obtain⟨⟨rfl,_⟩,hz,hb⟩:=h
 have h3:a.Boxes.length<=34359738368:=by simp only[D.aAE.sz] at hz;omega
 have h4:∀i (hi:i<a.Boxes.length),a.Boxes[i].sz<=34359738368:=λi hi=>by
  have:=aQh (f:=D.Box.sz) hi
  simp only[D.aAE.sz] at hz;omega
 unfold pQ
 simp only[cC,ab,bd_s]
 rw[rC (a:=a.Boxes) (by omega) (λrec i hi=>by
  have:=h4 i hi
  simp[hi,aM hi,aB (show nI a.Boxes[i].sz a.Boxes[i] a.Boxes[i]/\aQ a.Boxes[i].Data from⟨⟨rfl,by omega⟩,hb _ (cN hi)⟩),bd]) (λrec=>by simp)];rfl
def Xn (a b:D.aAA)(h:nI a.sz a b/\aQ a.Data):xV a b=some true:=by
 obtain⟨⟨rfl,_⟩,hb⟩:=h
 unfold xV
 simp[aB hb,bd]
def Xo (a b:D.aAB)(h:nI a.sz a b/\(a.sz<=34359738368/\tL a)):xW a b=some true:=by
 obtain⟨⟨rfl,_⟩,hz,hb⟩:=h
 have h1:a.Log.length<=34359738368:=by simp only[D.aAB.sz] at hz;omega
 have h2:a.Boxes.sz<=34359738368:=by simp only[D.aAB.sz,D.aAE.sz] at hz ⊢;omega
 have h3:a.History.length<=34359738368:=by simp only[D.aAB.sz] at hz;omega
 have h4:∀i (hi:i<a.History.length),a.History[i].sz<=34359738368:=λi hi=>by
  have:=aQh (f:=D.aAA.sz) hi
  simp only[D.aAB.sz] at hz;omega
 unfold xW
 simp only[aB (show nI a.Log.length a.Log a.Log/\a.Log.length<=34359738368 from⟨⟨rfl,by omega⟩,h1⟩),aB (show nI a.Boxes.sz a.Boxes a.Boxes/\(a.Boxes.sz<=34359738368/\aRw a.Boxes) from⟨⟨rfl,by omega⟩,h2,hb.1⟩),bd_s,bf,ab,cC]
 rw[rC (a:=a.History) (by omega) (λrec i hi=>by
  have:=h4 i hi
  simp[hi,aM hi,aB (show nI a.History[i].sz a.History[i] a.History[i]/\aQ a.History[i].Data from⟨⟨rfl,by omega⟩,hb.2 _ (cN hi)⟩),bd]) (λrec=>by simp)];rfl
def Q7 (a b:D.aAG)(h:nI a.sz a b/\a.sz<=34359738368):Al a b=some true:=by
 obtain⟨⟨rfl,_⟩,hz⟩:=h
 have hl:a.Saved.length<=34359738368:=hz
 unfold Al
 simp only[dx,dw,fa,bf,cC,ab,bd_s]
 rw[rC (a:=a.Saved) (by omega) (λrec i hi=>by simp[hi,aM hi]) (λrec=>by simp)];rfl
def Gp (a b:List D.aAG)(h:nI (G6 D.aAG.sz a) a b/\G6 D.aAG.sz a<=34359738368):pR a b=some true:=by
 obtain⟨⟨rfl,_⟩,hz⟩:=h
 have hl:a.length<=34359738368:=by unfold G6 at hz;omega
 have h4:∀i (hi:i<a.length),a[i].sz<=34359738368:=λi hi=>by
  have:=aQh (f:=D.aAG.sz) hi
  unfold G6 at hz;omega
 unfold pR
 rw[cC,ab,rC (a:=a) (by omega) (λrec i hi=>by
  have:=h4 i hi
  simp[hi,aM hi,aB (show nI a[i].sz a[i] a[i]/\a[i].sz<=34359738368 from⟨⟨rfl,by omega⟩,this⟩),bd]) (λrec=>by simp)];rfl
def Jm (a b:D.aAJ)(h:nI a.sz a b/\a.sz<=34359738368):qU a b=some true:=by
 obtain⟨⟨rfl,_⟩,hz⟩:=h
 have hl:a.Notices.length<=34359738368:=hz
 unfold qU
 rw[cC,ab,rC (a:=a.Notices) (by omega) (λrec i hi=>by simp[hi,aM hi]) (λrec=>by simp)];rfl
def Xp (a b:D.World)(h:nI a.sz a b/\(a.sz<=34359738368/\tL a.aAB)):xX a b=some true:=by
 obtain⟨⟨rfl,_⟩,hz,hb⟩:=h
 have h1:a.Devices.length<=34359738368/\a.Stolen.length<=34359738368/\a.Sites.length<=34359738368/\a.aAB.sz<=34359738368/\G6 D.aAG.sz a.Hosts<=34359738368/\a.Mail.sz<=34359738368:=by
  simp only[D.World.sz,D.aAB.sz,D.aAE.sz,D.aAJ.sz,G6] at hz ⊢;omega
 have h4:∀i (hi:i<a.Devices.length),a.Devices[i].sz<=34359738368:=λi hi=>by
  have:=aQh (f:=D.Device.sz) hi
  simp only[D.World.sz] at hz;omega
 have h5:∀i (hi:i<a.Sites.length),a.Sites[i].sz<=34359738368:=λi hi=>by
  have:=aQh (f:=D.Site.sz) hi
  simp only[D.World.sz] at hz;omega
 unfold xX
 simp only[cC,dx,dw,fa,bf,ab,bd_s]
 rw[rC (a:=a.Devices) (by omega) (λrec i hi=>by
  have:=h4 i hi
  simp[hi,aM hi,aB (show nI a.Devices[i].sz a.Devices[i] a.Devices[i]/\a.Devices[i].sz<=34359738368 from⟨⟨rfl,by omega⟩,this⟩),bd]) (λrec=>by simp),nx_r]
 rw[rC (a:=a.Stolen) (by omega) (λrec i hi=>by simp[hi,aM hi]) (λrec=>by simp),nx_r]
 rw[rC (a:=a.Sites) (by omega) (λrec i hi=>by
  have:=h5 i hi
  simp[hi,aM hi,aB (show nI a.Sites[i].sz a.Sites[i] a.Sites[i]/\a.Sites[i].sz<=34359738368 from⟨⟨rfl,by omega⟩,this⟩),bd]) (λrec=>by simp),nx_r]
 simp only[aB (show nI a.aAB.sz a.aAB a.aAB/\(a.aAB.sz<=34359738368/\tL a.aAB) from⟨⟨rfl,by omega⟩,h1.2.2.2.1,hb⟩),aB (show nI (G6 D.aAG.sz a.Hosts) a.Hosts a.Hosts/\G6 D.aAG.sz a.Hosts<=34359738368 from⟨⟨rfl,by omega⟩,h1.2.2.2.2.1⟩),aB (show nI a.Mail.sz a.Mail a.Mail/\a.Mail.sz<=34359738368 from⟨⟨rfl,by omega⟩,h1.2.2.2.2.2⟩),bd_s,ae]
end
end Go.VK
