import Derived.Test.YtfllllgehgablaaGreatDoorXsPf
import Derived.Test.YtfllllgehgablaaGreatDoorXsM
/- Printed by wip/tools: models, walks, proofs. -/
set_option linter.all false
set_option maxRecDepth 100000
set_option maxHeartbeats 4000000
namespace Go.VK
open Go.RowKit Go.Proofs
noncomputable section
open EV (bU)
def aJv (l:List D.aAK)(p:Int)(i:Nat)(hi:i<=l.length)(h:l.length<=34359738368){F:(Nat->Option ((Bool⊕PUnit)⊕PUnit))->Nat->Option ((Bool⊕PUnit)⊕PUnit)}(hF:∀rec j (hj:j<i),F rec j=bif (l[j]'(by omega)).Public==p then some (.inl (.inl false)) else rec (j+1))(hE:∀rec,F rec i=some (.inr ())):
  bU FUEL F 0=some (bif (l.take i).any (λq=>q.Public==p) then .inl (.inl false) else .inr ()):=by
 have ht:(l.take i).length=i:=by rw[bz];omega
 exact mJ (l:=l.take i) (λq=>q.Public==p) _ _ (by omega) (λrec j hj=>by rw[hF rec j (by omega),gp]) (λrec=>by rw[ht];exact hE rec)
def aVf (a:D.aAH)(h:a.Credentials.length<=34359738368)(i:Nat)(hi:i<a.Credentials.length){τ:Type}{X:Option τ}{r:Option τ}{K:Option τ}(hX:X=bif (a.Credentials.take i).any (λq=>q.Public==a.Credentials[i].Public) then r else K):
  (bd (bif (!bI a.Credentials[i].Handle (0:Int) (1000000:Int)) then(some (true)) else(bif (decide ((↑i:Int)>(0:Int))) then(bd (bA (a.Credentials) (IntKind.i64.wrap ((↑i:Int)-(1:Int)))) λz5=>bif (decide (z5.Handle>=a.Credentials[i].Handle)) then(some (true)) else(bd (some (eP a.Credentials[i].Public)) λz6=>bif (z6==(0:Int)) then(some (true)) else(some (!bI a.Credentials[i].Counter (0:Int) (1000000:Int))))) else(bd (some (eP a.Credentials[i].Public)) λz5=>bif (z5==(0:Int)) then(some (true)) else(some (!bI a.Credentials[i].Counter (0:Int) (1000000:Int)))))) λz4=>bif z4 then r else X)=bif rU a i a.Credentials[i] then r else K:=by
 rw[hX];unfold rU
 by_cases h0:0<i
 ·rw[Lh h0 hi h,show decide ((i:Int)>0)=true by simpa using h0,ao h0]
  simp only[bd_s]
  cases bI a.Credentials[i].Handle 0 1000000<;>cases decide ((a.Credentials.getD (i-1) default).Handle>=a.Credentials[i].Handle)<;>cases(eP a.Credentials[i].Public==0)<;>cases bI a.Credentials[i].Counter 0 1000000<;>cases(a.Credentials.take i).any (λq=>q.Public==a.Credentials[i].Public)<;>rfl
 ·rw[show decide ((i:Int)>0)=false by simpa using h0,au h0]
  simp only[bd_s]
  cases bI a.Credentials[i].Handle 0 1000000<;>cases(eP a.Credentials[i].Public==0)<;>cases bI a.Credentials[i].Counter 0 1000000<;>cases(a.Credentials.take i).any (λq=>q.Public==a.Credentials[i].Public)<;>rfl
def Jc (a:D.aAH)(h:a.sz<=34359738368):qH a=some (aZ a):=by
 simp only[D.aAH.sz] at h
 unfold qH aZ
 rw[iH (l:=a.Credentials) (rU a) (.inl false) (.inr ()) (by omega) (λrec i hi=>by
  simp only[dL hi,ae,aM hi,bd_s]
  rw[aJv a.Credentials a.Credentials[i].Public i (by omega) h (λrec j hj=>by simp only[dL hj,ae,aM (show j<a.Credentials.length by omega),bd_s]) (λrec=>by simp only[dP,ab])]
  have:=aVf a h i hi (X:=nx (some (bif (a.Credentials.take i).any (λq=>q.Public==a.Credentials[i].Public) then Sum.inl (Sum.inl false) else Sum.inr PUnit.unit)) λ_=>rec (i+1)) (r:=some (.inl false)) (K:=rec (i+1)) (by cases(a.Credentials.take i).any _<;>rfl)
  rw[<-this]
  simp only[bd_s]
  generalize(bif !bI a.Credentials[i].Handle 0 1000000 then _ else _:Option Bool)=q
  cases q with
  |none=>rfl
  |some b=>cases b<;>rfl) (λrec=>by simp only[dP,ab])]
 rw[show decide ((a.Credentials.length:Int)<=8)=decide (a.Credentials.length<=8) from cD.2 (by omega)]
 cases bI a.Id 0 1000000<;>cases bI a.Minimum 1 3<;>cases decide (a.Credentials.length<=8)<;>cases gL (rU a) 0 a.Credentials<;>rfl
def Jd (a:D.aAH)(h:a.sz<=34359738368):qP a=some (aZ a):=by
 simp only[D.aAH.sz] at h
 unfold qP aZ
 rw[iH (l:=a.Credentials) (rU a) (.inl false) (.inr ()) (by omega) (λrec i hi=>by
  have ht:(a.Credentials.take i).length=i:=by rw[bz];omega
  simp only[dL hi,ae,aM hi,bd_s,aRe]
  rw[aB (show jH a.Credentials (i:Int) by unfold jH;omega)]
  rw[aJv a.Credentials a.Credentials[i].Public i (by omega) h (λrec j hj=>by simp only[ht,dL hj,ae,aM (show j<(a.Credentials.take i).length by omega),bd_s,gp]) (λrec=>by simp only[ht,dP,ab])]
  have:=aVf a h i hi (X:=nx (some (bif (a.Credentials.take i).any (λq=>q.Public==a.Credentials[i].Public) then Sum.inl (Sum.inl false) else Sum.inr PUnit.unit)) λ_=>rec (i+1)) (r:=some (.inl false)) (K:=rec (i+1)) (by cases(a.Credentials.take i).any _<;>rfl)
  rw[<-this]
  simp only[bd_s]
  generalize(bif !bI a.Credentials[i].Handle 0 1000000 then _ else _:Option Bool)=q
  cases q with
  |none=>rfl
  |some b=>cases b<;>rfl) (λrec=>by simp only[dP,ab])]
 rw[show decide ((a.Credentials.length:Int)>8)= !decide (a.Credentials.length<=8) by rw[<-decide_not];exact cD.2 (by omega)]
 cases bI a.Id 0 1000000<;>cases bI a.Minimum 1 3<;>cases decide (a.Credentials.length<=8)<;>cases gL (rU a) 0 a.Credentials<;>rfl
def rJ (s:ByteArray)(hs:s.size<=34359738368):∀(n f i st:Nat) (acc:List ByteArray),s.size-i=n->n+1<f->st<=i->i<=s.size->acc.length<=i->bU f (λrec1 (i1:(List ByteArray×Int×Int))=>bif (decide (i1.2.2<=(↑s.size:Int))) then(bd (bd (bif (i1.2.2==(↑s.size:Int)) then(some (true)) else(bd (bA (bQ s) (i1.2.2)) λz4=>some (z4==(46:Int)))) λz3=>bif z3 then(gd (tZ s i1.2.1 i1.2.2) (gd (aW i1.1 [s.extract i1.2.1.toNat i1.2.2.toNat]) (some ((i1.1++[s.extract i1.2.1.toNat i1.2.2.toNat],IntKind.i64.wrap (i1.2.2+(1:Int))))))) else(some (i1.1,i1.2.1))) λ(z2:List ByteArray×Int)=>rec1 ((z2.1,z2.2,IntKind.i64.wrap (i1.2.2+(1:Int))))) else(some (i1.1))) (acc,(st:Int),(i:Int))=some (acc++(iK ((s.data.toList.drop st).take (i-st)) (s.data.toList.drop i)).map λl=>(⟨l.toArray⟩:ByteArray))
 |n,f+1,i,st,acc,hn,hf,h1,h2,h3=>by
  rw[gX]
  have e0:decide ((i:Int)<=(s.size:Int))=true:=by simpa using(show(i:Int)<=(s.size:Int) by omega)
  have es:tZ s (st:Int) (i:Int):=⟨by omega,by omega,by omega⟩
  have ea:aW acc ([s.extract (st:Int).toNat (i:Int).toNat]:List ByteArray):=by unfold aW;simp;omega
  have ew:IntKind.i64.wrap ((i:Int)+1)=((i+1:Nat):Int):=by rw[aI (by omega) (by omega)];omega
  simp only[e0,ae]
  rcases fx i s.size with hlt|hge
  ·have e1:((i:Int)==(s.size:Int))=false:=by simp;omega
   have hd:s.data.toList.drop i=s.data.toList[i]'hlt::s.data.toList.drop (i+1):=(co hlt)
   have hb:(bQ s)[i]'(by rw[jJ];exact hlt)=((s.data.toList[i]'hlt).toNat:Int):=by simp[bQ]
   have hq:(((s.data.toList[i]'hlt).toNat:Int)==46)=(s.data.toList[i]'hlt==46):=by
    rw[eR];simp only[cI]
    constructor
    ·intro q;apply UInt8.toNat_inj.1;show _=46;omega
    ·intro q;rw[q];rfl
   rw[e1,ab,aT7 hlt,bd_s,bd_s,hb,hq,hd,iK]
   cases hc:(s.data.toList[i]'hlt==46) with
   |true=>
    rw[ae,aB es,aB ea,bd_s]
    dsimp only
    rw[ew,ae,rJ s hs (n-1) f (i+1) (i+1) _ (by omega) (by omega) (aj _) (by omega) (by simp;omega),cm,cm,ext_list]
    simp
   |false=>
    rw[ab,bd_s]
    dsimp only
    rw[ew,ab,rJ s hs (n-1) f (i+1) st _ (by omega) (by omega) (by omega) (by omega) (by omega)]
    have:(s.data.toList.drop st).take (i+1-st)=(s.data.toList.drop st).take (i-st)++[s.data.toList[i]'hlt]:=by
     rw[show i+1-st=(i-st)+1 by omega,fg,eg,show st+(i-st)=i by omega,ac hlt];rfl
    rw[this]
  ·have e1:((i:Int)==(s.size:Int))=true:=by simp;omega
   obtain⟨f,rfl⟩:∃g,f=g+1:=⟨f-1,by omega⟩
   have hz:s.data.toList.length<=i:=by have:s.data.toList.length=s.size:=rfl;omega
   have e2:decide (((i+1:Nat):Int)<=(s.size:Int))=false:=by simp;omega
   rw[e1,ae,bd_s,ae,aB es,aB ea,bd_s,gX]
   dsimp only
   rw[ew]
   simp only[e2,ab]
   rw[fR hz,iK,cm,cm,ext_list];rfl
def aFa (s:ByteArray)(h:s.size<=34359738368):Hq s=some (bF s):=by
 unfold Hq
 have hf:=fO
 have:=rJ s h s.size FUEL 0 0 [] rfl (by omega) (aj _) (cw _) (aj _)
 rw[show(0:Int)=((0:Nat):Int) from rfl]
 refine(congrArg (λx=>bd x some) this).trans ?_
 simp[bF]
def aJw (s:ByteArray)(h:s.size<=34359738368):Ml s=some (sI s):=by
 unfold Ml sI
 have hb:=jJ s
 rw[mJ (l:=bQ s) (λb=> !F8 b) (.inl false) (.inr ()) (by omega) (λrec i hi=>by
  have hi':i<s.size:=by omega
  simp only[dL hi',ae,aT7 hi',bd_s]
  generalize(bQ s)[i]'_=b
  unfold F8 bI
  have c1:decide (b>=97)=decide (97<=b):=rfl
  have c2:decide (b>=48)=decide (48<=b):=rfl
  rw[c1,c2]
  cases decide (97<=b)<;>cases decide (b<=122)<;>cases decide (48<=b)<;>cases decide (b<=57)<;>cases(b==45)<;>rfl) (λrec=>by simp only[hb,dP,ab])]
 have e:bI (s.size:Int) 1 20=(decide (1<=s.size)&&decide (s.size<=20)):=by unfold bI;congr 1<;>exact cD.2 (by omega)
 rw[e]
 by_cases h0:0<s.size
 ·rw[show(0:Int)=((0:Nat):Int) from rfl,aT7 h0,aI (by omega) (by omega),show(s.size:Int)-1=((s.size-1:Nat):Int) by omega,aT7 (show s.size-1<s.size by omega)]
  simp only[bd_s,bne,List.getD,ac (show 0<(bQ s).length by rw[jJ];exact h0),ac (show s.size-1<(bQ s).length by rw[jJ];omega),cE]
  cases((bQ s)[0]'_==45)<;>cases((bQ s)[s.size-1]'_==45)<;>cases decide (1<=s.size)<;>cases decide (s.size<=20)<;>cases(bQ s).any _<;>rfl
 ·rw[show decide (1<=s.size)=false from au (by omega)]
  cases(bQ s).any _<;>rfl
def aMv (s:ByteArray)(h:s.size<=34359738368):Ui s=some (fE s):=by
 unfold Ui fE
 have hl:=Lj s
 simp only[aB h,bd_s]
 rw[mJ (l:=bF s) (λl=> !sI l) (.inl false) (.inr ()) (by omega) (λrec i hi=>by
  have hz:(bF s)[i].size<=34359738368:=bq (vG s _ (cN _)) h
  simp only[dL hi,ae,aM hi,bd_s,aB hz]) (λrec=>by simp only[dP,ab])]
 have e':decide ((s.size:Int)<=60)=decide (s.size<=60):=cD.2 (by omega)
 rw[e']
 cases decide (s.size<=60)<;>cases(bF s).any _<;>rfl
def aMw (s:ByteArray):Ut s=some (fE s):=by
 unfold Ut fE
 by_cases h60:s.size<=60
 ·have hl:=Lj s
  rw[show decide ((s.size:Int)>60)=false from au (by omega),ab,aB (show s.size<4294967281/\1<=(⟨#[UInt8.ofNat 46]⟩:ByteArray).size from⟨by omega,aj _⟩),bd_s]
  have es:jT s ⟨#[UInt8.ofNat 46]⟩=bF s:=aH7 s
  rw[es]
  rw[mJ (l:=bF s) (λl=> !sI l) (.inl false) (.inr ()) (by omega) (λrec i hi=>by
   have hz:(bF s)[i].size<=60:=bq (vG s _ (cN _)) h60
   simp only[dL hi,ae,aM hi,bd_s]
   revert hz
   generalize(bF s)[i]=l
   intro hz
   have hb:=jJ l
   rw[mJ (l:=bQ l) (λb=> !F8 b) (.inl (.inl false)) (.inr ()) (by omega) (λrec i hi=>by
    have hi':i<l.size:=by omega
    simp only[dL hi',ae,aT7 hi',bd_s]
    generalize(bQ l)[i]'_=b
    unfold F8 bI
    have c1:decide (b>=97)=decide (97<=b):=rfl
    have c2:decide (b>=48)=decide (48<=b):=rfl
    rw[c1,c2]
    cases decide (97<=b)<;>cases decide (b<=122)<;>cases decide (48<=b)<;>cases decide (b<=57)<;>cases(b==45)<;>rfl) (λrec=>by simp only[hb,dP,ab])]
   unfold sI
   by_cases h0:0<l.size
   ·rw[show(0:Int)=((0:Nat):Int) from rfl,aT7 h0,aI (by omega) (by omega),show(l.size:Int)-1=((l.size-1:Nat):Int) by omega,aT7 (show l.size-1<l.size by omega)]
    have e1:decide ((l.size:Int)<1)= !decide (1<=l.size):=by rw[<-decide_not];exact cD.2 (by omega)
    have e2:decide ((l.size:Int)>20)= !decide (l.size<=20):=by rw[<-decide_not];exact cD.2 (by omega)
    rw[e1,e2]
    simp only[bd_s,bne,List.getD,ac (show 0<(bQ l).length by rw[jJ];exact h0),ac (show l.size-1<(bQ l).length by rw[jJ];omega),cE]
    cases((bQ l)[0]'_==45)<;>cases((bQ l)[l.size-1]'_==45)<;>cases decide (1<=l.size)<;>cases decide (l.size<=20)<;>cases(bQ l).any _<;>rfl
   ·rw[show decide ((l.size:Int)<1)=true from ao (by omega),show decide (1<=l.size)=false from au (by omega)]
    rfl) (λrec=>by simp only[dP,ab])]
  rw[show decide (s.size<=60)=true by simpa using h60]
  cases(bF s).any _<;>rfl
 ·rw[show decide ((s.size:Int)>60)=true from ao (by omega),show decide (s.size<=60)=false by simpa using h60];rfl
def Wm (s:ByteArray):xL s=some (bBg s):=by
 unfold xL bBg
 cases h:fE s with
 |false=>rfl
 |true=>
  have hs:=Ll h
  have hp:=aD3 s
  have es:jT s ⟨#[UInt8.ofNat 46]⟩=bF s:=aH7 s
  rw[bf,ab,ae,aB (show s.size<4294967281/\1<=(⟨#[UInt8.ofNat 46]⟩:ByteArray).size from⟨by omega,aj _⟩),bd_s,es]
  rw[show(((bF s).length:Int)==1)=((bF s).length==1) by rw[eR];simp only[cI];omega]
  cases h1:(bF s).length==1 with
  |true=>rfl
  |false=>
   have h2:(bF s).length≠1:=by simpa using h1
   have hl:=Lj s
   obtain⟨a,ha,b,hb,e⟩:=bJp (l:=bF s) (by omega)
   have ha:=vG s a ha
   have hb:=vG s b hb
   rw[ab,ab,aI (by omega) (by omega),show((bF s).length:Int)-2=(((bF s).length-2:Nat):Int) by omega,cm]
   have hd:((bF s).drop ((bF s).length-2)).length=2:=by rw[ck];omega
   have hj:(nW ⟨#[UInt8.ofNat 46]⟩ ((bF s).drop ((bF s).length-2))).size<=140737488355328:=by
    have e:nW ⟨#[UInt8.ofNat 46]⟩ ((bF s).drop ((bF s).length-2))=_:=e
    rw[e,ByteArray.size_append,ByteArray.size_append]
    have:(⟨#[46]⟩:ByteArray).size=1:=rfl
    omega
   rw[aB (show jH (bF s) (((bF s).length-2:Nat):Int) by unfold jH;omega),aB ⟨by omega,hj,by omega⟩]
   rfl
def aMx (s:ByteArray)(h:s.size<=9223372036854775807):Uu s=some (Qk s):=by
 unfold Uu Qk
 have hb:=jJ s
 rw[mJ (l:=bQ s) (λb=>b==46) (.inl true) (.inr ()) (by omega) (λrec i hi=>by
  have hi':i<s.size:=by omega
  simp only[dL hi',ae,aT7 hi',bd_s]) (λrec=>by simp only[hb,dP,ab])]
 cases(bQ s).any _<;>rfl
def Wn (n:ByteArray)(seed:Int)(h:n.size<=9223372036854775807):xM n seed=some (jC n seed):=by
 unfold xM jC
 simp only[aB h,bd_s]
 rw[bNn,aMh]
 cases h:fE n with
 |false=>rfl
 |true=>rw[bH1 h];cases decide (2<=(bF n).length)<;>cases bG seed<;>rfl
def aJx (n:ByteArray)(seed:Int)(h:n.size<=34359738368):Mo n seed=some (eZ n seed):=by
 unfold Mo eZ jC
 have e:decide (((bF n).length:Int)<2)= !decide (2<=(bF n).length):=by rw[<-decide_not];exact cD.2 (by omega)
 simp only[aB h,bd_s,e]
 cases fE n<;>cases decide (2<=(bF n).length)<;>cases bG seed<;>rfl
def Wp (s:D.Site)(h:s.sz<=34359738368):wV s=some (dE s):=by
 simp only[D.Site.sz] at h
 unfold wV dE
 rw[iH (l:=s.Accounts) (Gb s.Accounts) (.inl false) (.inr ()) (by omega) (λrec i hi=>by
  have hz:=jA (f:=D.aAH.sz) hi
  simp only[dL hi,ae,aM hi,bd_s,aB (show s.Accounts[i].sz<=34359738368 by omega)]
  unfold Gb
  by_cases h0:0<i
  ·rw[Lh h0 hi (by omega),show decide ((i:Int)>0)=true by simpa using h0,ao h0]
   simp only[bd_s]
   cases aZ s.Accounts[i]<;>cases decide ((s.Accounts.getD (i-1) default).Id>=s.Accounts[i].Id)<;>rfl
  ·rw[show decide ((i:Int)>0)=false by simpa using h0,au h0]
   cases aZ s.Accounts[i]<;>rfl) (λrec=>by simp only[dP,ab])]
 rw[show decide ((s.Accounts.length:Int)<=8)=decide (s.Accounts.length<=8) from cD.2 (by omega)]
 have e3:(!((eZ s.Name s.Book.Seed).Name.toList==(⟨#[]⟩:ByteArray).toList))=jC s.Name s.Book.Seed:=by rw[bNn,aWx,Bool.not_not]
 simp only[aB (show s.Name.size<=34359738368 by omega),aB (show s.Book.sz<=34359738368 by simp only[D.aAD.sz];omega),bd_s,e3]
 cases jC s.Name s.Book.Seed<;>cases decide (s.Accounts.length<=8)<;>cases dW s.Book<;>cases gL (Gb s.Accounts) 0 s.Accounts<;>rfl
def Wq (s:D.Site)(h:s.sz<=34359738368):xO s=some (dE s):=by
 simp only[D.Site.sz] at h
 unfold xO dE
 rw[iH (l:=s.Accounts) (Gb s.Accounts) (.inl false) (.inr ()) (by omega) (λrec i hi=>by
  have hz:=jA (f:=D.aAH.sz) hi
  simp only[dL hi,ae,aM hi,bd_s,aB (show s.Accounts[i].sz<=34359738368 by omega)]
  unfold Gb
  by_cases h0:0<i
  ·rw[Lh h0 hi (by omega),show decide ((i:Int)>0)=true by simpa using h0,ao h0]
   simp only[bd_s]
   cases aZ s.Accounts[i]<;>cases decide ((s.Accounts.getD (i-1) default).Id>=s.Accounts[i].Id)<;>rfl
  ·rw[show decide ((i:Int)>0)=false by simpa using h0,au h0]
   cases aZ s.Accounts[i]<;>rfl) (λrec=>by simp only[dP,ab])]
 rw[show decide ((s.Accounts.length:Int)>8)= !decide (s.Accounts.length<=8) by rw[<-decide_not];exact cD.2 (by omega)]
 simp only[aB (show s.Name.size<=9223372036854775807 by omega),aB (show s.Book.sz<=34359738368 by simp only[D.aAD.sz];omega),bd_s]
 cases jC s.Name s.Book.Seed<;>cases decide (s.Accounts.length<=8)<;>cases dW s.Book<;>cases gL (Gb s.Accounts) 0 s.Accounts<;>rfl
def aJy (l:List D.aAC)(e:D.aAC)(h:l.length<=34359738368):Mh l e=some (lD l e):=by
 unfold Mh lD
 have hd:=iD l
 rw[mJ (l:=l) (λq=>q.Kind==2&&q.Device==e.Device) (.inl false) (.inr ()) (by omega) (λrec i hi=>by
  simp only[dL hi,ae,aM hi,bd_s,lF];cases(l[i].Kind==2)<;>rfl) (λrec=>by simp only[dP,ab])]
 rw[show(l.any λq=>q.Kind==2&&q.Device==e.Device)=iJ l e.Device from rfl]
 simp only[aB h,aB (show(aD l).length<=1099511627776 by omega),aB (show([bY e]:List Int).length<=34359738300 by simp),bd_s,bne]
 cases(e.Index==(l.length:Int))<;>cases(e.Previous==fQ l)<;>cases gM (aD l) e.By<;>cases((l.length:Int)==0)<;>cases(e.By==e.Device)<;>cases gB e.By [bY e] e.Signature<;>cases(e.Kind==2)<;>cases gM (aD l) e.Device<;>cases iJ l e.Device<;>cases(e.Kind==1)<;>rfl
def aBu (l:List D.aAC)(h:l.length<=34359738368):Cy l=some (bC l):=by
 unfold Cy bC
 rw[iH (l:=l) (λi e=> !lD (l.take i) e) (.inl false) (.inr ()) (by omega) (λrec i hi=>by
  simp only[dL hi,ae,aM hi,bd_s,aRe]
  rw[aB (by unfold jH;simp;omega),aB (by rw[bz];omega)];rfl) (λrec=>by simp only[dP,ab])]
 cases gL (λi e=> !lD (l.take i) e) 0 l<;>simp
def aBv (l:List D.aAC)(h:l.length<=34359738368):Dx l=some (bC l):=by
 unfold Dx bC
 rw[iH (l:=l) (λi e=> !lD (l.take i) e) (.inl false) (.inr ()) (by omega) (λrec i hi=>by
  have ht:(l.take i).length=i:=by rw[bz];omega
  have hb:(l.take i).length<=34359738368:=by omega
  have hd:=iD (l.take i)
  simp only[dL hi,ae,aM hi,bd_s,aRe,aB (show jH l (i:Int) by unfold jH;omega),aB hb,aB (show(aD (l.take i)).length<=1099511627776 by omega),aB (show([bY l[i]]:List Int).length<=34359738300 by simp)]
  unfold lD
  rw[ht]
  generalize l[i]=e
  have h1:decide (((aD (l.take i)).length:Int)>=6)= !decide (((aD (l.take i)).length:Int)<6):=by rw[<-decide_not];exact cD.2 (by omega)
  have h2:gM (aD (l.take i)) e.Device=true->decide (((aD (l.take i)).length:Int)>1)= !(((aD (l.take i)).length:Int)==1):=λhh=>by
   have:=bE1 hh
   rw[<-Bool.decide_eq_true (b:=(((aD (l.take i)).length:Int)==1)),<-decide_not]
   exact cD.2 (by simp;omega)
  simp only[h1,bne]
  cases h3:(e.Kind==2) with
  |true=>
   have h4:(e.Kind==1)=false:=by simp at h3 ⊢;omega
   rw[h4]
   cases hd:gM (aD (l.take i)) e.Device with
   |true=>
    rw[h2 hd]
    cases(e.Index==(i:Int))<;>cases(e.Previous==fQ (l.take i))<;>cases gM (aD (l.take i)) e.By<;>cases((i:Int)==0)<;>cases(e.By==e.Device)<;>cases gB e.By [bY e] e.Signature<;>cases(((aD (l.take i)).length:Int)==1)<;>rfl
   |false=>cases(e.Index==(i:Int))<;>cases(e.Previous==fQ (l.take i))<;>cases gM (aD (l.take i)) e.By<;>cases((i:Int)==0)<;>cases(e.By==e.Device)<;>cases gB e.By [bY e] e.Signature<;>rfl
  |false=>
   cases(e.Kind==1) with
   |true=>cases(e.Index==(i:Int))<;>cases(e.Previous==fQ (l.take i))<;>cases gM (aD (l.take i)) e.By<;>cases((i:Int)==0)<;>cases(e.By==e.Device)<;>cases gB e.By [bY e] e.Signature<;>cases gM (aD (l.take i)) e.Device<;>cases iJ (l.take i) e.Device<;>cases decide (((aD (l.take i)).length:Int)<6)<;>rfl
   |false=>cases(e.Index==(i:Int))<;>cases(e.Previous==fQ (l.take i))<;>cases gM (aD (l.take i)) e.By<;>cases((i:Int)==0)<;>cases(e.By==e.Device)<;>cases gB e.By [bY e] e.Signature<;>cases iJ (l.take i) e.Device<;>rfl) (λrec=>by simp only[dP,ab])]
 unfold bI
 have e1:decide ((l.length:Int)<1)= !decide (1<=(l.length:Int)):=by rw[<-decide_not];exact cD.2 (by omega)
 have e2:decide ((l.length:Int)>40)= !decide ((l.length:Int)<=40):=by rw[<-decide_not];exact cD.2 (by omega)
 rw[e1,e2]
 cases decide (1<=(l.length:Int))<;>cases decide ((l.length:Int)<=40)<;>cases gL (λi e=> !lD (l.take i) e) 0 l<;>rfl
def Re (w:D.World)(h:w.sz<=34359738368):uJ w=some (aV w):=by
 simp only[D.World.sz] at h
 unfold uJ aV
 rw[iH (l:=w.Sites) kN (.inl false) (.inr ()) (by omega) (λrec i hi=>by
  have hz:=jA (f:=D.Site.sz) hi
  simp only[dL hi,ae,aM hi,bd_s,aB (show w.Sites[i].sz<=34359738368 by omega)]
  unfold kN
  cases dE w.Sites[i]<;>cases(w.Sites[i].Name.toList==(aA (i:Int)).toList)<;>rfl) (λrec=>by simp only[dP,ab])]
 simp only[aB (show w.Mail.sz<=34359738368 by simp only[D.aAJ.sz];omega),aB (show w.aAB.Log.length<=34359738368 by omega),bne,bd_s]
 cases gL kN 0 w.Sites<;>cases bI w.Now 0 999900<;>cases bI (w.Devices.length:Int) 1 6<;>cases((w.Stolen.length:Int)==(w.Devices.length:Int))<;>cases((w.Sites.length:Int)==2)<;>cases dV w.Mail<;>cases bC w.aAB.Log<;>cases bG w.Seed<;>rfl
def Rf (w:D.World)(h:w.sz<=34359738368):uN w=some (aV w):=by
 simp only[D.World.sz] at h
 unfold uN aV
 rw[iH (l:=w.Sites) kN (.inl false) (.inr ()) (by omega) (λrec i hi=>by
  have hz:=jA (f:=D.Site.sz) hi
  simp only[dL hi,ae,aM hi,bd_s,aB (show w.Sites[i].sz<=34359738368 by omega)]
  unfold kN
  cases dE w.Sites[i]<;>cases(w.Sites[i].Name.toList==(aA (i:Int)).toList)<;>rfl) (λrec=>by simp only[dP,ab])]
 simp only[aB (show w.Mail.sz<=34359738368 by simp only[D.aAJ.sz];omega),aB (show w.aAB.Log.length<=34359738368 by omega),bne,bd_s]
 cases gL kN 0 w.Sites<;>cases bI w.Now 0 999900<;>cases bI (w.Devices.length:Int) 1 6<;>cases((w.Stolen.length:Int)==(w.Devices.length:Int))<;>cases((w.Sites.length:Int)==2)<;>cases dV w.Mail<;>cases bC w.aAB.Log<;>cases bG w.Seed<;>rfl
end
end Go.VK
