import Derived.Test.YtjmlamaddedhlaaGreatDoorXrPf
import Derived.Test.YtjmlamaddedhlaaGreatDoorXrM
/- Printed by wip/tools: models, walks, proofs. -/
set_option linter.all false
set_option maxRecDepth 100000
set_option maxHeartbeats 4000000
namespace Go.VK
open Go.RowKit Go.Proofs
noncomputable section
open EV (bO)
def aH4 (l:List D.aAJ)(p:Int)(i:Nat)(hi:i<=l.length)(h:l.length<=34359738368){F:(Nat->Option ((Bool⊕PUnit)⊕PUnit))->Nat->Option ((Bool⊕PUnit)⊕PUnit)}(hF:∀rec j (hj:j<i),F rec j=bif (l[j]'(by omega)).Public==p then some (.inl (.inl false)) else rec (j+1))(hE:∀rec,F rec i=some (.inr ())):
  bO FUEL F 0=some (bif (l.take i).any (λq=>q.Public==p) then .inl (.inl false) else .inr ()):=by
 have ht:(l.take i).length=i:=by rw[ci];omega
 exact jV (l:=l.take i) (λq=>q.Public==p) _ _ (by omega) (λrec j hj=>by rw[hF rec j (by omega),gl]) (λrec=>by rw[ht];exact hE rec)
def aR9 (a:D.aAG)(h:a.Credentials.length<=34359738368)(i:Nat)(hi:i<a.Credentials.length){τ:Type}{X:Option τ}{r:Option τ}{K:Option τ}(hX:X=bif (a.Credentials.take i).any (λq=>q.Public==a.Credentials[i].Public) then r else K):
  (bd (bif (!bE a.Credentials[i].Handle (0:Int) (1000000:Int)) then(some (true)) else(bif (decide ((↑i:Int)>(0:Int))) then(bd (aZ (a.Credentials) (IntKind.i64.wrap ((↑i:Int)-(1:Int)))) λz5=>bif (decide (z5.Handle>=a.Credentials[i].Handle)) then(some (true)) else(bd (some (dL a.Credentials[i].Public)) λz6=>bif (z6==(0:Int)) then(some (true)) else(some (!bE a.Credentials[i].Counter (0:Int) (1000000:Int))))) else(bd (some (dL a.Credentials[i].Public)) λz5=>bif (z5==(0:Int)) then(some (true)) else(some (!bE a.Credentials[i].Counter (0:Int) (1000000:Int)))))) λz4=>bif z4 then r else X)=bif pE a i a.Credentials[i] then r else K:=by
 rw[hX];unfold pE
 by_cases h0:0<i
 ·rw[Hm h0 hi h,show decide ((i:Int)>0)=true by simpa using h0,ap h0]
  simp only[bd_s]
  cases bE a.Credentials[i].Handle 0 1000000<;>cases decide ((a.Credentials.getD (i-1) default).Handle>=a.Credentials[i].Handle)<;>cases(dL a.Credentials[i].Public==0)<;>cases bE a.Credentials[i].Counter 0 1000000<;>cases(a.Credentials.take i).any (λq=>q.Public==a.Credentials[i].Public)<;>rfl
 ·rw[show decide ((i:Int)>0)=false by simpa using h0,aq h0]
  simp only[bd_s]
  cases bE a.Credentials[i].Handle 0 1000000<;>cases(dL a.Credentials[i].Public==0)<;>cases bE a.Credentials[i].Counter 0 1000000<;>cases(a.Credentials.take i).any (λq=>q.Public==a.Credentials[i].Public)<;>rfl
def Fb (a:D.aAG)(h:a.sz<=34359738368):nU a=some (aU a):=by
 simp only[D.aAG.sz] at h
 unfold nU aU
 rw[iR (l:=a.Credentials) (pE a) (.inl false) (.inr ()) (by omega) (λrec i hi=>by
  simp only[bY hi,ae,aK hi,bd_s]
  rw[aH4 a.Credentials a.Credentials[i].Public i (by omega) h (λrec j hj=>by simp only[bY hj,ae,aK (show j<a.Credentials.length by omega),bd_s]) (λrec=>by simp only[cB,ac])]
  have:=aR9 a h i hi (X:=nx (some (bif (a.Credentials.take i).any (λq=>q.Public==a.Credentials[i].Public) then Sum.inl (Sum.inl false) else Sum.inr PUnit.unit)) λ_=>rec (i+1)) (r:=some (.inl false)) (K:=rec (i+1)) (by cases(a.Credentials.take i).any _<;>rfl)
  rw[<-this]
  simp only[bd_s]
  generalize(bif !bE a.Credentials[i].Handle 0 1000000 then _ else _:Option Bool)=q
  cases q with
  |none=>rfl
  |some b=>cases b<;>rfl) (λrec=>by simp only[cB,ac])]
 rw[show decide ((a.Credentials.length:Int)<=8)=decide (a.Credentials.length<=8) from cu.2 (by omega)]
 cases bE a.Id 0 1000000<;>cases bE a.Minimum 1 3<;>cases decide (a.Credentials.length<=8)<;>cases fD (pE a) 0 a.Credentials<;>rfl
def Fe (a:D.aAG)(h:a.sz<=34359738368):nP a=some (aU a):=by
 simp only[D.aAG.sz] at h
 unfold nP aU
 rw[iR (l:=a.Credentials) (pE a) (.inl false) (.inr ()) (by omega) (λrec i hi=>by
  have ht:(a.Credentials.take i).length=i:=by rw[ci];omega
  simp only[bY hi,ae,aK hi,bd_s,aFc]
  rw[aA (show jF a.Credentials (i:Int) by unfold jF;omega)]
  rw[aH4 a.Credentials a.Credentials[i].Public i (by omega) h (λrec j hj=>by simp only[ht,bY hj,ae,aK (show j<(a.Credentials.take i).length by omega),bd_s,gl]) (λrec=>by simp only[ht,cB,ac])]
  have:=aR9 a h i hi (X:=nx (some (bif (a.Credentials.take i).any (λq=>q.Public==a.Credentials[i].Public) then Sum.inl (Sum.inl false) else Sum.inr PUnit.unit)) λ_=>rec (i+1)) (r:=some (.inl false)) (K:=rec (i+1)) (by cases(a.Credentials.take i).any _<;>rfl)
  rw[<-this]
  simp only[bd_s]
  generalize(bif !bE a.Credentials[i].Handle 0 1000000 then _ else _:Option Bool)=q
  cases q with
  |none=>rfl
  |some b=>cases b<;>rfl) (λrec=>by simp only[cB,ac])]
 rw[show decide ((a.Credentials.length:Int)>8)= !decide (a.Credentials.length<=8) by rw[<-decide_not];exact cu.2 (by omega)]
 cases bE a.Id 0 1000000<;>cases bE a.Minimum 1 3<;>cases decide (a.Credentials.length<=8)<;>cases fD (pE a) 0 a.Credentials<;>rfl
def oN (s:ByteArray)(hs:s.size<=34359738368):∀(n f i st:Nat) (acc:List ByteArray),s.size-i=n->n+1<f->st<=i->i<=s.size->acc.length<=i->bO f (λrec1 (i1:(List ByteArray×Int×Int))=>bif (decide (i1.2.2<=(↑s.size:Int))) then(bd (bd (bif (i1.2.2==(↑s.size:Int)) then(some (true)) else(bd (aZ (bI s) (i1.2.2)) λz4=>some (z4==(46:Int)))) λz3=>bif z3 then(gd (Pk s i1.2.1 i1.2.2) (gd (aS i1.1 [s.extract i1.2.1.toNat i1.2.2.toNat]) (some ((i1.1++[s.extract i1.2.1.toNat i1.2.2.toNat],IntKind.i64.wrap (i1.2.2+(1:Int))))))) else(some (i1.1,i1.2.1))) λ(z2:List ByteArray×Int)=>rec1 ((z2.1,z2.2,IntKind.i64.wrap (i1.2.2+(1:Int))))) else(some (i1.1))) (acc,(st:Int),(i:Int))=some (acc++(gG ((s.data.toList.drop st).take (i-st)) (s.data.toList.drop i)).map λl=>(⟨l.toArray⟩:ByteArray))
 |n,f+1,i,st,acc,hn,hf,h1,h2,h3=>by
  rw[iT]
  have e0:decide ((i:Int)<=(s.size:Int))=true:=by simpa using(show(i:Int)<=(s.size:Int) by omega)
  have es:Pk s (st:Int) (i:Int):=⟨by omega,by omega,by omega⟩
  have ea:aS acc ([s.extract (st:Int).toNat (i:Int).toNat]:List ByteArray):=by unfold aS;simp;omega
  have ew:IntKind.i64.wrap ((i:Int)+1)=((i+1:Nat):Int):=by rw[aH (by omega) (by omega)];omega
  simp only[e0,ae]
  rcases fc i s.size with hlt|hge
  ·have e1:((i:Int)==(s.size:Int))=false:=by simp;omega
   have hd:s.data.toList.drop i=s.data.toList[i]'hlt::s.data.toList.drop (i+1):=(cj hlt)
   have hb:(bI s)[i]'(by rw[gH];exact hlt)=((s.data.toList[i]'hlt).toNat:Int):=by simp[bI]
   have hq:(((s.data.toList[i]'hlt).toNat:Int)==46)=(s.data.toList[i]'hlt==46):=by
    rw[eu];simp only[cF]
    constructor
    ·intro q;apply UInt8.toNat_inj.1;show _=46;omega
    ·intro q;rw[q];rfl
   rw[e1,ac,aQ6 hlt,bd_s,bd_s,hb,hq,hd,gG]
   cases hc:(s.data.toList[i]'hlt==46) with
   |true=>
    rw[ae,aA es,aA ea,bd_s]
    dsimp only
    rw[ew,ae,oN s hs (n-1) f (i+1) (i+1) _ (by omega) (by omega) (ak _) (by omega) (by simp;omega),bp,bp,ext_list]
    simp
   |false=>
    rw[ac,bd_s]
    dsimp only
    rw[ew,ac,oN s hs (n-1) f (i+1) st _ (by omega) (by omega) (by omega) (by omega) (by omega)]
    have:(s.data.toList.drop st).take (i+1-st)=(s.data.toList.drop st).take (i-st)++[s.data.toList[i]'hlt]:=by
     rw[show i+1-st=(i-st)+1 by omega,fp,dn,show st+(i-st)=i by omega,ab hlt];rfl
    rw[this]
  ·have e1:((i:Int)==(s.size:Int))=true:=by simp;omega
   obtain⟨f,rfl⟩:∃g,f=g+1:=⟨f-1,by omega⟩
   have hz:s.data.toList.length<=i:=by have:s.data.toList.length=s.size:=rfl;omega
   have e2:decide (((i+1:Nat):Int)<=(s.size:Int))=false:=by simp;omega
   rw[e1,ae,bd_s,ae,aA es,aA ea,bd_s,iT]
   dsimp only
   rw[ew]
   simp only[e2,ac]
   rw[fv hz,gG,bp,bp,ext_list];rfl
def aDm (s:ByteArray)(h:s.size<=34359738368):Ed s=some (bD s):=by
 unfold Ed
 have hf:=fP
 have:=oN s h s.size FUEL 0 0 [] rfl (by omega) (ak _) (cn _) (ak _)
 rw[show(0:Int)=((0:Nat):Int) from rfl]
 refine(congrArg (λx=>bd x some) this).trans ?_
 simp[bD]
def aH5 (s:ByteArray)(h:s.size<=34359738368):Jg s=some (pR s):=by
 unfold Jg pR
 have hb:=gH s
 rw[jV (l:=bI s) (λb=> !Yg b) (.inl false) (.inr ()) (by omega) (λrec i hi=>by
  have hi':i<s.size:=by omega
  simp only[bY hi',ae,aQ6 hi',bd_s]
  generalize(bI s)[i]'_=b
  unfold Yg bE
  have c1:decide (b>=97)=decide (97<=b):=rfl
  have c2:decide (b>=48)=decide (48<=b):=rfl
  rw[c1,c2]
  cases decide (97<=b)<;>cases decide (b<=122)<;>cases decide (48<=b)<;>cases decide (b<=57)<;>cases(b==45)<;>rfl) (λrec=>by simp only[hb,cB,ac])]
 have e:bE (s.size:Int) 1 20=(decide (1<=s.size)&&decide (s.size<=20)):=by unfold bE;congr 1<;>exact cu.2 (by omega)
 rw[e]
 by_cases h0:0<s.size
 ·rw[show(0:Int)=((0:Nat):Int) from rfl,aQ6 h0,aH (by omega) (by omega),show(s.size:Int)-1=((s.size-1:Nat):Int) by omega,aQ6 (show s.size-1<s.size by omega)]
  simp only[bd_s,bne,List.getD,ab (show 0<(bI s).length by rw[gH];exact h0),ab (show s.size-1<(bI s).length by rw[gH];omega),cL]
  cases((bI s)[0]'_==45)<;>cases((bI s)[s.size-1]'_==45)<;>cases decide (1<=s.size)<;>cases decide (s.size<=20)<;>cases(bI s).any _<;>rfl
 ·rw[show decide (1<=s.size)=false from aq (by omega)]
  cases(bI s).any _<;>rfl
def aKy (s:ByteArray)(h:s.size<=34359738368):Qc s=some (fU s):=by
 unfold Qc fU
 have hl:=Hq s
 simp only[aA h,bd_s]
 rw[jV (l:=bD s) (λl=> !pR l) (.inl false) (.inr ()) (by omega) (λrec i hi=>by
  have hz:(bD s)[i].size<=34359738368:=bw (rU s _ (cR _)) h
  simp only[bY hi,ae,aK hi,bd_s,aA hz]) (λrec=>by simp only[cB,ac])]
 have e':decide ((s.size:Int)<=60)=decide (s.size<=60):=cu.2 (by omega)
 rw[e']
 cases decide (s.size<=60)<;>cases(bD s).any _<;>rfl
def aKz (s:ByteArray):Px s=some (fU s):=by
 unfold Px fU
 by_cases h60:s.size<=60
 ·have hl:=Hq s
  rw[show decide ((s.size:Int)>60)=false from aq (by omega),ac,aA (show s.size<4294967281/\1<=(⟨#[UInt8.ofNat 46]⟩:ByteArray).size from⟨by omega,ak _⟩),bd_s]
  have es:iQ s ⟨#[UInt8.ofNat 46]⟩=bD s:=aGt s
  rw[es]
  rw[jV (l:=bD s) (λl=> !pR l) (.inl false) (.inr ()) (by omega) (λrec i hi=>by
   have hz:(bD s)[i].size<=60:=bw (rU s _ (cR _)) h60
   simp only[bY hi,ae,aK hi,bd_s]
   revert hz
   generalize(bD s)[i]=l
   intro hz
   have hb:=gH l
   rw[jV (l:=bI l) (λb=> !Yg b) (.inl (.inl false)) (.inr ()) (by omega) (λrec i hi=>by
    have hi':i<l.size:=by omega
    simp only[bY hi',ae,aQ6 hi',bd_s]
    generalize(bI l)[i]'_=b
    unfold Yg bE
    have c1:decide (b>=97)=decide (97<=b):=rfl
    have c2:decide (b>=48)=decide (48<=b):=rfl
    rw[c1,c2]
    cases decide (97<=b)<;>cases decide (b<=122)<;>cases decide (48<=b)<;>cases decide (b<=57)<;>cases(b==45)<;>rfl) (λrec=>by simp only[hb,cB,ac])]
   unfold pR
   by_cases h0:0<l.size
   ·rw[show(0:Int)=((0:Nat):Int) from rfl,aQ6 h0,aH (by omega) (by omega),show(l.size:Int)-1=((l.size-1:Nat):Int) by omega,aQ6 (show l.size-1<l.size by omega)]
    have e1:decide ((l.size:Int)<1)= !decide (1<=l.size):=by rw[<-decide_not];exact cu.2 (by omega)
    have e2:decide ((l.size:Int)>20)= !decide (l.size<=20):=by rw[<-decide_not];exact cu.2 (by omega)
    rw[e1,e2]
    simp only[bd_s,bne,List.getD,ab (show 0<(bI l).length by rw[gH];exact h0),ab (show l.size-1<(bI l).length by rw[gH];omega),cL]
    cases((bI l)[0]'_==45)<;>cases((bI l)[l.size-1]'_==45)<;>cases decide (1<=l.size)<;>cases decide (l.size<=20)<;>cases(bI l).any _<;>rfl
   ·rw[show decide ((l.size:Int)<1)=true from ap (by omega),show decide (1<=l.size)=false from aq (by omega)]
    rfl) (λrec=>by simp only[cB,ac])]
  rw[show decide (s.size<=60)=true by simpa using h60]
  cases(bD s).any _<;>rfl
 ·rw[show decide ((s.size:Int)>60)=true from ap (by omega),show decide (s.size<=60)=false by simpa using h60];rfl
def Sd (s:ByteArray):tL s=some (aXr s):=by
 unfold tL aXr
 cases h:fU s with
 |false=>rfl
 |true=>
  have hs:=Hr h
  have hp:=aCk s
  have es:iQ s ⟨#[UInt8.ofNat 46]⟩=bD s:=aGt s
  rw[bl,ac,ae,aA (show s.size<4294967281/\1<=(⟨#[UInt8.ofNat 46]⟩:ByteArray).size from⟨by omega,ak _⟩),bd_s,es]
  rw[show(((bD s).length:Int)==1)=((bD s).length==1) by rw[eu];simp only[cF];omega]
  cases h1:(bD s).length==1 with
  |true=>rfl
  |false=>
   have h2:(bD s).length≠1:=by simpa using h1
   have hl:=Hq s
   obtain⟨a,ha,b,hb,e⟩:=bEu (l:=bD s) (by omega)
   have ha:=rU s a ha
   have hb:=rU s b hb
   rw[ac,ac,aH (by omega) (by omega),show((bD s).length:Int)-2=(((bD s).length-2:Nat):Int) by omega,bp]
   have hd:((bD s).drop ((bD s).length-2)).length=2:=by rw[cp];omega
   have hj:(lY ⟨#[UInt8.ofNat 46]⟩ ((bD s).drop ((bD s).length-2))).size<=140737488355328:=by
    have e:lY ⟨#[UInt8.ofNat 46]⟩ ((bD s).drop ((bD s).length-2))=_:=e
    rw[e,ByteArray.size_append,ByteArray.size_append]
    have:(⟨#[46]⟩:ByteArray).size=1:=rfl
    omega
   rw[aA (show jF (bD s) (((bD s).length-2:Nat):Int) by unfold jF;omega),aA ⟨by omega,hj,by omega⟩]
   rfl
def aK0 (s:ByteArray)(h:s.size<=9223372036854775807):Py s=some (Lm s):=by
 unfold Py Lm
 have hb:=gH s
 rw[jV (l:=bI s) (λb=>b==46) (.inl true) (.inr ()) (by omega) (λrec i hi=>by
  have hi':i<s.size:=by omega
  simp only[bY hi',ae,aQ6 hi',bd_s]) (λrec=>by simp only[hb,cB,ac])]
 cases(bI s).any _<;>rfl
def Sg (n:ByteArray)(seed:Int)(h:n.size<=9223372036854775807):tN n seed=some (fV n seed):=by
 unfold tN fV
 simp only[aA h,bd_s]
 rw[bI0,aKo]
 cases h:fU n with
 |false=>rfl
 |true=>rw[bDn h];cases decide (2<=(bD n).length)<;>cases bB seed<;>rfl
def aH6 (n:ByteArray)(seed:Int)(h:n.size<=34359738368):Jh n seed=some (dB n seed):=by
 unfold Jh dB fV
 have e:decide (((bD n).length:Int)<2)= !decide (2<=(bD n).length):=by rw[<-decide_not];exact cu.2 (by omega)
 simp only[aA h,bd_s,e]
 cases fU n<;>cases decide (2<=(bD n).length)<;>cases bB seed<;>rfl
def Si (s:D.Site)(h:s.sz<=34359738368):uL s=some (cO s):=by
 simp only[D.Site.sz] at h
 unfold uL cO
 rw[iR (l:=s.Accounts) (Ch s.Accounts) (.inl false) (.inr ()) (by omega) (λrec i hi=>by
  have hz:=kV (f:=D.aAG.sz) hi
  simp only[bY hi,ae,aK hi,bd_s,aA (show s.Accounts[i].sz<=34359738368 by omega)]
  unfold Ch
  by_cases h0:0<i
  ·rw[Hm h0 hi (by omega),show decide ((i:Int)>0)=true by simpa using h0,ap h0]
   simp only[bd_s]
   cases aU s.Accounts[i]<;>cases decide ((s.Accounts.getD (i-1) default).Id>=s.Accounts[i].Id)<;>rfl
  ·rw[show decide ((i:Int)>0)=false by simpa using h0,aq h0]
   cases aU s.Accounts[i]<;>rfl) (λrec=>by simp only[cB,ac])]
 rw[show decide ((s.Accounts.length:Int)<=8)=decide (s.Accounts.length<=8) from cu.2 (by omega)]
 have e3:(!((dB s.Name s.Book.Seed).Name.toList==(⟨#[]⟩:ByteArray).toList))=fV s.Name s.Book.Seed:=by rw[bI0,aTg,Bool.not_not]
 simp only[aA (show s.Name.size<=34359738368 by omega),aA (show s.Book.sz<=34359738368 by simp only[D.aAE.sz];omega),bd_s,e3]
 cases fV s.Name s.Book.Seed<;>cases decide (s.Accounts.length<=8)<;>cases gP s.Book<;>cases fD (Ch s.Accounts) 0 s.Accounts<;>rfl
def Sj (s:D.Site)(h:s.sz<=34359738368):tQ s=some (cO s):=by
 simp only[D.Site.sz] at h
 unfold tQ cO
 rw[iR (l:=s.Accounts) (Ch s.Accounts) (.inl false) (.inr ()) (by omega) (λrec i hi=>by
  have hz:=kV (f:=D.aAG.sz) hi
  simp only[bY hi,ae,aK hi,bd_s,aA (show s.Accounts[i].sz<=34359738368 by omega)]
  unfold Ch
  by_cases h0:0<i
  ·rw[Hm h0 hi (by omega),show decide ((i:Int)>0)=true by simpa using h0,ap h0]
   simp only[bd_s]
   cases aU s.Accounts[i]<;>cases decide ((s.Accounts.getD (i-1) default).Id>=s.Accounts[i].Id)<;>rfl
  ·rw[show decide ((i:Int)>0)=false by simpa using h0,aq h0]
   cases aU s.Accounts[i]<;>rfl) (λrec=>by simp only[cB,ac])]
 rw[show decide ((s.Accounts.length:Int)>8)= !decide (s.Accounts.length<=8) by rw[<-decide_not];exact cu.2 (by omega)]
 simp only[aA (show s.Name.size<=9223372036854775807 by omega),aA (show s.Book.sz<=34359738368 by simp only[D.aAE.sz];omega),bd_s]
 cases fV s.Name s.Book.Seed<;>cases decide (s.Accounts.length<=8)<;>cases gP s.Book<;>cases fD (Ch s.Accounts) 0 s.Accounts<;>rfl
def aH7 (l:List D.aAB)(e:D.aAB)(h:l.length<=34359738368):Jc l e=some (jY l e):=by
 unfold Jc jY
 have hd:=eD l
 rw[jV (l:=l) (λq=>q.Kind==2&&q.Device==e.Device) (.inl false) (.inr ()) (by omega) (λrec i hi=>by
  simp only[bY hi,ae,aK hi,bd_s,iK];cases(l[i].Kind==2)<;>rfl) (λrec=>by simp only[cB,ac])]
 rw[show(l.any λq=>q.Kind==2&&q.Device==e.Device)=gF l e.Device from rfl]
 simp only[aA h,aA (show(aB l).length<=1099511627776 by omega),aA (show([bJ e]:List Int).length<=34359738300 by simp),bd_s,bne]
 cases(e.Index==(l.length:Int))<;>cases(e.Previous==eG l)<;>cases fM (aB l) e.By<;>cases((l.length:Int)==0)<;>cases(e.By==e.Device)<;>cases fQ e.By [bJ e] e.Signature<;>cases(e.Kind==2)<;>cases fM (aB l) e.Device<;>cases gF l e.Device<;>cases(e.Kind==1)<;>rfl
def X9 (l:List D.aAB)(h:l.length<=34359738368):Ab l=some (aV l):=by
 unfold Ab aV
 rw[iR (l:=l) (λi e=> !jY (l.take i) e) (.inl false) (.inr ()) (by omega) (λrec i hi=>by
  simp only[bY hi,ae,aK hi,bd_s,aFc]
  rw[aA (by unfold jF;simp;omega),aA (by rw[ci];omega)];rfl) (λrec=>by simp only[cB,ac])]
 cases fD (λi e=> !jY (l.take i) e) 0 l<;>simp
def Y1 (l:List D.aAB)(h:l.length<=34359738368):zH l=some (aV l):=by
 unfold zH aV
 rw[iR (l:=l) (λi e=> !jY (l.take i) e) (.inl false) (.inr ()) (by omega) (λrec i hi=>by
  have ht:(l.take i).length=i:=by rw[ci];omega
  have hb:(l.take i).length<=34359738368:=by omega
  have hd:=eD (l.take i)
  simp only[bY hi,ae,aK hi,bd_s,aFc,aA (show jF l (i:Int) by unfold jF;omega),aA hb,aA (show(aB (l.take i)).length<=1099511627776 by omega),aA (show([bJ l[i]]:List Int).length<=34359738300 by simp)]
  unfold jY
  rw[ht]
  generalize l[i]=e
  have h1:decide (((aB (l.take i)).length:Int)>=6)= !decide (((aB (l.take i)).length:Int)<6):=by rw[<-decide_not];exact cu.2 (by omega)
  have h2:fM (aB (l.take i)) e.Device=true->decide (((aB (l.take i)).length:Int)>1)= !(((aB (l.take i)).length:Int)==1):=λhh=>by
   have:=bAn hh
   rw[<-Bool.decide_eq_true (b:=(((aB (l.take i)).length:Int)==1)),<-decide_not]
   exact cu.2 (by simp;omega)
  simp only[h1,bne]
  cases h3:(e.Kind==2) with
  |true=>
   have h4:(e.Kind==1)=false:=by simp at h3 ⊢;omega
   rw[h4]
   cases hd:fM (aB (l.take i)) e.Device with
   |true=>
    rw[h2 hd]
    cases(e.Index==(i:Int))<;>cases(e.Previous==eG (l.take i))<;>cases fM (aB (l.take i)) e.By<;>cases((i:Int)==0)<;>cases(e.By==e.Device)<;>cases fQ e.By [bJ e] e.Signature<;>cases(((aB (l.take i)).length:Int)==1)<;>rfl
   |false=>cases(e.Index==(i:Int))<;>cases(e.Previous==eG (l.take i))<;>cases fM (aB (l.take i)) e.By<;>cases((i:Int)==0)<;>cases(e.By==e.Device)<;>cases fQ e.By [bJ e] e.Signature<;>rfl
  |false=>
   cases(e.Kind==1) with
   |true=>cases(e.Index==(i:Int))<;>cases(e.Previous==eG (l.take i))<;>cases fM (aB (l.take i)) e.By<;>cases((i:Int)==0)<;>cases(e.By==e.Device)<;>cases fQ e.By [bJ e] e.Signature<;>cases fM (aB (l.take i)) e.Device<;>cases gF (l.take i) e.Device<;>cases decide (((aB (l.take i)).length:Int)<6)<;>rfl
   |false=>cases(e.Index==(i:Int))<;>cases(e.Previous==eG (l.take i))<;>cases fM (aB (l.take i)) e.By<;>cases((i:Int)==0)<;>cases(e.By==e.Device)<;>cases fQ e.By [bJ e] e.Signature<;>cases gF (l.take i) e.Device<;>rfl) (λrec=>by simp only[cB,ac])]
 unfold bE
 have e1:decide ((l.length:Int)<1)= !decide (1<=(l.length:Int)):=by rw[<-decide_not];exact cu.2 (by omega)
 have e2:decide ((l.length:Int)>40)= !decide ((l.length:Int)<=40):=by rw[<-decide_not];exact cu.2 (by omega)
 rw[e1,e2]
 cases decide (1<=(l.length:Int))<;>cases decide ((l.length:Int)<=40)<;>cases fD (λi e=> !jY (l.take i) e) 0 l<;>rfl
def Mo (w:D.World)(h:w.sz<=34359738368):qY w=some (eY w):=by
 simp only[D.World.sz] at h
 unfold qY eY
 rw[iR (l:=w.Sites) yU (.inl false) (.inr ()) (by omega) (λrec i hi=>by
  have hz:=kV (f:=D.Site.sz) hi
  simp only[bY hi,ae,aK hi,bd_s,aA (show w.Sites[i].sz<=34359738368 by omega)]
  unfold yU
  cases cO w.Sites[i]<;>cases(w.Sites[i].Name.toList==(aC (i:Int)).toList)<;>rfl) (λrec=>by simp only[cB,ac])]
 simp only[aA (show w.Mail.sz<=34359738368 by simp only[D.aAM.sz];omega),aA (show w.aAI.Log.length<=34359738368 by omega),bne,bd_s]
 cases fD yU 0 w.Sites<;>cases bE w.Now 0 999900<;>cases bE (w.Devices.length:Int) 1 6<;>cases((w.Stolen.length:Int)==(w.Devices.length:Int))<;>cases((w.Sites.length:Int)==2)<;>cases rT w.Mail<;>cases aV w.aAI.Log<;>cases bB w.Seed<;>rfl
end
end Go.VK
