import Derived.Test.YtlnjelnfjgjanaaGreatDoorXqPf
import Derived.Test.YtlnjelnfjgjanaaGreatDoorXqM
/- Printed by wip/tools: models, walks, proofs. -/
set_option linter.all false
set_option maxRecDepth 100000
set_option maxHeartbeats 4000000
namespace Go.VK
open Go.RowKit Go.Proofs
noncomputable section
open EV (cB)
def aJb (l:List D.aAL)(p:Int)(i:Nat)(hi:i<=l.length)(h:l.length<=34359738368){F:(Nat->Option ((Bool⊕PUnit)⊕PUnit))->Nat->Option ((Bool⊕PUnit)⊕PUnit)}(hF:∀rec j (hj:j<i),F rec j=bif (l[j]'(by omega)).Public==p then some (.inl (.inl false)) else rec (j+1))(hE:∀rec,F rec i=some (.inr ())):
  cB FUEL F 0=some (bif (l.take i).any (λq=>q.Public==p) then .inl (.inl false) else .inr ()):=by
 have ht:(l.take i).length=i:=by rw[ca];omega
 exact kX (l:=l.take i) (λq=>q.Public==p) _ _ (by omega) (λrec j hj=>by rw[hF rec j (by omega),gq]) (λrec=>by rw[ht];exact hE rec)
def aT5 (a:D.Account)(h:a.Credentials.length<=34359738368)(i:Nat)(hi:i<a.Credentials.length){τ:Type}{X:Option τ}{r:Option τ}{K:Option τ}(hX:X=bif (a.Credentials.take i).any (λq=>q.Public==a.Credentials[i].Public) then r else K):
  (bd (bif (!bH a.Credentials[i].Handle (0:Int) (1000000:Int)) then(some (true)) else(bif (decide ((↑i:Int)>(0:Int))) then(bd (bD (a.Credentials) (IntKind.i64.wrap ((↑i:Int)-(1:Int)))) λz5=>bif (decide (z5.Handle>=a.Credentials[i].Handle)) then(some (true)) else(bd (some (eG a.Credentials[i].Public)) λz6=>bif (z6==(0:Int)) then(some (true)) else(some (!bH a.Credentials[i].Counter (0:Int) (1000000:Int))))) else(bd (some (eG a.Credentials[i].Public)) λz5=>bif (z5==(0:Int)) then(some (true)) else(some (!bH a.Credentials[i].Counter (0:Int) (1000000:Int)))))) λz4=>bif z4 then r else X)=bif rW a i a.Credentials[i] then r else K:=by
 rw[hX];unfold rW
 by_cases h0:0<i
 ·rw[Lb h0 hi h,show decide ((i:Int)>0)=true by simpa using h0,ao h0]
  simp only[bd_s]
  cases bH a.Credentials[i].Handle 0 1000000<;>cases decide ((a.Credentials.getD (i-1) default).Handle>=a.Credentials[i].Handle)<;>cases(eG a.Credentials[i].Public==0)<;>cases bH a.Credentials[i].Counter 0 1000000<;>cases(a.Credentials.take i).any (λq=>q.Public==a.Credentials[i].Public)<;>rfl
 ·rw[show decide ((i:Int)>0)=false by simpa using h0,ap h0]
  simp only[bd_s]
  cases bH a.Credentials[i].Handle 0 1000000<;>cases(eG a.Credentials[i].Public==0)<;>cases bH a.Credentials[i].Counter 0 1000000<;>cases(a.Credentials.take i).any (λq=>q.Public==a.Credentials[i].Public)<;>rfl
def Iy (a:D.Account)(h:a.sz<=34359738368):qF a=some (aV a):=by
 simp only[D.Account.sz] at h
 unfold qF aV
 rw[iG (l:=a.Credentials) (rW a) (.inl false) (.inr ()) (by omega) (λrec i hi=>by
  simp only[dB hi,ac,aN hi,bd_s]
  rw[aJb a.Credentials a.Credentials[i].Public i (by omega) h (λrec j hj=>by simp only[dB hj,ac,aN (show j<a.Credentials.length by omega),bd_s]) (λrec=>by simp only[dF,ab])]
  have:=aT5 a h i hi (X:=nx (some (bif (a.Credentials.take i).any (λq=>q.Public==a.Credentials[i].Public) then Sum.inl (Sum.inl false) else Sum.inr PUnit.unit)) λ_=>rec (i+1)) (r:=some (.inl false)) (K:=rec (i+1)) (by cases(a.Credentials.take i).any _<;>rfl)
  rw[<-this]
  simp only[bd_s]
  generalize(bif !bH a.Credentials[i].Handle 0 1000000 then _ else _:Option Bool)=q
  cases q with
  |none=>rfl
  |some b=>cases b<;>rfl) (λrec=>by simp only[dF,ab])]
 rw[show decide ((a.Credentials.length:Int)<=8)=decide (a.Credentials.length<=8) from cw.2 (by omega)]
 cases bH a.Id 0 1000000<;>cases bH a.Minimum 1 3<;>cases decide (a.Credentials.length<=8)<;>cases gW (rW a) 0 a.Credentials<;>rfl
def Iz (a:D.Account)(h:a.sz<=34359738368):qJ a=some (aV a):=by
 simp only[D.Account.sz] at h
 unfold qJ aV
 rw[iG (l:=a.Credentials) (rW a) (.inl false) (.inr ()) (by omega) (λrec i hi=>by
  have ht:(a.Credentials.take i).length=i:=by rw[ca];omega
  simp only[dB hi,ac,aN hi,bd_s,aQf]
  rw[aB (show iQ a.Credentials (i:Int) by unfold iQ;omega)]
  rw[aJb a.Credentials a.Credentials[i].Public i (by omega) h (λrec j hj=>by simp only[ht,dB hj,ac,aN (show j<(a.Credentials.take i).length by omega),bd_s,gq]) (λrec=>by simp only[ht,dF,ab])]
  have:=aT5 a h i hi (X:=nx (some (bif (a.Credentials.take i).any (λq=>q.Public==a.Credentials[i].Public) then Sum.inl (Sum.inl false) else Sum.inr PUnit.unit)) λ_=>rec (i+1)) (r:=some (.inl false)) (K:=rec (i+1)) (by cases(a.Credentials.take i).any _<;>rfl)
  rw[<-this]
  simp only[bd_s]
  generalize(bif !bH a.Credentials[i].Handle 0 1000000 then _ else _:Option Bool)=q
  cases q with
  |none=>rfl
  |some b=>cases b<;>rfl) (λrec=>by simp only[dF,ab])]
 rw[show decide ((a.Credentials.length:Int)>8)= !decide (a.Credentials.length<=8) by rw[<-decide_not];exact cw.2 (by omega)]
 cases bH a.Id 0 1000000<;>cases bH a.Minimum 1 3<;>cases decide (a.Credentials.length<=8)<;>cases gW (rW a) 0 a.Credentials<;>rfl
def rM (s:ByteArray)(hs:s.size<=34359738368):∀(n f i st:Nat) (acc:List ByteArray),s.size-i=n->n+1<f->st<=i->i<=s.size->acc.length<=i->cB f (λrec1 (i1:(List ByteArray×Int×Int))=>bif (decide (i1.2.2<=(↑s.size:Int))) then(bd (bd (bif (i1.2.2==(↑s.size:Int)) then(some (true)) else(bd (bD (bP s) (i1.2.2)) λz4=>some (z4==(46:Int)))) λz3=>bif z3 then(gd (nT s i1.2.1 i1.2.2) (gd (aS i1.1 [s.extract i1.2.1.toNat i1.2.2.toNat]) (some ((i1.1++[s.extract i1.2.1.toNat i1.2.2.toNat],IntKind.i64.wrap (i1.2.2+(1:Int))))))) else(some (i1.1,i1.2.1))) λ(z2:List ByteArray×Int)=>rec1 ((z2.1,z2.2,IntKind.i64.wrap (i1.2.2+(1:Int))))) else(some (i1.1))) (acc,(st:Int),(i:Int))=some (acc++(iH ((s.data.toList.drop st).take (i-st)) (s.data.toList.drop i)).map λl=>(⟨l.toArray⟩:ByteArray))
 |n,f+1,i,st,acc,hn,hf,h1,h2,h3=>by
  rw[iP]
  have e0:decide ((i:Int)<=(s.size:Int))=true:=by simpa using(show(i:Int)<=(s.size:Int) by omega)
  have es:nT s (st:Int) (i:Int):=⟨by omega,by omega,by omega⟩
  have ea:aS acc ([s.extract (st:Int).toNat (i:Int).toNat]:List ByteArray):=by unfold aS;simp;omega
  have ew:IntKind.i64.wrap ((i:Int)+1)=((i+1:Nat):Int):=by rw[aJ (by omega) (by omega)];omega
  simp only[e0,ac]
  rcases fj i s.size with hlt|hge
  ·have e1:((i:Int)==(s.size:Int))=false:=by simp;omega
   have hd:s.data.toList.drop i=s.data.toList[i]'hlt::s.data.toList.drop (i+1):=(cn hlt)
   have hb:(bP s)[i]'(by rw[iI];exact hlt)=((s.data.toList[i]'hlt).toNat:Int):=by simp[bP]
   have hq:(((s.data.toList[i]'hlt).toNat:Int)==46)=(s.data.toList[i]'hlt==46):=by
    rw[eL];simp only[cN]
    constructor
    ·intro q;apply UInt8.toNat_inj.1;show _=46;omega
    ·intro q;rw[q];rfl
   rw[e1,ab,aSy hlt,bd_s,bd_s,hb,hq,hd,iH]
   cases hc:(s.data.toList[i]'hlt==46) with
   |true=>
    rw[ac,aB es,aB ea,bd_s]
    dsimp only
    rw[ew,ac,rM s hs (n-1) f (i+1) (i+1) _ (by omega) (by omega) (ak _) (by omega) (by simp;omega),bv,bv,ext_list]
    simp
   |false=>
    rw[ab,bd_s]
    dsimp only
    rw[ew,ab,rM s hs (n-1) f (i+1) st _ (by omega) (by omega) (by omega) (by omega) (by omega)]
    have:(s.data.toList.drop st).take (i+1-st)=(s.data.toList.drop st).take (i-st)++[s.data.toList[i]'hlt]:=by
     rw[show i+1-st=(i-st)+1 by omega,fx,du,show st+(i-st)=i by omega,ae hlt];rfl
    rw[this]
  ·have e1:((i:Int)==(s.size:Int))=true:=by simp;omega
   obtain⟨f,rfl⟩:∃g,f=g+1:=⟨f-1,by omega⟩
   have hz:s.data.toList.length<=i:=by have:s.data.toList.length=s.size:=rfl;omega
   have e2:decide (((i+1:Nat):Int)<=(s.size:Int))=false:=by simp;omega
   rw[e1,ac,bd_s,ac,aB es,aB ea,bd_s,iP]
   dsimp only
   rw[ew]
   simp only[e2,ab]
   rw[fN hz,iH,bv,bv,ext_list];rfl
def aEu (s:ByteArray)(h:s.size<=34359738368):Gx s=some (bF s):=by
 unfold Gx
 have hf:=gL
 have:=rM s h s.size FUEL 0 0 [] rfl (by omega) (ak _) (cy _) (ak _)
 rw[show(0:Int)=((0:Nat):Int) from rfl]
 refine(congrArg (λx=>bd x some) this).trans ?_
 simp[bF]
def aJc (s:ByteArray)(h:s.size<=34359738368):Ml s=some (sK s):=by
 unfold Ml sK
 have hb:=iI s
 rw[kX (l:=bP s) (λb=> !G5 b) (.inl false) (.inr ()) (by omega) (λrec i hi=>by
  have hi':i<s.size:=by omega
  simp only[dB hi',ac,aSy hi',bd_s]
  generalize(bP s)[i]'_=b
  unfold G5 bH
  have c1:decide (b>=97)=decide (97<=b):=rfl
  have c2:decide (b>=48)=decide (48<=b):=rfl
  rw[c1,c2]
  cases decide (97<=b)<;>cases decide (b<=122)<;>cases decide (48<=b)<;>cases decide (b<=57)<;>cases(b==45)<;>rfl) (λrec=>by simp only[hb,dF,ab])]
 have e:bH (s.size:Int) 1 20=(decide (1<=s.size)&&decide (s.size<=20)):=by unfold bH;congr 1<;>exact cw.2 (by omega)
 rw[e]
 by_cases h0:0<s.size
 ·rw[show(0:Int)=((0:Nat):Int) from rfl,aSy h0,aJ (by omega) (by omega),show(s.size:Int)-1=((s.size-1:Nat):Int) by omega,aSy (show s.size-1<s.size by omega)]
  simp only[bd_s,bne,List.getD,ae (show 0<(bP s).length by rw[iI];exact h0),ae (show s.size-1<(bP s).length by rw[iI];omega),cu]
  cases((bP s)[0]'_==45)<;>cases((bP s)[s.size-1]'_==45)<;>cases decide (1<=s.size)<;>cases decide (s.size<=20)<;>cases(bP s).any _<;>rfl
 ·rw[show decide (1<=s.size)=false from ap (by omega)]
  cases(bP s).any _<;>rfl
def aMa (s:ByteArray)(h:s.size<=34359738368):Ur s=some (fJ s):=by
 unfold Ur fJ
 have hl:=Ld s
 simp only[aB h,bd_s]
 rw[kX (l:=bF s) (λl=> !sK l) (.inl false) (.inr ()) (by omega) (λrec i hi=>by
  have hz:(bF s)[i].size<=34359738368:=bz (vO s _ (cx _)) h
  simp only[dB hi,ac,aN hi,bd_s,aB hz]) (λrec=>by simp only[dF,ab])]
 have e':decide ((s.size:Int)<=60)=decide (s.size<=60):=cw.2 (by omega)
 rw[e']
 cases decide (s.size<=60)<;>cases(bF s).any _<;>rfl
def aMb (s:ByteArray):Uw s=some (fJ s):=by
 unfold Uw fJ
 by_cases h60:s.size<=60
 ·have hl:=Ld s
  rw[show decide ((s.size:Int)>60)=false from ap (by omega),ab,aB (show s.size<4294967281/\1<=(⟨#[UInt8.ofNat 46]⟩:ByteArray).size from⟨by omega,ak _⟩),bd_s]
  have es:jO s ⟨#[UInt8.ofNat 46]⟩=bF s:=aHi s
  rw[es]
  rw[kX (l:=bF s) (λl=> !sK l) (.inl false) (.inr ()) (by omega) (λrec i hi=>by
   have hz:(bF s)[i].size<=60:=bz (vO s _ (cx _)) h60
   simp only[dB hi,ac,aN hi,bd_s]
   revert hz
   generalize(bF s)[i]=l
   intro hz
   have hb:=iI l
   rw[kX (l:=bP l) (λb=> !G5 b) (.inl (.inl false)) (.inr ()) (by omega) (λrec i hi=>by
    have hi':i<l.size:=by omega
    simp only[dB hi',ac,aSy hi',bd_s]
    generalize(bP l)[i]'_=b
    unfold G5 bH
    have c1:decide (b>=97)=decide (97<=b):=rfl
    have c2:decide (b>=48)=decide (48<=b):=rfl
    rw[c1,c2]
    cases decide (97<=b)<;>cases decide (b<=122)<;>cases decide (48<=b)<;>cases decide (b<=57)<;>cases(b==45)<;>rfl) (λrec=>by simp only[hb,dF,ab])]
   unfold sK
   by_cases h0:0<l.size
   ·rw[show(0:Int)=((0:Nat):Int) from rfl,aSy h0,aJ (by omega) (by omega),show(l.size:Int)-1=((l.size-1:Nat):Int) by omega,aSy (show l.size-1<l.size by omega)]
    have e1:decide ((l.size:Int)<1)= !decide (1<=l.size):=by rw[<-decide_not];exact cw.2 (by omega)
    have e2:decide ((l.size:Int)>20)= !decide (l.size<=20):=by rw[<-decide_not];exact cw.2 (by omega)
    rw[e1,e2]
    simp only[bd_s,bne,List.getD,ae (show 0<(bP l).length by rw[iI];exact h0),ae (show l.size-1<(bP l).length by rw[iI];omega),cu]
    cases((bP l)[0]'_==45)<;>cases((bP l)[l.size-1]'_==45)<;>cases decide (1<=l.size)<;>cases decide (l.size<=20)<;>cases(bP l).any _<;>rfl
   ·rw[show decide ((l.size:Int)<1)=true from ao (by omega),show decide (1<=l.size)=false from ap (by omega)]
    rfl) (λrec=>by simp only[dF,ab])]
  rw[show decide (s.size<=60)=true by simpa using h60]
  cases(bF s).any _<;>rfl
 ·rw[show decide ((s.size:Int)>60)=true from ao (by omega),show decide (s.size<=60)=false by simpa using h60];rfl
def Ww (s:ByteArray):xG s=some (bAa s):=by
 unfold xG bAa
 cases h:fJ s with
 |false=>rfl
 |true=>
  have hs:=Lg h
  have hp:=aDn s
  have es:jO s ⟨#[UInt8.ofNat 46]⟩=bF s:=aHi s
  rw[ay,ab,ac,aB (show s.size<4294967281/\1<=(⟨#[UInt8.ofNat 46]⟩:ByteArray).size from⟨by omega,ak _⟩),bd_s,es]
  rw[show(((bF s).length:Int)==1)=((bF s).length==1) by rw[eL];simp only[cN];omega]
  cases h1:(bF s).length==1 with
  |true=>rfl
  |false=>
   have h2:(bF s).length≠1:=by simpa using h1
   have hl:=Ld s
   obtain⟨a,ha,b,hb,e⟩:=bH0 (l:=bF s) (by omega)
   have ha:=vO s a ha
   have hb:=vO s b hb
   rw[ab,ab,aJ (by omega) (by omega),show((bF s).length:Int)-2=(((bF s).length-2:Nat):Int) by omega,bv]
   have hd:((bF s).drop ((bF s).length-2)).length=2:=by rw[ci];omega
   have hj:(nS ⟨#[UInt8.ofNat 46]⟩ ((bF s).drop ((bF s).length-2))).size<=140737488355328:=by
    have e:nS ⟨#[UInt8.ofNat 46]⟩ ((bF s).drop ((bF s).length-2))=_:=e
    rw[e,ByteArray.size_append,ByteArray.size_append]
    have:(⟨#[46]⟩:ByteArray).size=1:=rfl
    omega
   rw[aB (show iQ (bF s) (((bF s).length-2:Nat):Int) by unfold iQ;omega),aB ⟨by omega,hj,by omega⟩]
   rfl
def aMc (s:ByteArray)(h:s.size<=9223372036854775807):Ux s=some (Qh s):=by
 unfold Ux Qh
 have hb:=iI s
 rw[kX (l:=bP s) (λb=>b==46) (.inl true) (.inr ()) (by omega) (λrec i hi=>by
  have hi':i<s.size:=by omega
  simp only[dB hi',ac,aSy hi',bd_s]) (λrec=>by simp only[hb,dF,ab])]
 cases(bP s).any _<;>rfl
def Wx (n:ByteArray)(seed:Int)(h:n.size<=9223372036854775807):xH n seed=some (iO n seed):=by
 unfold xH iO
 simp only[aB h,bd_s]
 rw[bLm,aLx]
 cases h:fJ n with
 |false=>rfl
 |true=>rw[bGk h];cases decide (2<=(bF n).length)<;>cases bG seed<;>rfl
def aJd (n:ByteArray)(seed:Int)(h:n.size<=34359738368):Mo n seed=some (dZ n seed):=by
 unfold Mo dZ iO
 have e:decide (((bF n).length:Int)<2)= !decide (2<=(bF n).length):=by rw[<-decide_not];exact cw.2 (by omega)
 simp only[aB h,bd_s,e]
 cases fJ n<;>cases decide (2<=(bF n).length)<;>cases bG seed<;>rfl
def Wy (s:D.Site)(h:s.sz<=34359738368):wU s=some (bR s):=by
 simp only[D.Site.sz] at h
 unfold wU bR
 rw[iG (l:=s.Accounts) (Fs s.Accounts) (.inl false) (.inr ()) (by omega) (λrec i hi=>by
  have hz:=iY (f:=D.Account.sz) hi
  simp only[dB hi,ac,aN hi,bd_s,aB (show s.Accounts[i].sz<=34359738368 by omega)]
  unfold Fs
  by_cases h0:0<i
  ·rw[Lb h0 hi (by omega),show decide ((i:Int)>0)=true by simpa using h0,ao h0]
   simp only[bd_s]
   cases aV s.Accounts[i]<;>cases decide ((s.Accounts.getD (i-1) default).Id>=s.Accounts[i].Id)<;>rfl
  ·rw[show decide ((i:Int)>0)=false by simpa using h0,ap h0]
   cases aV s.Accounts[i]<;>rfl) (λrec=>by simp only[dF,ab])]
 rw[show decide ((s.Accounts.length:Int)<=8)=decide (s.Accounts.length<=8) from cw.2 (by omega)]
 have e3:(!((dZ s.Name s.Book.Seed).Name.toList==(⟨#[]⟩:ByteArray).toList))=iO s.Name s.Book.Seed:=by rw[bLm,aVn,Bool.not_not]
 simp only[aB (show s.Name.size<=34359738368 by omega),aB (show s.Book.sz<=34359738368 by simp only[D.aAB.sz];omega),bd_s,e3]
 cases iO s.Name s.Book.Seed<;>cases decide (s.Accounts.length<=8)<;>cases dN s.Book<;>cases gW (Fs s.Accounts) 0 s.Accounts<;>rfl
def Wz (s:D.Site)(h:s.sz<=34359738368):xJ s=some (bR s):=by
 simp only[D.Site.sz] at h
 unfold xJ bR
 rw[iG (l:=s.Accounts) (Fs s.Accounts) (.inl false) (.inr ()) (by omega) (λrec i hi=>by
  have hz:=iY (f:=D.Account.sz) hi
  simp only[dB hi,ac,aN hi,bd_s,aB (show s.Accounts[i].sz<=34359738368 by omega)]
  unfold Fs
  by_cases h0:0<i
  ·rw[Lb h0 hi (by omega),show decide ((i:Int)>0)=true by simpa using h0,ao h0]
   simp only[bd_s]
   cases aV s.Accounts[i]<;>cases decide ((s.Accounts.getD (i-1) default).Id>=s.Accounts[i].Id)<;>rfl
  ·rw[show decide ((i:Int)>0)=false by simpa using h0,ap h0]
   cases aV s.Accounts[i]<;>rfl) (λrec=>by simp only[dF,ab])]
 rw[show decide ((s.Accounts.length:Int)>8)= !decide (s.Accounts.length<=8) by rw[<-decide_not];exact cw.2 (by omega)]
 simp only[aB (show s.Name.size<=9223372036854775807 by omega),aB (show s.Book.sz<=34359738368 by simp only[D.aAB.sz];omega),bd_s]
 cases iO s.Name s.Book.Seed<;>cases decide (s.Accounts.length<=8)<;>cases dN s.Book<;>cases gW (Fs s.Accounts) 0 s.Accounts<;>rfl
def aJe (l:List D.aAD)(e:D.aAD)(h:l.length<=34359738368):Mh l e=some (kY l e):=by
 unfold Mh kY
 have hd:=gD l
 rw[kX (l:=l) (λq=>q.Kind==2&&q.Device==e.Device) (.inl false) (.inr ()) (by omega) (λrec i hi=>by
  simp only[dB hi,ac,aN hi,bd_s,kZ];cases(l[i].Kind==2)<;>rfl) (λrec=>by simp only[dF,ab])]
 rw[show(l.any λq=>q.Kind==2&&q.Device==e.Device)=fG l e.Device from rfl]
 simp only[aB h,aB (show(aD l).length<=1099511627776 by omega),aB (show([bZ e]:List Int).length<=34359738300 by simp),bd_s,bne]
 cases(e.Index==(l.length:Int))<;>cases(e.Previous==fU l)<;>cases gH (aD l) e.By<;>cases((l.length:Int)==0)<;>cases(e.By==e.Device)<;>cases eF e.By [bZ e] e.Signature<;>cases(e.Kind==2)<;>cases gH (aD l) e.Device<;>cases fG l e.Device<;>cases(e.Kind==1)<;>rfl
def aBl (l:List D.aAD)(h:l.length<=34359738368):Cf l=some (bL l):=by
 unfold Cf bL
 rw[iG (l:=l) (λi e=> !kY (l.take i) e) (.inl false) (.inr ()) (by omega) (λrec i hi=>by
  simp only[dB hi,ac,aN hi,bd_s,aQf]
  rw[aB (by unfold iQ;simp;omega),aB (by rw[ca];omega)];rfl) (λrec=>by simp only[dF,ab])]
 cases gW (λi e=> !kY (l.take i) e) 0 l<;>simp
def aBm (l:List D.aAD)(h:l.length<=34359738368):Cs l=some (bL l):=by
 unfold Cs bL
 rw[iG (l:=l) (λi e=> !kY (l.take i) e) (.inl false) (.inr ()) (by omega) (λrec i hi=>by
  have ht:(l.take i).length=i:=by rw[ca];omega
  have hb:(l.take i).length<=34359738368:=by omega
  have hd:=gD (l.take i)
  simp only[dB hi,ac,aN hi,bd_s,aQf,aB (show iQ l (i:Int) by unfold iQ;omega),aB hb,aB (show(aD (l.take i)).length<=1099511627776 by omega),aB (show([bZ l[i]]:List Int).length<=34359738300 by simp)]
  unfold kY
  rw[ht]
  generalize l[i]=e
  have h1:decide (((aD (l.take i)).length:Int)>=6)= !decide (((aD (l.take i)).length:Int)<6):=by rw[<-decide_not];exact cw.2 (by omega)
  have h2:gH (aD (l.take i)) e.Device=true->decide (((aD (l.take i)).length:Int)>1)= !(((aD (l.take i)).length:Int)==1):=λhh=>by
   have:=bDn hh
   rw[<-Bool.decide_eq_true (b:=(((aD (l.take i)).length:Int)==1)),<-decide_not]
   exact cw.2 (by simp;omega)
  simp only[h1,bne]
  cases h3:(e.Kind==2) with
  |true=>
   have h4:(e.Kind==1)=false:=by simp at h3 ⊢;omega
   rw[h4]
   cases hd:gH (aD (l.take i)) e.Device with
   |true=>
    rw[h2 hd]
    cases(e.Index==(i:Int))<;>cases(e.Previous==fU (l.take i))<;>cases gH (aD (l.take i)) e.By<;>cases((i:Int)==0)<;>cases(e.By==e.Device)<;>cases eF e.By [bZ e] e.Signature<;>cases(((aD (l.take i)).length:Int)==1)<;>rfl
   |false=>cases(e.Index==(i:Int))<;>cases(e.Previous==fU (l.take i))<;>cases gH (aD (l.take i)) e.By<;>cases((i:Int)==0)<;>cases(e.By==e.Device)<;>cases eF e.By [bZ e] e.Signature<;>rfl
  |false=>
   cases(e.Kind==1) with
   |true=>cases(e.Index==(i:Int))<;>cases(e.Previous==fU (l.take i))<;>cases gH (aD (l.take i)) e.By<;>cases((i:Int)==0)<;>cases(e.By==e.Device)<;>cases eF e.By [bZ e] e.Signature<;>cases gH (aD (l.take i)) e.Device<;>cases fG (l.take i) e.Device<;>cases decide (((aD (l.take i)).length:Int)<6)<;>rfl
   |false=>cases(e.Index==(i:Int))<;>cases(e.Previous==fU (l.take i))<;>cases gH (aD (l.take i)) e.By<;>cases((i:Int)==0)<;>cases(e.By==e.Device)<;>cases eF e.By [bZ e] e.Signature<;>cases fG (l.take i) e.Device<;>rfl) (λrec=>by simp only[dF,ab])]
 unfold bH
 have e1:decide ((l.length:Int)<1)= !decide (1<=(l.length:Int)):=by rw[<-decide_not];exact cw.2 (by omega)
 have e2:decide ((l.length:Int)>40)= !decide ((l.length:Int)<=40):=by rw[<-decide_not];exact cw.2 (by omega)
 rw[e1,e2]
 cases decide (1<=(l.length:Int))<;>cases decide ((l.length:Int)<=40)<;>cases gW (λi e=> !kY (l.take i) e) 0 l<;>rfl
def Rk (w:D.World)(h:w.sz<=34359738368):uS w=some (aU w):=by
 simp only[D.World.sz] at h
 unfold uS aU
 rw[iG (l:=w.Sites) kJ (.inl false) (.inr ()) (by omega) (λrec i hi=>by
  have hz:=iY (f:=D.Site.sz) hi
  simp only[dB hi,ac,aN hi,bd_s,aB (show w.Sites[i].sz<=34359738368 by omega)]
  unfold kJ
  cases bR w.Sites[i]<;>cases(w.Sites[i].Name.toList==(aA (i:Int)).toList)<;>rfl) (λrec=>by simp only[dF,ab])]
 simp only[aB (show w.Mail.sz<=34359738368 by simp only[D.aAM.sz];omega),aB (show w.aAE.Log.length<=34359738368 by omega),bne,bd_s]
 cases gW kJ 0 w.Sites<;>cases bH w.Now 0 999900<;>cases bH (w.Devices.length:Int) 1 6<;>cases((w.Stolen.length:Int)==(w.Devices.length:Int))<;>cases((w.Sites.length:Int)==2)<;>cases gF w.Mail<;>cases bL w.aAE.Log<;>cases bG w.Seed<;>rfl
def Rl (w:D.World)(h:w.sz<=34359738368):uT w=some (aU w):=by
 simp only[D.World.sz] at h
 unfold uT aU
 rw[iG (l:=w.Sites) kJ (.inl false) (.inr ()) (by omega) (λrec i hi=>by
  have hz:=iY (f:=D.Site.sz) hi
  simp only[dB hi,ac,aN hi,bd_s,aB (show w.Sites[i].sz<=34359738368 by omega)]
  unfold kJ
  cases bR w.Sites[i]<;>cases(w.Sites[i].Name.toList==(aA (i:Int)).toList)<;>rfl) (λrec=>by simp only[dF,ab])]
 simp only[aB (show w.Mail.sz<=34359738368 by simp only[D.aAM.sz];omega),aB (show w.aAE.Log.length<=34359738368 by omega),bne,bd_s]
 cases gW kJ 0 w.Sites<;>cases bH w.Now 0 999900<;>cases bH (w.Devices.length:Int) 1 6<;>cases((w.Stolen.length:Int)==(w.Devices.length:Int))<;>cases((w.Sites.length:Int)==2)<;>cases gF w.Mail<;>cases bL w.aAE.Log<;>cases bG w.Seed<;>rfl
end
end Go.VK
