import Derived.Test.YtehmmnigkcmhoaaGreatDoorXmPf
import Derived.Test.YtehmmnigkcmhoaaGreatDoorXmQ
/- Printed by wip/tools: models, walks, proofs. -/
set_option linter.unusedVariables false
set_option linter.unusedSimpArgs false
set_option maxRecDepth 100000
set_option maxHeartbeats 4000000
namespace Go.VK
open Go.RowKit Go.Proofs
noncomputable section
open EV (cB)
theorem aH9 (l:List D.aAG)(p:Int)(i:Nat)(hi:i≤l.length)(h:l.length≤34359738368){F:(Nat→Option ((Bool⊕PUnit)⊕PUnit))→Nat→Option ((Bool⊕PUnit)⊕PUnit)}(hF:∀rec j (hj:j<i),F rec j=bif (l[j]'(by omega)).Public==p then some (.inl (.inl false)) else rec (j+1))(hE:∀rec,F rec i=some (.inr ())):
  cB FUEL F 0=some (bif (l.take i).any (fun q=>q.Public==p) then .inl (.inl false) else .inr ()):=by
 have ht:(l.take i).length=i:=by rw[List.length_take];omega
 exact kK (l:=l.take i) (fun q=>q.Public==p) _ _ (by omega) (fun rec j hj=>by rw[hF rec j (by omega),List.getElem_take]) (fun rec=>by rw[ht];exact hE rec)
theorem aRq (a:D.aAE)(h:a.Credentials.length≤34359738368)(i:Nat)(hi:i<a.Credentials.length){τ:Type}{X:Option τ}{r:Option τ}{K:Option τ}(hX:X=bif (a.Credentials.take i).any (fun q=>q.Public==a.Credentials[i].Public) then r else K):
  (bd (bif (!cZ a.Credentials[i].Handle (0:Int) (1000000:Int)) then(some (true)) else(bif (decide ((↑i:Int)>(0:Int))) then(bd (aV (a.Credentials) (IntKind.i64.wrap ((↑i:Int)-(1:Int)))) fun z5=>bif (decide (z5.Handle≥a.Credentials[i].Handle)) then(some (true)) else(bd (some (jM a.Credentials[i].Public)) fun z6=>bif (z6==(0:Int)) then(some (true)) else(some (!cZ a.Credentials[i].Counter (0:Int) (1000000:Int))))) else(bd (some (jM a.Credentials[i].Public)) fun z5=>bif (z5==(0:Int)) then(some (true)) else(some (!cZ a.Credentials[i].Counter (0:Int) (1000000:Int)))))) fun z4=>bif z4 then r else X)=bif Aj a i a.Credentials[i] then r else K:=by
 rw[hX];unfold Aj
 by_cases h0:0<i
 ·rw[Hu h0 hi h,show decide ((i:Int)>0)=true by simpa using h0,decide_eq_true h0]
  simp only[bd_s]
  cases cZ a.Credentials[i].Handle 0 1000000<;>cases decide ((a.Credentials.getD (i-1) default).Handle≥a.Credentials[i].Handle)<;>cases(jM a.Credentials[i].Public==0)<;>cases cZ a.Credentials[i].Counter 0 1000000<;>cases(a.Credentials.take i).any (fun q=>q.Public==a.Credentials[i].Public)<;>rfl
 ·rw[show decide ((i:Int)>0)=false by simpa using h0,decide_eq_false h0]
  simp only[bd_s]
  cases cZ a.Credentials[i].Handle 0 1000000<;>cases(jM a.Credentials[i].Public==0)<;>cases cZ a.Credentials[i].Counter 0 1000000<;>cases(a.Credentials.take i).any (fun q=>q.Public==a.Credentials[i].Public)<;>rfl
theorem Ff (a:D.aAE)(h:a.sz≤34359738368):mR a=some (fB a):=by
 simp only[D.aAE.sz] at h
 unfold mR fB
 rw[fF (l:=a.Credentials) (Aj a) (.inl false) (.inr ()) (by omega) (fun rec i hi=>by
  simp only[bG hi,cond_true,aD hi,bd_s]
  rw[aH9 a.Credentials a.Credentials[i].Public i (by omega) h (fun rec j hj=>by simp only[bG hj,cond_true,aD (show j<a.Credentials.length by omega),bd_s]) (fun rec=>by simp only[bH,cond_false])]
  have:=aRq a h i hi (X:=nx (some (bif (a.Credentials.take i).any (fun q=>q.Public==a.Credentials[i].Public) then Sum.inl (Sum.inl false) else Sum.inr PUnit.unit)) fun _=>rec (i+1)) (r:=some (.inl false)) (K:=rec (i+1)) (by cases(a.Credentials.take i).any _<;>rfl)
  rw[←this]
  simp only[bd_s]
  generalize(bif !cZ a.Credentials[i].Handle 0 1000000 then _ else _:Option Bool)=q
  cases q with
  |none=>rfl
  |some b=>cases b<;>rfl) (fun rec=>by simp only[bH,cond_false])]
 rw[show decide ((a.Credentials.length:Int)≤8)=decide (a.Credentials.length≤8) from decide_eq_decide.2 (by omega)]
 cases cZ a.Id 0 1000000<;>cases cZ a.Minimum 1 3<;>cases decide (a.Credentials.length≤8)<;>cases eU (Aj a) 0 a.Credentials<;>rfl
theorem Fg (a:D.aAE)(h:a.sz≤34359738368):mY a=some (fB a):=by
 simp only[D.aAE.sz] at h
 unfold mY fB
 rw[fF (l:=a.Credentials) (Aj a) (.inl false) (.inr ()) (by omega) (fun rec i hi=>by
  have ht:(a.Credentials.take i).length=i:=by rw[List.length_take];omega
  simp only[bG hi,cond_true,aD hi,bd_s,bJ]
  rw[aG (show kY a.Credentials (i:Int) by unfold kY;omega)]
  rw[aH9 a.Credentials a.Credentials[i].Public i (by omega) h (fun rec j hj=>by simp only[ht,bG hj,cond_true,aD (show j<(a.Credentials.take i).length by omega),bd_s,List.getElem_take]) (fun rec=>by simp only[ht,bH,cond_false])]
  have:=aRq a h i hi (X:=nx (some (bif (a.Credentials.take i).any (fun q=>q.Public==a.Credentials[i].Public) then Sum.inl (Sum.inl false) else Sum.inr PUnit.unit)) fun _=>rec (i+1)) (r:=some (.inl false)) (K:=rec (i+1)) (by cases(a.Credentials.take i).any _<;>rfl)
  rw[←this]
  simp only[bd_s]
  generalize(bif !cZ a.Credentials[i].Handle 0 1000000 then _ else _:Option Bool)=q
  cases q with
  |none=>rfl
  |some b=>cases b<;>rfl) (fun rec=>by simp only[bH,cond_false])]
 rw[show decide ((a.Credentials.length:Int)>8)= !decide (a.Credentials.length≤8) by rw[←decide_not];exact decide_eq_decide.2 (by omega)]
 cases cZ a.Id 0 1000000<;>cases cZ a.Minimum 1 3<;>cases decide (a.Credentials.length≤8)<;>cases eU (Aj a) 0 a.Credentials<;>rfl
theorem nP (s:ByteArray)(hs:s.size≤34359738368):∀(n f i st:Nat) (acc:List ByteArray),s.size-i=n→n+1<f→st≤i→i≤s.size→acc.length≤i→cB f (fun rec1 (i1:(List ByteArray×Int×Int))=>bif (decide (i1.2.2≤(↑s.size:Int))) then(bd (bd (bif (i1.2.2==(↑s.size:Int)) then(some (true)) else(bd (aV (bO s) (i1.2.2)) fun z4=>some (z4==(46:Int)))) fun z3=>bif z3 then(gd (Qe s i1.2.1 i1.2.2) (gd (bL i1.1 [s.extract i1.2.1.toNat i1.2.2.toNat]) (some ((i1.1++[s.extract i1.2.1.toNat i1.2.2.toNat],IntKind.i64.wrap (i1.2.2+(1:Int))))))) else(some (i1.1,i1.2.1))) fun(z2:List ByteArray×Int)=>rec1 ((z2.1,z2.2,IntKind.i64.wrap (i1.2.2+(1:Int))))) else(some (i1.1))) (acc,(st:Int),(i:Int))=some (acc++(fZ ((s.data.toList.drop st).take (i-st)) (s.data.toList.drop i)).map fun l=>(⟨l.toArray⟩:ByteArray))
 |n,f+1,i,st,acc,hn,hf,h1,h2,h3=>by
  rw[Qj]
  have e0:decide ((i:Int)≤(s.size:Int))=true:=by simpa using(show(i:Int)≤(s.size:Int) by omega)
  have es:Qe s (st:Int) (i:Int):=⟨by omega,by omega,by omega⟩
  have ea:bL acc ([s.extract (st:Int).toNat (i:Int).toNat]:List ByteArray):=by unfold bL;simp;omega
  have ew:IntKind.i64.wrap ((i:Int)+1)=((i+1:Nat):Int):=by rw[bN (by omega) (by omega)];omega
  simp only[e0,cond_true]
  rcases Nat.lt_or_ge i s.size with hlt|hge
  ·have e1:((i:Int)==(s.size:Int))=false:=by simp;omega
   have hd:s.data.toList.drop i=s.data.toList[i]'hlt::s.data.toList.drop (i+1):=(List.drop_eq_getElem_cons hlt)
   have hb:(bO s)[i]'(by rw[iM];exact hlt)=((s.data.toList[i]'hlt).toNat:Int):=by simp[bO]
   have hq:(((s.data.toList[i]'hlt).toNat:Int)==46)=(s.data.toList[i]'hlt==46):=by
    rw[Bool.eq_iff_iff];simp only[beq_iff_eq]
    constructor
    ·intro q;apply UInt8.toNat_inj.1;show _=46;omega
    ·intro q;rw[q];rfl
   rw[e1,cond_false,aRg hlt,bd_s,bd_s,hb,hq,hd,fZ]
   cases hc:(s.data.toList[i]'hlt==46) with
   |true=>
    rw[cond_true,aG es,aG ea,bd_s]
    dsimp only
    rw[ew,cond_true,nP s hs (n-1) f (i+1) (i+1) _ (by omega) (by omega) (Nat.le_refl _) (by omega) (by simp;omega),Int.toNat_natCast,Int.toNat_natCast,ext_list]
    simp
   |false=>
    rw[cond_false,bd_s]
    dsimp only
    rw[ew,cond_false,nP s hs (n-1) f (i+1) st _ (by omega) (by omega) (by omega) (by omega) (by omega)]
    have:(s.data.toList.drop st).take (i+1-st)=(s.data.toList.drop st).take (i-st)++[s.data.toList[i]'hlt]:=by
     rw[show i+1-st=(i-st)+1 by omega,List.take_add_one,List.getElem?_drop,show st+(i-st)=i by omega,List.getElem?_eq_getElem hlt];rfl
    rw[this]
  ·have e1:((i:Int)==(s.size:Int))=true:=by simp;omega
   obtain⟨f,rfl⟩:∃g,f=g+1:=⟨f-1,by omega⟩
   have hz:s.data.toList.length≤i:=by have:s.data.toList.length=s.size:=rfl;omega
   have e2:decide (((i+1:Nat):Int)≤(s.size:Int))=false:=by simp;omega
   rw[e1,cond_true,bd_s,cond_true,aG es,aG ea,bd_s,Qj]
   dsimp only
   rw[ew]
   simp only[e2,cond_false]
   rw[List.drop_eq_nil_of_le hz,fZ,Int.toNat_natCast,Int.toNat_natCast,ext_list];rfl
theorem aDe (s:ByteArray)(h:s.size≤34359738368):Dj s=some (bA s):=by
 unfold Dj
 have hf:=nQ
 have:=nP s h s.size FUEL 0 0 [] rfl (by omega) (Nat.le_refl _) (Nat.zero_le _) (Nat.le_refl _)
 rw[show(0:Int)=((0:Nat):Int) from rfl]
 refine(congrArg (fun x=>bd x some) this).trans ?_
 simp[bA]
theorem aIa (s:ByteArray)(h:s.size≤34359738368):Jl s=some (oF s):=by
 unfold Jl oF
 have hb:=iM s
 rw[kK (l:=bO s) (fun b=> !Xd b) (.inl false) (.inr ()) (by omega) (fun rec i hi=>by
  have hi':i<s.size:=by omega
  simp only[bG hi',cond_true,aRg hi',bd_s]
  generalize(bO s)[i]'_=b
  unfold Xd cZ
  have c1:decide (b≥97)=decide (97≤b):=rfl
  have c2:decide (b≥48)=decide (48≤b):=rfl
  rw[c1,c2]
  cases decide (97≤b)<;>cases decide (b≤122)<;>cases decide (48≤b)<;>cases decide (b≤57)<;>cases(b==45)<;>rfl) (fun rec=>by simp only[hb,bH,cond_false])]
 have e:cZ (s.size:Int) 1 20=(decide (1≤s.size)&&decide (s.size≤20)):=by unfold cZ;congr 1<;>exact decide_eq_decide.2 (by omega)
 rw[e]
 by_cases h0:0<s.size
 ·rw[show(0:Int)=((0:Nat):Int) from rfl,aRg h0,bN (by omega) (by omega),show(s.size:Int)-1=((s.size-1:Nat):Int) by omega,aRg (show s.size-1<s.size by omega)]
  simp only[bd_s,bne,List.getD,List.getElem?_eq_getElem (show 0<(bO s).length by rw[iM];exact h0),List.getElem?_eq_getElem (show s.size-1<(bO s).length by rw[iM];omega),Option.getD_some]
  cases((bO s)[0]'_==45)<;>cases((bO s)[s.size-1]'_==45)<;>cases decide (1≤s.size)<;>cases decide (s.size≤20)<;>cases(bO s).any _<;>rfl
 ·rw[show decide (1≤s.size)=false from decide_eq_false (by omega)]
  cases(bO s).any _<;>rfl
theorem aLl (s:ByteArray)(h:s.size≤34359738368):Qr s=some (gD s):=by
 unfold Qr gD
 have hl:=Hy s
 simp only[aG h,bd_s]
 rw[kK (l:=bA s) (fun l=> !oF l) (.inl false) (.inr ()) (by omega) (fun rec i hi=>by
  have hz:(bA s)[i].size≤34359738368:=Nat.le_trans (qU s _ (List.getElem_mem _)) h
  simp only[bG hi,cond_true,aD hi,bd_s,aG hz]) (fun rec=>by simp only[bH,cond_false])]
 have e':decide ((s.size:Int)≤60)=decide (s.size≤60):=decide_eq_decide.2 (by omega)
 rw[e']
 cases decide (s.size≤60)<;>cases(bA s).any _<;>rfl
theorem aLm (s:ByteArray):Qv s=some (gD s):=by
 unfold Qv gD
 by_cases h60:s.size≤60
 ·have hl:=Hy s
  rw[show decide ((s.size:Int)>60)=false from decide_eq_false (by omega),cond_false,aG (show s.size<4294967281∧1≤(⟨#[UInt8.ofNat 46]⟩:ByteArray).size from⟨by omega,Nat.le_refl _⟩),bd_s]
  have es:gV s ⟨#[UInt8.ofNat 46]⟩=bA s:=aGo s
  rw[es]
  rw[kK (l:=bA s) (fun l=> !oF l) (.inl false) (.inr ()) (by omega) (fun rec i hi=>by
   have hz:(bA s)[i].size≤60:=Nat.le_trans (qU s _ (List.getElem_mem _)) h60
   simp only[bG hi,cond_true,aD hi,bd_s]
   revert hz
   generalize(bA s)[i]=l
   intro hz
   have hb:=iM l
   rw[kK (l:=bO l) (fun b=> !Xd b) (.inl (.inl false)) (.inr ()) (by omega) (fun rec i hi=>by
    have hi':i<l.size:=by omega
    simp only[bG hi',cond_true,aRg hi',bd_s]
    generalize(bO l)[i]'_=b
    unfold Xd cZ
    have c1:decide (b≥97)=decide (97≤b):=rfl
    have c2:decide (b≥48)=decide (48≤b):=rfl
    rw[c1,c2]
    cases decide (97≤b)<;>cases decide (b≤122)<;>cases decide (48≤b)<;>cases decide (b≤57)<;>cases(b==45)<;>rfl) (fun rec=>by simp only[hb,bH,cond_false])]
   unfold oF
   by_cases h0:0<l.size
   ·rw[show(0:Int)=((0:Nat):Int) from rfl,aRg h0,bN (by omega) (by omega),show(l.size:Int)-1=((l.size-1:Nat):Int) by omega,aRg (show l.size-1<l.size by omega)]
    have e1:decide ((l.size:Int)<1)= !decide (1≤l.size):=by rw[←decide_not];exact decide_eq_decide.2 (by omega)
    have e2:decide ((l.size:Int)>20)= !decide (l.size≤20):=by rw[←decide_not];exact decide_eq_decide.2 (by omega)
    rw[e1,e2]
    simp only[bd_s,bne,List.getD,List.getElem?_eq_getElem (show 0<(bO l).length by rw[iM];exact h0),List.getElem?_eq_getElem (show l.size-1<(bO l).length by rw[iM];omega),Option.getD_some]
    cases((bO l)[0]'_==45)<;>cases((bO l)[l.size-1]'_==45)<;>cases decide (1≤l.size)<;>cases decide (l.size≤20)<;>cases(bO l).any _<;>rfl
   ·rw[show decide ((l.size:Int)<1)=true from decide_eq_true (by omega),show decide (1≤l.size)=false from decide_eq_false (by omega)]
    rfl) (fun rec=>by simp only[bH,cond_false])]
  rw[show decide (s.size≤60)=true by simpa using h60]
  cases(bA s).any _<;>rfl
 ·rw[show decide ((s.size:Int)>60)=true from decide_eq_true (by omega),show decide (s.size≤60)=false by simpa using h60];rfl
theorem Td (s:ByteArray):sZ s=some (aVv s):=by
 unfold sZ aVv
 cases h:gD s with
 |false=>rfl
 |true=>
  have hs:=Hz h
  have hp:=aB2 s
  have es:gV s ⟨#[UInt8.ofNat 46]⟩=bA s:=aGo s
  rw[Bool.not_true,cond_false,cond_true,aG (show s.size<4294967281∧1≤(⟨#[UInt8.ofNat 46]⟩:ByteArray).size from⟨by omega,Nat.le_refl _⟩),bd_s,es]
  rw[show(((bA s).length:Int)==1)=((bA s).length==1) by rw[Bool.eq_iff_iff];simp only[beq_iff_eq];omega]
  cases h1:(bA s).length==1 with
  |true=>rfl
  |false=>
   have h2:(bA s).length≠1:=by simpa using h1
   have hl:=Hy s
   obtain⟨a,ha,b,hb,e⟩:=bAf (l:=bA s) (by omega)
   have ha:=qU s a ha
   have hb:=qU s b hb
   rw[cond_false,cond_false,bN (by omega) (by omega),show((bA s).length:Int)-2=(((bA s).length-2:Nat):Int) by omega,Int.toNat_natCast]
   have hd:((bA s).drop ((bA s).length-2)).length=2:=by rw[List.length_drop];omega
   have hj:(kU ⟨#[UInt8.ofNat 46]⟩ ((bA s).drop ((bA s).length-2))).size≤140737488355328:=by
    have e:kU ⟨#[UInt8.ofNat 46]⟩ ((bA s).drop ((bA s).length-2))=_:=e
    rw[e,ByteArray.size_append,ByteArray.size_append]
    have:(⟨#[46]⟩:ByteArray).size=1:=rfl
    omega
   rw[aG (show kY (bA s) (((bA s).length-2:Nat):Int) by unfold kY;omega),aG ⟨by omega,hj,by omega⟩]
   rfl
theorem aLn (s:ByteArray)(h:s.size≤9223372036854775807):Qw s=some (Nb s):=by
 unfold Qw Nb
 have hb:=iM s
 rw[kK (l:=bO s) (fun b=>b==46) (.inl true) (.inr ()) (by omega) (fun rec i hi=>by
  have hi':i<s.size:=by omega
  simp only[bG hi',cond_true,aRg hi',bd_s]) (fun rec=>by simp only[hb,bH,cond_false])]
 cases(bO s).any _<;>rfl
theorem Te (n:ByteArray)(seed:Int)(h:n.size≤9223372036854775807):tC n seed=some (jR n seed):=by
 unfold tC jR
 simp only[aG h,bd_s]
 rw[bC2,aK5]
 cases h:gD n with
 |false=>rfl
 |true=>rw[aZm h];cases decide (2≤(bA n).length)<;>cases mK seed<;>rfl
theorem aIb (n:ByteArray)(seed:Int)(h:n.size≤34359738368):Jm n seed=some (sH n seed):=by
 unfold Jm sH jR
 have e:decide (((bA n).length:Int)<2)= !decide (2≤(bA n).length):=by rw[←decide_not];exact decide_eq_decide.2 (by omega)
 simp only[aG h,bd_s,e]
 cases gD n<;>cases decide (2≤(bA n).length)<;>cases mK seed<;>rfl
theorem Tf (s:D.Site)(h:s.sz≤34359738368):sQ s=some (lI s):=by
 simp only[D.Site.sz] at h
 unfold sQ lI
 rw[fF (l:=s.Accounts) (Rv s.Accounts) (.inl false) (.inr ()) (by omega) (fun rec i hi=>by
  have hz:=dA (f:=D.aAE.sz) hi
  simp only[bG hi,cond_true,aD hi,bd_s,aG (show s.Accounts[i].sz≤34359738368 by omega)]
  unfold Rv
  by_cases h0:0<i
  ·rw[Hu h0 hi (by omega),show decide ((i:Int)>0)=true by simpa using h0,decide_eq_true h0]
   simp only[bd_s]
   cases fB s.Accounts[i]<;>cases decide ((s.Accounts.getD (i-1) default).Id≥s.Accounts[i].Id)<;>rfl
  ·rw[show decide ((i:Int)>0)=false by simpa using h0,decide_eq_false h0]
   cases fB s.Accounts[i]<;>rfl) (fun rec=>by simp only[bH,cond_false])]
 rw[show decide ((s.Accounts.length:Int)≤8)=decide (s.Accounts.length≤8) from decide_eq_decide.2 (by omega)]
 have e3:(!((sH s.Name s.Book.Seed).Name.toList==(⟨#[]⟩:ByteArray).toList))=jR s.Name s.Book.Seed:=by rw[bC2,aSv,Bool.not_not]
 simp only[aG (show s.Name.size≤34359738368 by omega),aG (show s.Book.sz≤34359738368 by simp only[D.aAC.sz];omega),bd_s,e3]
 cases jR s.Name s.Book.Seed<;>cases decide (s.Accounts.length≤8)<;>cases lH s.Book<;>cases eU (Rv s.Accounts) 0 s.Accounts<;>rfl
theorem Tg (s:D.Site)(h:s.sz≤34359738368):tH s=some (lI s):=by
 simp only[D.Site.sz] at h
 unfold tH lI
 rw[fF (l:=s.Accounts) (Rv s.Accounts) (.inl false) (.inr ()) (by omega) (fun rec i hi=>by
  have hz:=dA (f:=D.aAE.sz) hi
  simp only[bG hi,cond_true,aD hi,bd_s,aG (show s.Accounts[i].sz≤34359738368 by omega)]
  unfold Rv
  by_cases h0:0<i
  ·rw[Hu h0 hi (by omega),show decide ((i:Int)>0)=true by simpa using h0,decide_eq_true h0]
   simp only[bd_s]
   cases fB s.Accounts[i]<;>cases decide ((s.Accounts.getD (i-1) default).Id≥s.Accounts[i].Id)<;>rfl
  ·rw[show decide ((i:Int)>0)=false by simpa using h0,decide_eq_false h0]
   cases fB s.Accounts[i]<;>rfl) (fun rec=>by simp only[bH,cond_false])]
 rw[show decide ((s.Accounts.length:Int)>8)= !decide (s.Accounts.length≤8) by rw[←decide_not];exact decide_eq_decide.2 (by omega)]
 simp only[aG (show s.Name.size≤9223372036854775807 by omega),aG (show s.Book.sz≤34359738368 by simp only[D.aAC.sz];omega),bd_s]
 cases jR s.Name s.Book.Seed<;>cases decide (s.Accounts.length≤8)<;>cases lH s.Book<;>cases eU (Rv s.Accounts) 0 s.Accounts<;>rfl
theorem aIc (l:List D.aAD)(e:D.aAD)(h:l.length≤34359738368):Jo l e=some (nU l e):=by
 unfold Jo nU
 have hd:=Qi l
 rw[kK (l:=l) (fun q=>q.Kind==2&&q.Device==e.Device) (.inl false) (.inr ()) (by omega) (fun rec i hi=>by
  simp only[bG hi,cond_true,aD hi,bd_s,kL];cases(l[i].Kind==2)<;>rfl) (fun rec=>by simp only[bH,cond_false])]
 rw[show(l.any fun q=>q.Kind==2&&q.Device==e.Device)=lG l e.Device from rfl]
 simp only[aG h,aG (show(bF l).length≤1099511627776 by omega),aG (show([dH e]:List Int).length≤34359738300 by simp),bd_s,bne]
 cases(e.Index==(l.length:Int))<;>cases(e.Previous==gL l)<;>cases jD (bF l) e.By<;>cases((l.length:Int)==0)<;>cases(e.By==e.Device)<;>cases iZ e.By [dH e] e.Signature<;>cases(e.Kind==2)<;>cases jD (bF l) e.Device<;>cases lG l e.Device<;>cases(e.Kind==1)<;>rfl
theorem Q7 (l:List D.aAD)(h:l.length≤34359738368):xV l=some (sG l):=by
 unfold xV sG
 rw[fF (l:=l) (fun i e=> !nU (l.take i) e) (.inl false) (.inr ()) (by omega) (fun rec i hi=>by
  simp only[bG hi,cond_true,aD hi,bd_s,bJ]
  rw[aG (by unfold kY;simp;omega),aG (by rw[List.length_take];omega)];rfl) (fun rec=>by simp only[bH,cond_false])]
 cases eU (fun i e=> !nU (l.take i) e) 0 l<;>simp
theorem Q8 (l:List D.aAD)(h:l.length≤34359738368):yK l=some (sG l):=by
 unfold yK sG
 rw[fF (l:=l) (fun i e=> !nU (l.take i) e) (.inl false) (.inr ()) (by omega) (fun rec i hi=>by
  have ht:(l.take i).length=i:=by rw[List.length_take];omega
  have hb:(l.take i).length≤34359738368:=by omega
  have hd:=Qi (l.take i)
  simp only[bG hi,cond_true,aD hi,bd_s,bJ,aG (show kY l (i:Int) by unfold kY;omega),aG hb,aG (show(bF (l.take i)).length≤1099511627776 by omega),aG (show([dH l[i]]:List Int).length≤34359738300 by simp)]
  unfold nU
  rw[ht]
  generalize l[i]=e
  have h1:decide (((bF (l.take i)).length:Int)≥6)= !decide (((bF (l.take i)).length:Int)<6):=by rw[←decide_not];exact decide_eq_decide.2 (by omega)
  have h2:jD (bF (l.take i)) e.Device=true→decide (((bF (l.take i)).length:Int)>1)= !(((bF (l.take i)).length:Int)==1):=fun hh=>by
   have:=aXy hh
   rw[←Bool.decide_eq_true (b:=(((bF (l.take i)).length:Int)==1)),←decide_not]
   exact decide_eq_decide.2 (by simp;omega)
  simp only[h1,bne]
  cases h3:(e.Kind==2) with
  |true=>
   have h4:(e.Kind==1)=false:=by simp at h3 ⊢;omega
   rw[h4]
   cases hd:jD (bF (l.take i)) e.Device with
   |true=>
    rw[h2 hd]
    cases(e.Index==(i:Int))<;>cases(e.Previous==gL (l.take i))<;>cases jD (bF (l.take i)) e.By<;>cases((i:Int)==0)<;>cases(e.By==e.Device)<;>cases iZ e.By [dH e] e.Signature<;>cases(((bF (l.take i)).length:Int)==1)<;>rfl
   |false=>cases(e.Index==(i:Int))<;>cases(e.Previous==gL (l.take i))<;>cases jD (bF (l.take i)) e.By<;>cases((i:Int)==0)<;>cases(e.By==e.Device)<;>cases iZ e.By [dH e] e.Signature<;>rfl
  |false=>
   cases(e.Kind==1) with
   |true=>cases(e.Index==(i:Int))<;>cases(e.Previous==gL (l.take i))<;>cases jD (bF (l.take i)) e.By<;>cases((i:Int)==0)<;>cases(e.By==e.Device)<;>cases iZ e.By [dH e] e.Signature<;>cases jD (bF (l.take i)) e.Device<;>cases lG (l.take i) e.Device<;>cases decide (((bF (l.take i)).length:Int)<6)<;>rfl
   |false=>cases(e.Index==(i:Int))<;>cases(e.Previous==gL (l.take i))<;>cases jD (bF (l.take i)) e.By<;>cases((i:Int)==0)<;>cases(e.By==e.Device)<;>cases iZ e.By [dH e] e.Signature<;>cases lG (l.take i) e.Device<;>rfl) (fun rec=>by simp only[bH,cond_false])]
 unfold cZ
 have e1:decide ((l.length:Int)<1)= !decide (1≤(l.length:Int)):=by rw[←decide_not];exact decide_eq_decide.2 (by omega)
 have e2:decide ((l.length:Int)>40)= !decide ((l.length:Int)≤40):=by rw[←decide_not];exact decide_eq_decide.2 (by omega)
 rw[e1,e2]
 cases decide (1≤(l.length:Int))<;>cases decide ((l.length:Int)≤40)<;>cases eU (fun i e=> !nU (l.take i) e) 0 l<;>rfl
theorem Nw (w:D.World)(h:w.sz≤34359738368):qB w=some (iO w):=by
 simp only[D.World.sz] at h
 unfold qB iO
 rw[fF (l:=w.Sites) sI (.inl false) (.inr ()) (by omega) (fun rec i hi=>by
  have hz:=dA (f:=D.Site.sz) hi
  simp only[bG hi,cond_true,aD hi,bd_s,aG (show w.Sites[i].sz≤34359738368 by omega)]
  unfold sI
  cases lI w.Sites[i]<;>cases(w.Sites[i].Name.toList==(gX (i:Int)).toList)<;>rfl) (fun rec=>by simp only[bH,cond_false])]
 simp only[aG (show w.Mail.sz≤34359738368 by simp only[D.aAI.sz];omega),aG (show w.aAJ.Log.length≤34359738368 by omega),bne,bd_s]
 cases eU sI 0 w.Sites<;>cases cZ w.Now 0 999900<;>cases cZ (w.Devices.length:Int) 1 6<;>cases((w.Stolen.length:Int)==(w.Devices.length:Int))<;>cases((w.Sites.length:Int)==2)<;>cases dU w.Mail<;>cases sG w.aAJ.Log<;>cases mK w.Seed<;>rfl
theorem Ny (w:D.World)(h:w.sz≤34359738368):qE w=some (iO w):=by
 simp only[D.World.sz] at h
 unfold qE iO
 rw[fF (l:=w.Sites) sI (.inl false) (.inr ()) (by omega) (fun rec i hi=>by
  have hz:=dA (f:=D.Site.sz) hi
  simp only[bG hi,cond_true,aD hi,bd_s,aG (show w.Sites[i].sz≤34359738368 by omega)]
  unfold sI
  cases lI w.Sites[i]<;>cases(w.Sites[i].Name.toList==(gX (i:Int)).toList)<;>rfl) (fun rec=>by simp only[bH,cond_false])]
 simp only[aG (show w.Mail.sz≤34359738368 by simp only[D.aAI.sz];omega),aG (show w.aAJ.Log.length≤34359738368 by omega),bne,bd_s]
 cases eU sI 0 w.Sites<;>cases cZ w.Now 0 999900<;>cases cZ (w.Devices.length:Int) 1 6<;>cases((w.Stolen.length:Int)==(w.Devices.length:Int))<;>cases((w.Sites.length:Int)==2)<;>cases dU w.Mail<;>cases sG w.aAJ.Log<;>cases mK w.Seed<;>rfl
end
end Go.VK
