import Derived.Test.YtefkjglmpmakcaaGreatDoorXlPf
import Derived.Test.YtefkjglmpmakcaaGreatDoorXlQ
/- Printed by wip/tools: models, walks, proofs. -/
set_option linter.unusedVariables false
set_option linter.unusedSimpArgs false
set_option maxRecDepth 100000
set_option maxHeartbeats 4000000
namespace Go.VK
open Go.RowKit Go.Proofs
noncomputable section
open EV (bS)
theorem aMm (l:List D.aAI)(p:Int)(i:Nat)(hi:i≤l.length)(h:l.length≤34359738368){F:(Nat→Option ((Bool⊕PUnit)⊕PUnit))→Nat→Option ((Bool⊕PUnit)⊕PUnit)}(hF:∀rec j (hj:j<i),F rec j=bif (l[j]'(by omega)).Public==p then some (.inl (.inl false)) else rec (j+1))(hE:∀rec,F rec i=some (.inr ())):
  bS FUEL F 0=some (bif (l.take i).any (fun q=>q.Public==p) then .inl (.inl false) else .inr ()):=by
 have ht:(l.take i).length=i:=by rw[List.length_take];omega
 exact mG (l:=l.take i) (fun q=>q.Public==p) _ _ (by omega) (fun rec j hj=>by rw[hF rec j (by omega),List.getElem_take]) (fun rec=>by rw[ht];exact hE rec)
theorem aWa (a:D.aAF)(h:a.Credentials.length≤34359738368)(i:Nat)(hi:i<a.Credentials.length){τ:Type}{X:Option τ}{r:Option τ}{K:Option τ}(hX:X=bif (a.Credentials.take i).any (fun q=>q.Public==a.Credentials[i].Public) then r else K):
  (bd (bif (!cK a.Credentials[i].Handle (0:Int) (1000000:Int)) then(some (true)) else(bif (decide ((↑i:Int)>(0:Int))) then(bd (aT (a.Credentials) (IntKind.i64.wrap ((↑i:Int)-(1:Int)))) fun z5=>bif (decide (z5.Handle≥a.Credentials[i].Handle)) then(some (true)) else(bd (some (fQ a.Credentials[i].Public)) fun z6=>bif (z6==(0:Int)) then(some (true)) else(some (!cK a.Credentials[i].Counter (0:Int) (1000000:Int))))) else(bd (some (fQ a.Credentials[i].Public)) fun z5=>bif (z5==(0:Int)) then(some (true)) else(some (!cK a.Credentials[i].Counter (0:Int) (1000000:Int)))))) fun z4=>bif z4 then r else X)=bif Ec a i a.Credentials[i] then r else K:=by
 rw[hX];unfold Ec
 by_cases h0:0<i
 ·rw[J3 h0 hi h,show decide ((i:Int)>0)=true by simpa using h0,decide_eq_true h0]
  simp only[bd_s]
  cases cK a.Credentials[i].Handle 0 1000000<;>cases decide ((a.Credentials.getD (i-1) default).Handle≥a.Credentials[i].Handle)<;>cases(fQ a.Credentials[i].Public==0)<;>cases cK a.Credentials[i].Counter 0 1000000<;>cases(a.Credentials.take i).any (fun q=>q.Public==a.Credentials[i].Public)<;>rfl
 ·rw[show decide ((i:Int)>0)=false by simpa using h0,decide_eq_false h0]
  simp only[bd_s]
  cases cK a.Credentials[i].Handle 0 1000000<;>cases(fQ a.Credentials[i].Public==0)<;>cases cK a.Credentials[i].Counter 0 1000000<;>cases(a.Credentials.take i).any (fun q=>q.Public==a.Credentials[i].Public)<;>rfl
theorem Iq (a:D.aAF)(h:a.sz≤34359738368):oU a=some (bP a):=by
 simp only[D.aAF.sz] at h
 unfold oU bP
 rw[kW (l:=a.Credentials) (Ec a) (.inl false) (.inr ()) (by omega) (fun rec i hi=>by
  simp only[bJ hi,cond_true,aF hi,bd_s]
  rw[aMm a.Credentials a.Credentials[i].Public i (by omega) h (fun rec j hj=>by simp only[bJ hj,cond_true,aF (show j<a.Credentials.length by omega),bd_s]) (fun rec=>by simp only[bM,cond_false])]
  have:=aWa a h i hi (X:=nx (some (bif (a.Credentials.take i).any (fun q=>q.Public==a.Credentials[i].Public) then Sum.inl (Sum.inl false) else Sum.inr PUnit.unit)) fun _=>rec (i+1)) (r:=some (.inl false)) (K:=rec (i+1)) (by cases(a.Credentials.take i).any _<;>rfl)
  rw[←this]
  simp only[bd_s]
  generalize(bif !cK a.Credentials[i].Handle 0 1000000 then _ else _:Option Bool)=q
  cases q with
  |none=>rfl
  |some b=>cases b<;>rfl) (fun rec=>by simp only[bM,cond_false])]
 rw[show decide ((a.Credentials.length:Int)≤8)=decide (a.Credentials.length≤8) from decide_eq_decide.2 (by omega)]
 cases cK a.Id 0 1000000<;>cases cK a.Minimum 1 3<;>cases decide (a.Credentials.length≤8)<;>cases mK (Ec a) 0 a.Credentials<;>rfl
theorem Ir (a:D.aAF)(h:a.sz≤34359738368):pF a=some (bP a):=by
 simp only[D.aAF.sz] at h
 unfold pF bP
 rw[kW (l:=a.Credentials) (Ec a) (.inl false) (.inr ()) (by omega) (fun rec i hi=>by
  have ht:(a.Credentials.take i).length=i:=by rw[List.length_take];omega
  simp only[bJ hi,cond_true,aF hi,bd_s,gY]
  rw[aB (show jN a.Credentials (i:Int) by unfold jN;omega)]
  rw[aMm a.Credentials a.Credentials[i].Public i (by omega) h (fun rec j hj=>by simp only[ht,bJ hj,cond_true,aF (show j<(a.Credentials.take i).length by omega),bd_s,List.getElem_take]) (fun rec=>by simp only[ht,bM,cond_false])]
  have:=aWa a h i hi (X:=nx (some (bif (a.Credentials.take i).any (fun q=>q.Public==a.Credentials[i].Public) then Sum.inl (Sum.inl false) else Sum.inr PUnit.unit)) fun _=>rec (i+1)) (r:=some (.inl false)) (K:=rec (i+1)) (by cases(a.Credentials.take i).any _<;>rfl)
  rw[←this]
  simp only[bd_s]
  generalize(bif !cK a.Credentials[i].Handle 0 1000000 then _ else _:Option Bool)=q
  cases q with
  |none=>rfl
  |some b=>cases b<;>rfl) (fun rec=>by simp only[bM,cond_false])]
 rw[show decide ((a.Credentials.length:Int)>8)= !decide (a.Credentials.length≤8) by rw[←decide_not];exact decide_eq_decide.2 (by omega)]
 cases cK a.Id 0 1000000<;>cases cK a.Minimum 1 3<;>cases decide (a.Credentials.length≤8)<;>cases mK (Ec a) 0 a.Credentials<;>rfl
theorem qG (s:ByteArray)(hs:s.size≤34359738368):∀(n f i st:Nat) (acc:List ByteArray),s.size-i=n→n+1<f→st≤i→i≤s.size→acc.length≤i→bS f (fun rec1 (i1:(List ByteArray×Int×Int))=>bif (decide (i1.2.2≤(↑s.size:Int))) then(bd (bd (bif (i1.2.2==(↑s.size:Int)) then(some (true)) else(bd (aT (bQ s) (i1.2.2)) fun z4=>some (z4==(46:Int)))) fun z3=>bif z3 then(gd (Tf s i1.2.1 i1.2.2) (gd (bD i1.1 [s.extract i1.2.1.toNat i1.2.2.toNat]) (some ((i1.1++[s.extract i1.2.1.toNat i1.2.2.toNat],IntKind.i64.wrap (i1.2.2+(1:Int))))))) else(some (i1.1,i1.2.1))) fun(z2:List ByteArray×Int)=>rec1 ((z2.1,z2.2,IntKind.i64.wrap (i1.2.2+(1:Int))))) else(some (i1.1))) (acc,(st:Int),(i:Int))=some (acc++(iC ((s.data.toList.drop st).take (i-st)) (s.data.toList.drop i)).map fun l=>(⟨l.toArray⟩:ByteArray))
 |n,f+1,i,st,acc,hn,hf,h1,h2,h3=>by
  rw[jF]
  have e0:decide ((i:Int)≤(s.size:Int))=true:=by simpa using(show(i:Int)≤(s.size:Int) by omega)
  have es:Tf s (st:Int) (i:Int):=⟨by omega,by omega,by omega⟩
  have ea:bD acc ([s.extract (st:Int).toNat (i:Int).toNat]:List ByteArray):=by unfold bD;simp;omega
  have ew:IntKind.i64.wrap ((i:Int)+1)=((i+1:Nat):Int):=by rw[aK (by omega) (by omega)];omega
  simp only[e0,cond_true]
  rcases Nat.lt_or_ge i s.size with hlt|hge
  ·have e1:((i:Int)==(s.size:Int))=false:=by simp;omega
   have hd:s.data.toList.drop i=s.data.toList[i]'hlt::s.data.toList.drop (i+1):=(List.drop_eq_getElem_cons hlt)
   have hb:(bQ s)[i]'(by rw[iD];exact hlt)=((s.data.toList[i]'hlt).toNat:Int):=by simp[bQ]
   have hq:(((s.data.toList[i]'hlt).toNat:Int)==46)=(s.data.toList[i]'hlt==46):=by
    rw[Bool.eq_iff_iff];simp only[beq_iff_eq]
    constructor
    ·intro q;apply UInt8.toNat_inj.1;show _=46;omega
    ·intro q;rw[q];rfl
   rw[e1,cond_false,aVm hlt,bd_s,bd_s,hb,hq,hd,iC]
   cases hc:(s.data.toList[i]'hlt==46) with
   |true=>
    rw[cond_true,aB es,aB ea,bd_s]
    dsimp only
    rw[ew,cond_true,qG s hs (n-1) f (i+1) (i+1) _ (by omega) (by omega) (Nat.le_refl _) (by omega) (by simp;omega),Int.toNat_natCast,Int.toNat_natCast,ext_list]
    simp
   |false=>
    rw[cond_false,bd_s]
    dsimp only
    rw[ew,cond_false,qG s hs (n-1) f (i+1) st _ (by omega) (by omega) (by omega) (by omega) (by omega)]
    have:(s.data.toList.drop st).take (i+1-st)=(s.data.toList.drop st).take (i-st)++[s.data.toList[i]'hlt]:=by
     rw[show i+1-st=(i-st)+1 by omega,List.take_add_one,List.getElem?_drop,show st+(i-st)=i by omega,List.getElem?_eq_getElem hlt];rfl
    rw[this]
  ·have e1:((i:Int)==(s.size:Int))=true:=by simp;omega
   obtain⟨f,rfl⟩:∃g,f=g+1:=⟨f-1,by omega⟩
   have hz:s.data.toList.length≤i:=by have:s.data.toList.length=s.size:=rfl;omega
   have e2:decide (((i+1:Nat):Int)≤(s.size:Int))=false:=by simp;omega
   rw[e1,cond_true,bd_s,cond_true,aB es,aB ea,bd_s,jF]
   dsimp only
   rw[ew]
   simp only[e2,cond_false]
   rw[List.drop_eq_nil_of_le hz,iC,Int.toNat_natCast,Int.toNat_natCast,ext_list];rfl
theorem aHi (s:ByteArray)(h:s.size≤34359738368):Gh s=some (bH s):=by
 unfold Gh
 have hf:=gU
 have:=qG s h s.size FUEL 0 0 [] rfl (by omega) (Nat.le_refl _) (Nat.zero_le _) (Nat.le_refl _)
 rw[show(0:Int)=((0:Nat):Int) from rfl]
 refine(congrArg (fun x=>bd x some) this).trans ?_
 simp[bH]
theorem aMn (s:ByteArray)(h:s.size≤34359738368):Lp s=some (qX s):=by
 unfold Lp qX
 have hb:=iD s
 rw[mG (l:=bQ s) (fun b=> !J4 b) (.inl false) (.inr ()) (by omega) (fun rec i hi=>by
  have hi':i<s.size:=by omega
  simp only[bJ hi',cond_true,aVm hi',bd_s]
  generalize(bQ s)[i]'_=b
  unfold J4 cK
  have c1:decide (b≥97)=decide (97≤b):=rfl
  have c2:decide (b≥48)=decide (48≤b):=rfl
  rw[c1,c2]
  cases decide (97≤b)<;>cases decide (b≤122)<;>cases decide (48≤b)<;>cases decide (b≤57)<;>cases(b==45)<;>rfl) (fun rec=>by simp only[hb,bM,cond_false])]
 have e:cK (s.size:Int) 1 20=(decide (1≤s.size)&&decide (s.size≤20)):=by unfold cK;congr 1<;>exact decide_eq_decide.2 (by omega)
 rw[e]
 by_cases h0:0<s.size
 ·rw[show(0:Int)=((0:Nat):Int) from rfl,aVm h0,aK (by omega) (by omega),show(s.size:Int)-1=((s.size-1:Nat):Int) by omega,aVm (show s.size-1<s.size by omega)]
  simp only[bd_s,bne,List.getD,List.getElem?_eq_getElem (show 0<(bQ s).length by rw[iD];exact h0),List.getElem?_eq_getElem (show s.size-1<(bQ s).length by rw[iD];omega),Option.getD_some]
  cases((bQ s)[0]'_==45)<;>cases((bQ s)[s.size-1]'_==45)<;>cases decide (1≤s.size)<;>cases decide (s.size≤20)<;>cases(bQ s).any _<;>rfl
 ·rw[show decide (1≤s.size)=false from decide_eq_false (by omega)]
  cases(bQ s).any _<;>rfl
theorem aPp (s:ByteArray)(h:s.size≤34359738368):Tt s=some (iH s):=by
 unfold Tt iH
 have hl:=Kr s
 simp only[aB h,bd_s]
 rw[mG (l:=bH s) (fun l=> !qX l) (.inl false) (.inr ()) (by omega) (fun rec i hi=>by
  have hz:(bH s)[i].size≤34359738368:=Nat.le_trans (tO s _ (List.getElem_mem _)) h
  simp only[bJ hi,cond_true,aF hi,bd_s,aB hz]) (fun rec=>by simp only[bM,cond_false])]
 have e':decide ((s.size:Int)≤60)=decide (s.size≤60):=decide_eq_decide.2 (by omega)
 rw[e']
 cases decide (s.size≤60)<;>cases(bH s).any _<;>rfl
theorem aPq (s:ByteArray):Ua s=some (iH s):=by
 unfold Ua iH
 by_cases h60:s.size≤60
 ·have hl:=Kr s
  rw[show decide ((s.size:Int)>60)=false from decide_eq_false (by omega),cond_false,aB (show s.size<4294967281∧1≤(⟨#[UInt8.ofNat 46]⟩:ByteArray).size from⟨by omega,Nat.le_refl _⟩),bd_s]
  have es:jE s ⟨#[UInt8.ofNat 46]⟩=bH s:=aK2 s
  rw[es]
  rw[mG (l:=bH s) (fun l=> !qX l) (.inl false) (.inr ()) (by omega) (fun rec i hi=>by
   have hz:(bH s)[i].size≤60:=Nat.le_trans (tO s _ (List.getElem_mem _)) h60
   simp only[bJ hi,cond_true,aF hi,bd_s]
   revert hz
   generalize(bH s)[i]=l
   intro hz
   have hb:=iD l
   rw[mG (l:=bQ l) (fun b=> !J4 b) (.inl (.inl false)) (.inr ()) (by omega) (fun rec i hi=>by
    have hi':i<l.size:=by omega
    simp only[bJ hi',cond_true,aVm hi',bd_s]
    generalize(bQ l)[i]'_=b
    unfold J4 cK
    have c1:decide (b≥97)=decide (97≤b):=rfl
    have c2:decide (b≥48)=decide (48≤b):=rfl
    rw[c1,c2]
    cases decide (97≤b)<;>cases decide (b≤122)<;>cases decide (48≤b)<;>cases decide (b≤57)<;>cases(b==45)<;>rfl) (fun rec=>by simp only[hb,bM,cond_false])]
   unfold qX
   by_cases h0:0<l.size
   ·rw[show(0:Int)=((0:Nat):Int) from rfl,aVm h0,aK (by omega) (by omega),show(l.size:Int)-1=((l.size-1:Nat):Int) by omega,aVm (show l.size-1<l.size by omega)]
    have e1:decide ((l.size:Int)<1)= !decide (1≤l.size):=by rw[←decide_not];exact decide_eq_decide.2 (by omega)
    have e2:decide ((l.size:Int)>20)= !decide (l.size≤20):=by rw[←decide_not];exact decide_eq_decide.2 (by omega)
    rw[e1,e2]
    simp only[bd_s,bne,List.getD,List.getElem?_eq_getElem (show 0<(bQ l).length by rw[iD];exact h0),List.getElem?_eq_getElem (show l.size-1<(bQ l).length by rw[iD];omega),Option.getD_some]
    cases((bQ l)[0]'_==45)<;>cases((bQ l)[l.size-1]'_==45)<;>cases decide (1≤l.size)<;>cases decide (l.size≤20)<;>cases(bQ l).any _<;>rfl
   ·rw[show decide ((l.size:Int)<1)=true from decide_eq_true (by omega),show decide (1≤l.size)=false from decide_eq_false (by omega)]
    rfl) (fun rec=>by simp only[bM,cond_false])]
  rw[show decide (s.size≤60)=true by simpa using h60]
  cases(bH s).any _<;>rfl
 ·rw[show decide ((s.size:Int)>60)=true from decide_eq_true (by omega),show decide (s.size≤60)=false by simpa using h60];rfl
theorem Wq (s:ByteArray):vK s=some (bAr s):=by
 unfold vK bAr
 cases h:iH s with
 |false=>rfl
 |true=>
  have hs:=Kt h
  have hp:=aF2 s
  have es:jE s ⟨#[UInt8.ofNat 46]⟩=bH s:=aK2 s
  rw[Bool.not_true,cond_false,cond_true,aB (show s.size<4294967281∧1≤(⟨#[UInt8.ofNat 46]⟩:ByteArray).size from⟨by omega,Nat.le_refl _⟩),bd_s,es]
  rw[show(((bH s).length:Int)==1)=((bH s).length==1) by rw[Bool.eq_iff_iff];simp only[beq_iff_eq];omega]
  cases h1:(bH s).length==1 with
  |true=>rfl
  |false=>
   have h2:(bH s).length≠1:=by simpa using h1
   have hl:=Kr s
   obtain⟨a,ha,b,hb,e⟩:=bFa (l:=bH s) (by omega)
   have ha:=tO s a ha
   have hb:=tO s b hb
   rw[cond_false,cond_false,aK (by omega) (by omega),show((bH s).length:Int)-2=(((bH s).length-2:Nat):Int) by omega,Int.toNat_natCast]
   have hd:((bH s).drop ((bH s).length-2)).length=2:=by rw[List.length_drop];omega
   have hj:(mW ⟨#[UInt8.ofNat 46]⟩ ((bH s).drop ((bH s).length-2))).size≤140737488355328:=by
    have e:mW ⟨#[UInt8.ofNat 46]⟩ ((bH s).drop ((bH s).length-2))=_:=e
    rw[e,ByteArray.size_append,ByteArray.size_append]
    have:(⟨#[46]⟩:ByteArray).size=1:=rfl
    omega
   rw[aB (show jN (bH s) (((bH s).length-2:Nat):Int) by unfold jN;omega),aB ⟨by omega,hj,by omega⟩]
   rfl
theorem aPr (s:ByteArray)(h:s.size≤9223372036854775807):Ub s=some (Pm s):=by
 unfold Ub Pm
 have hb:=iD s
 rw[mG (l:=bQ s) (fun b=>b==46) (.inl true) (.inr ()) (by omega) (fun rec i hi=>by
  have hi':i<s.size:=by omega
  simp only[bJ hi',cond_true,aVm hi',bd_s]) (fun rec=>by simp only[hb,bM,cond_false])]
 cases(bQ s).any _<;>rfl
theorem Ws (n:ByteArray)(seed:Int)(h:n.size≤9223372036854775807):vL n seed=some (jB n seed):=by
 unfold vL jB
 simp only[aB h,bd_s]
 rw[bIb,aPc]
 cases h:iH n with
 |false=>rfl
 |true=>rw[bEl h];cases decide (2≤(bH n).length)<;>cases dG seed<;>rfl
theorem aMo (n:ByteArray)(seed:Int)(h:n.size≤34359738368):Lr n seed=some (eY n seed):=by
 unfold Lr eY jB
 have e:decide (((bH n).length:Int)<2)= !decide (2≤(bH n).length):=by rw[←decide_not];exact decide_eq_decide.2 (by omega)
 simp only[aB h,bd_s,e]
 cases iH n<;>cases decide (2≤(bH n).length)<;>cases dG seed<;>rfl
theorem Wt (s:D.Site)(h:s.sz≤34359738368):uV s=some (fP s):=by
 simp only[D.Site.sz] at h
 unfold uV fP
 rw[kW (l:=s.Accounts) (Vf s.Accounts) (.inl false) (.inr ()) (by omega) (fun rec i hi=>by
  have hz:=fO (f:=D.aAF.sz) hi
  simp only[bJ hi,cond_true,aF hi,bd_s,aB (show s.Accounts[i].sz≤34359738368 by omega)]
  unfold Vf
  by_cases h0:0<i
  ·rw[J3 h0 hi (by omega),show decide ((i:Int)>0)=true by simpa using h0,decide_eq_true h0]
   simp only[bd_s]
   cases bP s.Accounts[i]<;>cases decide ((s.Accounts.getD (i-1) default).Id≥s.Accounts[i].Id)<;>rfl
  ·rw[show decide ((i:Int)>0)=false by simpa using h0,decide_eq_false h0]
   cases bP s.Accounts[i]<;>rfl) (fun rec=>by simp only[bM,cond_false])]
 rw[show decide ((s.Accounts.length:Int)≤8)=decide (s.Accounts.length≤8) from decide_eq_decide.2 (by omega)]
 have e3:(!((eY s.Name s.Book.Seed).Name.toList==(⟨#[]⟩:ByteArray).toList))=jB s.Name s.Book.Seed:=by rw[bIb,aXf,Bool.not_not]
 simp only[aB (show s.Name.size≤34359738368 by omega),aB (show s.Book.sz≤34359738368 by simp only[D.aAG.sz];omega),bd_s,e3]
 cases jB s.Name s.Book.Seed<;>cases decide (s.Accounts.length≤8)<;>cases nM s.Book<;>cases mK (Vf s.Accounts) 0 s.Accounts<;>rfl
theorem Wu (s:D.Site)(h:s.sz≤34359738368):vN s=some (fP s):=by
 simp only[D.Site.sz] at h
 unfold vN fP
 rw[kW (l:=s.Accounts) (Vf s.Accounts) (.inl false) (.inr ()) (by omega) (fun rec i hi=>by
  have hz:=fO (f:=D.aAF.sz) hi
  simp only[bJ hi,cond_true,aF hi,bd_s,aB (show s.Accounts[i].sz≤34359738368 by omega)]
  unfold Vf
  by_cases h0:0<i
  ·rw[J3 h0 hi (by omega),show decide ((i:Int)>0)=true by simpa using h0,decide_eq_true h0]
   simp only[bd_s]
   cases bP s.Accounts[i]<;>cases decide ((s.Accounts.getD (i-1) default).Id≥s.Accounts[i].Id)<;>rfl
  ·rw[show decide ((i:Int)>0)=false by simpa using h0,decide_eq_false h0]
   cases bP s.Accounts[i]<;>rfl) (fun rec=>by simp only[bM,cond_false])]
 rw[show decide ((s.Accounts.length:Int)>8)= !decide (s.Accounts.length≤8) by rw[←decide_not];exact decide_eq_decide.2 (by omega)]
 simp only[aB (show s.Name.size≤9223372036854775807 by omega),aB (show s.Book.sz≤34359738368 by simp only[D.aAG.sz];omega),bd_s]
 cases jB s.Name s.Book.Seed<;>cases decide (s.Accounts.length≤8)<;>cases nM s.Book<;>cases mK (Vf s.Accounts) 0 s.Accounts<;>rfl
theorem aMp (l:List D.aAB)(e:D.aAB)(h:l.length≤34359738368):Li l e=some (qN l e):=by
 unfold Li qN
 have hd:=gN l
 rw[mG (l:=l) (fun q=>q.Kind==2&&q.Device==e.Device) (.inl false) (.inr ()) (by omega) (fun rec i hi=>by
  simp only[bJ hi,cond_true,aF hi,bd_s,jC];cases(l[i].Kind==2)<;>rfl) (fun rec=>by simp only[bM,cond_false])]
 rw[show(l.any fun q=>q.Kind==2&&q.Device==e.Device)=nL l e.Device from rfl]
 simp only[aB h,aB (show(aJ l).length≤1099511627776 by omega),aB (show([dE e]:List Int).length≤34359738300 by simp),bd_s,bne]
 cases(e.Index==(l.length:Int))<;>cases(e.Previous==gP l)<;>cases jP (aJ l) e.By<;>cases((l.length:Int)==0)<;>cases(e.By==e.Device)<;>cases kP e.By [dE e] e.Signature<;>cases(e.Kind==2)<;>cases jP (aJ l) e.Device<;>cases nL l e.Device<;>cases(e.Kind==1)<;>rfl
theorem aCq (l:List D.aAB)(h:l.length≤34359738368):Ar l=some (cO l):=by
 unfold Ar cO
 rw[kW (l:=l) (fun i e=> !qN (l.take i) e) (.inl false) (.inr ()) (by omega) (fun rec i hi=>by
  simp only[bJ hi,cond_true,aF hi,bd_s,gY]
  rw[aB (by unfold jN;simp;omega),aB (by rw[List.length_take];omega)];rfl) (fun rec=>by simp only[bM,cond_false])]
 cases mK (fun i e=> !qN (l.take i) e) 0 l<;>simp
theorem aCr (l:List D.aAB)(h:l.length≤34359738368):Bh l=some (cO l):=by
 unfold Bh cO
 rw[kW (l:=l) (fun i e=> !qN (l.take i) e) (.inl false) (.inr ()) (by omega) (fun rec i hi=>by
  have ht:(l.take i).length=i:=by rw[List.length_take];omega
  have hb:(l.take i).length≤34359738368:=by omega
  have hd:=gN (l.take i)
  simp only[bJ hi,cond_true,aF hi,bd_s,gY,aB (show jN l (i:Int) by unfold jN;omega),aB hb,aB (show(aJ (l.take i)).length≤1099511627776 by omega),aB (show([dE l[i]]:List Int).length≤34359738300 by simp)]
  unfold qN
  rw[ht]
  generalize l[i]=e
  have h1:decide (((aJ (l.take i)).length:Int)≥6)= !decide (((aJ (l.take i)).length:Int)<6):=by rw[←decide_not];exact decide_eq_decide.2 (by omega)
  have h2:jP (aJ (l.take i)) e.Device=true→decide (((aJ (l.take i)).length:Int)>1)= !(((aJ (l.take i)).length:Int)==1):=fun hh=>by
   have:=bCz hh
   rw[←Bool.decide_eq_true (b:=(((aJ (l.take i)).length:Int)==1)),←decide_not]
   exact decide_eq_decide.2 (by simp;omega)
  simp only[h1,bne]
  cases h3:(e.Kind==2) with
  |true=>
   have h4:(e.Kind==1)=false:=by simp at h3 ⊢;omega
   rw[h4]
   cases hd:jP (aJ (l.take i)) e.Device with
   |true=>
    rw[h2 hd]
    cases(e.Index==(i:Int))<;>cases(e.Previous==gP (l.take i))<;>cases jP (aJ (l.take i)) e.By<;>cases((i:Int)==0)<;>cases(e.By==e.Device)<;>cases kP e.By [dE e] e.Signature<;>cases(((aJ (l.take i)).length:Int)==1)<;>rfl
   |false=>cases(e.Index==(i:Int))<;>cases(e.Previous==gP (l.take i))<;>cases jP (aJ (l.take i)) e.By<;>cases((i:Int)==0)<;>cases(e.By==e.Device)<;>cases kP e.By [dE e] e.Signature<;>rfl
  |false=>
   cases(e.Kind==1) with
   |true=>cases(e.Index==(i:Int))<;>cases(e.Previous==gP (l.take i))<;>cases jP (aJ (l.take i)) e.By<;>cases((i:Int)==0)<;>cases(e.By==e.Device)<;>cases kP e.By [dE e] e.Signature<;>cases jP (aJ (l.take i)) e.Device<;>cases nL (l.take i) e.Device<;>cases decide (((aJ (l.take i)).length:Int)<6)<;>rfl
   |false=>cases(e.Index==(i:Int))<;>cases(e.Previous==gP (l.take i))<;>cases jP (aJ (l.take i)) e.By<;>cases((i:Int)==0)<;>cases(e.By==e.Device)<;>cases kP e.By [dE e] e.Signature<;>cases nL (l.take i) e.Device<;>rfl) (fun rec=>by simp only[bM,cond_false])]
 unfold cK
 have e1:decide ((l.length:Int)<1)= !decide (1≤(l.length:Int)):=by rw[←decide_not];exact decide_eq_decide.2 (by omega)
 have e2:decide ((l.length:Int)>40)= !decide ((l.length:Int)≤40):=by rw[←decide_not];exact decide_eq_decide.2 (by omega)
 rw[e1,e2]
 cases decide (1≤(l.length:Int))<;>cases decide ((l.length:Int)≤40)<;>cases mK (fun i e=> !qN (l.take i) e) 0 l<;>rfl
end
end Go.VK
