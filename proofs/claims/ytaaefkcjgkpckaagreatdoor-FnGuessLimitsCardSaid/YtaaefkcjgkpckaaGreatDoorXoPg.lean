import Derived.Test.YtaaefkcjgkpckaaGreatDoorXoPf
import Derived.Test.YtaaefkcjgkpckaaGreatDoorXoQ
/- Printed by wip/tools: models, walks, proofs. -/
set_option linter.unusedVariables false
set_option linter.unusedSimpArgs false
set_option maxRecDepth 100000
set_option maxHeartbeats 4000000
namespace Go.VK
open Go.RowKit Go.Proofs
noncomputable section
open EV (bM)
theorem aHx (l:List D.aAK)(p:Int)(i:Nat)(hi:i≤l.length)(h:l.length≤34359738368){F:(Nat→Option ((Bool⊕PUnit)⊕PUnit))→Nat→Option ((Bool⊕PUnit)⊕PUnit)}(hF:∀rec j (hj:j<i),F rec j=bif (l[j]'(by omega)).Public==p then some (.inl (.inl false)) else rec (j+1))(hE:∀rec,F rec i=some (.inr ())):
  bM FUEL F 0=some (bif (l.take i).any (fun q=>q.Public==p) then .inl (.inl false) else .inr ()):=by
 have ht:(l.take i).length=i:=by rw[List.length_take];omega
 exact lD (l:=l.take i) (fun q=>q.Public==p) _ _ (by omega) (fun rec j hj=>by rw[hF rec j (by omega),List.getElem_take]) (fun rec=>by rw[ht];exact hE rec)
theorem aRr (a:D.aAG)(h:a.Credentials.length≤34359738368)(i:Nat)(hi:i<a.Credentials.length){τ:Type}{X:Option τ}{r:Option τ}{K:Option τ}(hX:X=bif (a.Credentials.take i).any (fun q=>q.Public==a.Credentials[i].Public) then r else K):
  (bd (bif (!aW a.Credentials[i].Handle (0:Int) (1000000:Int)) then(some (true)) else(bif (decide ((↑i:Int)>(0:Int))) then(bd (bA (a.Credentials) (IntKind.i64.wrap ((↑i:Int)-(1:Int)))) fun z5=>bif (decide (z5.Handle≥a.Credentials[i].Handle)) then(some (true)) else(bd (some (dW a.Credentials[i].Public)) fun z6=>bif (z6==(0:Int)) then(some (true)) else(some (!aW a.Credentials[i].Counter (0:Int) (1000000:Int))))) else(bd (some (dW a.Credentials[i].Public)) fun z5=>bif (z5==(0:Int)) then(some (true)) else(some (!aW a.Credentials[i].Counter (0:Int) (1000000:Int)))))) fun z4=>bif z4 then r else X)=bif qG a i a.Credentials[i] then r else K:=by
 rw[hX];unfold qG
 by_cases h0:0<i
 ·rw[Ig h0 hi h,show decide ((i:Int)>0)=true by simpa using h0,decide_eq_true h0]
  simp only[bd_s]
  cases aW a.Credentials[i].Handle 0 1000000<;>cases decide ((a.Credentials.getD (i-1) default).Handle≥a.Credentials[i].Handle)<;>cases(dW a.Credentials[i].Public==0)<;>cases aW a.Credentials[i].Counter 0 1000000<;>cases(a.Credentials.take i).any (fun q=>q.Public==a.Credentials[i].Public)<;>rfl
 ·rw[show decide ((i:Int)>0)=false by simpa using h0,decide_eq_false h0]
  simp only[bd_s]
  cases aW a.Credentials[i].Handle 0 1000000<;>cases(dW a.Credentials[i].Public==0)<;>cases aW a.Credentials[i].Counter 0 1000000<;>cases(a.Credentials.take i).any (fun q=>q.Public==a.Credentials[i].Public)<;>rfl
theorem Fv (a:D.aAG)(h:a.sz≤34359738368):oJ a=some (bC a):=by
 simp only[D.aAG.sz] at h
 unfold oJ bC
 rw[eG (l:=a.Credentials) (qG a) (.inl false) (.inr ()) (by omega) (fun rec i hi=>by
  simp only[bU hi,cond_true,aH hi,bd_s]
  rw[aHx a.Credentials a.Credentials[i].Public i (by omega) h (fun rec j hj=>by simp only[bU hj,cond_true,aH (show j<a.Credentials.length by omega),bd_s]) (fun rec=>by simp only[bX,cond_false])]
  have:=aRr a h i hi (X:=nx (some (bif (a.Credentials.take i).any (fun q=>q.Public==a.Credentials[i].Public) then Sum.inl (Sum.inl false) else Sum.inr PUnit.unit)) fun _=>rec (i+1)) (r:=some (.inl false)) (K:=rec (i+1)) (by cases(a.Credentials.take i).any _<;>rfl)
  rw[←this]
  simp only[bd_s]
  generalize(bif !aW a.Credentials[i].Handle 0 1000000 then _ else _:Option Bool)=q
  cases q with
  |none=>rfl
  |some b=>cases b<;>rfl) (fun rec=>by simp only[bX,cond_false])]
 rw[show decide ((a.Credentials.length:Int)≤8)=decide (a.Credentials.length≤8) from decide_eq_decide.2 (by omega)]
 cases aW a.Id 0 1000000<;>cases aW a.Minimum 1 3<;>cases decide (a.Credentials.length≤8)<;>cases dJ (qG a) 0 a.Credentials<;>rfl
theorem Fw (a:D.aAG)(h:a.sz≤34359738368):oM a=some (bC a):=by
 simp only[D.aAG.sz] at h
 unfold oM bC
 rw[eG (l:=a.Credentials) (qG a) (.inl false) (.inr ()) (by omega) (fun rec i hi=>by
  have ht:(a.Credentials.take i).length=i:=by rw[List.length_take];omega
  simp only[bU hi,cond_true,aH hi,bd_s,aN9]
  rw[aA (show jG a.Credentials (i:Int) by unfold jG;omega)]
  rw[aHx a.Credentials a.Credentials[i].Public i (by omega) h (fun rec j hj=>by simp only[ht,bU hj,cond_true,aH (show j<(a.Credentials.take i).length by omega),bd_s,List.getElem_take]) (fun rec=>by simp only[ht,bX,cond_false])]
  have:=aRr a h i hi (X:=nx (some (bif (a.Credentials.take i).any (fun q=>q.Public==a.Credentials[i].Public) then Sum.inl (Sum.inl false) else Sum.inr PUnit.unit)) fun _=>rec (i+1)) (r:=some (.inl false)) (K:=rec (i+1)) (by cases(a.Credentials.take i).any _<;>rfl)
  rw[←this]
  simp only[bd_s]
  generalize(bif !aW a.Credentials[i].Handle 0 1000000 then _ else _:Option Bool)=q
  cases q with
  |none=>rfl
  |some b=>cases b<;>rfl) (fun rec=>by simp only[bX,cond_false])]
 rw[show decide ((a.Credentials.length:Int)>8)= !decide (a.Credentials.length≤8) by rw[←decide_not];exact decide_eq_decide.2 (by omega)]
 cases aW a.Id 0 1000000<;>cases aW a.Minimum 1 3<;>cases decide (a.Credentials.length≤8)<;>cases dJ (qG a) 0 a.Credentials<;>rfl
theorem pX (s:ByteArray)(hs:s.size≤34359738368):∀(n f i st:Nat) (acc:List ByteArray),s.size-i=n→n+1<f→st≤i→i≤s.size→acc.length≤i→bM f (fun rec1 (i1:(List ByteArray×Int×Int))=>bif (decide (i1.2.2≤(↑s.size:Int))) then(bd (bd (bif (i1.2.2==(↑s.size:Int)) then(some (true)) else(bd (bA (bF s) (i1.2.2)) fun z4=>some (z4==(46:Int)))) fun z3=>bif z3 then(gd (Qj s i1.2.1 i1.2.2) (gd (aO i1.1 [s.extract i1.2.1.toNat i1.2.2.toNat]) (some ((i1.1++[s.extract i1.2.1.toNat i1.2.2.toNat],IntKind.i64.wrap (i1.2.2+(1:Int))))))) else(some (i1.1,i1.2.1))) fun(z2:List ByteArray×Int)=>rec1 ((z2.1,z2.2,IntKind.i64.wrap (i1.2.2+(1:Int))))) else(some (i1.1))) (acc,(st:Int),(i:Int))=some (acc++(gQ ((s.data.toList.drop st).take (i-st)) (s.data.toList.drop i)).map fun l=>(⟨l.toArray⟩:ByteArray))
 |n,f+1,i,st,acc,hn,hf,h1,h2,h3=>by
  rw[jJ]
  have e0:decide ((i:Int)≤(s.size:Int))=true:=by simpa using(show(i:Int)≤(s.size:Int) by omega)
  have es:Qj s (st:Int) (i:Int):=⟨by omega,by omega,by omega⟩
  have ea:aO acc ([s.extract (st:Int).toNat (i:Int).toNat]:List ByteArray):=by unfold aO;simp;omega
  have ew:IntKind.i64.wrap ((i:Int)+1)=((i+1:Nat):Int):=by rw[aG (by omega) (by omega)];omega
  simp only[e0,cond_true]
  rcases Nat.lt_or_ge i s.size with hlt|hge
  ·have e1:((i:Int)==(s.size:Int))=false:=by simp;omega
   have hd:s.data.toList.drop i=s.data.toList[i]'hlt::s.data.toList.drop (i+1):=(List.drop_eq_getElem_cons hlt)
   have hb:(bF s)[i]'(by rw[iU];exact hlt)=((s.data.toList[i]'hlt).toNat:Int):=by simp[bF]
   have hq:(((s.data.toList[i]'hlt).toNat:Int)==46)=(s.data.toList[i]'hlt==46):=by
    rw[Bool.eq_iff_iff];simp only[beq_iff_eq]
    constructor
    ·intro q;apply UInt8.toNat_inj.1;show _=46;omega
    ·intro q;rw[q];rfl
   rw[e1,cond_false,aQm hlt,bd_s,bd_s,hb,hq,hd,gQ]
   cases hc:(s.data.toList[i]'hlt==46) with
   |true=>
    rw[cond_true,aA es,aA ea,bd_s]
    dsimp only
    rw[ew,cond_true,pX s hs (n-1) f (i+1) (i+1) _ (by omega) (by omega) (Nat.le_refl _) (by omega) (by simp;omega),Int.toNat_natCast,Int.toNat_natCast,ext_list]
    simp
   |false=>
    rw[cond_false,bd_s]
    dsimp only
    rw[ew,cond_false,pX s hs (n-1) f (i+1) st _ (by omega) (by omega) (by omega) (by omega) (by omega)]
    have:(s.data.toList.drop st).take (i+1-st)=(s.data.toList.drop st).take (i-st)++[s.data.toList[i]'hlt]:=by
     rw[show i+1-st=(i-st)+1 by omega,List.take_add_one,List.getElem?_drop,show st+(i-st)=i by omega,List.getElem?_eq_getElem hlt];rfl
    rw[this]
  ·have e1:((i:Int)==(s.size:Int))=true:=by simp;omega
   obtain⟨f,rfl⟩:∃g,f=g+1:=⟨f-1,by omega⟩
   have hz:s.data.toList.length≤i:=by have:s.data.toList.length=s.size:=rfl;omega
   have e2:decide (((i+1:Nat):Int)≤(s.size:Int))=false:=by simp;omega
   rw[e1,cond_true,bd_s,cond_true,aA es,aA ea,bd_s,jJ]
   dsimp only
   rw[ew]
   simp only[e2,cond_false]
   rw[List.drop_eq_nil_of_le hz,gQ,Int.toNat_natCast,Int.toNat_natCast,ext_list];rfl
theorem aDg (s:ByteArray)(h:s.size≤34359738368):Eg s=some (aU s):=by
 unfold Eg
 have hf:=gU
 have:=pX s h s.size FUEL 0 0 [] rfl (by omega) (Nat.le_refl _) (Nat.zero_le _) (Nat.le_refl _)
 rw[show(0:Int)=((0:Nat):Int) from rfl]
 refine(congrArg (fun x=>bd x some) this).trans ?_
 simp[aU]
theorem aHy (s:ByteArray)(h:s.size≤34359738368):Jj s=some (qN s):=by
 unfold Jj qN
 have hb:=iU s
 rw[lD (l:=bF s) (fun b=> !Xx b) (.inl false) (.inr ()) (by omega) (fun rec i hi=>by
  have hi':i<s.size:=by omega
  simp only[bU hi',cond_true,aQm hi',bd_s]
  generalize(bF s)[i]'_=b
  unfold Xx aW
  have c1:decide (b≥97)=decide (97≤b):=rfl
  have c2:decide (b≥48)=decide (48≤b):=rfl
  rw[c1,c2]
  cases decide (97≤b)<;>cases decide (b≤122)<;>cases decide (48≤b)<;>cases decide (b≤57)<;>cases(b==45)<;>rfl) (fun rec=>by simp only[hb,bX,cond_false])]
 have e:aW (s.size:Int) 1 20=(decide (1≤s.size)&&decide (s.size≤20)):=by unfold aW;congr 1<;>exact decide_eq_decide.2 (by omega)
 rw[e]
 by_cases h0:0<s.size
 ·rw[show(0:Int)=((0:Nat):Int) from rfl,aQm h0,aG (by omega) (by omega),show(s.size:Int)-1=((s.size-1:Nat):Int) by omega,aQm (show s.size-1<s.size by omega)]
  simp only[bd_s,bne,List.getD,List.getElem?_eq_getElem (show 0<(bF s).length by rw[iU];exact h0),List.getElem?_eq_getElem (show s.size-1<(bF s).length by rw[iU];omega),Option.getD_some]
  cases((bF s)[0]'_==45)<;>cases((bF s)[s.size-1]'_==45)<;>cases decide (1≤s.size)<;>cases decide (s.size≤20)<;>cases(bF s).any _<;>rfl
 ·rw[show decide (1≤s.size)=false from decide_eq_false (by omega)]
  cases(bF s).any _<;>rfl
theorem aKb (s:ByteArray)(h:s.size≤34359738368):Qs s=some (gH s):=by
 unfold Qs gH
 have hl:=Ii s
 simp only[aA h,bd_s]
 rw[lD (l:=aU s) (fun l=> !qN l) (.inl false) (.inr ()) (by omega) (fun rec i hi=>by
  have hz:(aU s)[i].size≤34359738368:=Nat.le_trans (tJ s _ (List.getElem_mem _)) h
  simp only[bU hi,cond_true,aH hi,bd_s,aA hz]) (fun rec=>by simp only[bX,cond_false])]
 have e':decide ((s.size:Int)≤60)=decide (s.size≤60):=decide_eq_decide.2 (by omega)
 rw[e']
 cases decide (s.size≤60)<;>cases(aU s).any _<;>rfl
theorem aKc (s:ByteArray):Qw s=some (gH s):=by
 unfold Qw gH
 by_cases h60:s.size≤60
 ·have hl:=Ii s
  rw[show decide ((s.size:Int)>60)=false from decide_eq_false (by omega),cond_false,aA (show s.size<4294967281∧1≤(⟨#[UInt8.ofNat 46]⟩:ByteArray).size from⟨by omega,Nat.le_refl _⟩),bd_s]
  have es:jH s ⟨#[UInt8.ofNat 46]⟩=aU s:=aF7 s
  rw[es]
  rw[lD (l:=aU s) (fun l=> !qN l) (.inl false) (.inr ()) (by omega) (fun rec i hi=>by
   have hz:(aU s)[i].size≤60:=Nat.le_trans (tJ s _ (List.getElem_mem _)) h60
   simp only[bU hi,cond_true,aH hi,bd_s]
   revert hz
   generalize(aU s)[i]=l
   intro hz
   have hb:=iU l
   rw[lD (l:=bF l) (fun b=> !Xx b) (.inl (.inl false)) (.inr ()) (by omega) (fun rec i hi=>by
    have hi':i<l.size:=by omega
    simp only[bU hi',cond_true,aQm hi',bd_s]
    generalize(bF l)[i]'_=b
    unfold Xx aW
    have c1:decide (b≥97)=decide (97≤b):=rfl
    have c2:decide (b≥48)=decide (48≤b):=rfl
    rw[c1,c2]
    cases decide (97≤b)<;>cases decide (b≤122)<;>cases decide (48≤b)<;>cases decide (b≤57)<;>cases(b==45)<;>rfl) (fun rec=>by simp only[hb,bX,cond_false])]
   unfold qN
   by_cases h0:0<l.size
   ·rw[show(0:Int)=((0:Nat):Int) from rfl,aQm h0,aG (by omega) (by omega),show(l.size:Int)-1=((l.size-1:Nat):Int) by omega,aQm (show l.size-1<l.size by omega)]
    have e1:decide ((l.size:Int)<1)= !decide (1≤l.size):=by rw[←decide_not];exact decide_eq_decide.2 (by omega)
    have e2:decide ((l.size:Int)>20)= !decide (l.size≤20):=by rw[←decide_not];exact decide_eq_decide.2 (by omega)
    rw[e1,e2]
    simp only[bd_s,bne,List.getD,List.getElem?_eq_getElem (show 0<(bF l).length by rw[iU];exact h0),List.getElem?_eq_getElem (show l.size-1<(bF l).length by rw[iU];omega),Option.getD_some]
    cases((bF l)[0]'_==45)<;>cases((bF l)[l.size-1]'_==45)<;>cases decide (1≤l.size)<;>cases decide (l.size≤20)<;>cases(bF l).any _<;>rfl
   ·rw[show decide ((l.size:Int)<1)=true from decide_eq_true (by omega),show decide (1≤l.size)=false from decide_eq_false (by omega)]
    rfl) (fun rec=>by simp only[bX,cond_false])]
  rw[show decide (s.size≤60)=true by simpa using h60]
  cases(aU s).any _<;>rfl
 ·rw[show decide ((s.size:Int)>60)=true from decide_eq_true (by omega),show decide (s.size≤60)=false by simpa using h60];rfl
theorem Sy (s:ByteArray):vE s=some (aXf s):=by
 unfold vE aXf
 cases h:gH s with
 |false=>rfl
 |true=>
  have hs:=Ij h
  have hp:=aB9 s
  have es:jH s ⟨#[UInt8.ofNat 46]⟩=aU s:=aF7 s
  rw[Bool.not_true,cond_false,cond_true,aA (show s.size<4294967281∧1≤(⟨#[UInt8.ofNat 46]⟩:ByteArray).size from⟨by omega,Nat.le_refl _⟩),bd_s,es]
  rw[show(((aU s).length:Int)==1)=((aU s).length==1) by rw[Bool.eq_iff_iff];simp only[beq_iff_eq];omega]
  cases h1:(aU s).length==1 with
  |true=>rfl
  |false=>
   have h2:(aU s).length≠1:=by simpa using h1
   have hl:=Ii s
   obtain⟨a,ha,b,hb,e⟩:=bEs (l:=aU s) (by omega)
   have ha:=tJ s a ha
   have hb:=tJ s b hb
   rw[cond_false,cond_false,aG (by omega) (by omega),show((aU s).length:Int)-2=(((aU s).length-2:Nat):Int) by omega,Int.toNat_natCast]
   have hd:((aU s).drop ((aU s).length-2)).length=2:=by rw[List.length_drop];omega
   have hj:(mZ ⟨#[UInt8.ofNat 46]⟩ ((aU s).drop ((aU s).length-2))).size≤140737488355328:=by
    have e:mZ ⟨#[UInt8.ofNat 46]⟩ ((aU s).drop ((aU s).length-2))=_:=e
    rw[e,ByteArray.size_append,ByteArray.size_append]
    have:(⟨#[46]⟩:ByteArray).size=1:=rfl
    omega
   rw[aA (show jG (aU s) (((aU s).length-2:Nat):Int) by unfold jG;omega),aA ⟨by omega,hj,by omega⟩]
   rfl
theorem aKd (s:ByteArray)(h:s.size≤9223372036854775807):Qx s=some (Ni s):=by
 unfold Qx Ni
 have hb:=iU s
 rw[lD (l:=bF s) (fun b=>b==46) (.inl true) (.inr ()) (by omega) (fun rec i hi=>by
  have hi':i<s.size:=by omega
  simp only[bU hi',cond_true,aQm hi',bd_s]) (fun rec=>by simp only[hb,bX,cond_false])]
 cases(bF s).any _<;>rfl
theorem Sz (n:ByteArray)(seed:Int)(h:n.size≤9223372036854775807):vF n seed=some (iN n seed):=by
 unfold vF iN
 simp only[aA h,bd_s]
 rw[bIk,aJ1]
 cases h:gH n with
 |false=>rfl
 |true=>rw[bDc h];cases decide (2≤(aU n).length)<;>cases bJ seed<;>rfl
theorem aHz (n:ByteArray)(seed:Int)(h:n.size≤34359738368):Jk n seed=some (eH n seed):=by
 unfold Jk eH iN
 have e:decide (((aU n).length:Int)<2)= !decide (2≤(aU n).length):=by rw[←decide_not];exact decide_eq_decide.2 (by omega)
 simp only[aA h,bd_s,e]
 cases gH n<;>cases decide (2≤(aU n).length)<;>cases bJ seed<;>rfl
theorem Ta (s:D.Site)(h:s.sz≤34359738368):uS s=some (dQ s):=by
 simp only[D.Site.sz] at h
 unfold uS dQ
 rw[eG (l:=s.Accounts) (Cq s.Accounts) (.inl false) (.inr ()) (by omega) (fun rec i hi=>by
  have hz:=gF (f:=D.aAG.sz) hi
  simp only[bU hi,cond_true,aH hi,bd_s,aA (show s.Accounts[i].sz≤34359738368 by omega)]
  unfold Cq
  by_cases h0:0<i
  ·rw[Ig h0 hi (by omega),show decide ((i:Int)>0)=true by simpa using h0,decide_eq_true h0]
   simp only[bd_s]
   cases bC s.Accounts[i]<;>cases decide ((s.Accounts.getD (i-1) default).Id≥s.Accounts[i].Id)<;>rfl
  ·rw[show decide ((i:Int)>0)=false by simpa using h0,decide_eq_false h0]
   cases bC s.Accounts[i]<;>rfl) (fun rec=>by simp only[bX,cond_false])]
 rw[show decide ((s.Accounts.length:Int)≤8)=decide (s.Accounts.length≤8) from decide_eq_decide.2 (by omega)]
 have e3:(!((eH s.Name s.Book.Seed).Name.toList==(⟨#[]⟩:ByteArray).toList))=iN s.Name s.Book.Seed:=by rw[bIk,aSy,Bool.not_not]
 simp only[aA (show s.Name.size≤34359738368 by omega),aA (show s.Book.sz≤34359738368 by simp only[D.aAF.sz];omega),bd_s,e3]
 cases iN s.Name s.Book.Seed<;>cases decide (s.Accounts.length≤8)<;>cases iM s.Book<;>cases dJ (Cq s.Accounts) 0 s.Accounts<;>rfl
theorem Tc (s:D.Site)(h:s.sz≤34359738368):vH s=some (dQ s):=by
 simp only[D.Site.sz] at h
 unfold vH dQ
 rw[eG (l:=s.Accounts) (Cq s.Accounts) (.inl false) (.inr ()) (by omega) (fun rec i hi=>by
  have hz:=gF (f:=D.aAG.sz) hi
  simp only[bU hi,cond_true,aH hi,bd_s,aA (show s.Accounts[i].sz≤34359738368 by omega)]
  unfold Cq
  by_cases h0:0<i
  ·rw[Ig h0 hi (by omega),show decide ((i:Int)>0)=true by simpa using h0,decide_eq_true h0]
   simp only[bd_s]
   cases bC s.Accounts[i]<;>cases decide ((s.Accounts.getD (i-1) default).Id≥s.Accounts[i].Id)<;>rfl
  ·rw[show decide ((i:Int)>0)=false by simpa using h0,decide_eq_false h0]
   cases bC s.Accounts[i]<;>rfl) (fun rec=>by simp only[bX,cond_false])]
 rw[show decide ((s.Accounts.length:Int)>8)= !decide (s.Accounts.length≤8) by rw[←decide_not];exact decide_eq_decide.2 (by omega)]
 simp only[aA (show s.Name.size≤9223372036854775807 by omega),aA (show s.Book.sz≤34359738368 by simp only[D.aAF.sz];omega),bd_s]
 cases iN s.Name s.Book.Seed<;>cases decide (s.Accounts.length≤8)<;>cases iM s.Book<;>cases dJ (Cq s.Accounts) 0 s.Accounts<;>rfl
theorem aH0 (l:List D.aAB)(e:D.aAB)(h:l.length≤34359738368):Jf l e=some (kJ l e):=by
 unfold Jf kJ
 have hd:=kF l
 rw[lD (l:=l) (fun q=>q.Kind==2&&q.Device==e.Device) (.inl false) (.inr ()) (by omega) (fun rec i hi=>by
  simp only[bU hi,cond_true,aH hi,bd_s,jC];cases(l[i].Kind==2)<;>rfl) (fun rec=>by simp only[bX,cond_false])]
 rw[show(l.any fun q=>q.Kind==2&&q.Device==e.Device)=iL l e.Device from rfl]
 simp only[aA h,aA (show(aB l).length≤1099511627776 by omega),aA (show([bL e]:List Int).length≤34359738300 by simp),bd_s,bne]
 cases(e.Index==(l.length:Int))<;>cases(e.Previous==fD l)<;>cases fV (aB l) e.By<;>cases((l.length:Int)==0)<;>cases(e.By==e.Device)<;>cases gY e.By [bL e] e.Signature<;>cases(e.Kind==2)<;>cases fV (aB l) e.Device<;>cases iL l e.Device<;>cases(e.Kind==1)<;>rfl
theorem X8 (l:List D.aAB)(h:l.length≤34359738368):Aa l=some (aT l):=by
 unfold Aa aT
 rw[eG (l:=l) (fun i e=> !kJ (l.take i) e) (.inl false) (.inr ()) (by omega) (fun rec i hi=>by
  simp only[bU hi,cond_true,aH hi,bd_s,aN9]
  rw[aA (by unfold jG;simp;omega),aA (by rw[List.length_take];omega)];rfl) (fun rec=>by simp only[bX,cond_false])]
 cases dJ (fun i e=> !kJ (l.take i) e) 0 l<;>simp
theorem X9 (l:List D.aAB)(h:l.length≤34359738368):Ao l=some (aT l):=by
 unfold Ao aT
 rw[eG (l:=l) (fun i e=> !kJ (l.take i) e) (.inl false) (.inr ()) (by omega) (fun rec i hi=>by
  have ht:(l.take i).length=i:=by rw[List.length_take];omega
  have hb:(l.take i).length≤34359738368:=by omega
  have hd:=kF (l.take i)
  simp only[bU hi,cond_true,aH hi,bd_s,aN9,aA (show jG l (i:Int) by unfold jG;omega),aA hb,aA (show(aB (l.take i)).length≤1099511627776 by omega),aA (show([bL l[i]]:List Int).length≤34359738300 by simp)]
  unfold kJ
  rw[ht]
  generalize l[i]=e
  have h1:decide (((aB (l.take i)).length:Int)≥6)= !decide (((aB (l.take i)).length:Int)<6):=by rw[←decide_not];exact decide_eq_decide.2 (by omega)
  have h2:fV (aB (l.take i)) e.Device=true→decide (((aB (l.take i)).length:Int)>1)= !(((aB (l.take i)).length:Int)==1):=fun hh=>by
   have:=bAm hh
   rw[←Bool.decide_eq_true (b:=(((aB (l.take i)).length:Int)==1)),←decide_not]
   exact decide_eq_decide.2 (by simp;omega)
  simp only[h1,bne]
  cases h3:(e.Kind==2) with
  |true=>
   have h4:(e.Kind==1)=false:=by simp at h3 ⊢;omega
   rw[h4]
   cases hd:fV (aB (l.take i)) e.Device with
   |true=>
    rw[h2 hd]
    cases(e.Index==(i:Int))<;>cases(e.Previous==fD (l.take i))<;>cases fV (aB (l.take i)) e.By<;>cases((i:Int)==0)<;>cases(e.By==e.Device)<;>cases gY e.By [bL e] e.Signature<;>cases(((aB (l.take i)).length:Int)==1)<;>rfl
   |false=>cases(e.Index==(i:Int))<;>cases(e.Previous==fD (l.take i))<;>cases fV (aB (l.take i)) e.By<;>cases((i:Int)==0)<;>cases(e.By==e.Device)<;>cases gY e.By [bL e] e.Signature<;>rfl
  |false=>
   cases(e.Kind==1) with
   |true=>cases(e.Index==(i:Int))<;>cases(e.Previous==fD (l.take i))<;>cases fV (aB (l.take i)) e.By<;>cases((i:Int)==0)<;>cases(e.By==e.Device)<;>cases gY e.By [bL e] e.Signature<;>cases fV (aB (l.take i)) e.Device<;>cases iL (l.take i) e.Device<;>cases decide (((aB (l.take i)).length:Int)<6)<;>rfl
   |false=>cases(e.Index==(i:Int))<;>cases(e.Previous==fD (l.take i))<;>cases fV (aB (l.take i)) e.By<;>cases((i:Int)==0)<;>cases(e.By==e.Device)<;>cases gY e.By [bL e] e.Signature<;>cases iL (l.take i) e.Device<;>rfl) (fun rec=>by simp only[bX,cond_false])]
 unfold aW
 have e1:decide ((l.length:Int)<1)= !decide (1≤(l.length:Int)):=by rw[←decide_not];exact decide_eq_decide.2 (by omega)
 have e2:decide ((l.length:Int)>40)= !decide ((l.length:Int)≤40):=by rw[←decide_not];exact decide_eq_decide.2 (by omega)
 rw[e1,e2]
 cases decide (1≤(l.length:Int))<;>cases decide ((l.length:Int)≤40)<;>cases dJ (fun i e=> !kJ (l.take i) e) 0 l<;>rfl
theorem Ny (w:D.World)(h:w.sz≤34359738368):sK w=some (bK w):=by
 simp only[D.World.sz] at h
 unfold sK bK
 rw[eG (l:=w.Sites) nG (.inl false) (.inr ()) (by omega) (fun rec i hi=>by
  have hz:=gF (f:=D.Site.sz) hi
  simp only[bU hi,cond_true,aH hi,bd_s,aA (show w.Sites[i].sz≤34359738368 by omega)]
  unfold nG
  cases dQ w.Sites[i]<;>cases(w.Sites[i].Name.toList==(aD (i:Int)).toList)<;>rfl) (fun rec=>by simp only[bX,cond_false])]
 simp only[aA (show w.Mail.sz≤34359738368 by simp only[D.aAJ.sz];omega),aA (show w.aAH.Log.length≤34359738368 by omega),bne,bd_s]
 cases dJ nG 0 w.Sites<;>cases aW w.Now 0 999900<;>cases aW (w.Devices.length:Int) 1 6<;>cases((w.Stolen.length:Int)==(w.Devices.length:Int))<;>cases((w.Sites.length:Int)==2)<;>cases cZ w.Mail<;>cases aT w.aAH.Log<;>cases bJ w.Seed<;>rfl
theorem Oa (w:D.World)(h:w.sz≤34359738368):sH w=some (bK w):=by
 simp only[D.World.sz] at h
 unfold sH bK
 rw[eG (l:=w.Sites) nG (.inl false) (.inr ()) (by omega) (fun rec i hi=>by
  have hz:=gF (f:=D.Site.sz) hi
  simp only[bU hi,cond_true,aH hi,bd_s,aA (show w.Sites[i].sz≤34359738368 by omega)]
  unfold nG
  cases dQ w.Sites[i]<;>cases(w.Sites[i].Name.toList==(aD (i:Int)).toList)<;>rfl) (fun rec=>by simp only[bX,cond_false])]
 simp only[aA (show w.Mail.sz≤34359738368 by simp only[D.aAJ.sz];omega),aA (show w.aAH.Log.length≤34359738368 by omega),bne,bd_s]
 cases dJ nG 0 w.Sites<;>cases aW w.Now 0 999900<;>cases aW (w.Devices.length:Int) 1 6<;>cases((w.Stolen.length:Int)==(w.Devices.length:Int))<;>cases((w.Sites.length:Int)==2)<;>cases cZ w.Mail<;>cases aT w.aAH.Log<;>cases bJ w.Seed<;>rfl
end
end Go.VK
