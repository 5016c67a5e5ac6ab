import Derived.Test.YtaaefkcjgkpckaaGreatDoorXoPf
import Derived.Test.YtaaefkcjgkpckaaGreatDoorXoM
/- Printed by wip/tools: models, walks, proofs. -/
set_option linter.unusedVariables false
set_option linter.unusedSimpArgs false
set_option maxRecDepth 100000
set_option maxHeartbeats 4000000
namespace Go.VK
open Go.RowKit Go.Proofs
noncomputable section
open EV (dL)
theorem aHc (l:List D.aAJ)(p:Int)(i:Nat)(hi:i≤l.length)(h:l.length≤34359738368){F:(Nat→Option ((Bool⊕PUnit)⊕PUnit))→Nat→Option ((Bool⊕PUnit)⊕PUnit)}(hF:∀rec j (hj:j<i),F rec j=bif (l[j]'(by omega)).Public==p then some (.inl (.inl false)) else rec (j+1))(hE:∀rec,F rec i=some (.inr ())):
  dL FUEL F 0=some (bif (l.take i).any (fun q=>q.Public==p) then .inl (.inl false) else .inr ()):=by
 have ht:(l.take i).length=i:=by rw[List.length_take];omega
 exact mZ (l:=l.take i) (fun q=>q.Public==p) _ _ (by omega) (fun rec j hj=>by rw[hF rec j (by omega),List.getElem_take]) (fun rec=>by rw[ht];exact hE rec)
theorem aRd (a:D.aAF)(h:a.Credentials.length≤34359738368)(i:Nat)(hi:i<a.Credentials.length){τ:Type}{X:Option τ}{r:Option τ}{K:Option τ}(hX:X=bif (a.Credentials.take i).any (fun q=>q.Public==a.Credentials[i].Public) then r else K):
  (bd (bif (!bR a.Credentials[i].Handle (0:Int) (1000000:Int)) then(some (true)) else(bif (decide ((↑i:Int)>(0:Int))) then(bd (bT (a.Credentials) (IntKind.i64.wrap ((↑i:Int)-(1:Int)))) fun z5=>bif (decide (z5.Handle≥a.Credentials[i].Handle)) then(some (true)) else(bd (some (fF a.Credentials[i].Public)) fun z6=>bif (z6==(0:Int)) then(some (true)) else(some (!bR a.Credentials[i].Counter (0:Int) (1000000:Int))))) else(bd (some (fF a.Credentials[i].Public)) fun z5=>bif (z5==(0:Int)) then(some (true)) else(some (!bR a.Credentials[i].Counter (0:Int) (1000000:Int)))))) fun z4=>bif z4 then r else X)=bif rD a i a.Credentials[i] then r else K:=by
 rw[hX];unfold rD
 by_cases h0:0<i
 ·rw[Ji h0 hi h,show decide ((i:Int)>0)=true by simpa using h0,decide_eq_true h0]
  simp only[bd_s]
  cases bR a.Credentials[i].Handle 0 1000000<;>cases decide ((a.Credentials.getD (i-1) default).Handle≥a.Credentials[i].Handle)<;>cases(fF a.Credentials[i].Public==0)<;>cases bR a.Credentials[i].Counter 0 1000000<;>cases(a.Credentials.take i).any (fun q=>q.Public==a.Credentials[i].Public)<;>rfl
 ·rw[show decide ((i:Int)>0)=false by simpa using h0,decide_eq_false h0]
  simp only[bd_s]
  cases bR a.Credentials[i].Handle 0 1000000<;>cases(fF a.Credentials[i].Public==0)<;>cases bR a.Credentials[i].Counter 0 1000000<;>cases(a.Credentials.take i).any (fun q=>q.Public==a.Credentials[i].Public)<;>rfl
theorem Gs (a:D.aAF)(h:a.sz≤34359738368):pY a=some (aU a):=by
 simp only[D.aAF.sz] at h
 unfold pY aU
 rw[jK (l:=a.Credentials) (rD a) (.inl false) (.inr ()) (by omega) (fun rec i hi=>by
  simp only[dZ hi,cond_true,aR hi,bd_s]
  rw[aHc a.Credentials a.Credentials[i].Public i (by omega) h (fun rec j hj=>by simp only[dZ hj,cond_true,aR (show j<a.Credentials.length by omega),bd_s]) (fun rec=>by simp only[eD,cond_false])]
  have:=aRd a h i hi (X:=nx (some (bif (a.Credentials.take i).any (fun q=>q.Public==a.Credentials[i].Public) then Sum.inl (Sum.inl false) else Sum.inr PUnit.unit)) fun _=>rec (i+1)) (r:=some (.inl false)) (K:=rec (i+1)) (by cases(a.Credentials.take i).any _<;>rfl)
  rw[←this]
  simp only[bd_s]
  generalize(bif !bR a.Credentials[i].Handle 0 1000000 then _ else _:Option Bool)=q
  cases q with
  |none=>rfl
  |some b=>cases b<;>rfl) (fun rec=>by simp only[eD,cond_false])]
 rw[show decide ((a.Credentials.length:Int)≤8)=decide (a.Credentials.length≤8) from decide_eq_decide.2 (by omega)]
 cases bR a.Id 0 1000000<;>cases bR a.Minimum 1 3<;>cases decide (a.Credentials.length≤8)<;>cases jB (rD a) 0 a.Credentials<;>rfl
theorem Gt (a:D.aAF)(h:a.sz≤34359738368):qC a=some (aU a):=by
 simp only[D.aAF.sz] at h
 unfold qC aU
 rw[jK (l:=a.Credentials) (rD a) (.inl false) (.inr ()) (by omega) (fun rec i hi=>by
  have ht:(a.Credentials.take i).length=i:=by rw[List.length_take];omega
  simp only[dZ hi,cond_true,aR hi,bd_s,aNn]
  rw[aG (show kJ a.Credentials (i:Int) by unfold kJ;omega)]
  rw[aHc a.Credentials a.Credentials[i].Public i (by omega) h (fun rec j hj=>by simp only[ht,dZ hj,cond_true,aR (show j<(a.Credentials.take i).length by omega),bd_s,List.getElem_take]) (fun rec=>by simp only[ht,eD,cond_false])]
  have:=aRd a h i hi (X:=nx (some (bif (a.Credentials.take i).any (fun q=>q.Public==a.Credentials[i].Public) then Sum.inl (Sum.inl false) else Sum.inr PUnit.unit)) fun _=>rec (i+1)) (r:=some (.inl false)) (K:=rec (i+1)) (by cases(a.Credentials.take i).any _<;>rfl)
  rw[←this]
  simp only[bd_s]
  generalize(bif !bR a.Credentials[i].Handle 0 1000000 then _ else _:Option Bool)=q
  cases q with
  |none=>rfl
  |some b=>cases b<;>rfl) (fun rec=>by simp only[eD,cond_false])]
 rw[show decide ((a.Credentials.length:Int)>8)= !decide (a.Credentials.length≤8) by rw[←decide_not];exact decide_eq_decide.2 (by omega)]
 cases bR a.Id 0 1000000<;>cases bR a.Minimum 1 3<;>cases decide (a.Credentials.length≤8)<;>cases jB (rD a) 0 a.Credentials<;>rfl
theorem qW (s:ByteArray)(hs:s.size≤34359738368):∀(n f i st:Nat) (acc:List ByteArray),s.size-i=n→n+1<f→st≤i→i≤s.size→acc.length≤i→dL f (fun rec1 (i1:(List ByteArray×Int×Int))=>bif (decide (i1.2.2≤(↑s.size:Int))) then(bd (bd (bif (i1.2.2==(↑s.size:Int)) then(some (true)) else(bd (bT (bQ s) (i1.2.2)) fun z4=>some (z4==(46:Int)))) fun z3=>bif z3 then(gd (vE s i1.2.1 i1.2.2) (gd (aX i1.1 [s.extract i1.2.1.toNat i1.2.2.toNat]) (some ((i1.1++[s.extract i1.2.1.toNat i1.2.2.toNat],IntKind.i64.wrap (i1.2.2+(1:Int))))))) else(some (i1.1,i1.2.1))) fun(z2:List ByteArray×Int)=>rec1 ((z2.1,z2.2,IntKind.i64.wrap (i1.2.2+(1:Int))))) else(some (i1.1))) (acc,(st:Int),(i:Int))=some (acc++(iM ((s.data.toList.drop st).take (i-st)) (s.data.toList.drop i)).map fun l=>(⟨l.toArray⟩:ByteArray))
 |n,f+1,i,st,acc,hn,hf,h1,h2,h3=>by
  rw[jY]
  have e0:decide ((i:Int)≤(s.size:Int))=true:=by simpa using(show(i:Int)≤(s.size:Int) by omega)
  have es:vE s (st:Int) (i:Int):=⟨by omega,by omega,by omega⟩
  have ea:aX acc ([s.extract (st:Int).toNat (i:Int).toNat]:List ByteArray):=by unfold aX;simp;omega
  have ew:IntKind.i64.wrap ((i:Int)+1)=((i+1:Nat):Int):=by rw[aK (by omega) (by omega)];omega
  simp only[e0,cond_true]
  rcases Nat.lt_or_ge i s.size with hlt|hge
  ·have e1:((i:Int)==(s.size:Int))=false:=by simp;omega
   have hd:s.data.toList.drop i=s.data.toList[i]'hlt::s.data.toList.drop (i+1):=(List.drop_eq_getElem_cons hlt)
   have hb:(bQ s)[i]'(by rw[iN];exact hlt)=((s.data.toList[i]'hlt).toNat:Int):=by simp[bQ]
   have hq:(((s.data.toList[i]'hlt).toNat:Int)==46)=(s.data.toList[i]'hlt==46):=by
    rw[Bool.eq_iff_iff];simp only[beq_iff_eq]
    constructor
    ·intro q;apply UInt8.toNat_inj.1;show _=46;omega
    ·intro q;rw[q];rfl
   rw[e1,cond_false,aP0 hlt,bd_s,bd_s,hb,hq,hd,iM]
   cases hc:(s.data.toList[i]'hlt==46) with
   |true=>
    rw[cond_true,aG es,aG ea,bd_s]
    dsimp only
    rw[ew,cond_true,qW s hs (n-1) f (i+1) (i+1) _ (by omega) (by omega) (Nat.le_refl _) (by omega) (by simp;omega),Int.toNat_natCast,Int.toNat_natCast,ext_list]
    simp
   |false=>
    rw[cond_false,bd_s]
    dsimp only
    rw[ew,cond_false,qW s hs (n-1) f (i+1) st _ (by omega) (by omega) (by omega) (by omega) (by omega)]
    have:(s.data.toList.drop st).take (i+1-st)=(s.data.toList.drop st).take (i-st)++[s.data.toList[i]'hlt]:=by
     rw[show i+1-st=(i-st)+1 by omega,List.take_add_one,List.getElem?_drop,show st+(i-st)=i by omega,List.getElem?_eq_getElem hlt];rfl
    rw[this]
  ·have e1:((i:Int)==(s.size:Int))=true:=by simp;omega
   obtain⟨f,rfl⟩:∃g,f=g+1:=⟨f-1,by omega⟩
   have hz:s.data.toList.length≤i:=by have:s.data.toList.length=s.size:=rfl;omega
   have e2:decide (((i+1:Nat):Int)≤(s.size:Int))=false:=by simp;omega
   rw[e1,cond_true,bd_s,cond_true,aG es,aG ea,bd_s,jY]
   dsimp only
   rw[ew]
   simp only[e2,cond_false]
   rw[List.drop_eq_nil_of_le hz,iM,Int.toNat_natCast,Int.toNat_natCast,ext_list];rfl
theorem aCj (s:ByteArray)(h:s.size≤34359738368):Ey s=some (bD s):=by
 unfold Ey
 have hf:=jF
 have:=qW s h s.size FUEL 0 0 [] rfl (by omega) (Nat.le_refl _) (Nat.zero_le _) (Nat.le_refl _)
 rw[show(0:Int)=((0:Nat):Int) from rfl]
 refine(congrArg (fun x=>bd x some) this).trans ?_
 simp[bD]
theorem aHd (s:ByteArray)(h:s.size≤34359738368):Kh s=some (rO s):=by
 unfold Kh rO
 have hb:=iN s
 rw[mZ (l:=bQ s) (fun b=> !Yc b) (.inl false) (.inr ()) (by omega) (fun rec i hi=>by
  have hi':i<s.size:=by omega
  simp only[dZ hi',cond_true,aP0 hi',bd_s]
  generalize(bQ s)[i]'_=b
  unfold Yc bR
  have c1:decide (b≥97)=decide (97≤b):=rfl
  have c2:decide (b≥48)=decide (48≤b):=rfl
  rw[c1,c2]
  cases decide (97≤b)<;>cases decide (b≤122)<;>cases decide (48≤b)<;>cases decide (b≤57)<;>cases(b==45)<;>rfl) (fun rec=>by simp only[hb,eD,cond_false])]
 have e:bR (s.size:Int) 1 20=(decide (1≤s.size)&&decide (s.size≤20)):=by unfold bR;congr 1<;>exact decide_eq_decide.2 (by omega)
 rw[e]
 by_cases h0:0<s.size
 ·rw[show(0:Int)=((0:Nat):Int) from rfl,aP0 h0,aK (by omega) (by omega),show(s.size:Int)-1=((s.size-1:Nat):Int) by omega,aP0 (show s.size-1<s.size by omega)]
  simp only[bd_s,bne,List.getD,List.getElem?_eq_getElem (show 0<(bQ s).length by rw[iN];exact h0),List.getElem?_eq_getElem (show s.size-1<(bQ s).length by rw[iN];omega),Option.getD_some]
  cases((bQ s)[0]'_==45)<;>cases((bQ s)[s.size-1]'_==45)<;>cases decide (1≤s.size)<;>cases decide (s.size≤20)<;>cases(bQ s).any _<;>rfl
 ·rw[show decide (1≤s.size)=false from decide_eq_false (by omega)]
  cases(bQ s).any _<;>rfl
theorem aJq (s:ByteArray)(h:s.size≤34359738368):Qz s=some (fQ s):=by
 unfold Qz fQ
 have hl:=Jk s
 simp only[aG h,bd_s]
 rw[mZ (l:=bD s) (fun l=> !rO l) (.inl false) (.inr ()) (by omega) (fun rec i hi=>by
  have hz:(bD s)[i].size≤34359738368:=Nat.le_trans (uM s _ (List.getElem_mem _)) h
  simp only[dZ hi,cond_true,aR hi,bd_s,aG hz]) (fun rec=>by simp only[eD,cond_false])]
 have e':decide ((s.size:Int)≤60)=decide (s.size≤60):=decide_eq_decide.2 (by omega)
 rw[e']
 cases decide (s.size≤60)<;>cases(bD s).any _<;>rfl
theorem aJr (s:ByteArray):Re s=some (fQ s):=by
 unfold Re fQ
 by_cases h60:s.size≤60
 ·have hl:=Jk s
  rw[show decide ((s.size:Int)>60)=false from decide_eq_false (by omega),cond_false,aG (show s.size<4294967281∧1≤(⟨#[UInt8.ofNat 46]⟩:ByteArray).size from⟨by omega,Nat.le_refl _⟩),bd_s]
  have es:jX s ⟨#[UInt8.ofNat 46]⟩=bD s:=aFc s
  rw[es]
  rw[mZ (l:=bD s) (fun l=> !rO l) (.inl false) (.inr ()) (by omega) (fun rec i hi=>by
   have hz:(bD s)[i].size≤60:=Nat.le_trans (uM s _ (List.getElem_mem _)) h60
   simp only[dZ hi,cond_true,aR hi,bd_s]
   revert hz
   generalize(bD s)[i]=l
   intro hz
   have hb:=iN l
   rw[mZ (l:=bQ l) (fun b=> !Yc b) (.inl (.inl false)) (.inr ()) (by omega) (fun rec i hi=>by
    have hi':i<l.size:=by omega
    simp only[dZ hi',cond_true,aP0 hi',bd_s]
    generalize(bQ l)[i]'_=b
    unfold Yc bR
    have c1:decide (b≥97)=decide (97≤b):=rfl
    have c2:decide (b≥48)=decide (48≤b):=rfl
    rw[c1,c2]
    cases decide (97≤b)<;>cases decide (b≤122)<;>cases decide (48≤b)<;>cases decide (b≤57)<;>cases(b==45)<;>rfl) (fun rec=>by simp only[hb,eD,cond_false])]
   unfold rO
   by_cases h0:0<l.size
   ·rw[show(0:Int)=((0:Nat):Int) from rfl,aP0 h0,aK (by omega) (by omega),show(l.size:Int)-1=((l.size-1:Nat):Int) by omega,aP0 (show l.size-1<l.size by omega)]
    have e1:decide ((l.size:Int)<1)= !decide (1≤l.size):=by rw[←decide_not];exact decide_eq_decide.2 (by omega)
    have e2:decide ((l.size:Int)>20)= !decide (l.size≤20):=by rw[←decide_not];exact decide_eq_decide.2 (by omega)
    rw[e1,e2]
    simp only[bd_s,bne,List.getD,List.getElem?_eq_getElem (show 0<(bQ l).length by rw[iN];exact h0),List.getElem?_eq_getElem (show l.size-1<(bQ l).length by rw[iN];omega),Option.getD_some]
    cases((bQ l)[0]'_==45)<;>cases((bQ l)[l.size-1]'_==45)<;>cases decide (1≤l.size)<;>cases decide (l.size≤20)<;>cases(bQ l).any _<;>rfl
   ·rw[show decide ((l.size:Int)<1)=true from decide_eq_true (by omega),show decide (1≤l.size)=false from decide_eq_false (by omega)]
    rfl) (fun rec=>by simp only[eD,cond_false])]
  rw[show decide (s.size≤60)=true by simpa using h60]
  cases(bD s).any _<;>rfl
 ·rw[show decide ((s.size:Int)>60)=true from decide_eq_true (by omega),show decide (s.size≤60)=false by simpa using h60];rfl
theorem Tj (s:ByteArray):wH s=some (aW4 s):=by
 unfold wH aW4
 cases h:fQ s with
 |false=>rfl
 |true=>
  have hs:=Jl h
  have hp:=aBb s
  have es:jX s ⟨#[UInt8.ofNat 46]⟩=bD s:=aFc s
  rw[Bool.not_true,cond_false,cond_true,aG (show s.size<4294967281∧1≤(⟨#[UInt8.ofNat 46]⟩:ByteArray).size from⟨by omega,Nat.le_refl _⟩),bd_s,es]
  rw[show(((bD s).length:Int)==1)=((bD s).length==1) by rw[Bool.eq_iff_iff];simp only[beq_iff_eq];omega]
  cases h1:(bD s).length==1 with
  |true=>rfl
  |false=>
   have h2:(bD s).length≠1:=by simpa using h1
   have hl:=Jk s
   obtain⟨a,ha,b,hb,e⟩:=bEu (l:=bD s) (by omega)
   have ha:=uM s a ha
   have hb:=uM s b hb
   rw[cond_false,cond_false,aK (by omega) (by omega),show((bD s).length:Int)-2=(((bD s).length-2:Nat):Int) by omega,Int.toNat_natCast]
   have hd:((bD s).drop ((bD s).length-2)).length=2:=by rw[List.length_drop];omega
   have hj:(nS ⟨#[UInt8.ofNat 46]⟩ ((bD s).drop ((bD s).length-2))).size≤140737488355328:=by
    have e:nS ⟨#[UInt8.ofNat 46]⟩ ((bD s).drop ((bD s).length-2))=_:=e
    rw[e,ByteArray.size_append,ByteArray.size_append]
    have:(⟨#[46]⟩:ByteArray).size=1:=rfl
    omega
   rw[aG (show kJ (bD s) (((bD s).length-2:Nat):Int) by unfold kJ;omega),aG ⟨by omega,hj,by omega⟩]
   rfl
theorem aJs (s:ByteArray)(h:s.size≤9223372036854775807):Rf s=some (Nu s):=by
 unfold Rf Nu
 have hb:=iN s
 rw[mZ (l:=bQ s) (fun b=>b==46) (.inl true) (.inr ()) (by omega) (fun rec i hi=>by
  have hi':i<s.size:=by omega
  simp only[dZ hi',cond_true,aP0 hi',bd_s]) (fun rec=>by simp only[hb,eD,cond_false])]
 cases(bQ s).any _<;>rfl
theorem Tn (n:ByteArray)(seed:Int)(h:n.size≤9223372036854775807):wI n seed=some (iU n seed):=by
 unfold wI iU
 simp only[aG h,bd_s]
 rw[bHz,aJe]
 cases h:fQ n with
 |false=>rfl
 |true=>rw[bDb h];cases decide (2≤(bD n).length)<;>cases bE seed<;>rfl
theorem aHe (n:ByteArray)(seed:Int)(h:n.size≤34359738368):Ki n seed=some (fD n seed):=by
 unfold Ki fD iU
 have e:decide (((bD n).length:Int)<2)= !decide (2≤(bD n).length):=by rw[←decide_not];exact decide_eq_decide.2 (by omega)
 simp only[aG h,bd_s,e]
 cases fQ n<;>cases decide (2≤(bD n).length)<;>cases bE seed<;>rfl
theorem Tq (s:D.Site)(h:s.sz≤34359738368):vV s=some (bL s):=by
 simp only[D.Site.sz] at h
 unfold vV bL
 rw[jK (l:=s.Accounts) (Dj s.Accounts) (.inl false) (.inr ()) (by omega) (fun rec i hi=>by
  have hz:=jJ (f:=D.aAF.sz) hi
  simp only[dZ hi,cond_true,aR hi,bd_s,aG (show s.Accounts[i].sz≤34359738368 by omega)]
  unfold Dj
  by_cases h0:0<i
  ·rw[Ji h0 hi (by omega),show decide ((i:Int)>0)=true by simpa using h0,decide_eq_true h0]
   simp only[bd_s]
   cases aU s.Accounts[i]<;>cases decide ((s.Accounts.getD (i-1) default).Id≥s.Accounts[i].Id)<;>rfl
  ·rw[show decide ((i:Int)>0)=false by simpa using h0,decide_eq_false h0]
   cases aU s.Accounts[i]<;>rfl) (fun rec=>by simp only[eD,cond_false])]
 rw[show decide ((s.Accounts.length:Int)≤8)=decide (s.Accounts.length≤8) from decide_eq_decide.2 (by omega)]
 have e3:(!((fD s.Name s.Book.Seed).Name.toList==(⟨#[]⟩:ByteArray).toList))=iU s.Name s.Book.Seed:=by rw[bHz,aSo,Bool.not_not]
 simp only[aG (show s.Name.size≤34359738368 by omega),aG (show s.Book.sz≤34359738368 by simp only[D.aAD.sz];omega),bd_s,e3]
 cases iU s.Name s.Book.Seed<;>cases decide (s.Accounts.length≤8)<;>cases dV s.Book<;>cases jB (Dj s.Accounts) 0 s.Accounts<;>rfl
theorem Tt (s:D.Site)(h:s.sz≤34359738368):wK s=some (bL s):=by
 simp only[D.Site.sz] at h
 unfold wK bL
 rw[jK (l:=s.Accounts) (Dj s.Accounts) (.inl false) (.inr ()) (by omega) (fun rec i hi=>by
  have hz:=jJ (f:=D.aAF.sz) hi
  simp only[dZ hi,cond_true,aR hi,bd_s,aG (show s.Accounts[i].sz≤34359738368 by omega)]
  unfold Dj
  by_cases h0:0<i
  ·rw[Ji h0 hi (by omega),show decide ((i:Int)>0)=true by simpa using h0,decide_eq_true h0]
   simp only[bd_s]
   cases aU s.Accounts[i]<;>cases decide ((s.Accounts.getD (i-1) default).Id≥s.Accounts[i].Id)<;>rfl
  ·rw[show decide ((i:Int)>0)=false by simpa using h0,decide_eq_false h0]
   cases aU s.Accounts[i]<;>rfl) (fun rec=>by simp only[eD,cond_false])]
 rw[show decide ((s.Accounts.length:Int)>8)= !decide (s.Accounts.length≤8) by rw[←decide_not];exact decide_eq_decide.2 (by omega)]
 simp only[aG (show s.Name.size≤9223372036854775807 by omega),aG (show s.Book.sz≤34359738368 by simp only[D.aAD.sz];omega),bd_s]
 cases iU s.Name s.Book.Seed<;>cases decide (s.Accounts.length≤8)<;>cases dV s.Book<;>cases jB (Dj s.Accounts) 0 s.Accounts<;>rfl
theorem aHf (l:List D.aAA)(e:D.aAA)(h:l.length≤34359738368):Kb l e=some (iT l e):=by
 unfold Kb iT
 have hd:=iJ l
 rw[mZ (l:=l) (fun q=>q.Kind==2&&q.Device==e.Device) (.inl false) (.inr ()) (by omega) (fun rec i hi=>by
  simp only[dZ hi,cond_true,aR hi,bd_s,nA];cases(l[i].Kind==2)<;>rfl) (fun rec=>by simp only[eD,cond_false])]
 rw[show(l.any fun q=>q.Kind==2&&q.Device==e.Device)=dM l e.Device from rfl]
 simp only[aG h,aG (show(aB l).length≤1099511627776 by omega),aG (show([bN e]:List Int).length≤34359738300 by simp),bd_s,bne]
 cases(e.Index==(l.length:Int))<;>cases(e.Previous==fH l)<;>cases gP (aB l) e.By<;>cases((l.length:Int)==0)<;>cases(e.By==e.Device)<;>cases fA e.By [bN e] e.Signature<;>cases(e.Kind==2)<;>cases gP (aB l) e.Device<;>cases dM l e.Device<;>cases(e.Kind==1)<;>rfl
theorem U2 (l:List D.aAA)(h:l.length≤34359738368):Al l=some (aT l):=by
 unfold Al aT
 rw[jK (l:=l) (fun i e=> !iT (l.take i) e) (.inl false) (.inr ()) (by omega) (fun rec i hi=>by
  simp only[dZ hi,cond_true,aR hi,bd_s,aNn]
  rw[aG (by unfold kJ;simp;omega),aG (by rw[List.length_take];omega)];rfl) (fun rec=>by simp only[eD,cond_false])]
 cases jB (fun i e=> !iT (l.take i) e) 0 l<;>simp
theorem U3 (l:List D.aAA)(h:l.length≤34359738368):Bb l=some (aT l):=by
 unfold Bb aT
 rw[jK (l:=l) (fun i e=> !iT (l.take i) e) (.inl false) (.inr ()) (by omega) (fun rec i hi=>by
  have ht:(l.take i).length=i:=by rw[List.length_take];omega
  have hb:(l.take i).length≤34359738368:=by omega
  have hd:=iJ (l.take i)
  simp only[dZ hi,cond_true,aR hi,bd_s,aNn,aG (show kJ l (i:Int) by unfold kJ;omega),aG hb,aG (show(aB (l.take i)).length≤1099511627776 by omega),aG (show([bN l[i]]:List Int).length≤34359738300 by simp)]
  unfold iT
  rw[ht]
  generalize l[i]=e
  have h1:decide (((aB (l.take i)).length:Int)≥6)= !decide (((aB (l.take i)).length:Int)<6):=by rw[←decide_not];exact decide_eq_decide.2 (by omega)
  have h2:gP (aB (l.take i)) e.Device=true→decide (((aB (l.take i)).length:Int)>1)= !(((aB (l.take i)).length:Int)==1):=fun hh=>by
   have:=bAn hh
   rw[←Bool.decide_eq_true (b:=(((aB (l.take i)).length:Int)==1)),←decide_not]
   exact decide_eq_decide.2 (by simp;omega)
  simp only[h1,bne]
  cases h3:(e.Kind==2) with
  |true=>
   have h4:(e.Kind==1)=false:=by simp at h3 ⊢;omega
   rw[h4]
   cases hd:gP (aB (l.take i)) e.Device with
   |true=>
    rw[h2 hd]
    cases(e.Index==(i:Int))<;>cases(e.Previous==fH (l.take i))<;>cases gP (aB (l.take i)) e.By<;>cases((i:Int)==0)<;>cases(e.By==e.Device)<;>cases fA e.By [bN e] e.Signature<;>cases(((aB (l.take i)).length:Int)==1)<;>rfl
   |false=>cases(e.Index==(i:Int))<;>cases(e.Previous==fH (l.take i))<;>cases gP (aB (l.take i)) e.By<;>cases((i:Int)==0)<;>cases(e.By==e.Device)<;>cases fA e.By [bN e] e.Signature<;>rfl
  |false=>
   cases(e.Kind==1) with
   |true=>cases(e.Index==(i:Int))<;>cases(e.Previous==fH (l.take i))<;>cases gP (aB (l.take i)) e.By<;>cases((i:Int)==0)<;>cases(e.By==e.Device)<;>cases fA e.By [bN e] e.Signature<;>cases gP (aB (l.take i)) e.Device<;>cases dM (l.take i) e.Device<;>cases decide (((aB (l.take i)).length:Int)<6)<;>rfl
   |false=>cases(e.Index==(i:Int))<;>cases(e.Previous==fH (l.take i))<;>cases gP (aB (l.take i)) e.By<;>cases((i:Int)==0)<;>cases(e.By==e.Device)<;>cases fA e.By [bN e] e.Signature<;>cases dM (l.take i) e.Device<;>rfl) (fun rec=>by simp only[eD,cond_false])]
 unfold bR
 have e1:decide ((l.length:Int)<1)= !decide (1≤(l.length:Int)):=by rw[←decide_not];exact decide_eq_decide.2 (by omega)
 have e2:decide ((l.length:Int)>40)= !decide ((l.length:Int)≤40):=by rw[←decide_not];exact decide_eq_decide.2 (by omega)
 rw[e1,e2]
 cases decide (1≤(l.length:Int))<;>cases decide ((l.length:Int)≤40)<;>cases jB (fun i e=> !iT (l.take i) e) 0 l<;>rfl
theorem Ph (w:D.World)(h:w.sz≤34359738368):tX w=some (bK w):=by
 simp only[D.World.sz] at h
 unfold tX bK
 rw[jK (l:=w.Sites) kP (.inl false) (.inr ()) (by omega) (fun rec i hi=>by
  have hz:=jJ (f:=D.Site.sz) hi
  simp only[dZ hi,cond_true,aR hi,bd_s,aG (show w.Sites[i].sz≤34359738368 by omega)]
  unfold kP
  cases bL w.Sites[i]<;>cases(w.Sites[i].Name.toList==(aA (i:Int)).toList)<;>rfl) (fun rec=>by simp only[eD,cond_false])]
 simp only[aG (show w.Mail.sz≤34359738368 by simp only[D.aAN.sz];omega),aG (show w.aAB.Log.length≤34359738368 by omega),bne,bd_s]
 cases jB kP 0 w.Sites<;>cases bR w.Now 0 999900<;>cases bR (w.Devices.length:Int) 1 6<;>cases((w.Stolen.length:Int)==(w.Devices.length:Int))<;>cases((w.Sites.length:Int)==2)<;>cases dP w.Mail<;>cases aT w.aAB.Log<;>cases bE w.Seed<;>rfl
theorem Pi (w:D.World)(h:w.sz≤34359738368):tV w=some (bK w):=by
 simp only[D.World.sz] at h
 unfold tV bK
 rw[jK (l:=w.Sites) kP (.inl false) (.inr ()) (by omega) (fun rec i hi=>by
  have hz:=jJ (f:=D.Site.sz) hi
  simp only[dZ hi,cond_true,aR hi,bd_s,aG (show w.Sites[i].sz≤34359738368 by omega)]
  unfold kP
  cases bL w.Sites[i]<;>cases(w.Sites[i].Name.toList==(aA (i:Int)).toList)<;>rfl) (fun rec=>by simp only[eD,cond_false])]
 simp only[aG (show w.Mail.sz≤34359738368 by simp only[D.aAN.sz];omega),aG (show w.aAB.Log.length≤34359738368 by omega),bne,bd_s]
 cases jB kP 0 w.Sites<;>cases bR w.Now 0 999900<;>cases bR (w.Devices.length:Int) 1 6<;>cases((w.Stolen.length:Int)==(w.Devices.length:Int))<;>cases((w.Sites.length:Int)==2)<;>cases dP w.Mail<;>cases aT w.aAB.Log<;>cases bE w.Seed<;>rfl
end
end Go.VK
