import Derived.Test.YtajiimgjfnnjlaaGreatDoorXkPf
import Derived.Test.YtajiimgjfnnjlaaGreatDoorXkQ
/- Printed by wip/tools: models, walks, proofs. -/
set_option linter.unusedVariables false
set_option linter.unusedSimpArgs false
set_option maxRecDepth 100000
set_option maxHeartbeats 4000000
namespace Go.VK
open Go.RowKit Go.Proofs
noncomputable section
open EV (bK)
theorem aDi (l:List D.aAH)(p:Int)(i:Nat)(hi:i≤l.length)(h:l.length≤34359738368){F:(Nat→Option ((Bool⊕PUnit)⊕PUnit))→Nat→Option ((Bool⊕PUnit)⊕PUnit)}(hF:∀rec j (hj:j<i),F rec j=bif (l[j]'(by omega)).Public==p then some (.inl (.inl false)) else rec (j+1))(hE:∀rec,F rec i=some (.inr ())):
  bK FUEL F 0=some (bif (l.take i).any (fun q=>q.Public==p) then .inl (.inl false) else .inr ()):=by
 have ht:(l.take i).length=i:=by rw[List.length_take];omega
 exact gK (l:=l.take i) (fun q=>q.Public==p) _ _ (by omega) (fun rec j hj=>by rw[hF rec j (by omega),List.getElem_take]) (fun rec=>by rw[ht];exact hE rec)
theorem aL6 (a:D.aAD)(h:a.Credentials.length≤34359738368)(i:Nat)(hi:i<a.Credentials.length){τ:Type}{X:Option τ}{r:Option τ}{K:Option τ}(hX:X=bif (a.Credentials.take i).any (fun q=>q.Public==a.Credentials[i].Public) then r else K):
  (bd (bif (!bI a.Credentials[i].Handle (0:Int) (1000000:Int)) then(some (true)) else(bif (decide ((↑i:Int)>(0:Int))) then(bd (aW (a.Credentials) (IntKind.i64.wrap ((↑i:Int)-(1:Int)))) fun z5=>bif (decide (z5.Handle≥a.Credentials[i].Handle)) then(some (true)) else(bd (some (gD a.Credentials[i].Public)) fun z6=>bif (z6==(0:Int)) then(some (true)) else(some (!bI a.Credentials[i].Counter (0:Int) (1000000:Int))))) else(bd (some (gD a.Credentials[i].Public)) fun z5=>bif (z5==(0:Int)) then(some (true)) else(some (!bI a.Credentials[i].Counter (0:Int) (1000000:Int)))))) fun z4=>bif z4 then r else X)=bif xN a i a.Credentials[i] then r else K:=by
 rw[hX];unfold xN
 by_cases h0:0<i
 ·rw[Df h0 hi h,show decide ((i:Int)>0)=true by simpa using h0,decide_eq_true h0]
  simp only[bd_s]
  cases bI a.Credentials[i].Handle 0 1000000<;>cases decide ((a.Credentials.getD (i-1) default).Handle≥a.Credentials[i].Handle)<;>cases(gD a.Credentials[i].Public==0)<;>cases bI a.Credentials[i].Counter 0 1000000<;>cases(a.Credentials.take i).any (fun q=>q.Public==a.Credentials[i].Public)<;>rfl
 ·rw[show decide ((i:Int)>0)=false by simpa using h0,decide_eq_false h0]
  simp only[bd_s]
  cases bI a.Credentials[i].Handle 0 1000000<;>cases(gD a.Credentials[i].Public==0)<;>cases bI a.Credentials[i].Counter 0 1000000<;>cases(a.Credentials.take i).any (fun q=>q.Public==a.Credentials[i].Public)<;>rfl
theorem Au (a:D.aAD)(h:a.sz≤34359738368):kI a=some (aY a):=by
 simp only[D.aAD.sz] at h
 unfold kI aY
 rw[fA (l:=a.Credentials) (xN a) (.inl false) (.inr ()) (by omega) (fun rec i hi=>by
  simp only[bB hi,cond_true,aD hi,bd_s]
  rw[aDi a.Credentials a.Credentials[i].Public i (by omega) h (fun rec j hj=>by simp only[bB hj,cond_true,aD (show j<a.Credentials.length by omega),bd_s]) (fun rec=>by simp only[bC,cond_false])]
  have:=aL6 a h i hi (X:=nx (some (bif (a.Credentials.take i).any (fun q=>q.Public==a.Credentials[i].Public) then Sum.inl (Sum.inl false) else Sum.inr PUnit.unit)) fun _=>rec (i+1)) (r:=some (.inl false)) (K:=rec (i+1)) (by cases(a.Credentials.take i).any _<;>rfl)
  rw[←this]
  simp only[bd_s]
  generalize(bif !bI a.Credentials[i].Handle 0 1000000 then _ else _:Option Bool)=q
  cases q with
  |none=>rfl
  |some b=>cases b<;>rfl) (fun rec=>by simp only[bC,cond_false])]
 rw[show decide ((a.Credentials.length:Int)≤8)=decide (a.Credentials.length≤8) from decide_eq_decide.2 (by omega)]
 cases bI a.Id 0 1000000<;>cases bI a.Minimum 1 3<;>cases decide (a.Credentials.length≤8)<;>cases kE (xN a) 0 a.Credentials<;>rfl
theorem Av (a:D.aAD)(h:a.sz≤34359738368):kN a=some (aY a):=by
 simp only[D.aAD.sz] at h
 unfold kN aY
 rw[fA (l:=a.Credentials) (xN a) (.inl false) (.inr ()) (by omega) (fun rec i hi=>by
  have ht:(a.Credentials.take i).length=i:=by rw[List.length_take];omega
  simp only[bB hi,cond_true,aD hi,bd_s,bD]
  rw[aC (show fU a.Credentials (i:Int) by unfold fU;omega)]
  rw[aDi a.Credentials a.Credentials[i].Public i (by omega) h (fun rec j hj=>by simp only[ht,bB hj,cond_true,aD (show j<(a.Credentials.take i).length by omega),bd_s,List.getElem_take]) (fun rec=>by simp only[ht,bC,cond_false])]
  have:=aL6 a h i hi (X:=nx (some (bif (a.Credentials.take i).any (fun q=>q.Public==a.Credentials[i].Public) then Sum.inl (Sum.inl false) else Sum.inr PUnit.unit)) fun _=>rec (i+1)) (r:=some (.inl false)) (K:=rec (i+1)) (by cases(a.Credentials.take i).any _<;>rfl)
  rw[←this]
  simp only[bd_s]
  generalize(bif !bI a.Credentials[i].Handle 0 1000000 then _ else _:Option Bool)=q
  cases q with
  |none=>rfl
  |some b=>cases b<;>rfl) (fun rec=>by simp only[bC,cond_false])]
 rw[show decide ((a.Credentials.length:Int)>8)= !decide (a.Credentials.length≤8) by rw[←decide_not];exact decide_eq_decide.2 (by omega)]
 cases bI a.Id 0 1000000<;>cases bI a.Minimum 1 3<;>cases decide (a.Credentials.length≤8)<;>cases kE (xN a) 0 a.Credentials<;>rfl
theorem lF (s:ByteArray)(hs:s.size≤34359738368):∀(n f i st:Nat) (acc:List ByteArray),s.size-i=n→n+1<f→st≤i→i≤s.size→acc.length≤i→bK f (fun rec1 (i1:(List ByteArray×Int×Int))=>bif (decide (i1.2.2≤(↑s.size:Int))) then(bd (bd (bif (i1.2.2==(↑s.size:Int)) then(some (true)) else(bd (aW (aO s) (i1.2.2)) fun z4=>some (z4==(46:Int)))) fun z3=>bif z3 then(gd (iF s i1.2.1 i1.2.2) (gd (aU i1.1 [s.extract i1.2.1.toNat i1.2.2.toNat]) (some ((i1.1++[s.extract i1.2.1.toNat i1.2.2.toNat],IntKind.i64.wrap (i1.2.2+(1:Int))))))) else(some (i1.1,i1.2.1))) fun(z2:List ByteArray×Int)=>rec1 ((z2.1,z2.2,IntKind.i64.wrap (i1.2.2+(1:Int))))) else(some (i1.1))) (acc,(st:Int),(i:Int))=some (acc++(dG ((s.data.toList.drop st).take (i-st)) (s.data.toList.drop i)).map fun l=>(⟨l.toArray⟩:ByteArray))
 |n,f+1,i,st,acc,hn,hf,h1,h2,h3=>by
  rw[Tz]
  have e0:decide ((i:Int)≤(s.size:Int))=true:=by simpa using(show(i:Int)≤(s.size:Int) by omega)
  have es:iF s (st:Int) (i:Int):=⟨by omega,by omega,by omega⟩
  have ea:aU acc ([s.extract (st:Int).toNat (i:Int).toNat]:List ByteArray):=by unfold aU;simp;omega
  have ew:IntKind.i64.wrap ((i:Int)+1)=((i+1:Nat):Int):=by rw[bA (by omega) (by omega)];omega
  simp only[e0,cond_true]
  rcases Nat.lt_or_ge i s.size with hlt|hge
  ·have e1:((i:Int)==(s.size:Int))=false:=by simp;omega
   have hd:s.data.toList.drop i=s.data.toList[i]'hlt::s.data.toList.drop (i+1):=(List.drop_eq_getElem_cons hlt)
   have hb:(aO s)[i]'(by rw[dH];exact hlt)=((s.data.toList[i]'hlt).toNat:Int):=by simp[aO]
   have hq:(((s.data.toList[i]'hlt).toNat:Int)==46)=(s.data.toList[i]'hlt==46):=by
    rw[Bool.eq_iff_iff];simp only[beq_iff_eq]
    constructor
    ·intro q;apply UInt8.toNat_inj.1;show _=46;omega
    ·intro q;rw[q];rfl
   rw[e1,cond_false,aLy hlt,bd_s,bd_s,hb,hq,hd,dG]
   cases hc:(s.data.toList[i]'hlt==46) with
   |true=>
    rw[cond_true,aC es,aC ea,bd_s]
    dsimp only
    rw[ew,cond_true,lF s hs (n-1) f (i+1) (i+1) _ (by omega) (by omega) (Nat.le_refl _) (by omega) (by simp;omega),Int.toNat_natCast,Int.toNat_natCast,ext_list]
    simp
   |false=>
    rw[cond_false,bd_s]
    dsimp only
    rw[ew,cond_false,lF s hs (n-1) f (i+1) st _ (by omega) (by omega) (by omega) (by omega) (by omega)]
    have:(s.data.toList.drop st).take (i+1-st)=(s.data.toList.drop st).take (i-st)++[s.data.toList[i]'hlt]:=by
     rw[show i+1-st=(i-st)+1 by omega,List.take_add_one,List.getElem?_drop,show st+(i-st)=i by omega,List.getElem?_eq_getElem hlt];rfl
    rw[this]
  ·have e1:((i:Int)==(s.size:Int))=true:=by simp;omega
   obtain⟨f,rfl⟩:∃g,f=g+1:=⟨f-1,by omega⟩
   have hz:s.data.toList.length≤i:=by have:s.data.toList.length=s.size:=rfl;omega
   have e2:decide (((i+1:Nat):Int)≤(s.size:Int))=false:=by simp;omega
   rw[e1,cond_true,bd_s,cond_true,aC es,aC ea,bd_s,Tz]
   dsimp only
   rw[ew]
   simp only[e2,cond_false]
   rw[List.drop_eq_nil_of_le hz,dG,Int.toNat_natCast,Int.toNat_natCast,ext_list];rfl
theorem S9 (s:ByteArray)(h:s.size≤34359738368):zF s=some (aL s):=by
 unfold zF
 have hf:=sI
 have:=lF s h s.size FUEL 0 0 [] rfl (by omega) (Nat.le_refl _) (Nat.zero_le _) (Nat.le_refl _)
 rw[show(0:Int)=((0:Nat):Int) from rfl]
 refine(congrArg (fun x=>bd x some) this).trans ?_
 simp[aL]
theorem aDj (s:ByteArray)(h:s.size≤34359738368):Ee s=some (lU s):=by
 unfold Ee lU
 have hb:=dH s
 rw[gK (l:=aO s) (fun b=> !Tx b) (.inl false) (.inr ()) (by omega) (fun rec i hi=>by
  have hi':i<s.size:=by omega
  simp only[bB hi',cond_true,aLy hi',bd_s]
  generalize(aO s)[i]'_=b
  unfold Tx bI
  have c1:decide (b≥97)=decide (97≤b):=rfl
  have c2:decide (b≥48)=decide (48≤b):=rfl
  rw[c1,c2]
  cases decide (97≤b)<;>cases decide (b≤122)<;>cases decide (48≤b)<;>cases decide (b≤57)<;>cases(b==45)<;>rfl) (fun rec=>by simp only[hb,bC,cond_false])]
 have e:bI (s.size:Int) 1 20=(decide (1≤s.size)&&decide (s.size≤20)):=by unfold bI;congr 1<;>exact decide_eq_decide.2 (by omega)
 rw[e]
 by_cases h0:0<s.size
 ·rw[show(0:Int)=((0:Nat):Int) from rfl,aLy h0,bA (by omega) (by omega),show(s.size:Int)-1=((s.size-1:Nat):Int) by omega,aLy (show s.size-1<s.size by omega)]
  simp only[bd_s,bne,List.getD,List.getElem?_eq_getElem (show 0<(aO s).length by rw[dH];exact h0),List.getElem?_eq_getElem (show s.size-1<(aO s).length by rw[dH];omega),Option.getD_some]
  cases((aO s)[0]'_==45)<;>cases((aO s)[s.size-1]'_==45)<;>cases decide (1≤s.size)<;>cases decide (s.size≤20)<;>cases(aO s).any _<;>rfl
 ·rw[show decide (1≤s.size)=false from decide_eq_false (by omega)]
  cases(aO s).any _<;>rfl
theorem aGh (s:ByteArray)(h:s.size≤34359738368):Nl s=some (bS s):=by
 unfold Nl bS
 have hl:=Di s
 simp only[aC h,bd_s]
 rw[gK (l:=aL s) (fun l=> !lU l) (.inl false) (.inr ()) (by omega) (fun rec i hi=>by
  have hz:(aL s)[i].size≤34359738368:=Nat.le_trans (oO s _ (List.getElem_mem _)) h
  simp only[bB hi,cond_true,aD hi,bd_s,aC hz]) (fun rec=>by simp only[bC,cond_false])]
 have e':decide ((s.size:Int)≤60)=decide (s.size≤60):=decide_eq_decide.2 (by omega)
 rw[e']
 cases decide (s.size≤60)<;>cases(aL s).any _<;>rfl
theorem aGi (s:ByteArray):Nq s=some (bS s):=by
 unfold Nq bS
 by_cases h60:s.size≤60
 ·have hl:=Di s
  rw[show decide ((s.size:Int)>60)=false from decide_eq_false (by omega),cond_false,aC (show s.size<4294967281∧1≤(⟨#[UInt8.ofNat 46]⟩:ByteArray).size from⟨by omega,Nat.le_refl _⟩),bd_s]
  have es:eF s ⟨#[UInt8.ofNat 46]⟩=aL s:=aB3 s
  rw[es]
  rw[gK (l:=aL s) (fun l=> !lU l) (.inl false) (.inr ()) (by omega) (fun rec i hi=>by
   have hz:(aL s)[i].size≤60:=Nat.le_trans (oO s _ (List.getElem_mem _)) h60
   simp only[bB hi,cond_true,aD hi,bd_s]
   revert hz
   generalize(aL s)[i]=l
   intro hz
   have hb:=dH l
   rw[gK (l:=aO l) (fun b=> !Tx b) (.inl (.inl false)) (.inr ()) (by omega) (fun rec i hi=>by
    have hi':i<l.size:=by omega
    simp only[bB hi',cond_true,aLy hi',bd_s]
    generalize(aO l)[i]'_=b
    unfold Tx bI
    have c1:decide (b≥97)=decide (97≤b):=rfl
    have c2:decide (b≥48)=decide (48≤b):=rfl
    rw[c1,c2]
    cases decide (97≤b)<;>cases decide (b≤122)<;>cases decide (48≤b)<;>cases decide (b≤57)<;>cases(b==45)<;>rfl) (fun rec=>by simp only[hb,bC,cond_false])]
   unfold lU
   by_cases h0:0<l.size
   ·rw[show(0:Int)=((0:Nat):Int) from rfl,aLy h0,bA (by omega) (by omega),show(l.size:Int)-1=((l.size-1:Nat):Int) by omega,aLy (show l.size-1<l.size by omega)]
    have e1:decide ((l.size:Int)<1)= !decide (1≤l.size):=by rw[←decide_not];exact decide_eq_decide.2 (by omega)
    have e2:decide ((l.size:Int)>20)= !decide (l.size≤20):=by rw[←decide_not];exact decide_eq_decide.2 (by omega)
    rw[e1,e2]
    simp only[bd_s,bne,List.getD,List.getElem?_eq_getElem (show 0<(aO l).length by rw[dH];exact h0),List.getElem?_eq_getElem (show l.size-1<(aO l).length by rw[dH];omega),Option.getD_some]
    cases((aO l)[0]'_==45)<;>cases((aO l)[l.size-1]'_==45)<;>cases decide (1≤l.size)<;>cases decide (l.size≤20)<;>cases(aO l).any _<;>rfl
   ·rw[show decide ((l.size:Int)<1)=true from decide_eq_true (by omega),show decide (1≤l.size)=false from decide_eq_false (by omega)]
    rfl) (fun rec=>by simp only[bC,cond_false])]
  rw[show decide (s.size≤60)=true by simpa using h60]
  cases(aL s).any _<;>rfl
 ·rw[show decide ((s.size:Int)>60)=true from decide_eq_true (by omega),show decide (s.size≤60)=false by simpa using h60];rfl
theorem Pn (s:ByteArray):qQ s=some (aQc s):=by
 unfold qQ aQc
 cases h:bS s with
 |false=>rfl
 |true=>
  have hs:=Dj h
  have hp:=K8 s
  have es:eF s ⟨#[UInt8.ofNat 46]⟩=aL s:=aB3 s
  rw[Bool.not_true,cond_false,cond_true,aC (show s.size<4294967281∧1≤(⟨#[UInt8.ofNat 46]⟩:ByteArray).size from⟨by omega,Nat.le_refl _⟩),bd_s,es]
  rw[show(((aL s).length:Int)==1)=((aL s).length==1) by rw[Bool.eq_iff_iff];simp only[beq_iff_eq];omega]
  cases h1:(aL s).length==1 with
  |true=>rfl
  |false=>
   have h2:(aL s).length≠1:=by simpa using h1
   have hl:=Di s
   obtain⟨a,ha,b,hb,e⟩:=aT2 (l:=aL s) (by omega)
   have ha:=oO s a ha
   have hb:=oO s b hb
   rw[cond_false,cond_false,bA (by omega) (by omega),show((aL s).length:Int)-2=(((aL s).length-2:Nat):Int) by omega,Int.toNat_natCast]
   have hd:((aL s).drop ((aL s).length-2)).length=2:=by rw[List.length_drop];omega
   have hj:(iT ⟨#[UInt8.ofNat 46]⟩ ((aL s).drop ((aL s).length-2))).size≤140737488355328:=by
    have e:iT ⟨#[UInt8.ofNat 46]⟩ ((aL s).drop ((aL s).length-2))=_:=e
    rw[e,ByteArray.size_append,ByteArray.size_append]
    have:(⟨#[46]⟩:ByteArray).size=1:=rfl
    omega
   rw[aC (show fU (aL s) (((aL s).length-2:Nat):Int) by unfold fU;omega),aC ⟨by omega,hj,by omega⟩]
   rfl
theorem aGj (s:ByteArray)(h:s.size≤9223372036854775807):Nr s=some (Jf s):=by
 unfold Nr Jf
 have hb:=dH s
 rw[gK (l:=aO s) (fun b=>b==46) (.inl true) (.inr ()) (by omega) (fun rec i hi=>by
  have hi':i<s.size:=by omega
  simp only[bB hi',cond_true,aLy hi',bd_s]) (fun rec=>by simp only[hb,bC,cond_false])]
 cases(aO s).any _<;>rfl
theorem Po (n:ByteArray)(seed:Int)(h:n.size≤9223372036854775807):qR n seed=some (gN n seed):=by
 unfold qR gN
 simp only[aC h,bd_s]
 rw[aWq,aF1]
 cases h:bS n with
 |false=>rfl
 |true=>rw[aTl h];cases decide (2≤(aL n).length)<;>cases gY seed<;>rfl
theorem aDk (n:ByteArray)(seed:Int)(h:n.size≤34359738368):Ef n seed=some (qC n seed):=by
 unfold Ef qC gN
 have e:decide (((aL n).length:Int)<2)= !decide (2≤(aL n).length):=by rw[←decide_not];exact decide_eq_decide.2 (by omega)
 simp only[aC h,bd_s,e]
 cases bS n<;>cases decide (2≤(aL n).length)<;>cases gY seed<;>rfl
theorem Pp (s:D.Site)(h:s.sz≤34359738368):qJ s=some (bX s):=by
 simp only[D.Site.sz] at h
 unfold qJ bX
 rw[fA (l:=s.Accounts) (Oy s.Accounts) (.inl false) (.inr ()) (by omega) (fun rec i hi=>by
  have hz:=bL (f:=D.aAD.sz) hi
  simp only[bB hi,cond_true,aD hi,bd_s,aC (show s.Accounts[i].sz≤34359738368 by omega)]
  unfold Oy
  by_cases h0:0<i
  ·rw[Df h0 hi (by omega),show decide ((i:Int)>0)=true by simpa using h0,decide_eq_true h0]
   simp only[bd_s]
   cases aY s.Accounts[i]<;>cases decide ((s.Accounts.getD (i-1) default).Id≥s.Accounts[i].Id)<;>rfl
  ·rw[show decide ((i:Int)>0)=false by simpa using h0,decide_eq_false h0]
   cases aY s.Accounts[i]<;>rfl) (fun rec=>by simp only[bC,cond_false])]
 rw[show decide ((s.Accounts.length:Int)≤8)=decide (s.Accounts.length≤8) from decide_eq_decide.2 (by omega)]
 have e3:(!((qC s.Name s.Book.Seed).Name.toList==(⟨#[]⟩:ByteArray).toList))=gN s.Name s.Book.Seed:=by rw[aWq,aNi,Bool.not_not]
 simp only[aC (show s.Name.size≤34359738368 by omega),aC (show s.Book.sz≤34359738368 by simp only[D.aAA.sz];omega),bd_s,e3]
 cases gN s.Name s.Book.Seed<;>cases decide (s.Accounts.length≤8)<;>cases bW s.Book<;>cases kE (Oy s.Accounts) 0 s.Accounts<;>rfl
theorem Pq (s:D.Site)(h:s.sz≤34359738368):qV s=some (bX s):=by
 simp only[D.Site.sz] at h
 unfold qV bX
 rw[fA (l:=s.Accounts) (Oy s.Accounts) (.inl false) (.inr ()) (by omega) (fun rec i hi=>by
  have hz:=bL (f:=D.aAD.sz) hi
  simp only[bB hi,cond_true,aD hi,bd_s,aC (show s.Accounts[i].sz≤34359738368 by omega)]
  unfold Oy
  by_cases h0:0<i
  ·rw[Df h0 hi (by omega),show decide ((i:Int)>0)=true by simpa using h0,decide_eq_true h0]
   simp only[bd_s]
   cases aY s.Accounts[i]<;>cases decide ((s.Accounts.getD (i-1) default).Id≥s.Accounts[i].Id)<;>rfl
  ·rw[show decide ((i:Int)>0)=false by simpa using h0,decide_eq_false h0]
   cases aY s.Accounts[i]<;>rfl) (fun rec=>by simp only[bC,cond_false])]
 rw[show decide ((s.Accounts.length:Int)>8)= !decide (s.Accounts.length≤8) by rw[←decide_not];exact decide_eq_decide.2 (by omega)]
 simp only[aC (show s.Name.size≤9223372036854775807 by omega),aC (show s.Book.sz≤34359738368 by simp only[D.aAA.sz];omega),bd_s]
 cases gN s.Name s.Book.Seed<;>cases decide (s.Accounts.length≤8)<;>cases bW s.Book<;>cases kE (Oy s.Accounts) 0 s.Accounts<;>rfl
theorem aDl (l:List D.aAE)(e:D.aAE)(h:l.length≤34359738368):Eh l e=some (lI l e):=by
 unfold Eh lI
 have hd:=Nc l
 rw[gK (l:=l) (fun q=>q.Kind==2&&q.Device==e.Device) (.inl false) (.inr ()) (by omega) (fun rec i hi=>by
  simp only[bB hi,cond_true,aD hi,bd_s,xO];cases(l[i].Kind==2)<;>rfl) (fun rec=>by simp only[bC,cond_false])]
 rw[show(l.any fun q=>q.Kind==2&&q.Device==e.Device)=jL l e.Device from rfl]
 simp only[aC h,aC (show(aN l).length≤1099511627776 by omega),aC (show([bG e]:List Int).length≤34359738300 by simp),bd_s,bne]
 cases(e.Index==(l.length:Int))<;>cases(e.Previous==dR l)<;>cases gZ (aN l) e.By<;>cases((l.length:Int)==0)<;>cases(e.By==e.Device)<;>cases dC e.By [bG e] e.Signature<;>cases(e.Kind==2)<;>cases gZ (aN l) e.Device<;>cases jL l e.Device<;>cases(e.Kind==1)<;>rfl
theorem Zp (l:List D.aAE)(h:l.length≤34359738368):vG l=some (qB l):=by
 unfold vG qB
 rw[fA (l:=l) (fun i e=> !lI (l.take i) e) (.inl false) (.inr ()) (by omega) (fun rec i hi=>by
  simp only[bB hi,cond_true,aD hi,bd_s,bD]
  rw[aC (by unfold fU;simp;omega),aC (by rw[List.length_take];omega)];rfl) (fun rec=>by simp only[bC,cond_false])]
 cases kE (fun i e=> !lI (l.take i) e) 0 l<;>simp
theorem Zq (l:List D.aAE)(h:l.length≤34359738368):vL l=some (qB l):=by
 unfold vL qB
 rw[fA (l:=l) (fun i e=> !lI (l.take i) e) (.inl false) (.inr ()) (by omega) (fun rec i hi=>by
  have ht:(l.take i).length=i:=by rw[List.length_take];omega
  have hb:(l.take i).length≤34359738368:=by omega
  have hd:=Nc (l.take i)
  simp only[bB hi,cond_true,aD hi,bd_s,bD,aC (show fU l (i:Int) by unfold fU;omega),aC hb,aC (show(aN (l.take i)).length≤1099511627776 by omega),aC (show([bG l[i]]:List Int).length≤34359738300 by simp)]
  unfold lI
  rw[ht]
  generalize l[i]=e
  have h1:decide (((aN (l.take i)).length:Int)≥6)= !decide (((aN (l.take i)).length:Int)<6):=by rw[←decide_not];exact decide_eq_decide.2 (by omega)
  have h2:gZ (aN (l.take i)) e.Device=true→decide (((aN (l.take i)).length:Int)>1)= !(((aN (l.take i)).length:Int)==1):=fun hh=>by
   have:=aSb hh
   rw[←Bool.decide_eq_true (b:=(((aN (l.take i)).length:Int)==1)),←decide_not]
   exact decide_eq_decide.2 (by simp;omega)
  simp only[h1,bne]
  cases h3:(e.Kind==2) with
  |true=>
   have h4:(e.Kind==1)=false:=by simp at h3 ⊢;omega
   rw[h4]
   cases hd:gZ (aN (l.take i)) e.Device with
   |true=>
    rw[h2 hd]
    cases(e.Index==(i:Int))<;>cases(e.Previous==dR (l.take i))<;>cases gZ (aN (l.take i)) e.By<;>cases((i:Int)==0)<;>cases(e.By==e.Device)<;>cases dC e.By [bG e] e.Signature<;>cases(((aN (l.take i)).length:Int)==1)<;>rfl
   |false=>cases(e.Index==(i:Int))<;>cases(e.Previous==dR (l.take i))<;>cases gZ (aN (l.take i)) e.By<;>cases((i:Int)==0)<;>cases(e.By==e.Device)<;>cases dC e.By [bG e] e.Signature<;>rfl
  |false=>
   cases(e.Kind==1) with
   |true=>cases(e.Index==(i:Int))<;>cases(e.Previous==dR (l.take i))<;>cases gZ (aN (l.take i)) e.By<;>cases((i:Int)==0)<;>cases(e.By==e.Device)<;>cases dC e.By [bG e] e.Signature<;>cases gZ (aN (l.take i)) e.Device<;>cases jL (l.take i) e.Device<;>cases decide (((aN (l.take i)).length:Int)<6)<;>rfl
   |false=>cases(e.Index==(i:Int))<;>cases(e.Previous==dR (l.take i))<;>cases gZ (aN (l.take i)) e.By<;>cases((i:Int)==0)<;>cases(e.By==e.Device)<;>cases dC e.By [bG e] e.Signature<;>cases jL (l.take i) e.Device<;>rfl) (fun rec=>by simp only[bC,cond_false])]
 unfold bI
 have e1:decide ((l.length:Int)<1)= !decide (1≤(l.length:Int)):=by rw[←decide_not];exact decide_eq_decide.2 (by omega)
 have e2:decide ((l.length:Int)>40)= !decide ((l.length:Int)≤40):=by rw[←decide_not];exact decide_eq_decide.2 (by omega)
 rw[e1,e2]
 cases decide (1≤(l.length:Int))<;>cases decide ((l.length:Int)≤40)<;>cases kE (fun i e=> !lI (l.take i) e) 0 l<;>rfl
theorem Ka (w:D.World)(h:w.sz≤34359738368):nQ w=some (dI w):=by
 simp only[D.World.sz] at h
 unfold nQ dI
 rw[fA (l:=w.Sites) iI (.inl false) (.inr ()) (by omega) (fun rec i hi=>by
  have hz:=bL (f:=D.Site.sz) hi
  simp only[bB hi,cond_true,aD hi,bd_s,aC (show w.Sites[i].sz≤34359738368 by omega)]
  unfold iI
  cases bX w.Sites[i]<;>cases(w.Sites[i].Name.toList==(aJ (i:Int)).toList)<;>rfl) (fun rec=>by simp only[bC,cond_false])]
 simp only[aC (show w.Mail.sz≤34359738368 by simp only[D.aAI.sz];omega),aC (show w.aAO.Log.length≤34359738368 by omega),bne,bd_s]
 cases kE iI 0 w.Sites<;>cases bI w.Now 0 999900<;>cases bI (w.Devices.length:Int) 1 6<;>cases((w.Stolen.length:Int)==(w.Devices.length:Int))<;>cases((w.Sites.length:Int)==2)<;>cases bR w.Mail<;>cases qB w.aAO.Log<;>cases gY w.Seed<;>rfl
theorem Kb (w:D.World)(h:w.sz≤34359738368):nU w=some (dI w):=by
 simp only[D.World.sz] at h
 unfold nU dI
 rw[fA (l:=w.Sites) iI (.inl false) (.inr ()) (by omega) (fun rec i hi=>by
  have hz:=bL (f:=D.Site.sz) hi
  simp only[bB hi,cond_true,aD hi,bd_s,aC (show w.Sites[i].sz≤34359738368 by omega)]
  unfold iI
  cases bX w.Sites[i]<;>cases(w.Sites[i].Name.toList==(aJ (i:Int)).toList)<;>rfl) (fun rec=>by simp only[bC,cond_false])]
 simp only[aC (show w.Mail.sz≤34359738368 by simp only[D.aAI.sz];omega),aC (show w.aAO.Log.length≤34359738368 by omega),bne,bd_s]
 cases kE iI 0 w.Sites<;>cases bI w.Now 0 999900<;>cases bI (w.Devices.length:Int) 1 6<;>cases((w.Stolen.length:Int)==(w.Devices.length:Int))<;>cases((w.Sites.length:Int)==2)<;>cases bR w.Mail<;>cases qB w.aAO.Log<;>cases gY w.Seed<;>rfl
end
end Go.VK
