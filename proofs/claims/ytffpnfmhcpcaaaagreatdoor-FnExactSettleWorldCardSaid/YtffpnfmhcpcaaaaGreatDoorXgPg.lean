import Derived.Test.YtffpnfmhcpcaaaaGreatDoorXgPf
import Derived.Test.YtffpnfmhcpcaaaaGreatDoorXgQ
/-
  Printed by wip/tools (own work of this part): models of functions, walks over the value kit, and proofs.
-/
set_option linter.unusedVariables false
set_option linter.unusedSimpArgs false
set_option maxRecDepth 100000
set_option maxHeartbeats 4000000
namespace Go.VK
open Go.RowKit Go.Proofs
noncomputable section
open EV (bW)
theorem aJn (l:List D.Credential)(p:Int)(i:Nat)(hi:i≤l.length)(h:l.length≤34359738368){F:(Nat→Option ((Bool⊕PUnit)⊕PUnit))→Nat→Option ((Bool⊕PUnit)⊕PUnit)}(hF:∀rec j (hj:j<i),F rec j=bif (l[j]'(by omega)).Public==p then some (.inl (.inl false)) else rec (j+1))(hE:∀rec,F rec i=some (.inr ())):
  bW FUEL F 0=some (bif (l.take i).any (fun q=>q.Public==p) then .inl (.inl false) else .inr ()):=by
 have ht:(l.take i).length=i:=by rw[List.length_take];omega
 exact nV (l:=l.take i) (fun q=>q.Public==p) _ _ (by omega) (fun rec j hj=>by rw[hF rec j (by omega),List.getElem_take]) (fun rec=>by rw[ht];exact hE rec)
theorem aTt (a:D.Account)(h:a.Credentials.length≤34359738368)(i:Nat)(hi:i<a.Credentials.length){τ:Type}{X:Option τ}{r:Option τ}{K:Option τ}(hX:X=bif (a.Credentials.take i).any (fun q=>q.Public==a.Credentials[i].Public) then r else K):
  (bd (bif (!dD a.Credentials[i].Handle (0:Int) (1000000:Int)) then(some (true)) else(bif (decide ((↑i:Int)>(0:Int))) then(bd (aT (a.Credentials) (IntKind.i64.wrap ((↑i:Int)-(1:Int)))) fun z5=>bif (decide (z5.Handle≥a.Credentials[i].Handle)) then(some (true)) else(bd (some (jM a.Credentials[i].Public)) fun z6=>bif (z6==(0:Int)) then(some (true)) else(some (!dD a.Credentials[i].Counter (0:Int) (1000000:Int))))) else(bd (some (jM a.Credentials[i].Public)) fun z5=>bif (z5==(0:Int)) then(some (true)) else(some (!dD a.Credentials[i].Counter (0:Int) (1000000:Int)))))) fun z4=>bif z4 then r else X)=bif Bt a i a.Credentials[i] then r else K:=by
 rw[hX];unfold Bt
 by_cases h0:0<i
 ·rw[Iu h0 hi h,show decide ((i:Int)>0)=true by simpa using h0,decide_eq_true h0]
  simp only[bd_s]
  cases dD a.Credentials[i].Handle 0 1000000<;>cases decide ((a.Credentials.getD (i-1) default).Handle≥a.Credentials[i].Handle)<;>cases(jM a.Credentials[i].Public==0)<;>cases dD a.Credentials[i].Counter 0 1000000<;>cases(a.Credentials.take i).any (fun q=>q.Public==a.Credentials[i].Public)<;>rfl
 ·rw[show decide ((i:Int)>0)=false by simpa using h0,decide_eq_false h0]
  simp only[bd_s]
  cases dD a.Credentials[i].Handle 0 1000000<;>cases(jM a.Credentials[i].Public==0)<;>cases dD a.Credentials[i].Counter 0 1000000<;>cases(a.Credentials.take i).any (fun q=>q.Public==a.Credentials[i].Public)<;>rfl
theorem Gj (a:D.Account)(h:a.sz≤34359738368):mR a=some (fI a):=by
 simp only[D.Account.sz] at h
 unfold mR fI
 rw[gN (l:=a.Credentials) (Bt a) (.inl false) (.inr ()) (by omega) (fun rec i hi=>by
  simp only[bD hi,cond_true,aG hi,bd_s]
  rw[aJn a.Credentials a.Credentials[i].Public i (by omega) h (fun rec j hj=>by simp only[bD hj,cond_true,aG (show j<a.Credentials.length by omega),bd_s]) (fun rec=>by simp only[bE,cond_false])]
  have:=aTt a h i hi (X:=nx (some (bif (a.Credentials.take i).any (fun q=>q.Public==a.Credentials[i].Public) then Sum.inl (Sum.inl false) else Sum.inr PUnit.unit)) fun _=>rec (i+1)) (r:=some (.inl false)) (K:=rec (i+1)) (by cases(a.Credentials.take i).any _<;>rfl)
  rw[←this]
  simp only[bd_s]
  generalize(bif !dD a.Credentials[i].Handle 0 1000000 then _ else _:Option Bool)=q
  cases q with
  |none=>rfl
  |some b=>cases b<;>rfl) (fun rec=>by simp only[bE,cond_false])]
 rw[show decide ((a.Credentials.length:Int)≤8)=decide (a.Credentials.length≤8) from decide_eq_decide.2 (by omega)]
 cases dD a.Id 0 1000000<;>cases dD a.Minimum 1 3<;>cases decide (a.Credentials.length≤8)<;>cases kF (Bt a) 0 a.Credentials<;>rfl
theorem Gl (a:D.Account)(h:a.sz≤34359738368):mX a=some (fI a):=by
 simp only[D.Account.sz] at h
 unfold mX fI
 rw[gN (l:=a.Credentials) (Bt a) (.inl false) (.inr ()) (by omega) (fun rec i hi=>by
  have ht:(a.Credentials.take i).length=i:=by rw[List.length_take];omega
  simp only[bD hi,cond_true,aG hi,bd_s,bM]
  rw[aH (show Az a.Credentials (i:Int) by unfold Az;omega)]
  rw[aJn a.Credentials a.Credentials[i].Public i (by omega) h (fun rec j hj=>by simp only[ht,bD hj,cond_true,aG (show j<(a.Credentials.take i).length by omega),bd_s,List.getElem_take]) (fun rec=>by simp only[ht,bE,cond_false])]
  have:=aTt a h i hi (X:=nx (some (bif (a.Credentials.take i).any (fun q=>q.Public==a.Credentials[i].Public) then Sum.inl (Sum.inl false) else Sum.inr PUnit.unit)) fun _=>rec (i+1)) (r:=some (.inl false)) (K:=rec (i+1)) (by cases(a.Credentials.take i).any _<;>rfl)
  rw[←this]
  simp only[bd_s]
  generalize(bif !dD a.Credentials[i].Handle 0 1000000 then _ else _:Option Bool)=q
  cases q with
  |none=>rfl
  |some b=>cases b<;>rfl) (fun rec=>by simp only[bE,cond_false])]
 rw[show decide ((a.Credentials.length:Int)>8)= !decide (a.Credentials.length≤8) by rw[←decide_not];exact decide_eq_decide.2 (by omega)]
 cases dD a.Id 0 1000000<;>cases dD a.Minimum 1 3<;>cases decide (a.Credentials.length≤8)<;>cases kF (Bt a) 0 a.Credentials<;>rfl
theorem nN (s:ByteArray)(hs:s.size≤34359738368):∀(n f i st:Nat) (acc:List ByteArray),s.size-i=n→n+1<f→st≤i→i≤s.size→acc.length≤i→bW f (fun rec1 (i1:(List ByteArray×Int×Int))=>bif (decide (i1.snd.snd≤(↑s.size:Int))) then(bd (bd (bif (i1.snd.snd==(↑s.size:Int)) then(some (true)) else(bd (aT (bQ s) (i1.snd.snd)) fun z4=>some (z4==(46:Int)))) fun z3=>bif z3 then(gd (Rz s i1.snd.fst i1.snd.snd) (gd (bO i1.fst [s.extract i1.snd.fst.toNat i1.snd.snd.toNat]) (some ((i1.fst++[s.extract i1.snd.fst.toNat i1.snd.snd.toNat],IntKind.i64.wrap (i1.snd.snd+(1:Int))))))) else(some (i1.fst,i1.snd.fst))) fun(z2:List ByteArray×Int)=>rec1 ((z2.fst,z2.snd,IntKind.i64.wrap (i1.snd.snd+(1:Int))))) else(some (i1.fst))) (acc,(st:Int),(i:Int))=some (acc++(gP ((s.data.toList.drop st).take (i-st)) (s.data.toList.drop i)).map fun l=>(⟨l.toArray⟩:ByteArray))
 |n,f+1,i,st,acc,hn,hf,h1,h2,h3=>by
  rw[kJ]
  have e0:decide ((i:Int)≤(s.size:Int))=true:=by simpa using(show(i:Int)≤(s.size:Int) by omega)
  have es:Rz s (st:Int) (i:Int):=⟨by omega,by omega,by omega⟩
  have ea:bO acc ([s.extract (st:Int).toNat (i:Int).toNat]:List ByteArray):=by unfold bO;simp;omega
  have ew:IntKind.i64.wrap ((i:Int)+1)=((i+1:Nat):Int):=by rw[aS (by omega) (by omega)];omega
  simp only[e0,cond_true]
  rcases Nat.lt_or_ge i s.size with hlt|hge
  ·have e1:((i:Int)==(s.size:Int))=false:=by simp;omega
   have hd:s.data.toList.drop i=s.data.toList[i]'hlt::s.data.toList.drop (i+1):=(List.drop_eq_getElem_cons hlt)
   have hb:(bQ s)[i]'(by rw[iU];exact hlt)=((s.data.toList[i]'hlt).toNat:Int):=by simp[bQ]
   have hq:(((s.data.toList[i]'hlt).toNat:Int)==46)=(s.data.toList[i]'hlt==46):=by
    rw[Bool.eq_iff_iff];simp only[beq_iff_eq]
    constructor
    ·intro q;apply UInt8.toNat_inj.1;show _=46;omega
    ·intro q;rw[q];rfl
   rw[e1,cond_false,aS9 hlt,bd_s,bd_s,hb,hq,hd,gP]
   cases hc:(s.data.toList[i]'hlt==46) with
   |true=>
    rw[cond_true,aH es,aH ea,bd_s]
    dsimp only
    rw[ew,cond_true,nN s hs (n-1) f (i+1) (i+1) _ (by omega) (by omega) (Nat.le_refl _) (by omega) (by simp;omega),Int.toNat_natCast,Int.toNat_natCast,ext_list]
    simp
   |false=>
    rw[cond_false,bd_s]
    dsimp only
    rw[ew,cond_false,nN s hs (n-1) f (i+1) st _ (by omega) (by omega) (by omega) (by omega) (by omega)]
    have:(s.data.toList.drop st).take (i+1-st)=(s.data.toList.drop st).take (i-st)++[s.data.toList[i]'hlt]:=by
     rw[show i+1-st=(i-st)+1 by omega,List.take_add_one,List.getElem?_drop,show st+(i-st)=i by omega,List.getElem?_eq_getElem hlt];rfl
    rw[this]
  ·have e1:((i:Int)==(s.size:Int))=true:=by simp;omega
   obtain⟨f,rfl⟩:∃g,f=g+1:=⟨f-1,by omega⟩
   have hz:s.data.toList.length≤i:=by have:s.data.toList.length=s.size:=rfl;omega
   have e2:decide (((i+1:Nat):Int)≤(s.size:Int))=false:=by simp;omega
   rw[e1,cond_true,bd_s,cond_true,aH es,aH ea,bd_s,kJ]
   dsimp only
   rw[ew]
   simp only[e2,cond_false]
   rw[List.drop_eq_nil_of_le hz,gP,Int.toNat_natCast,Int.toNat_natCast,ext_list];rfl
theorem aEu (s:ByteArray)(h:s.size≤34359738368):Ej s=some (bG s):=by
 unfold Ej
 have hf:=gT
 have:=nN s h s.size FUEL 0 0 [] rfl (by omega) (Nat.le_refl _) (Nat.zero_le _) (Nat.le_refl _)
 rw[show(0:Int)=((0:Nat):Int) from rfl]
 refine(congrArg (fun x=>bd x some) this).trans ?_
 simp[bG]
theorem aJo (s:ByteArray)(h:s.size≤34359738368):Kg s=some (oK s):=by
 unfold Kg oK
 have hb:=iU s
 rw[nV (l:=bQ s) (fun b=> !Zq b) (.inl false) (.inr ()) (by omega) (fun rec i hi=>by
  have hi':i<s.size:=by omega
  simp only[bD hi',cond_true,aS9 hi',bd_s]
  generalize(bQ s)[i]'_=b
  unfold Zq dD
  have c1:decide (b≥97)=decide (97≤b):=rfl
  have c2:decide (b≥48)=decide (48≤b):=rfl
  rw[c1,c2]
  cases decide (97≤b)<;>cases decide (b≤122)<;>cases decide (48≤b)<;>cases decide (b≤57)<;>cases(b==45)<;>rfl) (fun rec=>by simp only[hb,bE,cond_false])]
 have e:dD (s.size:Int) 1 20=(decide (1≤s.size)&&decide (s.size≤20)):=by unfold dD;congr 1<;>exact decide_eq_decide.2 (by omega)
 rw[e]
 by_cases h0:0<s.size
 ·rw[show(0:Int)=((0:Nat):Int) from rfl,aS9 h0,aS (by omega) (by omega),show(s.size:Int)-1=((s.size-1:Nat):Int) by omega,aS9 (show s.size-1<s.size by omega)]
  simp only[bd_s,bne,List.getD,List.getElem?_eq_getElem (show 0<(bQ s).length by rw[iU];exact h0),List.getElem?_eq_getElem (show s.size-1<(bQ s).length by rw[iU];omega),Option.getD_some]
  cases((bQ s)[0]'_==45)<;>cases((bQ s)[s.size-1]'_==45)<;>cases decide (1≤s.size)<;>cases decide (s.size≤20)<;>cases(bQ s).any _<;>rfl
 ·rw[show decide (1≤s.size)=false from decide_eq_false (by omega)]
  cases(bQ s).any _<;>rfl
theorem aNi (s:ByteArray)(h:s.size≤34359738368):Sl s=some (gV s):=by
 unfold Sl gV
 have hl:=Iy s
 simp only[aH h,bd_s]
 rw[nV (l:=bG s) (fun l=> !oK l) (.inl false) (.inr ()) (by omega) (fun rec i hi=>by
  have hz:(bG s)[i].size≤34359738368:=Nat.le_trans (rD s _ (List.getElem_mem _)) h
  simp only[bD hi,cond_true,aG hi,bd_s,aH hz]) (fun rec=>by simp only[bE,cond_false])]
 have e':decide ((s.size:Int)≤60)=decide (s.size≤60):=decide_eq_decide.2 (by omega)
 rw[e']
 cases decide (s.size≤60)<;>cases(bG s).any _<;>rfl
theorem aNj (s:ByteArray):Sz s=some (gV s):=by
 unfold Sz gV
 by_cases h60:s.size≤60
 ·have hl:=Iy s
  rw[show decide ((s.size:Int)>60)=false from decide_eq_false (by omega),cond_false,aH (show s.size<4294967281∧1≤(⟨#[UInt8.ofNat 46]⟩:ByteArray).size from⟨by omega,Nat.le_refl _⟩),bd_s]
  have es:iG s ⟨#[UInt8.ofNat 46]⟩=bG s:=aHy s
  rw[es]
  rw[nV (l:=bG s) (fun l=> !oK l) (.inl false) (.inr ()) (by omega) (fun rec i hi=>by
   have hz:(bG s)[i].size≤60:=Nat.le_trans (rD s _ (List.getElem_mem _)) h60
   simp only[bD hi,cond_true,aG hi,bd_s]
   revert hz
   generalize(bG s)[i]=l
   intro hz
   have hb:=iU l
   rw[nV (l:=bQ l) (fun b=> !Zq b) (.inl (.inl false)) (.inr ()) (by omega) (fun rec i hi=>by
    have hi':i<l.size:=by omega
    simp only[bD hi',cond_true,aS9 hi',bd_s]
    generalize(bQ l)[i]'_=b
    unfold Zq dD
    have c1:decide (b≥97)=decide (97≤b):=rfl
    have c2:decide (b≥48)=decide (48≤b):=rfl
    rw[c1,c2]
    cases decide (97≤b)<;>cases decide (b≤122)<;>cases decide (48≤b)<;>cases decide (b≤57)<;>cases(b==45)<;>rfl) (fun rec=>by simp only[hb,bE,cond_false])]
   unfold oK
   by_cases h0:0<l.size
   ·rw[show(0:Int)=((0:Nat):Int) from rfl,aS9 h0,aS (by omega) (by omega),show(l.size:Int)-1=((l.size-1:Nat):Int) by omega,aS9 (show l.size-1<l.size by omega)]
    have e1:decide ((l.size:Int)<1)= !decide (1≤l.size):=by rw[←decide_not];exact decide_eq_decide.2 (by omega)
    have e2:decide ((l.size:Int)>20)= !decide (l.size≤20):=by rw[←decide_not];exact decide_eq_decide.2 (by omega)
    rw[e1,e2]
    simp only[bd_s,bne,List.getD,List.getElem?_eq_getElem (show 0<(bQ l).length by rw[iU];exact h0),List.getElem?_eq_getElem (show l.size-1<(bQ l).length by rw[iU];omega),Option.getD_some]
    cases((bQ l)[0]'_==45)<;>cases((bQ l)[l.size-1]'_==45)<;>cases decide (1≤l.size)<;>cases decide (l.size≤20)<;>cases(bQ l).any _<;>rfl
   ·rw[show decide ((l.size:Int)<1)=true from decide_eq_true (by omega),show decide (1≤l.size)=false from decide_eq_false (by omega)]
    rfl) (fun rec=>by simp only[bE,cond_false])]
  rw[show decide (s.size≤60)=true by simpa using h60]
  cases(bG s).any _<;>rfl
 ·rw[show decide ((s.size:Int)>60)=true from decide_eq_true (by omega),show decide (s.size≤60)=false by simpa using h60];rfl
theorem Vj (s:ByteArray):tH s=some (aX5 s):=by
 unfold tH aX5
 cases h:gV s with
 |false=>rfl
 |true=>
  have hs:=Iz h
  have hp:=aDe s
  have es:iG s ⟨#[UInt8.ofNat 46]⟩=bG s:=aHy s
  rw[Bool.not_true,cond_false,cond_true,aH (show s.size<4294967281∧1≤(⟨#[UInt8.ofNat 46]⟩:ByteArray).size from⟨by omega,Nat.le_refl _⟩),bd_s,es]
  rw[show(((bG s).length:Int)==1)=((bG s).length==1) by rw[Bool.eq_iff_iff];simp only[beq_iff_eq];omega]
  cases h1:(bG s).length==1 with
  |true=>rfl
  |false=>
   have h2:(bG s).length≠1:=by simpa using h1
   have hl:=Iy s
   obtain⟨a,ha,b,hb,e⟩:=bBz (l:=bG s) (by omega)
   have ha:=rD s a ha
   have hb:=rD s b hb
   rw[cond_false,cond_false,aS (by omega) (by omega),show((bG s).length:Int)-2=(((bG s).length-2:Nat):Int) by omega,Int.toNat_natCast]
   have hd:((bG s).drop ((bG s).length-2)).length=2:=by rw[List.length_drop];omega
   have hj:(kW ⟨#[UInt8.ofNat 46]⟩ ((bG s).drop ((bG s).length-2))).size≤140737488355328:=by
    have e:kW ⟨#[UInt8.ofNat 46]⟩ ((bG s).drop ((bG s).length-2))=_:=e
    rw[e,ByteArray.size_append,ByteArray.size_append]
    have:(⟨#[46]⟩:ByteArray).size=1:=rfl
    omega
   rw[aH (show Az (bG s) (((bG s).length-2:Nat):Int) by unfold Az;omega),aH ⟨by omega,hj,by omega⟩]
   rfl
theorem aNk (s:ByteArray)(h:s.size≤9223372036854775807):Ta s=some (Ol s):=by
 unfold Ta Ol
 have hb:=iU s
 rw[nV (l:=bQ s) (fun b=>b==46) (.inl true) (.inr ()) (by omega) (fun rec i hi=>by
  have hi':i<s.size:=by omega
  simp only[bD hi',cond_true,aS9 hi',bd_s]) (fun rec=>by simp only[hb,bE,cond_false])]
 cases(bQ s).any _<;>rfl
theorem Vk (n:ByteArray)(seed:Int)(h:n.size≤9223372036854775807):tJ n seed=some (jV n seed):=by
 unfold tJ jV
 simp only[aH h,bd_s]
 rw[bDv,aMz]
 cases h:gV n with
 |false=>rfl
 |true=>rw[bBd h];cases decide (2≤(bG n).length)<;>cases eG seed<;>rfl
theorem aJp (n:ByteArray)(seed:Int)(h:n.size≤34359738368):Kh n seed=some (sF n seed):=by
 unfold Kh sF jV
 have e:decide (((bG n).length:Int)<2)= !decide (2≤(bG n).length):=by rw[←decide_not];exact decide_eq_decide.2 (by omega)
 simp only[aH h,bd_s,e]
 cases gV n<;>cases decide (2≤(bG n).length)<;>cases eG seed<;>rfl
theorem Vl (s:D.Site)(h:s.sz≤34359738368):sQ s=some (lM s):=by
 simp only[D.Site.sz] at h
 unfold sQ lM
 rw[gN (l:=s.Accounts) (Uf s.Accounts) (.inl false) (.inr ()) (by omega) (fun rec i hi=>by
  have hz:=dF (f:=D.Account.sz) hi
  simp only[bD hi,cond_true,aG hi,bd_s,aH (show s.Accounts[i].sz≤34359738368 by omega)]
  unfold Uf
  by_cases h0:0<i
  ·rw[Iu h0 hi (by omega),show decide ((i:Int)>0)=true by simpa using h0,decide_eq_true h0]
   simp only[bd_s]
   cases fI s.Accounts[i]<;>cases decide ((s.Accounts.getD (i-1) default).Id≥s.Accounts[i].Id)<;>rfl
  ·rw[show decide ((i:Int)>0)=false by simpa using h0,decide_eq_false h0]
   cases fI s.Accounts[i]<;>rfl) (fun rec=>by simp only[bE,cond_false])]
 rw[show decide ((s.Accounts.length:Int)≤8)=decide (s.Accounts.length≤8) from decide_eq_decide.2 (by omega)]
 have e3:(!((sF s.Name s.Book.Seed).Name.toList==(⟨#[]⟩:ByteArray).toList))=jV s.Name s.Book.Seed:=by rw[bDv,aU0,Bool.not_not]
 simp only[aH (show s.Name.size≤34359738368 by omega),aH (show s.Book.sz≤34359738368 by simp only[D.ChallengeBook.sz];omega),bd_s,e3]
 cases jV s.Name s.Book.Seed<;>cases decide (s.Accounts.length≤8)<;>cases lL s.Book<;>cases kF (Uf s.Accounts) 0 s.Accounts<;>rfl
theorem Vm (s:D.Site)(h:s.sz≤34359738368):tL s=some (lM s):=by
 simp only[D.Site.sz] at h
 unfold tL lM
 rw[gN (l:=s.Accounts) (Uf s.Accounts) (.inl false) (.inr ()) (by omega) (fun rec i hi=>by
  have hz:=dF (f:=D.Account.sz) hi
  simp only[bD hi,cond_true,aG hi,bd_s,aH (show s.Accounts[i].sz≤34359738368 by omega)]
  unfold Uf
  by_cases h0:0<i
  ·rw[Iu h0 hi (by omega),show decide ((i:Int)>0)=true by simpa using h0,decide_eq_true h0]
   simp only[bd_s]
   cases fI s.Accounts[i]<;>cases decide ((s.Accounts.getD (i-1) default).Id≥s.Accounts[i].Id)<;>rfl
  ·rw[show decide ((i:Int)>0)=false by simpa using h0,decide_eq_false h0]
   cases fI s.Accounts[i]<;>rfl) (fun rec=>by simp only[bE,cond_false])]
 rw[show decide ((s.Accounts.length:Int)>8)= !decide (s.Accounts.length≤8) by rw[←decide_not];exact decide_eq_decide.2 (by omega)]
 simp only[aH (show s.Name.size≤9223372036854775807 by omega),aH (show s.Book.sz≤34359738368 by simp only[D.ChallengeBook.sz];omega),bd_s]
 cases jV s.Name s.Book.Seed<;>cases decide (s.Accounts.length≤8)<;>cases lL s.Book<;>cases kF (Uf s.Accounts) 0 s.Accounts<;>rfl
theorem aJq (l:List D.LogEntry)(e:D.LogEntry)(h:l.length≤34359738368):Kj l e=some (nX l e):=by
 unfold Kj nX
 have hd:=jB l
 rw[nV (l:=l) (fun q=>q.Kind==2&&q.Device==e.Device) (.inl false) (.inr ()) (by omega) (fun rec i hi=>by
  simp only[bD hi,cond_true,aG hi,bd_s,kQ];cases(l[i].Kind==2)<;>rfl) (fun rec=>by simp only[bE,cond_false])]
 rw[show(l.any fun q=>q.Kind==2&&q.Device==e.Device)=lJ l e.Device from rfl]
 simp only[aH h,aH (show(aW l).length≤1099511627776 by omega),aH (show([dL e]:List Int).length≤34359738300 by simp),bd_s,bne]
 cases(e.Index==(l.length:Int))<;>cases(e.Previous==gY l)<;>cases iE (aW l) e.By<;>cases((l.length:Int)==0)<;>cases(e.By==e.Device)<;>cases jG e.By [dL e] e.Signature<;>cases(e.Kind==2)<;>cases iE (aW l) e.Device<;>cases lJ l e.Device<;>cases(e.Kind==1)<;>rfl
theorem aAk (l:List D.LogEntry)(h:l.length≤34359738368):yJ l=some (jN l):=by
 unfold yJ jN
 rw[gN (l:=l) (fun i e=> !nX (l.take i) e) (.inl false) (.inr ()) (by omega) (fun rec i hi=>by
  simp only[bD hi,cond_true,aG hi,bd_s,bM]
  rw[aH (by unfold Az;simp;omega),aH (by rw[List.length_take];omega)];rfl) (fun rec=>by simp only[bE,cond_false])]
 cases kF (fun i e=> !nX (l.take i) e) 0 l<;>simp
theorem aAl (l:List D.LogEntry)(h:l.length≤34359738368):yZ l=some (jN l):=by
 unfold yZ jN
 rw[gN (l:=l) (fun i e=> !nX (l.take i) e) (.inl false) (.inr ()) (by omega) (fun rec i hi=>by
  have ht:(l.take i).length=i:=by rw[List.length_take];omega
  have hb:(l.take i).length≤34359738368:=by omega
  have hd:=jB (l.take i)
  simp only[bD hi,cond_true,aG hi,bd_s,bM,aH (show Az l (i:Int) by unfold Az;omega),aH hb,aH (show(aW (l.take i)).length≤1099511627776 by omega),aH (show([dL l[i]]:List Int).length≤34359738300 by simp)]
  unfold nX
  rw[ht]
  generalize l[i]=e
  have h1:decide (((aW (l.take i)).length:Int)≥6)= !decide (((aW (l.take i)).length:Int)<6):=by rw[←decide_not];exact decide_eq_decide.2 (by omega)
  have h2:iE (aW (l.take i)) e.Device=true→decide (((aW (l.take i)).length:Int)>1)= !(((aW (l.take i)).length:Int)==1):=fun hh=>by
   have:=aZ2 hh
   rw[←Bool.decide_eq_true (b:=(((aW (l.take i)).length:Int)==1)),←decide_not]
   exact decide_eq_decide.2 (by simp;omega)
  simp only[h1,bne]
  cases h3:(e.Kind==2) with
  |true=>
   have h4:(e.Kind==1)=false:=by simp at h3 ⊢;omega
   rw[h4]
   cases hd:iE (aW (l.take i)) e.Device with
   |true=>
    rw[h2 hd]
    cases(e.Index==(i:Int))<;>cases(e.Previous==gY (l.take i))<;>cases iE (aW (l.take i)) e.By<;>cases((i:Int)==0)<;>cases(e.By==e.Device)<;>cases jG e.By [dL e] e.Signature<;>cases(((aW (l.take i)).length:Int)==1)<;>rfl
   |false=>cases(e.Index==(i:Int))<;>cases(e.Previous==gY (l.take i))<;>cases iE (aW (l.take i)) e.By<;>cases((i:Int)==0)<;>cases(e.By==e.Device)<;>cases jG e.By [dL e] e.Signature<;>rfl
  |false=>
   cases(e.Kind==1) with
   |true=>cases(e.Index==(i:Int))<;>cases(e.Previous==gY (l.take i))<;>cases iE (aW (l.take i)) e.By<;>cases((i:Int)==0)<;>cases(e.By==e.Device)<;>cases jG e.By [dL e] e.Signature<;>cases iE (aW (l.take i)) e.Device<;>cases lJ (l.take i) e.Device<;>cases decide (((aW (l.take i)).length:Int)<6)<;>rfl
   |false=>cases(e.Index==(i:Int))<;>cases(e.Previous==gY (l.take i))<;>cases iE (aW (l.take i)) e.By<;>cases((i:Int)==0)<;>cases(e.By==e.Device)<;>cases jG e.By [dL e] e.Signature<;>cases lJ (l.take i) e.Device<;>rfl) (fun rec=>by simp only[bE,cond_false])]
 unfold dD
 have e1:decide ((l.length:Int)<1)= !decide (1≤(l.length:Int)):=by rw[←decide_not];exact decide_eq_decide.2 (by omega)
 have e2:decide ((l.length:Int)>40)= !decide ((l.length:Int)≤40):=by rw[←decide_not];exact decide_eq_decide.2 (by omega)
 rw[e1,e2]
 cases decide (1≤(l.length:Int))<;>cases decide ((l.length:Int)≤40)<;>cases kF (fun i e=> !nX (l.take i) e) 0 l<;>rfl
theorem Ps (w:D.World)(h:w.sz≤34359738368):qC w=some (dS w):=by
 simp only[D.World.sz] at h
 unfold qC dS
 rw[gN (l:=w.Sites) sG (.inl false) (.inr ()) (by omega) (fun rec i hi=>by
  have hz:=dF (f:=D.Site.sz) hi
  simp only[bD hi,cond_true,aG hi,bd_s,aH (show w.Sites[i].sz≤34359738368 by omega)]
  unfold sG
  cases lM w.Sites[i]<;>cases(w.Sites[i].Name.toList==(iJ (i:Int)).toList)<;>rfl) (fun rec=>by simp only[bE,cond_false])]
 simp only[aH (show w.Mail.sz≤34359738368 by simp only[D.Mailbox.sz];omega),aH (show w.Cloud.Log.length≤34359738368 by omega),bne,bd_s]
 cases kF sG 0 w.Sites<;>cases dD w.Now 0 999900<;>cases dD (w.Devices.length:Int) 1 6<;>cases((w.Stolen.length:Int)==(w.Devices.length:Int))<;>cases((w.Sites.length:Int)==2)<;>cases lK w.Mail<;>cases jN w.Cloud.Log<;>cases eG w.Seed<;>rfl
theorem Pt (w:D.World)(h:w.sz≤34359738368):qG w=some (dS w):=by
 simp only[D.World.sz] at h
 unfold qG dS
 rw[gN (l:=w.Sites) sG (.inl false) (.inr ()) (by omega) (fun rec i hi=>by
  have hz:=dF (f:=D.Site.sz) hi
  simp only[bD hi,cond_true,aG hi,bd_s,aH (show w.Sites[i].sz≤34359738368 by omega)]
  unfold sG
  cases lM w.Sites[i]<;>cases(w.Sites[i].Name.toList==(iJ (i:Int)).toList)<;>rfl) (fun rec=>by simp only[bE,cond_false])]
 simp only[aH (show w.Mail.sz≤34359738368 by simp only[D.Mailbox.sz];omega),aH (show w.Cloud.Log.length≤34359738368 by omega),bne,bd_s]
 cases kF sG 0 w.Sites<;>cases dD w.Now 0 999900<;>cases dD (w.Devices.length:Int) 1 6<;>cases((w.Stolen.length:Int)==(w.Devices.length:Int))<;>cases((w.Sites.length:Int)==2)<;>cases lK w.Mail<;>cases jN w.Cloud.Log<;>cases eG w.Seed<;>rfl
end
end Go.VK
