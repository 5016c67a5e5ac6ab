import Derived.Test.YtffpnfmhcpcaaaaGreatDoorXgPf
import Derived.Test.YtffpnfmhcpcaaaaGreatDoorXgQ
/-
  Printed by wip/tools (own work of this part): models of functions, walks over the value kit, and proofs.
-/
set_option linter.unusedVariables false
set_option linter.unusedSimpArgs false
set_option maxRecDepth 100000
set_option maxHeartbeats 4000000
namespace Go.VK
open Go.RowKit Go.Proofs
noncomputable section
open EV (itr)
theorem l1_account (l:List D.Credential)(p:Int)(i:Nat)(hi:i≤l.length)(h:l.length≤34359738368){F:(Nat→Option ((Bool⊕PUnit)⊕PUnit))→Nat→Option ((Bool⊕PUnit)⊕PUnit)}(hF:∀rec j (hj:j<i),F rec j=bif (l[j]'(by omega)).Public==p then some (.inl (.inl false)) else rec (j+1))(hE:∀rec,F rec i=some (.inr ())):
  itr FUEL F 0=some (bif (l.take i).any (fun q=>q.Public==p) then .inl (.inl false) else .inr ()):=by
 have ht:(l.take i).length=i:=by rw[List.length_take];omega
 exact anyLoop (l:=l.take i) (fun q=>q.Public==p) _ _ (by omega) (fun rec j hj=>by rw[hF rec j (by omega),List.getElem_take]) (fun rec=>by rw[ht];exact hE rec)
theorem acc_step (a:D.Account)(h:a.Credentials.length≤34359738368)(i:Nat)(hi:i<a.Credentials.length){τ:Type}{X:Option τ}{r:Option τ}{K:Option τ}(hX:X=bif (a.Credentials.take i).any (fun q=>q.Public==a.Credentials[i].Public) then r else K):
  (bd (bif (!inR a.Credentials[i].Handle (0:Int) (1000000:Int)) then(some (true)) else(bif (decide ((↑i:Int)>(0:Int))) then(bd (atq (a.Credentials) (IntKind.i64.wrap ((↑i:Int)-(1:Int)))) fun z5=>bif (decide (z5.Handle≥a.Credentials[i].Handle)) then(some (true)) else(bd (some (privF a.Credentials[i].Public)) fun z6=>bif (z6==(0:Int)) then(some (true)) else(some (!inR a.Credentials[i].Counter (0:Int) (1000000:Int))))) else(bd (some (privF a.Credentials[i].Public)) fun z5=>bif (z5==(0:Int)) then(some (true)) else(some (!inR a.Credentials[i].Counter (0:Int) (1000000:Int)))))) fun z4=>bif z4 then r else X)=bif credBad a i a.Credentials[i] then r else K:=by
 rw[hX];unfold credBad
 by_cases h0:0<i
 ·rw[atq_prev h0 hi h,show decide ((i:Int)>0)=true by simpa using h0,decide_eq_true h0]
  simp only[bd_s]
  cases inR a.Credentials[i].Handle 0 1000000<;>cases decide ((a.Credentials.getD (i-1) default).Handle≥a.Credentials[i].Handle)<;>cases(privF a.Credentials[i].Public==0)<;>cases inR a.Credentials[i].Counter 0 1000000<;>cases(a.Credentials.take i).any (fun q=>q.Public==a.Credentials[i].Public)<;>rfl
 ·rw[show decide ((i:Int)>0)=false by simpa using h0,decide_eq_false h0]
  simp only[bd_s]
  cases inR a.Credentials[i].Handle 0 1000000<;>cases(privF a.Credentials[i].Public==0)<;>cases inR a.Credentials[i].Counter 0 1000000<;>cases(a.Credentials.take i).any (fun q=>q.Public==a.Credentials[i].Public)<;>rfl
theorem t_spec_IsValidAccount (a:D.Account)(h:a.sz≤34359738368):m_spec_IsValidAccount a=some (accountOkF a):=by
 simp only[D.Account.sz] at h
 unfold m_spec_IsValidAccount accountOkF
 rw[anyLoopI (l:=a.Credentials) (credBad a) (.inl false) (.inr ()) (by omega) (fun rec i hi=>by
  simp only[lt_i hi,cond_true,atq_nat hi,bd_s]
  rw[l1_account a.Credentials a.Credentials[i].Public i (by omega) h (fun rec j hj=>by simp only[lt_i hj,cond_true,atq_nat (show j<a.Credentials.length by omega),bd_s]) (fun rec=>by simp only[ge_i,cond_false])]
  have:=acc_step a h i hi (X:=nx (some (bif (a.Credentials.take i).any (fun q=>q.Public==a.Credentials[i].Public) then Sum.inl (Sum.inl false) else Sum.inr PUnit.unit)) fun _=>rec (i+1)) (r:=some (.inl false)) (K:=rec (i+1)) (by cases(a.Credentials.take i).any _<;>rfl)
  rw[←this]
  simp only[bd_s]
  generalize(bif !inR a.Credentials[i].Handle 0 1000000 then _ else _:Option Bool)=q
  cases q with
  |none=>rfl
  |some b=>cases b<;>rfl) (fun rec=>by simp only[ge_i,cond_false])]
 rw[show decide ((a.Credentials.length:Int)≤8)=decide (a.Credentials.length≤8) from decide_eq_decide.2 (by omega)]
 cases inR a.Id 0 1000000<;>cases inR a.Minimum 1 3<;>cases decide (a.Credentials.length≤8)<;>cases anyI (credBad a) 0 a.Credentials<;>rfl
theorem t_impl_IsValidAccount (a:D.Account)(h:a.sz≤34359738368):m_impl_IsValidAccount a=some (accountOkF a):=by
 simp only[D.Account.sz] at h
 unfold m_impl_IsValidAccount accountOkF
 rw[anyLoopI (l:=a.Credentials) (credBad a) (.inl false) (.inr ()) (by omega) (fun rec i hi=>by
  have ht:(a.Credentials.take i).length=i:=by rw[List.length_take];omega
  simp only[lt_i hi,cond_true,atq_nat hi,bd_s,toNat_i]
  rw[gd_t (show hiOk a.Credentials (i:Int) by unfold hiOk;omega)]
  rw[l1_account a.Credentials a.Credentials[i].Public i (by omega) h (fun rec j hj=>by simp only[ht,lt_i hj,cond_true,atq_nat (show j<(a.Credentials.take i).length by omega),bd_s,List.getElem_take]) (fun rec=>by simp only[ht,ge_i,cond_false])]
  have:=acc_step a h i hi (X:=nx (some (bif (a.Credentials.take i).any (fun q=>q.Public==a.Credentials[i].Public) then Sum.inl (Sum.inl false) else Sum.inr PUnit.unit)) fun _=>rec (i+1)) (r:=some (.inl false)) (K:=rec (i+1)) (by cases(a.Credentials.take i).any _<;>rfl)
  rw[←this]
  simp only[bd_s]
  generalize(bif !inR a.Credentials[i].Handle 0 1000000 then _ else _:Option Bool)=q
  cases q with
  |none=>rfl
  |some b=>cases b<;>rfl) (fun rec=>by simp only[ge_i,cond_false])]
 rw[show decide ((a.Credentials.length:Int)>8)= !decide (a.Credentials.length≤8) by rw[←decide_not];exact decide_eq_decide.2 (by omega)]
 cases inR a.Id 0 1000000<;>cases inR a.Minimum 1 3<;>cases decide (a.Credentials.length≤8)<;>cases anyI (credBad a) 0 a.Credentials<;>rfl
theorem l0_spec_l9Labels (s:ByteArray)(hs:s.size≤34359738368):∀(n f i st:Nat) (acc:List ByteArray),s.size-i=n→n+1<f→st≤i→i≤s.size→acc.length≤i→itr f (fun rec1 (i1:(List ByteArray×Int×Int))=>bif (decide (i1.snd.snd≤(↑s.size:Int))) then(bd (bd (bif (i1.snd.snd==(↑s.size:Int)) then(some (true)) else(bd (atq (bytesI s) (i1.snd.snd)) fun z4=>some (z4==(46:Int)))) fun z3=>bif z3 then(gd (subOk s i1.snd.fst i1.snd.snd) (gd (apOk i1.fst [s.extract i1.snd.fst.toNat i1.snd.snd.toNat]) (some ((i1.fst++[s.extract i1.snd.fst.toNat i1.snd.snd.toNat],IntKind.i64.wrap (i1.snd.snd+(1:Int))))))) else(some (i1.fst,i1.snd.fst))) fun(z2:List ByteArray×Int)=>rec1 ((z2.fst,z2.snd,IntKind.i64.wrap (i1.snd.snd+(1:Int))))) else(some (i1.fst))) (acc,(st:Int),(i:Int))=some (acc++(splitA ((s.data.toList.drop st).take (i-st)) (s.data.toList.drop i)).map fun l=>(⟨l.toArray⟩:ByteArray))
 |n,f+1,i,st,acc,hn,hf,h1,h2,h3=>by
  rw[itr_s]
  have e0:decide ((i:Int)≤(s.size:Int))=true:=by simpa using(show(i:Int)≤(s.size:Int) by omega)
  have es:subOk s (st:Int) (i:Int):=⟨by omega,by omega,by omega⟩
  have ea:apOk acc ([s.extract (st:Int).toNat (i:Int).toNat]:List ByteArray):=by unfold apOk;simp;omega
  have ew:IntKind.i64.wrap ((i:Int)+1)=((i+1:Nat):Int):=by rw[wrap64_id (by omega) (by omega)];omega
  simp only[e0,cond_true]
  rcases Nat.lt_or_ge i s.size with hlt|hge
  ·have e1:((i:Int)==(s.size:Int))=false:=by simp;omega
   have hd:s.data.toList.drop i=s.data.toList[i]'hlt::s.data.toList.drop (i+1):=(List.drop_eq_getElem_cons hlt)
   have hb:(bytesI s)[i]'(by rw[bytesI_len];exact hlt)=((s.data.toList[i]'hlt).toNat:Int):=by simp[bytesI]
   have hq:(((s.data.toList[i]'hlt).toNat:Int)==46)=(s.data.toList[i]'hlt==46):=by
    rw[Bool.eq_iff_iff];simp only[beq_iff_eq]
    constructor
    ·intro q;apply UInt8.toNat_inj.1;show _=46;omega
    ·intro q;rw[q];rfl
   rw[e1,cond_false,atqB hlt,bd_s,bd_s,hb,hq,hd,splitA]
   cases hc:(s.data.toList[i]'hlt==46) with
   |true=>
    rw[cond_true,gd_t es,gd_t ea,bd_s]
    dsimp only
    rw[ew,cond_true,l0_spec_l9Labels s hs (n-1) f (i+1) (i+1) _ (by omega) (by omega) (Nat.le_refl _) (by omega) (by simp;omega),Int.toNat_natCast,Int.toNat_natCast,ext_list]
    simp
   |false=>
    rw[cond_false,bd_s]
    dsimp only
    rw[ew,cond_false,l0_spec_l9Labels s hs (n-1) f (i+1) st _ (by omega) (by omega) (by omega) (by omega) (by omega)]
    have:(s.data.toList.drop st).take (i+1-st)=(s.data.toList.drop st).take (i-st)++[s.data.toList[i]'hlt]:=by
     rw[show i+1-st=(i-st)+1 by omega,List.take_add_one,List.getElem?_drop,show st+(i-st)=i by omega,List.getElem?_eq_getElem hlt];rfl
    rw[this]
  ·have e1:((i:Int)==(s.size:Int))=true:=by simp;omega
   obtain⟨f,rfl⟩:∃g,f=g+1:=⟨f-1,by omega⟩
   have hz:s.data.toList.length≤i:=by have:s.data.toList.length=s.size:=rfl;omega
   have e2:decide (((i+1:Nat):Int)≤(s.size:Int))=false:=by simp;omega
   rw[e1,cond_true,bd_s,cond_true,gd_t es,gd_t ea,bd_s,itr_s]
   dsimp only
   rw[ew]
   simp only[e2,cond_false]
   rw[List.drop_eq_nil_of_le hz,splitA,Int.toNat_natCast,Int.toNat_natCast,ext_list];rfl
theorem t_spec_l9Labels (s:ByteArray)(h:s.size≤34359738368):m_spec_l9Labels s=some (labelsF s):=by
 unfold m_spec_l9Labels
 have hf:=FUEL_le
 have:=l0_spec_l9Labels s h s.size FUEL 0 0 [] rfl (by omega) (Nat.le_refl _) (Nat.zero_le _) (Nat.le_refl _)
 rw[show(0:Int)=((0:Nat):Int) from rfl]
 refine(congrArg (fun x=>bd x some) this).trans ?_
 simp[labelsF]
theorem t_spec_l9Label (s:ByteArray)(h:s.size≤34359738368):m_spec_l9Label s=some (labelOkF s):=by
 unfold m_spec_l9Label labelOkF
 have hb:=bytesI_len s
 rw[anyLoop (l:=bytesI s) (fun b=> !charOkF b) (.inl false) (.inr ()) (by omega) (fun rec i hi=>by
  have hi':i<s.size:=by omega
  simp only[lt_i hi',cond_true,atqB hi',bd_s]
  generalize(bytesI s)[i]'_=b
  unfold charOkF inR
  have c1:decide (b≥97)=decide (97≤b):=rfl
  have c2:decide (b≥48)=decide (48≤b):=rfl
  rw[c1,c2]
  cases decide (97≤b)<;>cases decide (b≤122)<;>cases decide (48≤b)<;>cases decide (b≤57)<;>cases(b==45)<;>rfl) (fun rec=>by simp only[hb,ge_i,cond_false])]
 have e:inR (s.size:Int) 1 20=(decide (1≤s.size)&&decide (s.size≤20)):=by unfold inR;congr 1<;>exact decide_eq_decide.2 (by omega)
 rw[e]
 by_cases h0:0<s.size
 ·rw[show(0:Int)=((0:Nat):Int) from rfl,atqB h0,wrap64_id (by omega) (by omega),show(s.size:Int)-1=((s.size-1:Nat):Int) by omega,atqB (show s.size-1<s.size by omega)]
  simp only[bd_s,bne,List.getD,List.getElem?_eq_getElem (show 0<(bytesI s).length by rw[bytesI_len];exact h0),List.getElem?_eq_getElem (show s.size-1<(bytesI s).length by rw[bytesI_len];omega),Option.getD_some]
  cases((bytesI s)[0]'_==45)<;>cases((bytesI s)[s.size-1]'_==45)<;>cases decide (1≤s.size)<;>cases decide (s.size≤20)<;>cases(bytesI s).any _<;>rfl
 ·rw[show decide (1≤s.size)=false from decide_eq_false (by omega)]
  cases(bytesI s).any _<;>rfl
theorem t_spec_IsHost (s:ByteArray)(h:s.size≤34359738368):m_spec_IsHost s=some (isHostF s):=by
 unfold m_spec_IsHost isHostF
 have hl:=labelsF_len s
 simp only[gd_t h,bd_s]
 rw[anyLoop (l:=labelsF s) (fun l=> !labelOkF l) (.inl false) (.inr ()) (by omega) (fun rec i hi=>by
  have hz:(labelsF s)[i].size≤34359738368:=Nat.le_trans (labelsF_size s _ (List.getElem_mem _)) h
  simp only[lt_i hi,cond_true,atq_nat hi,bd_s,gd_t hz]) (fun rec=>by simp only[ge_i,cond_false])]
 have e':decide ((s.size:Int)≤60)=decide (s.size≤60):=decide_eq_decide.2 (by omega)
 rw[e']
 cases decide (s.size≤60)<;>cases(labelsF s).any _<;>rfl
theorem t_impl_IsHost (s:ByteArray):m_impl_IsHost s=some (isHostF s):=by
 unfold m_impl_IsHost isHostF
 by_cases h60:s.size≤60
 ·have hl:=labelsF_len s
  rw[show decide ((s.size:Int)>60)=false from decide_eq_false (by omega),cond_false,gd_t (show s.size<4294967281∧1≤(⟨#[UInt8.ofNat 46]⟩:ByteArray).size from⟨by omega,Nat.le_refl _⟩),bd_s]
  have es:splitF s ⟨#[UInt8.ofNat 46]⟩=labelsF s:=splitF_dot s
  rw[es]
  rw[anyLoop (l:=labelsF s) (fun l=> !labelOkF l) (.inl false) (.inr ()) (by omega) (fun rec i hi=>by
   have hz:(labelsF s)[i].size≤60:=Nat.le_trans (labelsF_size s _ (List.getElem_mem _)) h60
   simp only[lt_i hi,cond_true,atq_nat hi,bd_s]
   revert hz
   generalize(labelsF s)[i]=l
   intro hz
   have hb:=bytesI_len l
   rw[anyLoop (l:=bytesI l) (fun b=> !charOkF b) (.inl (.inl false)) (.inr ()) (by omega) (fun rec i hi=>by
    have hi':i<l.size:=by omega
    simp only[lt_i hi',cond_true,atqB hi',bd_s]
    generalize(bytesI l)[i]'_=b
    unfold charOkF inR
    have c1:decide (b≥97)=decide (97≤b):=rfl
    have c2:decide (b≥48)=decide (48≤b):=rfl
    rw[c1,c2]
    cases decide (97≤b)<;>cases decide (b≤122)<;>cases decide (48≤b)<;>cases decide (b≤57)<;>cases(b==45)<;>rfl) (fun rec=>by simp only[hb,ge_i,cond_false])]
   unfold labelOkF
   by_cases h0:0<l.size
   ·rw[show(0:Int)=((0:Nat):Int) from rfl,atqB h0,wrap64_id (by omega) (by omega),show(l.size:Int)-1=((l.size-1:Nat):Int) by omega,atqB (show l.size-1<l.size by omega)]
    have e1:decide ((l.size:Int)<1)= !decide (1≤l.size):=by rw[←decide_not];exact decide_eq_decide.2 (by omega)
    have e2:decide ((l.size:Int)>20)= !decide (l.size≤20):=by rw[←decide_not];exact decide_eq_decide.2 (by omega)
    rw[e1,e2]
    simp only[bd_s,bne,List.getD,List.getElem?_eq_getElem (show 0<(bytesI l).length by rw[bytesI_len];exact h0),List.getElem?_eq_getElem (show l.size-1<(bytesI l).length by rw[bytesI_len];omega),Option.getD_some]
    cases((bytesI l)[0]'_==45)<;>cases((bytesI l)[l.size-1]'_==45)<;>cases decide (1≤l.size)<;>cases decide (l.size≤20)<;>cases(bytesI l).any _<;>rfl
   ·rw[show decide ((l.size:Int)<1)=true from decide_eq_true (by omega),show decide (1≤l.size)=false from decide_eq_false (by omega)]
    rfl) (fun rec=>by simp only[ge_i,cond_false])]
  rw[show decide (s.size≤60)=true by simpa using h60]
  cases(labelsF s).any _<;>rfl
 ·rw[show decide ((s.size:Int)>60)=true from decide_eq_true (by omega),show decide (s.size≤60)=false by simpa using h60];rfl
theorem t_impl_Registrable (s:ByteArray):m_impl_Registrable s=some (regF s):=by
 unfold m_impl_Registrable regF
 cases h:isHostF s with
 |false=>rfl
 |true=>
  have hs:=isHost_size h
  have hp:=labelsF_pos s
  have es:splitF s ⟨#[UInt8.ofNat 46]⟩=labelsF s:=splitF_dot s
  rw[Bool.not_true,cond_false,cond_true,gd_t (show s.size<4294967281∧1≤(⟨#[UInt8.ofNat 46]⟩:ByteArray).size from⟨by omega,Nat.le_refl _⟩),bd_s,es]
  rw[show(((labelsF s).length:Int)==1)=((labelsF s).length==1) by rw[Bool.eq_iff_iff];simp only[beq_iff_eq];omega]
  cases h1:(labelsF s).length==1 with
  |true=>rfl
  |false=>
   have h2:(labelsF s).length≠1:=by simpa using h1
   have hl:=labelsF_len s
   obtain⟨a,ha,b,hb,e⟩:=join2 (l:=labelsF s) (by omega)
   have ha:=labelsF_size s a ha
   have hb:=labelsF_size s b hb
   rw[cond_false,cond_false,wrap64_id (by omega) (by omega),show((labelsF s).length:Int)-2=(((labelsF s).length-2:Nat):Int) by omega,Int.toNat_natCast]
   have hd:((labelsF s).drop ((labelsF s).length-2)).length=2:=by rw[List.length_drop];omega
   have hj:(joinB ⟨#[UInt8.ofNat 46]⟩ ((labelsF s).drop ((labelsF s).length-2))).size≤140737488355328:=by
    have e:joinB ⟨#[UInt8.ofNat 46]⟩ ((labelsF s).drop ((labelsF s).length-2))=_:=e
    rw[e,ByteArray.size_append,ByteArray.size_append]
    have:(⟨#[46]⟩:ByteArray).size=1:=rfl
    omega
   rw[gd_t (show hiOk (labelsF s) (((labelsF s).length-2:Nat):Int) by unfold hiOk;omega),gd_t ⟨by omega,hj,by omega⟩]
   rfl
theorem t_impl_hasDot (s:ByteArray)(h:s.size≤9223372036854775807):m_impl_hasDot s=some (hasDotF s):=by
 unfold m_impl_hasDot hasDotF
 have hb:=bytesI_len s
 rw[anyLoop (l:=bytesI s) (fun b=>b==46) (.inl true) (.inr ()) (by omega) (fun rec i hi=>by
  have hi':i<s.size:=by omega
  simp only[lt_i hi',cond_true,atqB hi',bd_s]) (fun rec=>by simp only[hb,ge_i,cond_false])]
 cases(bytesI s).any _<;>rfl
theorem t_impl_mayHaveName (n:ByteArray)(seed:Int)(h:n.size≤9223372036854775807):m_impl_mayHaveName n seed=some (nameOkF n seed):=by
 unfold m_impl_mayHaveName nameOkF
 simp only[gd_t h,bd_s]
 rw[toL0,hasDot_labels]
 cases h:isHostF n with
 |false=>rfl
 |true=>rw[regF_ne h];cases decide (2≤(labelsF n).length)<;>cases keyF seed<;>rfl
theorem t_spec_NewSite (n:ByteArray)(seed:Int)(h:n.size≤34359738368):m_spec_NewSite n seed=some (newSiteF n seed):=by
 unfold m_spec_NewSite newSiteF nameOkF
 have e:decide (((labelsF n).length:Int)<2)= !decide (2≤(labelsF n).length):=by rw[←decide_not];exact decide_eq_decide.2 (by omega)
 simp only[gd_t h,bd_s,e]
 cases isHostF n<;>cases decide (2≤(labelsF n).length)<;>cases keyF seed<;>rfl
theorem t_spec_IsValidSite (s:D.Site)(h:s.sz≤34359738368):m_spec_IsValidSite s=some (siteOkF s):=by
 simp only[D.Site.sz] at h
 unfold m_spec_IsValidSite siteOkF
 rw[anyLoopI (l:=s.Accounts) (accBad s.Accounts) (.inl false) (.inr ()) (by omega) (fun rec i hi=>by
  have hz:=le_sumI (f:=D.Account.sz) hi
  simp only[lt_i hi,cond_true,atq_nat hi,bd_s,gd_t (show s.Accounts[i].sz≤34359738368 by omega)]
  unfold accBad
  by_cases h0:0<i
  ·rw[atq_prev h0 hi (by omega),show decide ((i:Int)>0)=true by simpa using h0,decide_eq_true h0]
   simp only[bd_s]
   cases accountOkF s.Accounts[i]<;>cases decide ((s.Accounts.getD (i-1) default).Id≥s.Accounts[i].Id)<;>rfl
  ·rw[show decide ((i:Int)>0)=false by simpa using h0,decide_eq_false h0]
   cases accountOkF s.Accounts[i]<;>rfl) (fun rec=>by simp only[ge_i,cond_false])]
 rw[show decide ((s.Accounts.length:Int)≤8)=decide (s.Accounts.length≤8) from decide_eq_decide.2 (by omega)]
 have e3:(!((newSiteF s.Name s.Book.Seed).Name.toList==(⟨#[]⟩:ByteArray).toList))=nameOkF s.Name s.Book.Seed:=by rw[toL0,newSite_ne,Bool.not_not]
 simp only[gd_t (show s.Name.size≤34359738368 by omega),gd_t (show s.Book.sz≤34359738368 by simp only[D.ChallengeBook.sz];omega),bd_s,e3]
 cases nameOkF s.Name s.Book.Seed<;>cases decide (s.Accounts.length≤8)<;>cases bookOkF s.Book<;>cases anyI (accBad s.Accounts) 0 s.Accounts<;>rfl
theorem t_impl_IsValidSite (s:D.Site)(h:s.sz≤34359738368):m_impl_IsValidSite s=some (siteOkF s):=by
 simp only[D.Site.sz] at h
 unfold m_impl_IsValidSite siteOkF
 rw[anyLoopI (l:=s.Accounts) (accBad s.Accounts) (.inl false) (.inr ()) (by omega) (fun rec i hi=>by
  have hz:=le_sumI (f:=D.Account.sz) hi
  simp only[lt_i hi,cond_true,atq_nat hi,bd_s,gd_t (show s.Accounts[i].sz≤34359738368 by omega)]
  unfold accBad
  by_cases h0:0<i
  ·rw[atq_prev h0 hi (by omega),show decide ((i:Int)>0)=true by simpa using h0,decide_eq_true h0]
   simp only[bd_s]
   cases accountOkF s.Accounts[i]<;>cases decide ((s.Accounts.getD (i-1) default).Id≥s.Accounts[i].Id)<;>rfl
  ·rw[show decide ((i:Int)>0)=false by simpa using h0,decide_eq_false h0]
   cases accountOkF s.Accounts[i]<;>rfl) (fun rec=>by simp only[ge_i,cond_false])]
 rw[show decide ((s.Accounts.length:Int)>8)= !decide (s.Accounts.length≤8) by rw[←decide_not];exact decide_eq_decide.2 (by omega)]
 simp only[gd_t (show s.Name.size≤9223372036854775807 by omega),gd_t (show s.Book.sz≤34359738368 by simp only[D.ChallengeBook.sz];omega),bd_s]
 cases nameOkF s.Name s.Book.Seed<;>cases decide (s.Accounts.length≤8)<;>cases bookOkF s.Book<;>cases anyI (accBad s.Accounts) 0 s.Accounts<;>rfl
theorem t_spec_l19Step (l:List D.LogEntry)(e:D.LogEntry)(h:l.length≤34359738368):m_spec_l19Step l e=some (stepOkF l e):=by
 unfold m_spec_l19Step stepOkF
 have hd:=devicesOf_len l
 rw[anyLoop (l:=l) (fun q=>q.Kind==2&&q.Device==e.Device) (.inl false) (.inr ()) (by omega) (fun rec i hi=>by
  simp only[lt_i hi,cond_true,atq_nat hi,bd_s,bb_some];cases(l[i].Kind==2)<;>rfl) (fun rec=>by simp only[ge_i,cond_false])]
 rw[show(l.any fun q=>q.Kind==2&&q.Device==e.Device)=removedF l e.Device from rfl]
 simp only[gd_t h,gd_t (show(devicesOfF l).length≤1099511627776 by omega),gd_t (show([entryHashF e]:List Int).length≤34359738300 by simp),bd_s,bne]
 cases(e.Index==(l.length:Int))<;>cases(e.Previous==logHeadF l)<;>cases hasF (devicesOfF l) e.By<;>cases((l.length:Int)==0)<;>cases(e.By==e.Device)<;>cases verifyF e.By [entryHashF e] e.Signature<;>cases(e.Kind==2)<;>cases hasF (devicesOfF l) e.Device<;>cases removedF l e.Device<;>cases(e.Kind==1)<;>rfl
theorem t_spec_VerifyLog (l:List D.LogEntry)(h:l.length≤34359738368):m_spec_VerifyLog l=some (logOkF l):=by
 unfold m_spec_VerifyLog logOkF
 rw[anyLoopI (l:=l) (fun i e=> !stepOkF (l.take i) e) (.inl false) (.inr ()) (by omega) (fun rec i hi=>by
  simp only[lt_i hi,cond_true,atq_nat hi,bd_s,toNat_i]
  rw[gd_t (by unfold hiOk;simp;omega),gd_t (by rw[List.length_take];omega)];rfl) (fun rec=>by simp only[ge_i,cond_false])]
 cases anyI (fun i e=> !stepOkF (l.take i) e) 0 l<;>simp
theorem t_impl_VerifyLog (l:List D.LogEntry)(h:l.length≤34359738368):m_impl_VerifyLog l=some (logOkF l):=by
 unfold m_impl_VerifyLog logOkF
 rw[anyLoopI (l:=l) (fun i e=> !stepOkF (l.take i) e) (.inl false) (.inr ()) (by omega) (fun rec i hi=>by
  have ht:(l.take i).length=i:=by rw[List.length_take];omega
  have hb:(l.take i).length≤34359738368:=by omega
  have hd:=devicesOf_len (l.take i)
  simp only[lt_i hi,cond_true,atq_nat hi,bd_s,toNat_i,gd_t (show hiOk l (i:Int) by unfold hiOk;omega),gd_t hb,gd_t (show(devicesOfF (l.take i)).length≤1099511627776 by omega),gd_t (show([entryHashF l[i]]:List Int).length≤34359738300 by simp)]
  unfold stepOkF
  rw[ht]
  generalize l[i]=e
  have h1:decide (((devicesOfF (l.take i)).length:Int)≥6)= !decide (((devicesOfF (l.take i)).length:Int)<6):=by rw[←decide_not];exact decide_eq_decide.2 (by omega)
  have h2:hasF (devicesOfF (l.take i)) e.Device=true→decide (((devicesOfF (l.take i)).length:Int)>1)= !(((devicesOfF (l.take i)).length:Int)==1):=fun hh=>by
   have:=hasF_pos hh
   rw[←Bool.decide_eq_true (b:=(((devicesOfF (l.take i)).length:Int)==1)),←decide_not]
   exact decide_eq_decide.2 (by simp;omega)
  simp only[h1,bne]
  cases h3:(e.Kind==2) with
  |true=>
   have h4:(e.Kind==1)=false:=by simp at h3 ⊢;omega
   rw[h4]
   cases hd:hasF (devicesOfF (l.take i)) e.Device with
   |true=>
    rw[h2 hd]
    cases(e.Index==(i:Int))<;>cases(e.Previous==logHeadF (l.take i))<;>cases hasF (devicesOfF (l.take i)) e.By<;>cases((i:Int)==0)<;>cases(e.By==e.Device)<;>cases verifyF e.By [entryHashF e] e.Signature<;>cases(((devicesOfF (l.take i)).length:Int)==1)<;>rfl
   |false=>cases(e.Index==(i:Int))<;>cases(e.Previous==logHeadF (l.take i))<;>cases hasF (devicesOfF (l.take i)) e.By<;>cases((i:Int)==0)<;>cases(e.By==e.Device)<;>cases verifyF e.By [entryHashF e] e.Signature<;>rfl
  |false=>
   cases(e.Kind==1) with
   |true=>cases(e.Index==(i:Int))<;>cases(e.Previous==logHeadF (l.take i))<;>cases hasF (devicesOfF (l.take i)) e.By<;>cases((i:Int)==0)<;>cases(e.By==e.Device)<;>cases verifyF e.By [entryHashF e] e.Signature<;>cases hasF (devicesOfF (l.take i)) e.Device<;>cases removedF (l.take i) e.Device<;>cases decide (((devicesOfF (l.take i)).length:Int)<6)<;>rfl
   |false=>cases(e.Index==(i:Int))<;>cases(e.Previous==logHeadF (l.take i))<;>cases hasF (devicesOfF (l.take i)) e.By<;>cases((i:Int)==0)<;>cases(e.By==e.Device)<;>cases verifyF e.By [entryHashF e] e.Signature<;>cases removedF (l.take i) e.Device<;>rfl) (fun rec=>by simp only[ge_i,cond_false])]
 unfold inR
 have e1:decide ((l.length:Int)<1)= !decide (1≤(l.length:Int)):=by rw[←decide_not];exact decide_eq_decide.2 (by omega)
 have e2:decide ((l.length:Int)>40)= !decide ((l.length:Int)≤40):=by rw[←decide_not];exact decide_eq_decide.2 (by omega)
 rw[e1,e2]
 cases decide (1≤(l.length:Int))<;>cases decide ((l.length:Int)≤40)<;>cases anyI (fun i e=> !stepOkF (l.take i) e) 0 l<;>rfl
theorem t_spec_IsValidWorld (w:D.World)(h:w.sz≤34359738368):m_spec_IsValidWorld w=some (worldOkF w):=by
 simp only[D.World.sz] at h
 unfold m_spec_IsValidWorld worldOkF
 rw[anyLoopI (l:=w.Sites) siteBadW (.inl false) (.inr ()) (by omega) (fun rec i hi=>by
  have hz:=le_sumI (f:=D.Site.sz) hi
  simp only[lt_i hi,cond_true,atq_nat hi,bd_s,gd_t (show w.Sites[i].sz≤34359738368 by omega)]
  unfold siteBadW
  cases siteOkF w.Sites[i]<;>cases(w.Sites[i].Name.toList==(siteNameF (i:Int)).toList)<;>rfl) (fun rec=>by simp only[ge_i,cond_false])]
 simp only[gd_t (show w.Mail.sz≤34359738368 by simp only[D.Mailbox.sz];omega),gd_t (show w.Cloud.Log.length≤34359738368 by omega),bne,bd_s]
 cases anyI siteBadW 0 w.Sites<;>cases inR w.Now 0 999900<;>cases inR (w.Devices.length:Int) 1 6<;>cases((w.Stolen.length:Int)==(w.Devices.length:Int))<;>cases((w.Sites.length:Int)==2)<;>cases mailOkF w.Mail<;>cases logOkF w.Cloud.Log<;>cases keyF w.Seed<;>rfl
theorem t_impl_IsValidWorld (w:D.World)(h:w.sz≤34359738368):m_impl_IsValidWorld w=some (worldOkF w):=by
 simp only[D.World.sz] at h
 unfold m_impl_IsValidWorld worldOkF
 rw[anyLoopI (l:=w.Sites) siteBadW (.inl false) (.inr ()) (by omega) (fun rec i hi=>by
  have hz:=le_sumI (f:=D.Site.sz) hi
  simp only[lt_i hi,cond_true,atq_nat hi,bd_s,gd_t (show w.Sites[i].sz≤34359738368 by omega)]
  unfold siteBadW
  cases siteOkF w.Sites[i]<;>cases(w.Sites[i].Name.toList==(siteNameF (i:Int)).toList)<;>rfl) (fun rec=>by simp only[ge_i,cond_false])]
 simp only[gd_t (show w.Mail.sz≤34359738368 by simp only[D.Mailbox.sz];omega),gd_t (show w.Cloud.Log.length≤34359738368 by omega),bne,bd_s]
 cases anyI siteBadW 0 w.Sites<;>cases inR w.Now 0 999900<;>cases inR (w.Devices.length:Int) 1 6<;>cases((w.Stolen.length:Int)==(w.Devices.length:Int))<;>cases((w.Sites.length:Int)==2)<;>cases mailOkF w.Mail<;>cases logOkF w.Cloud.Log<;>cases keyF w.Seed<;>rfl
end
end Go.VK
