import Derived.Test.YtinkjfapmhcgmaaGreatDoorXjPf
import Derived.Test.YtinkjfapmhcgmaaGreatDoorXjQ
/- Printed by wip/tools: models, walks, proofs. -/
set_option linter.unusedVariables false
set_option linter.unusedSimpArgs false
set_option maxRecDepth 100000
set_option maxHeartbeats 4000000
namespace Go.VK
open Go.RowKit Go.Proofs
noncomputable section
open EV (bU)
theorem aPh (l:List D.aAI)(p:Int)(i:Nat)(hi:i≤l.length)(h:l.length≤34359738368){F:(Nat→Option ((Bool⊕PUnit)⊕PUnit))→Nat→Option ((Bool⊕PUnit)⊕PUnit)}(hF:∀rec j (hj:j<i),F rec j=bif (l[j]'(by omega)).Public==p then some (.inl (.inl false)) else rec (j+1))(hE:∀rec,F rec i=some (.inr ())):
  bU FUEL F 0=some (bif (l.take i).any (fun q=>q.Public==p) then .inl (.inl false) else .inr ()):=by
 have ht:(l.take i).length=i:=by rw[List.length_take];omega
 exact mP (l:=l.take i) (fun q=>q.Public==p) _ _ (by omega) (fun rec j hj=>by rw[hF rec j (by omega),List.getElem_take]) (fun rec=>by rw[ht];exact hE rec)
theorem bAl (a:D.aAG)(h:a.Credentials.length≤34359738368)(i:Nat)(hi:i<a.Credentials.length){τ:Type}{X:Option τ}{r:Option τ}{K:Option τ}(hX:X=bif (a.Credentials.take i).any (fun q=>q.Public==a.Credentials[i].Public) then r else K):
  (bd (bif (!dG a.Credentials[i].Handle (0:Int) (1000000:Int)) then(some (true)) else(bif (decide ((↑i:Int)>(0:Int))) then(bd (aL (a.Credentials) (IntKind.i64.wrap ((↑i:Int)-(1:Int)))) fun z5=>bif (decide (z5.Handle≥a.Credentials[i].Handle)) then(some (true)) else(bd (some (fV a.Credentials[i].Public)) fun z6=>bif (z6==(0:Int)) then(some (true)) else(some (!dG a.Credentials[i].Counter (0:Int) (1000000:Int))))) else(bd (some (fV a.Credentials[i].Public)) fun z5=>bif (z5==(0:Int)) then(some (true)) else(some (!dG a.Credentials[i].Counter (0:Int) (1000000:Int)))))) fun z4=>bif z4 then r else X)=bif Fw a i a.Credentials[i] then r else K:=by
 rw[hX];unfold Fw
 by_cases h0:0<i
 ·rw[Nt h0 hi h,show decide ((i:Int)>0)=true by simpa using h0,decide_eq_true h0]
  simp only[bd_s]
  cases dG a.Credentials[i].Handle 0 1000000<;>cases decide ((a.Credentials.getD (i-1) default).Handle≥a.Credentials[i].Handle)<;>cases(fV a.Credentials[i].Public==0)<;>cases dG a.Credentials[i].Counter 0 1000000<;>cases(a.Credentials.take i).any (fun q=>q.Public==a.Credentials[i].Public)<;>rfl
 ·rw[show decide ((i:Int)>0)=false by simpa using h0,decide_eq_false h0]
  simp only[bd_s]
  cases dG a.Credentials[i].Handle 0 1000000<;>cases(fV a.Credentials[i].Public==0)<;>cases dG a.Credentials[i].Counter 0 1000000<;>cases(a.Credentials.take i).any (fun q=>q.Public==a.Credentials[i].Public)<;>rfl
theorem La (a:D.aAG)(h:a.sz≤34359738368):pK a=some (dW a):=by
 simp only[D.aAG.sz] at h
 unfold pK dW
 rw[iG (l:=a.Credentials) (Fw a) (.inl false) (.inr ()) (by omega) (fun rec i hi=>by
  simp only[bE hi,cond_true,aF hi,bd_s]
  rw[aPh a.Credentials a.Credentials[i].Public i (by omega) h (fun rec j hj=>by simp only[bE hj,cond_true,aF (show j<a.Credentials.length by omega),bd_s]) (fun rec=>by simp only[bF,cond_false])]
  have:=bAl a h i hi (X:=nx (some (bif (a.Credentials.take i).any (fun q=>q.Public==a.Credentials[i].Public) then Sum.inl (Sum.inl false) else Sum.inr PUnit.unit)) fun _=>rec (i+1)) (r:=some (.inl false)) (K:=rec (i+1)) (by cases(a.Credentials.take i).any _<;>rfl)
  rw[←this]
  simp only[bd_s]
  generalize(bif !dG a.Credentials[i].Handle 0 1000000 then _ else _:Option Bool)=q
  cases q with
  |none=>rfl
  |some b=>cases b<;>rfl) (fun rec=>by simp only[bF,cond_false])]
 rw[show decide ((a.Credentials.length:Int)≤8)=decide (a.Credentials.length≤8) from decide_eq_decide.2 (by omega)]
 cases dG a.Id 0 1000000<;>cases dG a.Minimum 1 3<;>cases decide (a.Credentials.length≤8)<;>cases kS (Fw a) 0 a.Credentials<;>rfl
theorem Lb (a:D.aAG)(h:a.sz≤34359738368):pU a=some (dW a):=by
 simp only[D.aAG.sz] at h
 unfold pU dW
 rw[iG (l:=a.Credentials) (Fw a) (.inl false) (.inr ()) (by omega) (fun rec i hi=>by
  have ht:(a.Credentials.take i).length=i:=by rw[List.length_take];omega
  simp only[bE hi,cond_true,aF hi,bd_s,bQ]
  rw[aC (show mF a.Credentials (i:Int) by unfold mF;omega)]
  rw[aPh a.Credentials a.Credentials[i].Public i (by omega) h (fun rec j hj=>by simp only[ht,bE hj,cond_true,aF (show j<(a.Credentials.take i).length by omega),bd_s,List.getElem_take]) (fun rec=>by simp only[ht,bF,cond_false])]
  have:=bAl a h i hi (X:=nx (some (bif (a.Credentials.take i).any (fun q=>q.Public==a.Credentials[i].Public) then Sum.inl (Sum.inl false) else Sum.inr PUnit.unit)) fun _=>rec (i+1)) (r:=some (.inl false)) (K:=rec (i+1)) (by cases(a.Credentials.take i).any _<;>rfl)
  rw[←this]
  simp only[bd_s]
  generalize(bif !dG a.Credentials[i].Handle 0 1000000 then _ else _:Option Bool)=q
  cases q with
  |none=>rfl
  |some b=>cases b<;>rfl) (fun rec=>by simp only[bF,cond_false])]
 rw[show decide ((a.Credentials.length:Int)>8)= !decide (a.Credentials.length≤8) by rw[←decide_not];exact decide_eq_decide.2 (by omega)]
 cases dG a.Id 0 1000000<;>cases dG a.Minimum 1 3<;>cases decide (a.Credentials.length≤8)<;>cases kS (Fw a) 0 a.Credentials<;>rfl
theorem qP (s:ByteArray)(hs:s.size≤34359738368):∀(n f i st:Nat) (acc:List ByteArray),s.size-i=n→n+1<f→st≤i→i≤s.size→acc.length≤i→bU f (fun rec1 (i1:(List ByteArray×Int×Int))=>bif (decide (i1.2.2≤(↑s.size:Int))) then(bd (bd (bif (i1.2.2==(↑s.size:Int)) then(some (true)) else(bd (aL (bS s) (i1.2.2)) fun z4=>some (z4==(46:Int)))) fun z3=>bif z3 then(gd (Xz s i1.2.1 i1.2.2) (gd (bJ i1.1 [s.extract i1.2.1.toNat i1.2.2.toNat]) (some ((i1.1++[s.extract i1.2.1.toNat i1.2.2.toNat],IntKind.i64.wrap (i1.2.2+(1:Int))))))) else(some (i1.1,i1.2.1))) fun(z2:List ByteArray×Int)=>rec1 ((z2.1,z2.2,IntKind.i64.wrap (i1.2.2+(1:Int))))) else(some (i1.1))) (acc,(st:Int),(i:Int))=some (acc++(iH ((s.data.toList.drop st).take (i-st)) (s.data.toList.drop i)).map fun l=>(⟨l.toArray⟩:ByteArray))
 |n,f+1,i,st,acc,hn,hf,h1,h2,h3=>by
  rw[iN]
  have e0:decide ((i:Int)≤(s.size:Int))=true:=by simpa using(show(i:Int)≤(s.size:Int) by omega)
  have es:Xz s (st:Int) (i:Int):=⟨by omega,by omega,by omega⟩
  have ea:bJ acc ([s.extract (st:Int).toNat (i:Int).toNat]:List ByteArray):=by unfold bJ;simp;omega
  have ew:IntKind.i64.wrap ((i:Int)+1)=((i+1:Nat):Int):=by rw[aP (by omega) (by omega)];omega
  simp only[e0,cond_true]
  rcases Nat.lt_or_ge i s.size with hlt|hge
  ·have e1:((i:Int)==(s.size:Int))=false:=by simp;omega
   have hd:s.data.toList.drop i=s.data.toList[i]'hlt::s.data.toList.drop (i+1):=(List.drop_eq_getElem_cons hlt)
   have hb:(bS s)[i]'(by rw[iI];exact hlt)=((s.data.toList[i]'hlt).toNat:Int):=by simp[bS]
   have hq:(((s.data.toList[i]'hlt).toNat:Int)==46)=(s.data.toList[i]'hlt==46):=by
    rw[Bool.eq_iff_iff];simp only[beq_iff_eq]
    constructor
    ·intro q;apply UInt8.toNat_inj.1;show _=46;omega
    ·intro q;rw[q];rfl
   rw[e1,cond_false,aZw hlt,bd_s,bd_s,hb,hq,hd,iH]
   cases hc:(s.data.toList[i]'hlt==46) with
   |true=>
    rw[cond_true,aC es,aC ea,bd_s]
    dsimp only
    rw[ew,cond_true,qP s hs (n-1) f (i+1) (i+1) _ (by omega) (by omega) (Nat.le_refl _) (by omega) (by simp;omega),Int.toNat_natCast,Int.toNat_natCast,ext_list]
    simp
   |false=>
    rw[cond_false,bd_s]
    dsimp only
    rw[ew,cond_false,qP s hs (n-1) f (i+1) st _ (by omega) (by omega) (by omega) (by omega) (by omega)]
    have:(s.data.toList.drop st).take (i+1-st)=(s.data.toList.drop st).take (i-st)++[s.data.toList[i]'hlt]:=by
     rw[show i+1-st=(i-st)+1 by omega,List.take_add_one,List.getElem?_drop,show st+(i-st)=i by omega,List.getElem?_eq_getElem hlt];rfl
    rw[this]
  ·have e1:((i:Int)==(s.size:Int))=true:=by simp;omega
   obtain⟨f,rfl⟩:∃g,f=g+1:=⟨f-1,by omega⟩
   have hz:s.data.toList.length≤i:=by have:s.data.toList.length=s.size:=rfl;omega
   have e2:decide (((i+1:Nat):Int)≤(s.size:Int))=false:=by simp;omega
   rw[e1,cond_true,bd_s,cond_true,aC es,aC ea,bd_s,iN]
   dsimp only
   rw[ew]
   simp only[e2,cond_false]
   rw[List.drop_eq_nil_of_le hz,iH,Int.toNat_natCast,Int.toNat_natCast,ext_list];rfl
theorem aJ1 (s:ByteArray)(h:s.size≤34359738368):Ja s=some (bI s):=by
 unfold Ja
 have hf:=gK
 have:=qP s h s.size FUEL 0 0 [] rfl (by omega) (Nat.le_refl _) (Nat.zero_le _) (Nat.le_refl _)
 rw[show(0:Int)=((0:Nat):Int) from rfl]
 refine(congrArg (fun x=>bd x some) this).trans ?_
 simp[bI]
theorem aPi (s:ByteArray)(h:s.size≤34359738368):Pp s=some (rP s):=by
 unfold Pp rP
 have hb:=iI s
 rw[mP (l:=bS s) (fun b=> !V9 b) (.inl false) (.inr ()) (by omega) (fun rec i hi=>by
  have hi':i<s.size:=by omega
  simp only[bE hi',cond_true,aZw hi',bd_s]
  generalize(bS s)[i]'_=b
  unfold V9 dG
  have c1:decide (b≥97)=decide (97≤b):=rfl
  have c2:decide (b≥48)=decide (48≤b):=rfl
  rw[c1,c2]
  cases decide (97≤b)<;>cases decide (b≤122)<;>cases decide (48≤b)<;>cases decide (b≤57)<;>cases(b==45)<;>rfl) (fun rec=>by simp only[hb,bF,cond_false])]
 have e:dG (s.size:Int) 1 20=(decide (1≤s.size)&&decide (s.size≤20)):=by unfold dG;congr 1<;>exact decide_eq_decide.2 (by omega)
 rw[e]
 by_cases h0:0<s.size
 ·rw[show(0:Int)=((0:Nat):Int) from rfl,aZw h0,aP (by omega) (by omega),show(s.size:Int)-1=((s.size-1:Nat):Int) by omega,aZw (show s.size-1<s.size by omega)]
  simp only[bd_s,bne,List.getD,List.getElem?_eq_getElem (show 0<(bS s).length by rw[iI];exact h0),List.getElem?_eq_getElem (show s.size-1<(bS s).length by rw[iI];omega),Option.getD_some]
  cases((bS s)[0]'_==45)<;>cases((bS s)[s.size-1]'_==45)<;>cases decide (1≤s.size)<;>cases decide (s.size≤20)<;>cases(bS s).any _<;>rfl
 ·rw[show decide (1≤s.size)=false from decide_eq_false (by omega)]
  cases(bS s).any _<;>rfl
theorem aTk (s:ByteArray)(h:s.size≤34359738368):Yj s=some (iM s):=by
 unfold Yj iM
 have hl:=Nv s
 simp only[aC h,bd_s]
 rw[mP (l:=bI s) (fun l=> !rP l) (.inl false) (.inr ()) (by omega) (fun rec i hi=>by
  have hz:(bI s)[i].size≤34359738368:=Nat.le_trans (uT s _ (List.getElem_mem _)) h
  simp only[bE hi,cond_true,aF hi,bd_s,aC hz]) (fun rec=>by simp only[bF,cond_false])]
 have e':decide ((s.size:Int)≤60)=decide (s.size≤60):=decide_eq_decide.2 (by omega)
 rw[e']
 cases decide (s.size≤60)<;>cases(bI s).any _<;>rfl
theorem aTl (s:ByteArray):Yr s=some (iM s):=by
 unfold Yr iM
 by_cases h60:s.size≤60
 ·have hl:=Nv s
  rw[show decide ((s.size:Int)>60)=false from decide_eq_false (by omega),cond_false,aC (show s.size<4294967281∧1≤(⟨#[UInt8.ofNat 46]⟩:ByteArray).size from⟨by omega,Nat.le_refl _⟩),bd_s]
  have es:jI s ⟨#[UInt8.ofNat 46]⟩=bI s:=aNn s
  rw[es]
  rw[mP (l:=bI s) (fun l=> !rP l) (.inl false) (.inr ()) (by omega) (fun rec i hi=>by
   have hz:(bI s)[i].size≤60:=Nat.le_trans (uT s _ (List.getElem_mem _)) h60
   simp only[bE hi,cond_true,aF hi,bd_s]
   revert hz
   generalize(bI s)[i]=l
   intro hz
   have hb:=iI l
   rw[mP (l:=bS l) (fun b=> !V9 b) (.inl (.inl false)) (.inr ()) (by omega) (fun rec i hi=>by
    have hi':i<l.size:=by omega
    simp only[bE hi',cond_true,aZw hi',bd_s]
    generalize(bS l)[i]'_=b
    unfold V9 dG
    have c1:decide (b≥97)=decide (97≤b):=rfl
    have c2:decide (b≥48)=decide (48≤b):=rfl
    rw[c1,c2]
    cases decide (97≤b)<;>cases decide (b≤122)<;>cases decide (48≤b)<;>cases decide (b≤57)<;>cases(b==45)<;>rfl) (fun rec=>by simp only[hb,bF,cond_false])]
   unfold rP
   by_cases h0:0<l.size
   ·rw[show(0:Int)=((0:Nat):Int) from rfl,aZw h0,aP (by omega) (by omega),show(l.size:Int)-1=((l.size-1:Nat):Int) by omega,aZw (show l.size-1<l.size by omega)]
    have e1:decide ((l.size:Int)<1)= !decide (1≤l.size):=by rw[←decide_not];exact decide_eq_decide.2 (by omega)
    have e2:decide ((l.size:Int)>20)= !decide (l.size≤20):=by rw[←decide_not];exact decide_eq_decide.2 (by omega)
    rw[e1,e2]
    simp only[bd_s,bne,List.getD,List.getElem?_eq_getElem (show 0<(bS l).length by rw[iI];exact h0),List.getElem?_eq_getElem (show l.size-1<(bS l).length by rw[iI];omega),Option.getD_some]
    cases((bS l)[0]'_==45)<;>cases((bS l)[l.size-1]'_==45)<;>cases decide (1≤l.size)<;>cases decide (l.size≤20)<;>cases(bS l).any _<;>rfl
   ·rw[show decide ((l.size:Int)<1)=true from decide_eq_true (by omega),show decide (1≤l.size)=false from decide_eq_false (by omega)]
    rfl) (fun rec=>by simp only[bF,cond_false])]
  rw[show decide (s.size≤60)=true by simpa using h60]
  cases(bI s).any _<;>rfl
 ·rw[show decide ((s.size:Int)>60)=true from decide_eq_true (by omega),show decide (s.size≤60)=false by simpa using h60];rfl
theorem D9 (s:ByteArray):wF s=some (bE2 s):=by
 unfold wF bE2
 cases h:iM s with
 |false=>rfl
 |true=>
  have hs:=Nw h
  have hp:=aIl s
  have es:jI s ⟨#[UInt8.ofNat 46]⟩=bI s:=aNn s
  rw[Bool.not_true,cond_false,cond_true,aC (show s.size<4294967281∧1≤(⟨#[UInt8.ofNat 46]⟩:ByteArray).size from⟨by omega,Nat.le_refl _⟩),bd_s,es]
  rw[show(((bI s).length:Int)==1)=((bI s).length==1) by rw[Bool.eq_iff_iff];simp only[beq_iff_eq];omega]
  cases h1:(bI s).length==1 with
  |true=>rfl
  |false=>
   have h2:(bI s).length≠1:=by simpa using h1
   have hl:=Nv s
   obtain⟨a,ha,b,hb,e⟩:=bJl (l:=bI s) (by omega)
   have ha:=uT s a ha
   have hb:=uT s b hb
   rw[cond_false,cond_false,aP (by omega) (by omega),show((bI s).length:Int)-2=(((bI s).length-2:Nat):Int) by omega,Int.toNat_natCast]
   have hd:((bI s).drop ((bI s).length-2)).length=2:=by rw[List.length_drop];omega
   have hj:(nC ⟨#[UInt8.ofNat 46]⟩ ((bI s).drop ((bI s).length-2))).size≤140737488355328:=by
    have e:nC ⟨#[UInt8.ofNat 46]⟩ ((bI s).drop ((bI s).length-2))=_:=e
    rw[e,ByteArray.size_append,ByteArray.size_append]
    have:(⟨#[46]⟩:ByteArray).size=1:=rfl
    omega
   rw[aC (show mF (bI s) (((bI s).length-2:Nat):Int) by unfold mF;omega),aC ⟨by omega,hj,by omega⟩]
   rfl
theorem aTm (s:ByteArray)(h:s.size≤9223372036854775807):Yt s=some (Tv s):=by
 unfold Yt Tv
 have hb:=iI s
 rw[mP (l:=bS s) (fun b=>b==46) (.inl true) (.inr ()) (by omega) (fun rec i hi=>by
  have hi':i<s.size:=by omega
  simp only[bE hi',cond_true,aZw hi',bd_s]) (fun rec=>by simp only[hb,bF,cond_false])]
 cases(bS s).any _<;>rfl
theorem E5 (n:ByteArray)(seed:Int)(h:n.size≤9223372036854775807):wG n seed=some (lV n seed):=by
 unfold wG lV
 simp only[aC h,bd_s]
 rw[bMi,aS0]
 cases h:iM n with
 |false=>rfl
 |true=>rw[bIt h];cases decide (2≤(bI n).length)<;>cases dP seed<;>rfl
theorem aPj (n:ByteArray)(seed:Int)(h:n.size≤34359738368):Pq n seed=some (vL n seed):=by
 unfold Pq vL lV
 have e:decide (((bI n).length:Int)<2)= !decide (2≤(bI n).length):=by rw[←decide_not];exact decide_eq_decide.2 (by omega)
 simp only[aC h,bd_s,e]
 cases iM n<;>cases decide (2≤(bI n).length)<;>cases dP seed<;>rfl
theorem E8 (s:D.Site)(h:s.sz≤34359738368):vV s=some (nU s):=by
 simp only[D.Site.sz] at h
 unfold vV nU
 rw[iG (l:=s.Accounts) (Zx s.Accounts) (.inl false) (.inr ()) (by omega) (fun rec i hi=>by
  have hz:=dM (f:=D.aAG.sz) hi
  simp only[bE hi,cond_true,aF hi,bd_s,aC (show s.Accounts[i].sz≤34359738368 by omega)]
  unfold Zx
  by_cases h0:0<i
  ·rw[Nt h0 hi (by omega),show decide ((i:Int)>0)=true by simpa using h0,decide_eq_true h0]
   simp only[bd_s]
   cases dW s.Accounts[i]<;>cases decide ((s.Accounts.getD (i-1) default).Id≥s.Accounts[i].Id)<;>rfl
  ·rw[show decide ((i:Int)>0)=false by simpa using h0,decide_eq_false h0]
   cases dW s.Accounts[i]<;>rfl) (fun rec=>by simp only[bF,cond_false])]
 rw[show decide ((s.Accounts.length:Int)≤8)=decide (s.Accounts.length≤8) from decide_eq_decide.2 (by omega)]
 have e3:(!((vL s.Name s.Book.Seed).Name.toList==(⟨#[]⟩:ByteArray).toList))=lV s.Name s.Book.Seed:=by rw[bMi,bBs,Bool.not_not]
 simp only[aC (show s.Name.size≤34359738368 by omega),aC (show s.Book.sz≤34359738368 by simp only[D.aAF.sz];omega),bd_s,e3]
 cases lV s.Name s.Book.Seed<;>cases decide (s.Accounts.length≤8)<;>cases nT s.Book<;>cases kS (Zx s.Accounts) 0 s.Accounts<;>rfl
theorem E9 (s:D.Site)(h:s.sz≤34359738368):wI s=some (nU s):=by
 simp only[D.Site.sz] at h
 unfold wI nU
 rw[iG (l:=s.Accounts) (Zx s.Accounts) (.inl false) (.inr ()) (by omega) (fun rec i hi=>by
  have hz:=dM (f:=D.aAG.sz) hi
  simp only[bE hi,cond_true,aF hi,bd_s,aC (show s.Accounts[i].sz≤34359738368 by omega)]
  unfold Zx
  by_cases h0:0<i
  ·rw[Nt h0 hi (by omega),show decide ((i:Int)>0)=true by simpa using h0,decide_eq_true h0]
   simp only[bd_s]
   cases dW s.Accounts[i]<;>cases decide ((s.Accounts.getD (i-1) default).Id≥s.Accounts[i].Id)<;>rfl
  ·rw[show decide ((i:Int)>0)=false by simpa using h0,decide_eq_false h0]
   cases dW s.Accounts[i]<;>rfl) (fun rec=>by simp only[bF,cond_false])]
 rw[show decide ((s.Accounts.length:Int)>8)= !decide (s.Accounts.length≤8) by rw[←decide_not];exact decide_eq_decide.2 (by omega)]
 simp only[aC (show s.Name.size≤9223372036854775807 by omega),aC (show s.Book.sz≤34359738368 by simp only[D.aAF.sz];omega),bd_s]
 cases lV s.Name s.Book.Seed<;>cases decide (s.Accounts.length≤8)<;>cases nT s.Book<;>cases kS (Zx s.Accounts) 0 s.Accounts<;>rfl
theorem aPk (l:List D.aAB)(e:D.aAB)(h:l.length≤34359738368):Pt l e=some (rC l e):=by
 unfold Pt rC
 have hd:=fE l
 rw[mP (l:=l) (fun q=>q.Kind==2&&q.Device==e.Device) (.inl false) (.inr ()) (by omega) (fun rec i hi=>by
  simp only[bE hi,cond_true,aF hi,bd_s,kF];cases(l[i].Kind==2)<;>rfl) (fun rec=>by simp only[bF,cond_false])]
 rw[show(l.any fun q=>q.Kind==2&&q.Device==e.Device)=nS l e.Device from rfl]
 simp only[aC h,aC (show(aI l).length≤1099511627776 by omega),aC (show([dC e]:List Int).length≤34359738300 by simp),bd_s,bne]
 cases(e.Index==(l.length:Int))<;>cases(e.Previous==gM l)<;>cases jC (aI l) e.By<;>cases((l.length:Int)==0)<;>cases(e.By==e.Device)<;>cases kV e.By [dC e] e.Signature<;>cases(e.Kind==2)<;>cases jC (aI l) e.Device<;>cases nS l e.Device<;>cases(e.Kind==1)<;>rfl
theorem aE0 (l:List D.aAB)(h:l.length≤34359738368):Bq l=some (cB l):=by
 unfold Bq cB
 rw[iG (l:=l) (fun i e=> !rC (l.take i) e) (.inl false) (.inr ()) (by omega) (fun rec i hi=>by
  simp only[bE hi,cond_true,aF hi,bd_s,bQ]
  rw[aC (by unfold mF;simp;omega),aC (by rw[List.length_take];omega)];rfl) (fun rec=>by simp only[bF,cond_false])]
 cases kS (fun i e=> !rC (l.take i) e) 0 l<;>simp
theorem aE1 (l:List D.aAB)(h:l.length≤34359738368):Cj l=some (cB l):=by
 unfold Cj cB
 rw[iG (l:=l) (fun i e=> !rC (l.take i) e) (.inl false) (.inr ()) (by omega) (fun rec i hi=>by
  have ht:(l.take i).length=i:=by rw[List.length_take];omega
  have hb:(l.take i).length≤34359738368:=by omega
  have hd:=fE (l.take i)
  simp only[bE hi,cond_true,aF hi,bd_s,bQ,aC (show mF l (i:Int) by unfold mF;omega),aC hb,aC (show(aI (l.take i)).length≤1099511627776 by omega),aC (show([dC l[i]]:List Int).length≤34359738300 by simp)]
  unfold rC
  rw[ht]
  generalize l[i]=e
  have h1:decide (((aI (l.take i)).length:Int)≥6)= !decide (((aI (l.take i)).length:Int)<6):=by rw[←decide_not];exact decide_eq_decide.2 (by omega)
  have h2:jC (aI (l.take i)) e.Device=true→decide (((aI (l.take i)).length:Int)>1)= !(((aI (l.take i)).length:Int)==1):=fun hh=>by
   have:=bG4 hh
   rw[←Bool.decide_eq_true (b:=(((aI (l.take i)).length:Int)==1)),←decide_not]
   exact decide_eq_decide.2 (by simp;omega)
  simp only[h1,bne]
  cases h3:(e.Kind==2) with
  |true=>
   have h4:(e.Kind==1)=false:=by simp at h3 ⊢;omega
   rw[h4]
   cases hd:jC (aI (l.take i)) e.Device with
   |true=>
    rw[h2 hd]
    cases(e.Index==(i:Int))<;>cases(e.Previous==gM (l.take i))<;>cases jC (aI (l.take i)) e.By<;>cases((i:Int)==0)<;>cases(e.By==e.Device)<;>cases kV e.By [dC e] e.Signature<;>cases(((aI (l.take i)).length:Int)==1)<;>rfl
   |false=>cases(e.Index==(i:Int))<;>cases(e.Previous==gM (l.take i))<;>cases jC (aI (l.take i)) e.By<;>cases((i:Int)==0)<;>cases(e.By==e.Device)<;>cases kV e.By [dC e] e.Signature<;>rfl
  |false=>
   cases(e.Kind==1) with
   |true=>cases(e.Index==(i:Int))<;>cases(e.Previous==gM (l.take i))<;>cases jC (aI (l.take i)) e.By<;>cases((i:Int)==0)<;>cases(e.By==e.Device)<;>cases kV e.By [dC e] e.Signature<;>cases jC (aI (l.take i)) e.Device<;>cases nS (l.take i) e.Device<;>cases decide (((aI (l.take i)).length:Int)<6)<;>rfl
   |false=>cases(e.Index==(i:Int))<;>cases(e.Previous==gM (l.take i))<;>cases jC (aI (l.take i)) e.By<;>cases((i:Int)==0)<;>cases(e.By==e.Device)<;>cases kV e.By [dC e] e.Signature<;>cases nS (l.take i) e.Device<;>rfl) (fun rec=>by simp only[bF,cond_false])]
 unfold dG
 have e1:decide ((l.length:Int)<1)= !decide (1≤(l.length:Int)):=by rw[←decide_not];exact decide_eq_decide.2 (by omega)
 have e2:decide ((l.length:Int)>40)= !decide ((l.length:Int)≤40):=by rw[←decide_not];exact decide_eq_decide.2 (by omega)
 rw[e1,e2]
 cases decide (1≤(l.length:Int))<;>cases decide ((l.length:Int)≤40)<;>cases kS (fun i e=> !rC (l.take i) e) 0 l<;>rfl
theorem Va (w:D.World)(h:w.sz≤34359738368):tQ w=some (dU w):=by
 simp only[D.World.sz] at h
 unfold tQ dU
 rw[iG (l:=w.Sites) vM (.inl false) (.inr ()) (by omega) (fun rec i hi=>by
  have hz:=dM (f:=D.Site.sz) hi
  simp only[bE hi,cond_true,aF hi,bd_s,aC (show w.Sites[i].sz≤34359738368 by omega)]
  unfold vM
  cases nU w.Sites[i]<;>cases(w.Sites[i].Name.toList==(bD (i:Int)).toList)<;>rfl) (fun rec=>by simp only[bF,cond_false])]
 simp only[aC (show w.Mail.sz≤34359738368 by simp only[D.aAK.sz];omega),aC (show w.aAH.Log.length≤34359738368 by omega),bne,bd_s]
 cases kS vM 0 w.Sites<;>cases dG w.Now 0 999900<;>cases dG (w.Devices.length:Int) 1 6<;>cases((w.Stolen.length:Int)==(w.Devices.length:Int))<;>cases((w.Sites.length:Int)==2)<;>cases eZ w.Mail<;>cases cB w.aAH.Log<;>cases dP w.Seed<;>rfl
theorem Vb (w:D.World)(h:w.sz≤34359738368):uA w=some (dU w):=by
 simp only[D.World.sz] at h
 unfold uA dU
 rw[iG (l:=w.Sites) vM (.inl false) (.inr ()) (by omega) (fun rec i hi=>by
  have hz:=dM (f:=D.Site.sz) hi
  simp only[bE hi,cond_true,aF hi,bd_s,aC (show w.Sites[i].sz≤34359738368 by omega)]
  unfold vM
  cases nU w.Sites[i]<;>cases(w.Sites[i].Name.toList==(bD (i:Int)).toList)<;>rfl) (fun rec=>by simp only[bF,cond_false])]
 simp only[aC (show w.Mail.sz≤34359738368 by simp only[D.aAK.sz];omega),aC (show w.aAH.Log.length≤34359738368 by omega),bne,bd_s]
 cases kS vM 0 w.Sites<;>cases dG w.Now 0 999900<;>cases dG (w.Devices.length:Int) 1 6<;>cases((w.Stolen.length:Int)==(w.Devices.length:Int))<;>cases((w.Sites.length:Int)==2)<;>cases eZ w.Mail<;>cases cB w.aAH.Log<;>cases dP w.Seed<;>rfl
end
end Go.VK
