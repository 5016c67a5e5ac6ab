import Derived.Test.YthecajfmhdediaaGreatDoorXhPf
import Derived.Test.YthecajfmhdediaaGreatDoorXhQ
/- Printed by wip/tools: models, walks, proofs. -/
set_option linter.unusedVariables false
set_option linter.unusedSimpArgs false
set_option maxRecDepth 100000
set_option maxHeartbeats 4000000
namespace Go.VK
open Go.RowKit Go.Proofs
noncomputable section
open EV (bX)
theorem aQb (l:List D.aAJ)(p:Int)(i:Nat)(hi:i≤l.length)(h:l.length≤34359738368){F:(Nat→Option ((Bool⊕PUnit)⊕PUnit))→Nat→Option ((Bool⊕PUnit)⊕PUnit)}(hF:∀rec j (hj:j<i),F rec j=bif (l[j]'(by omega)).Public==p then some (.inl (.inl false)) else rec (j+1))(hE:∀rec,F rec i=some (.inr ())):
  bX FUEL F 0=some (bif (l.take i).any (fun q=>q.Public==p) then .inl (.inl false) else .inr ()):=by
 have ht:(l.take i).length=i:=by rw[List.length_take];omega
 exact mP (l:=l.take i) (fun q=>q.Public==p) _ _ (by omega) (fun rec j hj=>by rw[hF rec j (by omega),List.getElem_take]) (fun rec=>by rw[ht];exact hE rec)
theorem bAp (a:D.aAG)(h:a.Credentials.length≤34359738368)(i:Nat)(hi:i<a.Credentials.length){τ:Type}{X:Option τ}{r:Option τ}{K:Option τ}(hX:X=bif (a.Credentials.take i).any (fun q=>q.Public==a.Credentials[i].Public) then r else K):
  (bd (bif (!dI a.Credentials[i].Handle (0:Int) (1000000:Int)) then(some (true)) else(bif (decide ((↑i:Int)>(0:Int))) then(bd (aP (a.Credentials) (IntKind.i64.wrap ((↑i:Int)-(1:Int)))) fun z5=>bif (decide (z5.Handle≥a.Credentials[i].Handle)) then(some (true)) else(bd (some (fV a.Credentials[i].Public)) fun z6=>bif (z6==(0:Int)) then(some (true)) else(some (!dI a.Credentials[i].Counter (0:Int) (1000000:Int))))) else(bd (some (fV a.Credentials[i].Public)) fun z5=>bif (z5==(0:Int)) then(some (true)) else(some (!dI a.Credentials[i].Counter (0:Int) (1000000:Int)))))) fun z4=>bif z4 then r else X)=bif Gb a i a.Credentials[i] then r else K:=by
 rw[hX];unfold Gb
 by_cases h0:0<i
 ·rw[Nr h0 hi h,show decide ((i:Int)>0)=true by simpa using h0,decide_eq_true h0]
  simp only[bd_s]
  cases dI a.Credentials[i].Handle 0 1000000<;>cases decide ((a.Credentials.getD (i-1) default).Handle≥a.Credentials[i].Handle)<;>cases(fV a.Credentials[i].Public==0)<;>cases dI a.Credentials[i].Counter 0 1000000<;>cases(a.Credentials.take i).any (fun q=>q.Public==a.Credentials[i].Public)<;>rfl
 ·rw[show decide ((i:Int)>0)=false by simpa using h0,decide_eq_false h0]
  simp only[bd_s]
  cases dI a.Credentials[i].Handle 0 1000000<;>cases(fV a.Credentials[i].Public==0)<;>cases dI a.Credentials[i].Counter 0 1000000<;>cases(a.Credentials.take i).any (fun q=>q.Public==a.Credentials[i].Public)<;>rfl
theorem Ld (a:D.aAG)(h:a.sz≤34359738368):pF a=some (bU a):=by
 simp only[D.aAG.sz] at h
 unfold pF bU
 rw[iL (l:=a.Credentials) (Gb a) (.inl false) (.inr ()) (by omega) (fun rec i hi=>by
  simp only[bH hi,cond_true,aH hi,bd_s]
  rw[aQb a.Credentials a.Credentials[i].Public i (by omega) h (fun rec j hj=>by simp only[bH hj,cond_true,aH (show j<a.Credentials.length by omega),bd_s]) (fun rec=>by simp only[bJ,cond_false])]
  have:=bAp a h i hi (X:=nx (some (bif (a.Credentials.take i).any (fun q=>q.Public==a.Credentials[i].Public) then Sum.inl (Sum.inl false) else Sum.inr PUnit.unit)) fun _=>rec (i+1)) (r:=some (.inl false)) (K:=rec (i+1)) (by cases(a.Credentials.take i).any _<;>rfl)
  rw[←this]
  simp only[bd_s]
  generalize(bif !dI a.Credentials[i].Handle 0 1000000 then _ else _:Option Bool)=q
  cases q with
  |none=>rfl
  |some b=>cases b<;>rfl) (fun rec=>by simp only[bJ,cond_false])]
 rw[show decide ((a.Credentials.length:Int)≤8)=decide (a.Credentials.length≤8) from decide_eq_decide.2 (by omega)]
 cases dI a.Id 0 1000000<;>cases dI a.Minimum 1 3<;>cases decide (a.Credentials.length≤8)<;>cases kI (Gb a) 0 a.Credentials<;>rfl
theorem Lg (a:D.aAG)(h:a.sz≤34359738368):pK a=some (bU a):=by
 simp only[D.aAG.sz] at h
 unfold pK bU
 rw[iL (l:=a.Credentials) (Gb a) (.inl false) (.inr ()) (by omega) (fun rec i hi=>by
  have ht:(a.Credentials.take i).length=i:=by rw[List.length_take];omega
  simp only[bH hi,cond_true,aH hi,bd_s,bT]
  rw[aD (show kC a.Credentials (i:Int) by unfold kC;omega)]
  rw[aQb a.Credentials a.Credentials[i].Public i (by omega) h (fun rec j hj=>by simp only[ht,bH hj,cond_true,aH (show j<(a.Credentials.take i).length by omega),bd_s,List.getElem_take]) (fun rec=>by simp only[ht,bJ,cond_false])]
  have:=bAp a h i hi (X:=nx (some (bif (a.Credentials.take i).any (fun q=>q.Public==a.Credentials[i].Public) then Sum.inl (Sum.inl false) else Sum.inr PUnit.unit)) fun _=>rec (i+1)) (r:=some (.inl false)) (K:=rec (i+1)) (by cases(a.Credentials.take i).any _<;>rfl)
  rw[←this]
  simp only[bd_s]
  generalize(bif !dI a.Credentials[i].Handle 0 1000000 then _ else _:Option Bool)=q
  cases q with
  |none=>rfl
  |some b=>cases b<;>rfl) (fun rec=>by simp only[bJ,cond_false])]
 rw[show decide ((a.Credentials.length:Int)>8)= !decide (a.Credentials.length≤8) by rw[←decide_not];exact decide_eq_decide.2 (by omega)]
 cases dI a.Id 0 1000000<;>cases dI a.Minimum 1 3<;>cases decide (a.Credentials.length≤8)<;>cases kI (Gb a) 0 a.Credentials<;>rfl
theorem qK (s:ByteArray)(hs:s.size≤34359738368):∀(n f i st:Nat) (acc:List ByteArray),s.size-i=n→n+1<f→st≤i→i≤s.size→acc.length≤i→bX f (fun rec1 (i1:(List ByteArray×Int×Int))=>bif (decide (i1.2.2≤(↑s.size:Int))) then(bd (bd (bif (i1.2.2==(↑s.size:Int)) then(some (true)) else(bd (aP (bW s) (i1.2.2)) fun z4=>some (z4==(46:Int)))) fun z3=>bif z3 then(gd (Yf s i1.2.1 i1.2.2) (gd (bI i1.1 [s.extract i1.2.1.toNat i1.2.2.toNat]) (some ((i1.1++[s.extract i1.2.1.toNat i1.2.2.toNat],IntKind.i64.wrap (i1.2.2+(1:Int))))))) else(some (i1.1,i1.2.1))) fun(z2:List ByteArray×Int)=>rec1 ((z2.1,z2.2,IntKind.i64.wrap (i1.2.2+(1:Int))))) else(some (i1.1))) (acc,(st:Int),(i:Int))=some (acc++(iM ((s.data.toList.drop st).take (i-st)) (s.data.toList.drop i)).map fun l=>(⟨l.toArray⟩:ByteArray))
 |n,f+1,i,st,acc,hn,hf,h1,h2,h3=>by
  rw[iW]
  have e0:decide ((i:Int)≤(s.size:Int))=true:=by simpa using(show(i:Int)≤(s.size:Int) by omega)
  have es:Yf s (st:Int) (i:Int):=⟨by omega,by omega,by omega⟩
  have ea:bI acc ([s.extract (st:Int).toNat (i:Int).toNat]:List ByteArray):=by unfold bI;simp;omega
  have ew:IntKind.i64.wrap ((i:Int)+1)=((i+1:Nat):Int):=by rw[aR (by omega) (by omega)];omega
  simp only[e0,cond_true]
  rcases Nat.lt_or_ge i s.size with hlt|hge
  ·have e1:((i:Int)==(s.size:Int))=false:=by simp;omega
   have hd:s.data.toList.drop i=s.data.toList[i]'hlt::s.data.toList.drop (i+1):=(List.drop_eq_getElem_cons hlt)
   have hb:(bW s)[i]'(by rw[iN];exact hlt)=((s.data.toList[i]'hlt).toNat:Int):=by simp[bW]
   have hq:(((s.data.toList[i]'hlt).toNat:Int)==46)=(s.data.toList[i]'hlt==46):=by
    rw[Bool.eq_iff_iff];simp only[beq_iff_eq]
    constructor
    ·intro q;apply UInt8.toNat_inj.1;show _=46;omega
    ·intro q;rw[q];rfl
   rw[e1,cond_false,aZy hlt,bd_s,bd_s,hb,hq,hd,iM]
   cases hc:(s.data.toList[i]'hlt==46) with
   |true=>
    rw[cond_true,aD es,aD ea,bd_s]
    dsimp only
    rw[ew,cond_true,qK s hs (n-1) f (i+1) (i+1) _ (by omega) (by omega) (Nat.le_refl _) (by omega) (by simp;omega),Int.toNat_natCast,Int.toNat_natCast,ext_list]
    simp
   |false=>
    rw[cond_false,bd_s]
    dsimp only
    rw[ew,cond_false,qK s hs (n-1) f (i+1) st _ (by omega) (by omega) (by omega) (by omega) (by omega)]
    have:(s.data.toList.drop st).take (i+1-st)=(s.data.toList.drop st).take (i-st)++[s.data.toList[i]'hlt]:=by
     rw[show i+1-st=(i-st)+1 by omega,List.take_add_one,List.getElem?_drop,show st+(i-st)=i by omega,List.getElem?_eq_getElem hlt];rfl
    rw[this]
  ·have e1:((i:Int)==(s.size:Int))=true:=by simp;omega
   obtain⟨f,rfl⟩:∃g,f=g+1:=⟨f-1,by omega⟩
   have hz:s.data.toList.length≤i:=by have:s.data.toList.length=s.size:=rfl;omega
   have e2:decide (((i+1:Nat):Int)≤(s.size:Int))=false:=by simp;omega
   rw[e1,cond_true,bd_s,cond_true,aD es,aD ea,bd_s,iW]
   dsimp only
   rw[ew]
   simp only[e2,cond_false]
   rw[List.drop_eq_nil_of_le hz,iM,Int.toNat_natCast,Int.toNat_natCast,ext_list];rfl
theorem aKz (s:ByteArray)(h:s.size≤34359738368):Jb s=some (bM s):=by
 unfold Jb
 have hf:=gN
 have:=qK s h s.size FUEL 0 0 [] rfl (by omega) (Nat.le_refl _) (Nat.zero_le _) (Nat.le_refl _)
 rw[show(0:Int)=((0:Nat):Int) from rfl]
 refine(congrArg (fun x=>bd x some) this).trans ?_
 simp[bM]
theorem aQc (s:ByteArray)(h:s.size≤34359738368):Pk s=some (rG s):=by
 unfold Pk rG
 have hb:=iN s
 rw[mP (l:=bW s) (fun b=> !Z0 b) (.inl false) (.inr ()) (by omega) (fun rec i hi=>by
  have hi':i<s.size:=by omega
  simp only[bH hi',cond_true,aZy hi',bd_s]
  generalize(bW s)[i]'_=b
  unfold Z0 dI
  have c1:decide (b≥97)=decide (97≤b):=rfl
  have c2:decide (b≥48)=decide (48≤b):=rfl
  rw[c1,c2]
  cases decide (97≤b)<;>cases decide (b≤122)<;>cases decide (48≤b)<;>cases decide (b≤57)<;>cases(b==45)<;>rfl) (fun rec=>by simp only[hb,bJ,cond_false])]
 have e:dI (s.size:Int) 1 20=(decide (1≤s.size)&&decide (s.size≤20)):=by unfold dI;congr 1<;>exact decide_eq_decide.2 (by omega)
 rw[e]
 by_cases h0:0<s.size
 ·rw[show(0:Int)=((0:Nat):Int) from rfl,aZy h0,aR (by omega) (by omega),show(s.size:Int)-1=((s.size-1:Nat):Int) by omega,aZy (show s.size-1<s.size by omega)]
  simp only[bd_s,bne,List.getD,List.getElem?_eq_getElem (show 0<(bW s).length by rw[iN];exact h0),List.getElem?_eq_getElem (show s.size-1<(bW s).length by rw[iN];omega),Option.getD_some]
  cases((bW s)[0]'_==45)<;>cases((bW s)[s.size-1]'_==45)<;>cases decide (1≤s.size)<;>cases decide (s.size≤20)<;>cases(bW s).any _<;>rfl
 ·rw[show decide (1≤s.size)=false from decide_eq_false (by omega)]
  cases(bW s).any _<;>rfl
theorem aT5 (s:ByteArray)(h:s.size≤34359738368):Yp s=some (iT s):=by
 unfold Yp iT
 have hl:=Nt s
 simp only[aD h,bd_s]
 rw[mP (l:=bM s) (fun l=> !rG l) (.inl false) (.inr ()) (by omega) (fun rec i hi=>by
  have hz:(bM s)[i].size≤34359738368:=Nat.le_trans (uS s _ (List.getElem_mem _)) h
  simp only[bH hi,cond_true,aH hi,bd_s,aD hz]) (fun rec=>by simp only[bJ,cond_false])]
 have e':decide ((s.size:Int)≤60)=decide (s.size≤60):=decide_eq_decide.2 (by omega)
 rw[e']
 cases decide (s.size≤60)<;>cases(bM s).any _<;>rfl
theorem aT6 (s:ByteArray):Yw s=some (iT s):=by
 unfold Yw iT
 by_cases h60:s.size≤60
 ·have hl:=Nt s
  rw[show decide ((s.size:Int)>60)=false from decide_eq_false (by omega),cond_false,aD (show s.size<4294967281∧1≤(⟨#[UInt8.ofNat 46]⟩:ByteArray).size from⟨by omega,Nat.le_refl _⟩),bd_s]
  have es:jJ s ⟨#[UInt8.ofNat 46]⟩=bM s:=aOe s
  rw[es]
  rw[mP (l:=bM s) (fun l=> !rG l) (.inl false) (.inr ()) (by omega) (fun rec i hi=>by
   have hz:(bM s)[i].size≤60:=Nat.le_trans (uS s _ (List.getElem_mem _)) h60
   simp only[bH hi,cond_true,aH hi,bd_s]
   revert hz
   generalize(bM s)[i]=l
   intro hz
   have hb:=iN l
   rw[mP (l:=bW l) (fun b=> !Z0 b) (.inl (.inl false)) (.inr ()) (by omega) (fun rec i hi=>by
    have hi':i<l.size:=by omega
    simp only[bH hi',cond_true,aZy hi',bd_s]
    generalize(bW l)[i]'_=b
    unfold Z0 dI
    have c1:decide (b≥97)=decide (97≤b):=rfl
    have c2:decide (b≥48)=decide (48≤b):=rfl
    rw[c1,c2]
    cases decide (97≤b)<;>cases decide (b≤122)<;>cases decide (48≤b)<;>cases decide (b≤57)<;>cases(b==45)<;>rfl) (fun rec=>by simp only[hb,bJ,cond_false])]
   unfold rG
   by_cases h0:0<l.size
   ·rw[show(0:Int)=((0:Nat):Int) from rfl,aZy h0,aR (by omega) (by omega),show(l.size:Int)-1=((l.size-1:Nat):Int) by omega,aZy (show l.size-1<l.size by omega)]
    have e1:decide ((l.size:Int)<1)= !decide (1≤l.size):=by rw[←decide_not];exact decide_eq_decide.2 (by omega)
    have e2:decide ((l.size:Int)>20)= !decide (l.size≤20):=by rw[←decide_not];exact decide_eq_decide.2 (by omega)
    rw[e1,e2]
    simp only[bd_s,bne,List.getD,List.getElem?_eq_getElem (show 0<(bW l).length by rw[iN];exact h0),List.getElem?_eq_getElem (show l.size-1<(bW l).length by rw[iN];omega),Option.getD_some]
    cases((bW l)[0]'_==45)<;>cases((bW l)[l.size-1]'_==45)<;>cases decide (1≤l.size)<;>cases decide (l.size≤20)<;>cases(bW l).any _<;>rfl
   ·rw[show decide ((l.size:Int)<1)=true from decide_eq_true (by omega),show decide (1≤l.size)=false from decide_eq_false (by omega)]
    rfl) (fun rec=>by simp only[bJ,cond_false])]
  rw[show decide (s.size≤60)=true by simpa using h60]
  cases(bM s).any _<;>rfl
 ·rw[show decide ((s.size:Int)>60)=true from decide_eq_true (by omega),show decide (s.size≤60)=false by simpa using h60];rfl
theorem F3 (s:ByteArray):wJ s=some (bE9 s):=by
 unfold wJ bE9
 cases h:iT s with
 |false=>rfl
 |true=>
  have hs:=Nu h
  have hp:=aJh s
  have es:jJ s ⟨#[UInt8.ofNat 46]⟩=bM s:=aOe s
  rw[Bool.not_true,cond_false,cond_true,aD (show s.size<4294967281∧1≤(⟨#[UInt8.ofNat 46]⟩:ByteArray).size from⟨by omega,Nat.le_refl _⟩),bd_s,es]
  rw[show(((bM s).length:Int)==1)=((bM s).length==1) by rw[Bool.eq_iff_iff];simp only[beq_iff_eq];omega]
  cases h1:(bM s).length==1 with
  |true=>rfl
  |false=>
   have h2:(bM s).length≠1:=by simpa using h1
   have hl:=Nt s
   obtain⟨a,ha,b,hb,e⟩:=bJs (l:=bM s) (by omega)
   have ha:=uS s a ha
   have hb:=uS s b hb
   rw[cond_false,cond_false,aR (by omega) (by omega),show((bM s).length:Int)-2=(((bM s).length-2:Nat):Int) by omega,Int.toNat_natCast]
   have hd:((bM s).drop ((bM s).length-2)).length=2:=by rw[List.length_drop];omega
   have hj:(nC ⟨#[UInt8.ofNat 46]⟩ ((bM s).drop ((bM s).length-2))).size≤140737488355328:=by
    have e:nC ⟨#[UInt8.ofNat 46]⟩ ((bM s).drop ((bM s).length-2))=_:=e
    rw[e,ByteArray.size_append,ByteArray.size_append]
    have:(⟨#[46]⟩:ByteArray).size=1:=rfl
    omega
   rw[aD (show kC (bM s) (((bM s).length-2:Nat):Int) by unfold kC;omega),aD ⟨by omega,hj,by omega⟩]
   rfl
theorem aT7 (s:ByteArray)(h:s.size≤9223372036854775807):Yx s=some (Tv s):=by
 unfold Yx Tv
 have hb:=iN s
 rw[mP (l:=bW s) (fun b=>b==46) (.inl true) (.inr ()) (by omega) (fun rec i hi=>by
  have hi':i<s.size:=by omega
  simp only[bH hi',cond_true,aZy hi',bd_s]) (fun rec=>by simp only[hb,bJ,cond_false])]
 cases(bW s).any _<;>rfl
theorem F4 (n:ByteArray)(seed:Int)(h:n.size≤9223372036854775807):wK n seed=some (lN n seed):=by
 unfold wK lN
 simp only[aD h,bd_s]
 rw[bLw,aTn]
 cases h:iT n with
 |false=>rfl
 |true=>rw[bI0 h];cases decide (2≤(bM n).length)<;>cases dY seed<;>rfl
theorem aQd (n:ByteArray)(seed:Int)(h:n.size≤34359738368):Pm n seed=some (vN n seed):=by
 unfold Pm vN lN
 have e:decide (((bM n).length:Int)<2)= !decide (2≤(bM n).length):=by rw[←decide_not];exact decide_eq_decide.2 (by omega)
 simp only[aD h,bd_s,e]
 cases iT n<;>cases decide (2≤(bM n).length)<;>cases dY seed<;>rfl
theorem F5 (s:D.Site)(h:s.sz≤34359738368):vX s=some (jC s):=by
 simp only[D.Site.sz] at h
 unfold vX jC
 rw[iL (l:=s.Accounts) (Zz s.Accounts) (.inl false) (.inr ()) (by omega) (fun rec i hi=>by
  have hz:=dP (f:=D.aAG.sz) hi
  simp only[bH hi,cond_true,aH hi,bd_s,aD (show s.Accounts[i].sz≤34359738368 by omega)]
  unfold Zz
  by_cases h0:0<i
  ·rw[Nr h0 hi (by omega),show decide ((i:Int)>0)=true by simpa using h0,decide_eq_true h0]
   simp only[bd_s]
   cases bU s.Accounts[i]<;>cases decide ((s.Accounts.getD (i-1) default).Id≥s.Accounts[i].Id)<;>rfl
  ·rw[show decide ((i:Int)>0)=false by simpa using h0,decide_eq_false h0]
   cases bU s.Accounts[i]<;>rfl) (fun rec=>by simp only[bJ,cond_false])]
 rw[show decide ((s.Accounts.length:Int)≤8)=decide (s.Accounts.length≤8) from decide_eq_decide.2 (by omega)]
 have e3:(!((vN s.Name s.Book.Seed).Name.toList==(⟨#[]⟩:ByteArray).toList))=lN s.Name s.Book.Seed:=by rw[bLw,bBz,Bool.not_not]
 simp only[aD (show s.Name.size≤34359738368 by omega),aD (show s.Book.sz≤34359738368 by simp only[D.aAF.sz];omega),bd_s,e3]
 cases lN s.Name s.Book.Seed<;>cases decide (s.Accounts.length≤8)<;>cases nR s.Book<;>cases kI (Zz s.Accounts) 0 s.Accounts<;>rfl
theorem F6 (s:D.Site)(h:s.sz≤34359738368):wM s=some (jC s):=by
 simp only[D.Site.sz] at h
 unfold wM jC
 rw[iL (l:=s.Accounts) (Zz s.Accounts) (.inl false) (.inr ()) (by omega) (fun rec i hi=>by
  have hz:=dP (f:=D.aAG.sz) hi
  simp only[bH hi,cond_true,aH hi,bd_s,aD (show s.Accounts[i].sz≤34359738368 by omega)]
  unfold Zz
  by_cases h0:0<i
  ·rw[Nr h0 hi (by omega),show decide ((i:Int)>0)=true by simpa using h0,decide_eq_true h0]
   simp only[bd_s]
   cases bU s.Accounts[i]<;>cases decide ((s.Accounts.getD (i-1) default).Id≥s.Accounts[i].Id)<;>rfl
  ·rw[show decide ((i:Int)>0)=false by simpa using h0,decide_eq_false h0]
   cases bU s.Accounts[i]<;>rfl) (fun rec=>by simp only[bJ,cond_false])]
 rw[show decide ((s.Accounts.length:Int)>8)= !decide (s.Accounts.length≤8) by rw[←decide_not];exact decide_eq_decide.2 (by omega)]
 simp only[aD (show s.Name.size≤9223372036854775807 by omega),aD (show s.Book.sz≤34359738368 by simp only[D.aAF.sz];omega),bd_s]
 cases lN s.Name s.Book.Seed<;>cases decide (s.Accounts.length≤8)<;>cases nR s.Book<;>cases kI (Zz s.Accounts) 0 s.Accounts<;>rfl
theorem aQe (l:List D.aAB)(e:D.aAB)(h:l.length≤34359738368):Po l e=some (qW l e):=by
 unfold Po qW
 have hd:=gQ l
 rw[mP (l:=l) (fun q=>q.Kind==2&&q.Device==e.Device) (.inl false) (.inr ()) (by omega) (fun rec i hi=>by
  simp only[bH hi,cond_true,aH hi,bd_s,jZ];cases(l[i].Kind==2)<;>rfl) (fun rec=>by simp only[bJ,cond_false])]
 rw[show(l.any fun q=>q.Kind==2&&q.Device==e.Device)=nQ l e.Device from rfl]
 simp only[aD h,aD (show(aL l).length≤1099511627776 by omega),aD (show([dE e]:List Int).length≤34359738300 by simp),bd_s,bne]
 cases(e.Index==(l.length:Int))<;>cases(e.Previous==gT l)<;>cases jW (aL l) e.By<;>cases((l.length:Int)==0)<;>cases(e.By==e.Device)<;>cases kM e.By [dE e] e.Signature<;>cases(e.Kind==2)<;>cases jW (aL l) e.Device<;>cases nQ l e.Device<;>cases(e.Kind==1)<;>rfl
theorem aFw (l:List D.aAB)(h:l.length≤34359738368):Ci l=some (dH l):=by
 unfold Ci dH
 rw[iL (l:=l) (fun i e=> !qW (l.take i) e) (.inl false) (.inr ()) (by omega) (fun rec i hi=>by
  simp only[bH hi,cond_true,aH hi,bd_s,bT]
  rw[aD (by unfold kC;simp;omega),aD (by rw[List.length_take];omega)];rfl) (fun rec=>by simp only[bJ,cond_false])]
 cases kI (fun i e=> !qW (l.take i) e) 0 l<;>simp
theorem aFx (l:List D.aAB)(h:l.length≤34359738368):Cx l=some (dH l):=by
 unfold Cx dH
 rw[iL (l:=l) (fun i e=> !qW (l.take i) e) (.inl false) (.inr ()) (by omega) (fun rec i hi=>by
  have ht:(l.take i).length=i:=by rw[List.length_take];omega
  have hb:(l.take i).length≤34359738368:=by omega
  have hd:=gQ (l.take i)
  simp only[bH hi,cond_true,aH hi,bd_s,bT,aD (show kC l (i:Int) by unfold kC;omega),aD hb,aD (show(aL (l.take i)).length≤1099511627776 by omega),aD (show([dE l[i]]:List Int).length≤34359738300 by simp)]
  unfold qW
  rw[ht]
  generalize l[i]=e
  have h1:decide (((aL (l.take i)).length:Int)≥6)= !decide (((aL (l.take i)).length:Int)<6):=by rw[←decide_not];exact decide_eq_decide.2 (by omega)
  have h2:jW (aL (l.take i)) e.Device=true→decide (((aL (l.take i)).length:Int)>1)= !(((aL (l.take i)).length:Int)==1):=fun hh=>by
   have:=bG9 hh
   rw[←Bool.decide_eq_true (b:=(((aL (l.take i)).length:Int)==1)),←decide_not]
   exact decide_eq_decide.2 (by simp;omega)
  simp only[h1,bne]
  cases h3:(e.Kind==2) with
  |true=>
   have h4:(e.Kind==1)=false:=by simp at h3 ⊢;omega
   rw[h4]
   cases hd:jW (aL (l.take i)) e.Device with
   |true=>
    rw[h2 hd]
    cases(e.Index==(i:Int))<;>cases(e.Previous==gT (l.take i))<;>cases jW (aL (l.take i)) e.By<;>cases((i:Int)==0)<;>cases(e.By==e.Device)<;>cases kM e.By [dE e] e.Signature<;>cases(((aL (l.take i)).length:Int)==1)<;>rfl
   |false=>cases(e.Index==(i:Int))<;>cases(e.Previous==gT (l.take i))<;>cases jW (aL (l.take i)) e.By<;>cases((i:Int)==0)<;>cases(e.By==e.Device)<;>cases kM e.By [dE e] e.Signature<;>rfl
  |false=>
   cases(e.Kind==1) with
   |true=>cases(e.Index==(i:Int))<;>cases(e.Previous==gT (l.take i))<;>cases jW (aL (l.take i)) e.By<;>cases((i:Int)==0)<;>cases(e.By==e.Device)<;>cases kM e.By [dE e] e.Signature<;>cases jW (aL (l.take i)) e.Device<;>cases nQ (l.take i) e.Device<;>cases decide (((aL (l.take i)).length:Int)<6)<;>rfl
   |false=>cases(e.Index==(i:Int))<;>cases(e.Previous==gT (l.take i))<;>cases jW (aL (l.take i)) e.By<;>cases((i:Int)==0)<;>cases(e.By==e.Device)<;>cases kM e.By [dE e] e.Signature<;>cases nQ (l.take i) e.Device<;>rfl) (fun rec=>by simp only[bJ,cond_false])]
 unfold dI
 have e1:decide ((l.length:Int)<1)= !decide (1≤(l.length:Int)):=by rw[←decide_not];exact decide_eq_decide.2 (by omega)
 have e2:decide ((l.length:Int)>40)= !decide ((l.length:Int)≤40):=by rw[←decide_not];exact decide_eq_decide.2 (by omega)
 rw[e1,e2]
 cases decide (1≤(l.length:Int))<;>cases decide ((l.length:Int)≤40)<;>cases kI (fun i e=> !qW (l.take i) e) 0 l<;>rfl
theorem Uz (w:D.World)(h:w.sz≤34359738368):tK w=some (dN w):=by
 simp only[D.World.sz] at h
 unfold tK dN
 rw[iL (l:=w.Sites) vO (.inl false) (.inr ()) (by omega) (fun rec i hi=>by
  have hz:=dP (f:=D.Site.sz) hi
  simp only[bH hi,cond_true,aH hi,bd_s,aD (show w.Sites[i].sz≤34359738368 by omega)]
  unfold vO
  cases jC w.Sites[i]<;>cases(w.Sites[i].Name.toList==(aW (i:Int)).toList)<;>rfl) (fun rec=>by simp only[bJ,cond_false])]
 simp only[aD (show w.Mail.sz≤34359738368 by simp only[D.aAK.sz];omega),aD (show w.aAH.Log.length≤34359738368 by omega),bne,bd_s]
 cases kI vO 0 w.Sites<;>cases dI w.Now 0 999900<;>cases dI (w.Devices.length:Int) 1 6<;>cases((w.Stolen.length:Int)==(w.Devices.length:Int))<;>cases((w.Sites.length:Int)==2)<;>cases fB w.Mail<;>cases dH w.aAH.Log<;>cases dY w.Seed<;>rfl
theorem Va (w:D.World)(h:w.sz≤34359738368):tX w=some (dN w):=by
 simp only[D.World.sz] at h
 unfold tX dN
 rw[iL (l:=w.Sites) vO (.inl false) (.inr ()) (by omega) (fun rec i hi=>by
  have hz:=dP (f:=D.Site.sz) hi
  simp only[bH hi,cond_true,aH hi,bd_s,aD (show w.Sites[i].sz≤34359738368 by omega)]
  unfold vO
  cases jC w.Sites[i]<;>cases(w.Sites[i].Name.toList==(aW (i:Int)).toList)<;>rfl) (fun rec=>by simp only[bJ,cond_false])]
 simp only[aD (show w.Mail.sz≤34359738368 by simp only[D.aAK.sz];omega),aD (show w.aAH.Log.length≤34359738368 by omega),bne,bd_s]
 cases kI vO 0 w.Sites<;>cases dI w.Now 0 999900<;>cases dI (w.Devices.length:Int) 1 6<;>cases((w.Stolen.length:Int)==(w.Devices.length:Int))<;>cases((w.Sites.length:Int)==2)<;>cases fB w.Mail<;>cases dH w.aAH.Log<;>cases dY w.Seed<;>rfl
end
end Go.VK
