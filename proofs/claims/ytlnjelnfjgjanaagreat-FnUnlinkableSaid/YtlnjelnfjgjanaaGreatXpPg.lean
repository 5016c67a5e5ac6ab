import Derived.Test.YtlnjelnfjgjanaaGreatXpPf
import Derived.Test.YtlnjelnfjgjanaaGreatXpM
/- Printed by wip/tools: models, walks, proofs. -/
set_option linter.unusedVariables false
set_option linter.unusedSimpArgs false
set_option maxRecDepth 100000
set_option maxHeartbeats 4000000
namespace Go.VK
open Go.RowKit Go.Proofs
noncomputable section
open EV (bT)
theorem aTb (l:List D.aAJ)(p:Int)(i:Nat)(hi:i≤l.length)(h:l.length≤34359738368){F:(Nat→Option ((Bool⊕PUnit)⊕PUnit))→Nat→Option ((Bool⊕PUnit)⊕PUnit)}(hF:∀rec j (hj:j<i),F rec j=bif (l[j]'(by omega)).Public==p then some (.inl (.inl false)) else rec (j+1))(hE:∀rec,F rec i=some (.inr ())):
  bT FUEL F 0=some (bif (l.take i).any (fun q=>q.Public==p) then .inl (.inl false) else .inr ()):=by
 have ht:(l.take i).length=i:=by rw[List.length_take];omega
 exact mU (l:=l.take i) (fun q=>q.Public==p) _ _ (by omega) (fun rec j hj=>by rw[hF rec j (by omega),List.getElem_take]) (fun rec=>by rw[ht];exact hE rec)
theorem bBm (a:D.aAF)(h:a.Credentials.length≤34359738368)(i:Nat)(hi:i<a.Credentials.length){τ:Type}{X:Option τ}{r:Option τ}{K:Option τ}(hX:X=bif (a.Credentials.take i).any (fun q=>q.Public==a.Credentials[i].Public) then r else K):
  (bd (bif (!bF a.Credentials[i].Handle (0:Int) (1000000:Int)) then(some (true)) else(bif (decide ((↑i:Int)>(0:Int))) then(bd (bA (a.Credentials) (IntKind.i64.wrap ((↑i:Int)-(1:Int)))) fun z5=>bif (decide (z5.Handle≥a.Credentials[i].Handle)) then(some (true)) else(bd (some (gG a.Credentials[i].Public)) fun z6=>bif (z6==(0:Int)) then(some (true)) else(some (!bF a.Credentials[i].Counter (0:Int) (1000000:Int))))) else(bd (some (gG a.Credentials[i].Public)) fun z5=>bif (z5==(0:Int)) then(some (true)) else(some (!bF a.Credentials[i].Counter (0:Int) (1000000:Int)))))) fun z4=>bif z4 then r else X)=bif xN a i a.Credentials[i] then r else K:=by
 rw[hX];unfold xN
 by_cases h0:0<i
 ·rw[Xx h0 hi h,show decide ((i:Int)>0)=true by simpa using h0,decide_eq_true h0]
  simp only[bd_s]
  cases bF a.Credentials[i].Handle 0 1000000<;>cases decide ((a.Credentials.getD (i-1) default).Handle≥a.Credentials[i].Handle)<;>cases(gG a.Credentials[i].Public==0)<;>cases bF a.Credentials[i].Counter 0 1000000<;>cases(a.Credentials.take i).any (fun q=>q.Public==a.Credentials[i].Public)<;>rfl
 ·rw[show decide ((i:Int)>0)=false by simpa using h0,decide_eq_false h0]
  simp only[bd_s]
  cases bF a.Credentials[i].Handle 0 1000000<;>cases(gG a.Credentials[i].Public==0)<;>cases bF a.Credentials[i].Counter 0 1000000<;>cases(a.Credentials.take i).any (fun q=>q.Public==a.Credentials[i].Public)<;>rfl
theorem Gi (a:D.aAF)(h:a.sz≤34359738368):pV a=some (aY a):=by
 simp only[D.aAF.sz] at h
 unfold pV aY
 rw[kU (l:=a.Credentials) (xN a) (.inl false) (.inr ()) (by omega) (fun rec i hi=>by
  simp only[dQ hi,cond_true,aM hi,bd_s]
  rw[aTb a.Credentials a.Credentials[i].Public i (by omega) h (fun rec j hj=>by simp only[dQ hj,cond_true,aM (show j<a.Credentials.length by omega),bd_s]) (fun rec=>by simp only[dS,cond_false])]
  have:=bBm a h i hi (X:=nx (some (bif (a.Credentials.take i).any (fun q=>q.Public==a.Credentials[i].Public) then Sum.inl (Sum.inl false) else Sum.inr PUnit.unit)) fun _=>rec (i+1)) (r:=some (.inl false)) (K:=rec (i+1)) (by cases(a.Credentials.take i).any _<;>rfl)
  rw[←this]
  simp only[bd_s]
  generalize(bif !bF a.Credentials[i].Handle 0 1000000 then _ else _:Option Bool)=q
  cases q with
  |none=>rfl
  |some b=>cases b<;>rfl) (fun rec=>by simp only[dS,cond_false])]
 rw[show decide ((a.Credentials.length:Int)≤8)=decide (a.Credentials.length≤8) from decide_eq_decide.2 (by omega)]
 cases bF a.Id 0 1000000<;>cases bF a.Minimum 1 3<;>cases decide (a.Credentials.length≤8)<;>cases gB (xN a) 0 a.Credentials<;>rfl
theorem qW (s:ByteArray)(hs:s.size≤34359738368):∀(n f i st:Nat) (acc:List ByteArray),s.size-i=n→n+1<f→st≤i→i≤s.size→acc.length≤i→bT f (fun rec1 (i1:(List ByteArray×Int×Int))=>bif (decide (i1.2.2≤(↑s.size:Int))) then(bd (bd (bif (i1.2.2==(↑s.size:Int)) then(some (true)) else(bd (bA (bY s) (i1.2.2)) fun z4=>some (z4==(46:Int)))) fun z3=>bif z3 then(gd (tL s i1.2.1 i1.2.2) (gd (aS i1.1 [s.extract i1.2.1.toNat i1.2.2.toNat]) (some ((i1.1++[s.extract i1.2.1.toNat i1.2.2.toNat],IntKind.i64.wrap (i1.2.2+(1:Int))))))) else(some (i1.1,i1.2.1))) fun(z2:List ByteArray×Int)=>rec1 ((z2.1,z2.2,IntKind.i64.wrap (i1.2.2+(1:Int))))) else(some (i1.1))) (acc,(st:Int),(i:Int))=some (acc++(nX ((s.data.toList.drop st).take (i-st)) (s.data.toList.drop i)).map fun l=>(⟨l.toArray⟩:ByteArray))
 |n,f+1,i,st,acc,hn,hf,h1,h2,h3=>by
  rw[gU]
  have e0:decide ((i:Int)≤(s.size:Int))=true:=by simpa using(show(i:Int)≤(s.size:Int) by omega)
  have es:tL s (st:Int) (i:Int):=⟨by omega,by omega,by omega⟩
  have ea:aS acc ([s.extract (st:Int).toNat (i:Int).toNat]:List ByteArray):=by unfold aS;simp;omega
  have ew:IntKind.i64.wrap ((i:Int)+1)=((i+1:Nat):Int):=by rw[aG (by omega) (by omega)];omega
  simp only[e0,cond_true]
  rcases Nat.lt_or_ge i s.size with hlt|hge
  ·have e1:((i:Int)==(s.size:Int))=false:=by simp;omega
   have hd:s.data.toList.drop i=s.data.toList[i]'hlt::s.data.toList.drop (i+1):=(List.drop_eq_getElem_cons hlt)
   have hb:(bY s)[i]'(by rw[qN];exact hlt)=((s.data.toList[i]'hlt).toNat:Int):=by simp[bY]
   have hq:(((s.data.toList[i]'hlt).toNat:Int)==46)=(s.data.toList[i]'hlt==46):=by
    rw[Bool.eq_iff_iff];simp only[beq_iff_eq]
    constructor
    ·intro q;apply UInt8.toNat_inj.1;show _=46;omega
    ·intro q;rw[q];rfl
   rw[e1,cond_false,bDd hlt,bd_s,bd_s,hb,hq,hd,nX]
   cases hc:(s.data.toList[i]'hlt==46) with
   |true=>
    rw[cond_true,aB es,aB ea,bd_s]
    dsimp only
    rw[ew,cond_true,qW s hs (n-1) f (i+1) (i+1) _ (by omega) (by omega) (Nat.le_refl _) (by omega) (by simp;omega),Int.toNat_natCast,Int.toNat_natCast,ext_list]
    simp
   |false=>
    rw[cond_false,bd_s]
    dsimp only
    rw[ew,cond_false,qW s hs (n-1) f (i+1) st _ (by omega) (by omega) (by omega) (by omega) (by omega)]
    have:(s.data.toList.drop st).take (i+1-st)=(s.data.toList.drop st).take (i-st)++[s.data.toList[i]'hlt]:=by
     rw[show i+1-st=(i-st)+1 by omega,List.take_add_one,List.getElem?_drop,show st+(i-st)=i by omega,List.getElem?_eq_getElem hlt];rfl
    rw[this]
  ·have e1:((i:Int)==(s.size:Int))=true:=by simp;omega
   obtain⟨f,rfl⟩:∃g,f=g+1:=⟨f-1,by omega⟩
   have hz:s.data.toList.length≤i:=by have:s.data.toList.length=s.size:=rfl;omega
   have e2:decide (((i+1:Nat):Int)≤(s.size:Int))=false:=by simp;omega
   rw[e1,cond_true,bd_s,cond_true,aB es,aB ea,bd_s,gU]
   dsimp only
   rw[ew]
   simp only[e2,cond_false]
   rw[List.drop_eq_nil_of_le hz,nX,Int.toNat_natCast,Int.toNat_natCast,ext_list];rfl
theorem aCg (s:ByteArray)(h:s.size≤34359738368):Fb s=some (dR s):=by
 unfold Fb
 have hf:=gY
 have:=qW s h s.size FUEL 0 0 [] rfl (by omega) (Nat.le_refl _) (Nat.zero_le _) (Nat.le_refl _)
 rw[show(0:Int)=((0:Nat):Int) from rfl]
 refine(congrArg (fun x=>bd x some) this).trans ?_
 simp[dR]
theorem aG3 (s:ByteArray)(h:s.size≤34359738368):Jr s=some (Ak s):=by
 unfold Jr Ak
 have hb:=qN s
 rw[mU (l:=bY s) (fun b=> !aNs b) (.inl false) (.inr ()) (by omega) (fun rec i hi=>by
  have hi':i<s.size:=by omega
  simp only[dQ hi',cond_true,bDd hi',bd_s]
  generalize(bY s)[i]'_=b
  unfold aNs bF
  have c1:decide (b≥97)=decide (97≤b):=rfl
  have c2:decide (b≥48)=decide (48≤b):=rfl
  rw[c1,c2]
  cases decide (97≤b)<;>cases decide (b≤122)<;>cases decide (48≤b)<;>cases decide (b≤57)<;>cases(b==45)<;>rfl) (fun rec=>by simp only[hb,dS,cond_false])]
 have e:bF (s.size:Int) 1 20=(decide (1≤s.size)&&decide (s.size≤20)):=by unfold bF;congr 1<;>exact decide_eq_decide.2 (by omega)
 rw[e]
 by_cases h0:0<s.size
 ·rw[show(0:Int)=((0:Nat):Int) from rfl,bDd h0,aG (by omega) (by omega),show(s.size:Int)-1=((s.size-1:Nat):Int) by omega,bDd (show s.size-1<s.size by omega)]
  simp only[bd_s,bne,List.getD,List.getElem?_eq_getElem (show 0<(bY s).length by rw[qN];exact h0),List.getElem?_eq_getElem (show s.size-1<(bY s).length by rw[qN];omega),Option.getD_some]
  cases((bY s)[0]'_==45)<;>cases((bY s)[s.size-1]'_==45)<;>cases decide (1≤s.size)<;>cases decide (s.size≤20)<;>cases(bY s).any _<;>rfl
 ·rw[show decide (1≤s.size)=false from decide_eq_false (by omega)]
  cases(bY s).any _<;>rfl
theorem aJl (s:ByteArray)(h:s.size≤34359738368):Rt s=some (jC s):=by
 unfold Rt jC
 have hl:=aPs s
 simp only[aB h,bd_s]
 rw[mU (l:=dR s) (fun l=> !Ak l) (.inl false) (.inr ()) (by omega) (fun rec i hi=>by
  have hz:(dR s)[i].size≤34359738368:=Nat.le_trans (aNt s _ (List.getElem_mem _)) h
  simp only[dQ hi,cond_true,aM hi,bd_s,aB hz]) (fun rec=>by simp only[dS,cond_false])]
 have e':decide ((s.size:Int)≤60)=decide (s.size≤60):=decide_eq_decide.2 (by omega)
 rw[e']
 cases decide (s.size≤60)<;>cases(dR s).any _<;>rfl
theorem aG4 (n:ByteArray)(seed:Int)(h:n.size≤34359738368):Js n seed=some (eY n seed):=by
 unfold Js eY mW
 have e:decide (((dR n).length:Int)<2)= !decide (2≤(dR n).length):=by rw[←decide_not];exact decide_eq_decide.2 (by omega)
 simp only[aB h,bd_s,e]
 cases jC n<;>cases decide (2≤(dR n).length)<;>cases bM seed<;>rfl
theorem Ue (s:D.Site)(h:s.sz≤34359738368):wC s=some (cZ s):=by
 simp only[D.Site.sz] at h
 unfold wC cZ
 rw[kU (l:=s.Accounts) (M5 s.Accounts) (.inl false) (.inr ()) (by omega) (fun rec i hi=>by
  have hz:=mR (f:=D.aAF.sz) hi
  simp only[dQ hi,cond_true,aM hi,bd_s,aB (show s.Accounts[i].sz≤34359738368 by omega)]
  unfold M5
  by_cases h0:0<i
  ·rw[Xx h0 hi (by omega),show decide ((i:Int)>0)=true by simpa using h0,decide_eq_true h0]
   simp only[bd_s]
   cases aY s.Accounts[i]<;>cases decide ((s.Accounts.getD (i-1) default).Id≥s.Accounts[i].Id)<;>rfl
  ·rw[show decide ((i:Int)>0)=false by simpa using h0,decide_eq_false h0]
   cases aY s.Accounts[i]<;>rfl) (fun rec=>by simp only[dS,cond_false])]
 rw[show decide ((s.Accounts.length:Int)≤8)=decide (s.Accounts.length≤8) from decide_eq_decide.2 (by omega)]
 have e3:(!((eY s.Name s.Book.Seed).Name.toList==(⟨#[]⟩:ByteArray).toList))=mW s.Name s.Book.Seed:=by rw[bJ1,aSa,Bool.not_not]
 simp only[aB (show s.Name.size≤34359738368 by omega),aB (show s.Book.sz≤34359738368 by simp only[D.aAB.sz];omega),bd_s,e3]
 cases mW s.Name s.Book.Seed<;>cases decide (s.Accounts.length≤8)<;>cases eG s.Book<;>cases gB (M5 s.Accounts) 0 s.Accounts<;>rfl
theorem aG5 (l:List D.aAC)(e:D.aAC)(h:l.length≤34359738368):Jn l e=some (nW l e):=by
 unfold Jn nW
 have hd:=iT l
 rw[mU (l:=l) (fun q=>q.Kind==2&&q.Device==e.Device) (.inl false) (.inr ()) (by omega) (fun rec i hi=>by
  simp only[dQ hi,cond_true,aM hi,bd_s,rF];cases(l[i].Kind==2)<;>rfl) (fun rec=>by simp only[dS,cond_false])]
 rw[show(l.any fun q=>q.Kind==2&&q.Device==e.Device)=rU l e.Device from rfl]
 simp only[aB h,aB (show(aH l).length≤1099511627776 by omega),aB (show([dY e]:List Int).length≤34359738300 by simp),bd_s,bne]
 cases(e.Index==(l.length:Int))<;>cases(e.Previous==mI l)<;>cases iZ (aH l) e.By<;>cases((l.length:Int)==0)<;>cases(e.By==e.Device)<;>cases lI e.By [dY e] e.Signature<;>cases(e.Kind==2)<;>cases iZ (aH l) e.Device<;>cases rU l e.Device<;>cases(e.Kind==1)<;>rfl
theorem S9 (l:List D.aAC)(h:l.length≤34359738368):Be l=some (bE l):=by
 unfold Be bE
 rw[kU (l:=l) (fun i e=> !nW (l.take i) e) (.inl false) (.inr ()) (by omega) (fun rec i hi=>by
  simp only[dQ hi,cond_true,aM hi,bd_s,bC8]
  rw[aB (by unfold nT;simp;omega),aB (by rw[List.length_take];omega)];rfl) (fun rec=>by simp only[dS,cond_false])]
 cases gB (fun i e=> !nW (l.take i) e) 0 l<;>simp
theorem Pb (w:D.World)(h:w.sz≤34359738368):uA w=some (aN w):=by
 simp only[D.World.sz] at h
 unfold uA aN
 rw[kU (l:=w.Sites) nY (.inl false) (.inr ()) (by omega) (fun rec i hi=>by
  have hz:=mR (f:=D.Site.sz) hi
  simp only[dQ hi,cond_true,aM hi,bd_s,aB (show w.Sites[i].sz≤34359738368 by omega)]
  unfold nY
  cases cZ w.Sites[i]<;>cases(w.Sites[i].Name.toList==(aA (i:Int)).toList)<;>rfl) (fun rec=>by simp only[dS,cond_false])]
 simp only[aB (show w.Mail.sz≤34359738368 by simp only[D.aAP.sz];omega),aB (show w.aAE.Log.length≤34359738368 by omega),bne,bd_s]
 cases gB nY 0 w.Sites<;>cases bF w.Now 0 999900<;>cases bF (w.Devices.length:Int) 1 6<;>cases((w.Stolen.length:Int)==(w.Devices.length:Int))<;>cases((w.Sites.length:Int)==2)<;>cases fO w.Mail<;>cases bE w.aAE.Log<;>cases bM w.Seed<;>rfl
end
end Go.VK
