import Derived.Test.YthecajfmhdediaaGreatDoorXhPs
import Derived.Test.YthecajfmhdediaaGreatDoorXhQ
/- Printed by wip/tools: models, walks, proofs. -/
set_option linter.unusedVariables false
set_option linter.unusedSimpArgs false
set_option maxRecDepth 100000
set_option maxHeartbeats 4000000
namespace Go.VK
open Go.RowKit Go.Proofs
noncomputable section
open EV (bX)
theorem aBh (s n:Int):zB s n=some (eD s n):=by unfold zB;rw[aD (by simp)];rfl
theorem aBi (s n:Int):zS s n=some (eD s n):=by unfold zS;rw[aD (by simp)];rfl
theorem aF5 (s:D.aAI):aEi s=some (iC s):=rfl
theorem aF6 (s:D.aAI):aEj s=some (iC s):=rfl
theorem H8 (s:D.aAI)(n:ByteArray)(k:Int)(h:n.size≤34359738300):wE s n k=some (qJ s n k):=by unfold wE;rw[aD h,bd_s,aD (by simp)];rfl
theorem H9 (s:D.aAI)(n:ByteArray)(k:Int)(h:n.size≤34359738300):wV s n k=some (qJ s n k):=by unfold wV;rw[aD h,bd_s,aD (by simp)];rfl
theorem aBj (s:D.aAI)(n:ByteArray)(k:Int)(h:n.size≤34359738300):zD s n k=some (iB s n k):=by unfold zD;rw[aD h];rfl
theorem aBk (s:D.aAI)(n:ByteArray)(k:Int)(h:n.size≤34359738300):zW s n k=some (iB s n k):=by unfold zW;rw[aD h];rfl
theorem Vk (s:D.aAI)(l:List Int)(h:l.length≤34359738300):tQ s l=some (lD s l):=by unfold tQ;rw[aD h];rfl
theorem Vl (s:D.aAI)(l:List Int)(h:l.length≤34359738300):uB s l=some (lD s l):=by unfold uB;rw[aD (by simp),bd_s,aD h];rfl
theorem aBl (e:D.aAE)(d:Int)(h:e.Boxes.length≤34359738368):zC e d=some (kP e d):=by
 unfold zC
 rw[fJ (l:=e.Boxes) (fun n b=>bif b.To==d then IntKind.i64.wrap (n+1) else n) (fun _ _=>True) (fun s=>some s) (by omega) trivial (fun _ _ _ _=>trivial) (fun rec i s hi _=>by
  simp only[bH hi,cond_true,aH hi,bd_s,jZ]) (fun rec s _=>by simp only[bJ,cond_false])]
 rfl
theorem aBm (e:D.aAE)(d:Int)(h:e.Boxes.length≤34359738368):zU e d=some (kP e d):=by
 unfold zU
 rw[fJ (l:=e.Boxes) (fun n b=>bif b.To==d then IntKind.i64.wrap (n+1) else n) (fun _ _=>True) (fun s=>some s) (by omega) trivial (fun _ _ _ _=>trivial) (fun rec i s hi _=>by
  simp only[bH hi,cond_true,aH hi,bd_s,jZ]) (fun rec s _=>by simp only[bJ,cond_false])]
 rfl
theorem I1 (l:List D.aAB)(k d:Int)(s:D.aAI)(h:l.length≤34359738300):wD l k d s=some (kN l k d s):=by
 have h1:l.length≤34359738368:=by omega
 have e:∀x:D.aAB,gd ((l++[x]).length≤34359738368) (some (dH (l++[x])))=some (dH (l++[x])):=fun x=>aD (by simp;omega)
 have e1:∀x:Int,gd ([x].length≤34359738300) (some (lD s [x]))=some (lD s [x]):=fun x=>aD (by simp)
 unfold wD kN bHl bI9
 simp only[aD h1,bd_s,e1,eT h1,e]
 generalize dH (l++_)=q
 cases decide ((l.length:Int)>0)<;>cases dH l<;>cases q<;>rfl
theorem I4 (l:List D.aAB)(k d:Int)(s:D.aAI)(h:l.length≤34359738300):wU l k d s=some (kN l k d s):=by
 have h1:l.length≤34359738368:=by omega
 have e:∀x:D.aAB,gd ((l++[x]).length≤34359738368) (some (dH (l++[x])))=some (dH (l++[x])):=fun x=>aD (by simp;omega)
 have e1:∀x:Int,gd ([x].length≤34359738300) (some (lD s [x]))=some (lD s [x]):=fun x=>aD (by simp)
 unfold wU kN bHl bI9
 simp only[aD h1,bd_s,e1,eT h1,e]
 generalize dH (l++_)=q
 cases decide ((l.length:Int)>0)<;>cases dH l<;>cases q<;>rfl
theorem aQv (p e:Int)(d:List Int)(h:bA d):(bd (bif fV p==0 then some true else bif !dY e then some true else some (decide ((d.length:Int)>200))) fun z0=>bif z0 then some (D.Box.mk 0 0 [] 0,false) else bd (gd (bA d) (some (oW (fU (fV p) e) d))) fun z1=>bd (gd (z1.length≤34359738200) (some (Ub (fU (fV p) e) (D.Box.mk p e z1 0)))) fun z2=>some (D.Box.mk p e z1 z2,true))=some (gV p e d):=by
 unfold gV aOr
 rw[sS,sS,bd_s]
 cases hc:(fV p==0||(!dY e||decide ((d.length:Int)>200))) with
 |true=>rfl
 |false=>
  have hl:d.length≤200:=by simp only[Bool.or_eq_false_iff,decide_eq_false_iff_not] at hc;omega
  rw[cond_false,cond_false,aD h,bd_s,aD (show(oW (fU (fV p) e) d).length≤34359738200 by rw[Z9];omega),bd_s]
theorem aQw (p e:Int)(d:List Int)(h:bA d):aO2 p e d=some (gV p e d):=aQv p e d h
theorem aQx (p e:Int)(d:List Int)(h:bA d):aO5 p e d=some (gV p e d):=aQv p e d h
theorem aF7 (l:List Int)(e:Int)(d:List Int)(h:l.length≤34359738300∧bA d):Co l e d=some (jD e d 0 l):=by
 obtain⟨h1,h2⟩:=h
 unfold Co
 rw[aEg (e:=e) (d:=d) (l:=l) (x:=(([],false):List D.Box×Bool)) (fun rec i s hi hs=>by
  simp only[bH hi,cond_true,aH hi,bd_s,aD h2,eT (show s.length≤34359738368 by omega)]) (fun rec s=>by simp only[bJ,cond_false]) l.length 0 FUEL [] (by omega) (by have:=gN;omega) (by simp),List.drop_zero]
 cases hs:(jD e d 0 l).2 with
 |true=>rw[cond_true,nx_r,List.nil_append,←hs]
 |false=>rw[cond_false,bAh hs];rfl
theorem aF8 (l:List Int)(e:Int)(d:List Int)(h:l.length≤34359738300∧bA d):Dj l e d=some (jD e d 0 l):=by
 obtain⟨h1,h2⟩:=h
 unfold Dj
 rw[aEg (e:=e) (d:=d) (l:=l) (x:=(([],false):List D.Box×Bool)) (fun rec i s hi hs=>by
  simp only[bH hi,cond_true,aH hi,bd_s,aD h2,eT (show s.length≤34359738368 by omega)]) (fun rec s=>by simp only[bJ,cond_false]) l.length 0 FUEL [] (by omega) (by have:=gN;omega) (by simp),List.drop_zero]
 cases hs:(jD e d 0 l).2 with
 |true=>rw[cond_true,nx_r,List.nil_append,←hs]
 |false=>rw[cond_false,bAh hs];rfl
theorem bDv (a b:Int):bA (kT [a,b]):=aOo (by have:=bAa a b;omega) (aOp _)
theorem Lj (l:List D.aAB)(k e:Int)(h:l.length≤34359738300):pJ l k e=some (jE l k e):=by
 have hd:=gQ l
 unfold pJ jE
 simp only[aD (show l.length≤34359738368 by omega),bd_s,aD (show[bR l,k].length≤5000000000 by simp),aD (show(aL l).length≤34359738300∧bA (kT [bR l,k]) from⟨by omega,bDv _ _⟩)]
 cases dH l<;>cases dY k<;>cases(jD e (kT [bR l,k]) 0 (aL l)).2<;>rfl
theorem Ll (l:List D.aAB)(k e:Int)(h:l.length≤34359738300):pR l k e=some (jE l k e):=by
 have hd:=gQ l
 unfold pR jE
 simp only[aD (show l.length≤34359738368 by omega),bd_s,aD (show[bR l,k].length≤5000000000 by simp),aD (show(aL l).length≤34359738300∧bA (kT [bR l,k]) from⟨by omega,bDv _ _⟩)]
 cases dH l<;>cases dY k<;>cases(jD e (kT [bR l,k]) 0 (aL l)).2<;>rfl
theorem bDw (e:D.aAE)(l:List Int):(l.all fun d=>kP e d==1)= !(l.any fun d=>kP e d !=1):=by
 induction l with
 |nil=>rfl
 |cons x l ih=>simp only[List.all_cons,List.any_cons,ih,bne];cases(kP e x==1)<;>simp
theorem aF9 (e:D.aAE)(l:List D.aAB)(h:e.Boxes.length≤34359738368∧l.length≤34359738368):Cq e l=some (lS e l):=by
 obtain⟨h1,h2⟩:=h
 have hd:=gQ l
 unfold Cq lS
 rw[aD h2,bd_s,mP (l:=aL l) (fun d=>kP e d !=1) (.inl false) (.inr PUnit.unit) (by omega) (fun rec i hi=>by
  simp only[bH hi,cond_true,aH hi,bd_s,aD h1]) (fun rec=>by simp only[bJ,cond_false]),bDw]
 simp only[aD h2,bd_s]
 cases(aL l).any (fun d=>kP e d !=1)<;>cases(e.Epoch==bR l)<;>cases((e.Boxes.length:Int)==((aL l).length:Int))<;>rfl
theorem aGa (e:D.aAE)(l:List D.aAB)(h:e.Boxes.length≤34359738368∧l.length≤34359738368):Dk e l=some (lS e l):=by
 obtain⟨h1,h2⟩:=h
 have hd:=gQ l
 unfold Dk lS
 rw[aD h2,bd_s,aD h2,bd_s,mP (l:=aL l) (fun d=>kP e d !=1) (.inl false) (.inr PUnit.unit) (by omega) (fun rec i hi=>by
  simp only[bH hi,cond_true,aH hi,bd_s,aD h1]) (fun rec=>by simp only[bJ,cond_false]),bDw]
 simp only[bne]
 cases(aL l).any (fun d=> !(kP e d==1))<;>cases(e.Epoch==bR l)<;>cases((e.Boxes.length:Int)==((aL l).length:Int))<;>rfl
theorem bHt {e:D.aAE}(h:e.sz≤34359738368):e.Boxes.length≤34359738368:=by simp only[D.aAE.sz] at h;omega
theorem aGb (c:D.aAH)(l:List D.aAB)(e:D.aAE)(h:c.sz≤34359738368∧l.length≤34359738368∧e.sz≤34359738368):Cr c l e=some (lF c l e):=by
 obtain⟨h1,h2,h3⟩:=h
 unfold Cr lF
 simp only[aD h1,aD h2,aD h3,bd_s,aD (show e.Boxes.length≤34359738368∧l.length≤34359738368 from⟨bHt h3,h2⟩)]
 cases dH l<;>cases fM l c.Log<;>cases lS e l<;>rfl
theorem aGc (c:D.aAH)(l:List D.aAB)(e:D.aAE)(h:c.sz≤34359738368∧l.length≤34359738368∧e.sz≤34359738368):Dl c l e=some (lF c l e):=by
 obtain⟨h1,h2,h3⟩:=h
 unfold Dl lF
 simp only[aD h1,aD h2,aD h3,bd_s,aD (show e.Boxes.length≤34359738368∧l.length≤34359738368 from⟨bHt h3,h2⟩)]
 cases dH l<;>cases fM l c.Log<;>cases lS e l<;>rfl
theorem I5 (s:D.Site)(i:Int)(h:s.Accounts.length≤34359738368):wF s i=some (bG s i):=by
 unfold wF
 exact Y9 (l:=s.Accounts) (fun a=>a.Id==i) (by omega) (fun rec j hj=>by simp only[bH hj,cond_true,aH hj,bd_s]) (fun rec=>by simp only[bJ,cond_false])
theorem I6 (s:D.Site)(i:Int)(h:s.Accounts.length≤34359738368):wW s i=some (bG s i):=by
 unfold wW
 exact Y9 (l:=s.Accounts) (fun a=>a.Id==i) (by omega) (fun rec j hj=>by simp only[bH hj,cond_true,aH hj,bd_s]) (fun rec=>by simp only[bJ,cond_false])
theorem bJz {l:List D.aAJ}{h p:Int}(hz:l.length≤34359738300){β:Type}(k:List D.aAJ→Option β):gd (kC l ((aEe h l:Nat):Int)) (gd (kC l ((aEe h l:Nat):Int)) (gd (bI [] (List.take (aEe h l) l)) (gd (bI ([]++List.take (aEe h l) l) [D.aAJ.mk h p 0 false]) (gd (bI ([]++List.take (aEe h l) l++[D.aAJ.mk h p 0 false]) (List.drop (aEe h l) l)) (k ([]++List.take (aEe h l) l++[D.aAJ.mk h p 0 false]++List.drop (aEe h l) l))))))=k (aTo l h p):=by
 have hk:aEe h l≤l.length:=aAb
 have h1:kC l ((aEe h l:Nat):Int):=⟨by omega,by omega⟩
 rw[aD h1,aD h1,aD (by unfold bI;simp;omega),aD (by unfold bI;simp;omega),aD (by unfold bI;simp;omega)];rfl
theorem bDx {l:List D.aAJ}{h:Int}(hz:l.length≤34359738300):EV.bX (α:=Int) FUEL (fun rec (i:Int)=>bd (bif decide (i<(l.length:Int)) then(bd (aP l i) fun z=>some (decide (z.Handle<h))) else some false) fun z=>bif z then rec (IntKind.i64.wrap (i+1)) else some i) 0=some ((aEe h l:Nat):Int):=by
 have:=aWg (l:=l) (fun c=>decide (c.Handle<h)) (fun i=>some (i:Int)) (fun i=>(i:Int)) (F:=fun rec (i:Int)=>bd (bif decide (i<(l.length:Int)) then(bd (aP l i) fun z=>some (decide (z.Handle<h))) else some false) fun z=>bif z then rec (IntKind.i64.wrap (i+1)) else some i) (by omega) (fun rec i hi=>by
  simp only[bH hi,cond_true,aH hi,bd_s]
  rw[aR (by omega) (by omega)];rfl) (fun rec=>by simp only[bJ,cond_false,bd_s])
 exact this
theorem bJ0 {a:D.aAG}(hz:a.sz≤34359738300)(h p:Int):(D.aAG.mk a.Id a.Minimum (aTo a.Credentials h p)).sz≤34359738368:=by
 simp only[D.aAG.sz,bAb] at*;omega
theorem Re (a:D.aAG)(h p:Int)(hz:a.sz≤34359738300):rU a h p=some (fZ a h p):=by
 have h1:a.sz≤34359738368:=by omega
 have hc:a.Credentials.length≤34359738300:=hz
 unfold rU fZ
 rw[aD h1,bd_s,bDx hc]
 simp only[aD h1,bd_s,Int.toNat_natCast]
 rw[bJz hc (fun L=>bd (bif !bU a then some true else(bd (gd ((D.aAG.mk a.Id a.Minimum L).sz≤34359738368) (some (bU (D.aAG.mk a.Id a.Minimum L)))) fun z4=>some (!z4))) fun z3=>bif z3 then some (a,false) else some (D.aAG.mk a.Id a.Minimum L,true))]
 simp only[bd_s,aD (bJ0 hz h p)]
 cases bU a<;>cases bU {a with Credentials:=aTo a.Credentials h p}<;>rfl
theorem Rf (a:D.aAG)(h p:Int)(hz:a.sz≤34359738300):rW a h p=some (fZ a h p):=by
 have h1:a.sz≤34359738368:=by omega
 have hc:a.Credentials.length≤34359738300:=hz
 unfold rW fZ
 rw[aD h1,bd_s,bDx hc]
 simp only[aD h1,bd_s,Int.toNat_natCast]
 rw[bJz hc (fun L=>bd (gd ((D.aAG.mk a.Id a.Minimum L).sz≤34359738368) (some (bU (D.aAG.mk a.Id a.Minimum L)))) fun z3=>bif (!z3) then some (a,false) else some (D.aAG.mk a.Id a.Minimum L,true))]
 simp only[bd_s,aD (bJ0 hz h p)]
 cases bU a<;>cases bU {a with Credentials:=aTo a.Credentials h p}<;>rfl
theorem bHu {s:D.Site}{i:Int}(hz:s.sz≤34359738300)(h:decide (bG s i<0)=false):aP s.Accounts (bG s i)=some (s.Accounts.getD (bG s i).toNat default)∧(s.Accounts.getD (bG s i).toNat default).sz≤34359738300∧(bG s i).toNat<s.Accounts.length:=by
 have hr:=aJj (p:=fun a:D.aAG=>a.Id==i) (i:=0) (l:=s.Accounts) h
 have hi:(bG s i).toNat<s.Accounts.length:=by unfold bG;omega
 have h1:=aM3 (f:=D.aAG.sz) hi
 refine⟨aOi (by unfold bG;omega) (by unfold bG;omega),?_,hi⟩
 simp only[D.Site.sz] at hz;omega
theorem bCh {a:D.aAG}{h p:Int}(hn:(fZ a h p).2=false):(fZ a h p).1=a:=by
 unfold fZ at*
 cases hc: !bU a|| !bU {a with Credentials:=aTo a.Credentials h p} with
 |true=>rfl
 |false=>rw[hc] at hn;cases hn
theorem I7 (s:D.Site)(i h p:Int)(hz:s.sz≤34359738300):wG s i h p=some (iD s i h p):=by
 have h1:s.sz≤34359738368:=by omega
 have hl:s.Accounts.length≤34359738368:=by simp only[D.Site.sz] at hz;omega
 unfold wG iD
 simp only[aD h1,aD hl,bd_s]
 rw[sS,bd_s]
 cases hc:(!jC s||decide (bG s i<0)) with
 |true=>rfl
 |false=>
  rw[Bool.or_eq_false_iff] at hc
  obtain⟨e1,e2,e3⟩:=bHu hz hc.2
  simp only[cond_false,e1,bd_s,aD e2]
  cases ha:(fZ (s.Accounts.getD (bG s i).toNat default) h p).2 with
  |true=>rfl
  |false=>rw[bCh ha,bHd e3];rfl
theorem I8 (s:D.Site)(i h p:Int)(hz:s.sz≤34359738300):wX s i h p=some (iD s i h p):=by
 have h1:s.sz≤34359738368:=by omega
 have hl:s.Accounts.length≤34359738368:=by simp only[D.Site.sz] at hz;omega
 unfold wX iD
 simp only[aD h1,aD hl,bd_s]
 rw[sS,bd_s]
 cases hc:(!jC s||decide (bG s i<0)) with
 |true=>rfl
 |false=>
  rw[Bool.or_eq_false_iff] at hc
  obtain⟨e1,e2,e3⟩:=bHu hz hc.2
  simp only[cond_false,e1,bd_s,aD e2]
  cases ha:(fZ (s.Accounts.getD (bG s i).toNat default) h p).2<;>rfl
theorem Tz (i:Int):(aW i).size≤34359738300:=by unfold aW;cases i==0<;>cases i==1<;>decide
theorem aBn (d:D.Device)(h:Int)(rm:Bool)(hz:d.sz≤34359738300):zF d h rm=some (o9 d h rm):=by
 have h1:=Tx d (aW 0) h rm
 unfold zF o9
 rw[aD ⟨by omega,Tz 0⟩,bd_s,show FUEL=FUEL-2+1+1 from by have:=gN;omega]
 have e:∀{β:Type} (k:Option β),gd ((fD d (aW 0) h rm).1.sz≤34359738360∧(aW 1).size≤34359738300) k=k:=fun k=>aD ⟨by omega,Tz 1⟩
 show(bd (bd (gd ((fD d (aW 0) h rm).1.sz≤34359738360∧(aW 1).size≤34359738300) (some (fD (fD d (aW 0) h rm).1 (aW 1) h rm))) fun z3=>some (z3.1.Store.Vendor,z3.1.Store.Serial,z3.1.Store.Seed,z3.1.Store.Counter,z3.1.Log,z3.1.Key,z3.1.Epoch,z3.1.Version,z3.1.aAC.Entries)) fun z0=>some (D.Device.mk (D.aAI.mk z0.1 z0.2.1 z0.2.2.1 z0.2.2.2.1) z0.2.2.2.2.1 z0.2.2.2.2.2.1 z0.2.2.2.2.2.2.1 z0.2.2.2.2.2.2.2.1 (D.aAC.mk z0.2.2.2.2.2.2.2.2)))=_
 rw[e,bd_s,bd_s]
theorem aWq {L:List D.aAM}(h30:30<L.length)(hL:L.length≤34359738301):gd (kC L ((rM L:Nat):Int)) (gd (kC L (IntKind.i64.wrap (((rM L:Nat):Int)+1))) (gd (bI [] (List.take (Int.toNat ((rM L:Nat):Int)) L)) (gd (bI ([]++List.take (Int.toNat ((rM L:Nat):Int)) L) (List.drop (Int.toNat (IntKind.i64.wrap (((rM L:Nat):Int)+1))) L)) (some ([]++List.take (Int.toNat ((rM L:Nat):Int)) L++List.drop (Int.toNat (IntKind.i64.wrap (((rM L:Nat):Int)+1))) L)))))=some (Ik L):=by
 have hs:=bAg (l:=L) (by omega)
 have e:IntKind.i64.wrap (((rM L:Nat):Int)+1)=((rM L+1:Nat):Int):=by rw[aR (by omega) (by omega)];rfl
 rw[e,aD ⟨by omega,by omega⟩,aD ⟨by omega,by omega⟩,aD (by unfold bI;simp;omega),aD (by unfold bI;simp;omega),Int.toNat_natCast,Int.toNat_natCast]
 unfold Ik
 rw[decide_eq_true (show(L.length:Int)>30 by omega)];rfl
theorem bDy (l:List D.aAM)(x:D.aAM)(h:l.length≤34359738300):(D.aAK.mk (Ik (l++[x]))).sz≤34359738368:=by
 have:=aWb (l++[x])
 simp only[List.length_append,List.length_singleton] at this
 simp only[D.aAK.sz];omega
theorem bAu {L:List D.aAM}(h:¬30<L.length):Ik L=L:=by
 unfold Ik
 rw[decide_eq_false (show ¬(L.length:Int)>30 by omega)];rfl
theorem aBo (m:D.aAK)(k a t:Int)(hz:m.sz≤34359738300):zZ m k a t=some (Bn m k a t):=by
 have h1:m.sz≤34359738368:=by omega
 have hm:m.Notices.length≤34359738300:=hz
 have hL:(m.Notices++[(⟨k,a,t,false⟩:D.aAM)]).length=m.Notices.length+1:=by simp
 have hn:=bDy m.Notices ⟨k,a,t,false⟩ hm
 unfold zZ Bn
 simp only[aD h1,bd_s,eT (show m.Notices.length≤34359738368 by omega)]
 generalize hg:m.Notices++[(⟨k,a,t,false⟩:D.aAM)]=L at*
 by_cases h30:30<L.length
 ·rw[decide_eq_true (show(L.length:Int)>30 by omega),bJd (l:=L) (fun i=>some i) (fun i=>((0:Int),i)) (by omega) (fun rec i hi=>by simp only[bH hi,cond_true,aH hi,bd_s]) (fun rec=>by simp only[bJ,cond_false]),cond_true,bd_s,aWq h30 (by omega),bd_s,aD hn,bd_s]
  cases fB m<;>cases fB ⟨Ik L⟩<;>rfl
 ·rw[decide_eq_false (show ¬(L.length:Int)>30 by omega),cond_false,bd_s]
  rw[bAu h30] at hn ⊢
  rw[aD hn,bd_s]
  cases fB m<;>cases fB ⟨L⟩<;>rfl
theorem aBp (m:D.aAK)(k a t:Int)(hz:m.sz≤34359738300):zI m k a t=some (Bn m k a t):=by
 have h1:m.sz≤34359738368:=by omega
 have hm:m.Notices.length≤34359738300:=hz
 have hL:(m.Notices++[(⟨k,a,t,false⟩:D.aAM)]).length=m.Notices.length+1:=by simp
 have hn:=bDy m.Notices ⟨k,a,t,false⟩ hm
 unfold zI Bn
 rw[aD (by unfold bI;simp;omega),List.nil_append,eT (show m.Notices.length≤34359738368 by omega)]
 simp only[aD h1,bd_s]
 generalize hg:m.Notices++[(⟨k,a,t,false⟩:D.aAM)]=L at*
 by_cases h30:30<L.length
 ·have e:=aWh (l:=L) (F:=fun rec (i2:Int×Int)=>bif (decide (i2.2≥(0:Int))) then(bd (bd (aP L (i2.2)) fun z4=>bif (z4.Seen) then(some (i2.2)) else(some (i2.1))) fun z3=>rec ((z3,IntKind.i64.wrap (i2.2-(1:Int))))) else(some (i2.1))) (fun rec q i hi=>by
   simp only[decide_eq_true (show((i:Int)≥0) by omega),cond_true,aH hi,bd_s,jZ,aR (show(-9223372036854775808:Int)≤(i:Int)-1 by omega) (show(i:Int)-1≤9223372036854775807 by omega)]) (fun rec q=>rfl) L.length FUEL 0 (Nat.le_refl _) (by have:=gN;omega)
  rw[List.take_length] at e
  rw[decide_eq_true (show(L.length:Int)>30 by omega),cond_true,aR (by omega) (by omega),e,←bAf,bd_s,aWq h30 (by omega),bd_s,aD hn,bd_s]
  cases fB m<;>cases fB ⟨Ik L⟩<;>rfl
 ·rw[decide_eq_false (show ¬(L.length:Int)>30 by omega),cond_false,bd_s]
  rw[bAu h30] at hn ⊢
  rw[aD hn,bd_s]
  cases fB m<;>cases fB ⟨L⟩<;>rfl
theorem bHv {w:D.World}{d:Int}(hw:dN w=true)(hd:bK w d=true):aP w.Stolen d=some (Gd w d):=by
 have hl:w.Stolen.length=w.Devices.length:=by
  simp only[dN,Bool.and_eq_true,beq_iff_eq] at hw;omega
 simp only[bK,Bool.and_eq_true,decide_eq_true_eq] at hd
 rw[uO hd.1 (by omega)]
 simp[Gd,List.getD,List.getElem?_eq_getElem (show d.toNat<w.Stolen.length by omega)]
theorem bAv {τ:Type}{x:τ}{st:D.aAI}{n:Int}{N:Nat}{F:(Nat×List D.Site→Option (τ⊕List D.Site))→Nat×List D.Site→Option (τ⊕List D.Site)}
  (hF:∀rec (p:List D.Site) (s:D.Site) (r:List D.Site),p.length+r.length+1=N→s.sz≤34359738300→F rec (p.length,p++s::r)=bif !(iD s 1 n (iB st (aW (p.length:Int)) n)).2 then some (.inl x) else rec (p.length+1,p++(iD s 1 n (iB st (aW (p.length:Int)) n)).1::r)) (hE:∀rec S,F rec (N,S)=some (.inr S)):
  ∀(r p:List D.Site) (m:Nat),p.length+r.length=N→r.length<m→(∀s∈r,s.sz≤34359738300)→EV.bX m F (p.length,p++r)=some (bif (iQ st n p.length r).2 then .inr (p++(iQ st n p.length r).1) else .inl x)
 |[],p,m+1,h,_,_=>by
  simp only[List.length_nil,Nat.add_zero] at h
  rw[iW,h,hE];simp[iQ]
 |s::r,p,m+1,h,hm,hs=>by
  simp only[List.length_cons] at h hm
  rw[iW,hF _ p s r (by omega) (hs s (by simp)),iQ]
  cases hr:(iD s 1 n (iB st (aW (p.length:Int)) n)).2 with
  |false=>rfl
  |true=>
   have:=bAv hF hE r (p++[(iD s 1 n (iB st (aW (p.length:Int)) n)).1]) m (by simp;omega) (by omega) (fun y hy=>hs y (by simp[hy]))
   simp only[List.length_append,List.length_singleton,List.append_assoc,List.cons_append,List.nil_append] at this
   rw[Bool.not_true,cond_false,this]
   cases(iQ st n (p.length+1) r).2<;>rfl
theorem aWr {τ:Type}{x:τ}{st:D.aAI}{n:Int}{N:Nat}{l:List D.Site}(hN:l.length=N)(hN2:N≤100)(hs:∀s∈l,s.sz≤34359738300){F:(Nat×List D.Site→Option (τ⊕List D.Site))→Nat×List D.Site→Option (τ⊕List D.Site)}
  (hF:∀rec (p:List D.Site) (s:D.Site) (r:List D.Site),p.length+r.length+1=N→s.sz≤34359738300→F rec (p.length,p++s::r)=bif !(iD s 1 n (iB st (aW (p.length:Int)) n)).2 then some (.inl x) else rec (p.length+1,p++(iD s 1 n (iB st (aW (p.length:Int)) n)).1::r)) (hE:∀rec S,F rec (N,S)=some (.inr S)):EV.bX FUEL F (0,l)=some (bif (iQ st n 0 l).2 then .inr (iQ st n 0 l).1 else .inl x):=by
 have:=bAv hF hE l [] FUEL (by simp;omega) (by have:=gN;omega) hs
 simpa using this
theorem bDz {p r:List D.Site}{s:D.Site}:aP (p++s::r) ((p.length:Nat):Int)=some s:=by
 rw[aH (by simp)];simp
theorem bAw {p r:List D.Site}{s y:D.Site}:(p++s::r).set (Int.toNat ((p.length:Nat):Int)) y=p++y::r:=by
 rw[Int.toNat_natCast];simp
theorem bJf {D0:List D.Device}{d:D.Device}{b n:Int}(hb:0≤b)(hi:b.toNat<D0.length)(hd:D0[b.toNat]=d)(hz:d.sz≤34359738300):EV.bX (α:=List D.Device) FUEL (fun rec (i:Nat×List D.Device)=>bif decide ((i.1:Int)<2) then(bd (aP i.2 b) fun z11=>bd (gd (z11.sz≤34359738360∧(aW (i.1:Int)).size≤34359738300) (some (fD z11 (aW (i.1:Int)) n false))) fun z12=>bd (aP i.2 b) fun z13=>rec (i.1+1,i.2.set b.toNat z12.1)) else some i.2) (0,D0)=some (D0.set b.toNat (o9 d n false)):=by
 have h1:=Tx d (aW 0) n false
 have e1:aP D0 b=some d:=by rw[uO hb (by omega),hd]
 have e2:aP (D0.set b.toNat (fD d (aW 0) n false).1) b=some (fD d (aW 0) n false).1:=by rw[uO hb (by simp;omega)];simp
 rw[show FUEL=FUEL-3+1+1+1 from by have:=gN;omega,iW]
 show(bd (aP D0 b) fun z11=>bd (gd (z11.sz≤34359738360∧(aW 0).size≤34359738300) (some (fD z11 (aW 0) n false))) fun z12=>bd (aP D0 b) fun z13=>EV.bX (FUEL-3+1+1) _ (1,D0.set b.toNat z12.1))=_
 rw[e1,bd_s,aD ⟨by omega,Tz 0⟩,bd_s,bd_s,iW]
 show(bd (aP (D0.set b.toNat (fD d (aW 0) n false).1) b) fun z11=>bd (gd (z11.sz≤34359738360∧(aW 1).size≤34359738300) (some (fD z11 (aW 1) n false))) fun z12=>bd (aP (D0.set b.toNat (fD d (aW 0) n false).1) b) fun z13=>EV.bX (FUEL-3+1) _ (2,(D0.set b.toNat (fD d (aW 0) n false).1).set b.toNat z12.1))=_
 rw[e2,bd_s,aD ⟨by omega,Tz 1⟩,bd_s,bd_s,iW,List.set_set]
 rfl
def Af (w:D.World)(b:Int):D.World×Bool:=bif (add1 w b).2&&((aOs w b).2&&((sN w b).2&&(Ko w b).2==0)) then(bAd (Ko w b).1 2,true) else(w,false)
theorem aWs {w:D.World}{b:Int}(h1:dN w=true)(h2:bK w b=true)(h3:Gd w b=false)(h4:decide ((w.Devices.length:Int)≥6)=false)(h5:((aN w b 0).2==0)=true):kQ w b=Af w b:=by
 unfold kQ bAe Af
 rw[h1,h2,h3,h4,h5];rfl
theorem qL {w:D.World}{b:Int}(h:(add1 w b).2=false):Af w b=(w,false):=by unfold Af;rw[h];rfl
theorem nI {w:D.World}{b:Int}(h:(aOs w b).2=false∨(sN w b).2=false∨((Ko w b).2==0)=false):Af w b=(w,false):=by
 unfold Af
 rcases h with h|h|h<;>rw[h]<;>simp
theorem aJp {w:D.World}{b:Int}(h1:(add1 w b).2=true)(h2:(aOs w b).2=true)(h3:(sN w b).2=true)(h4:((Ko w b).2==0)=true):Af w b=(bAd (Ko w b).1 2,true):=by
 unfold Af;rw[h1,h2,h3,h4];rfl
theorem bD0 {w:D.World}{b:Int}(hz:w.sz≤100000000)(h0:((aN w b 0).2==0)=true)(h3:(sN w b).2=true):(appW (sN w b).1 (iC (eD w.Seed (w.Devices.length:Int)))).sz≤34359738100∧((Ko w b).2==0→(Ko w b).1.Mail.sz≤34359738300):=by
 obtain⟨g1,g2⟩:=aXw h0 h3
 have g4:(iC (eD w.Seed (w.Devices.length:Int))).sz=0:=rfl
 refine⟨by rw[aAa];omega,fun h4=> ?_⟩
 obtain⟨_,_,_,g3⟩:=yN (w:=appW (sN w b).1 (iC (eD w.Seed (w.Devices.length:Int)))) h4
 rw[aAa] at g3
 have g5:(appW (sN w b).1 (iC (eD w.Seed (w.Devices.length:Int)))).aAH.Log.length≤w.sz+1:=g2
 have g6:(Ko w b).1.sz≤34*w.sz+690:=by show(aN _ _ 0).1.sz≤_;omega
 have:(Ko w b).1.Mail.sz≤(Ko w b).1.sz:=by simp only[D.aAK.sz,D.World.sz];omega
 omega
theorem nJ {w:D.World}{b:Int}(h:(dN w&&(bK w b&&(!Gd w b&& !decide ((w.Devices.length:Int)≥6))))=false∨((aN w b 0).2==0)=false):kQ w b=(w,false):=by
 unfold kQ bAe
 rcases h with h|h
 ·rw[h];rfl
 ·rw[h];simp
theorem bHw {w:D.World}{b:Int}(hz:w.sz≤100000000)(h1:dN w=true)(hs:((aN w b 0).2==0)=true):((bK (aN w b 0).1 b=true∧(aN w b 0).1.Sites.length=2)∧(aN w b 0).1.sz≤300000000)∧(aN w b 0).1.aAH.Log.length≤100000000:=by
 obtain⟨⟨k1,k2⟩,k3,k4,k5⟩:=yN hs
 have hL:w.aAH.Log.length≤w.sz:=by simp only[D.World.sz,D.aAH.sz];omega
 refine⟨⟨⟨by simp only[bK] at*;rw[k4];exact k2,?_⟩,by omega⟩,by rw[k3];omega⟩
 have e:(aN w b 0).1.Sites=w.Sites:=by unfold aN;cases(dN w&&bK w b)<;>rfl
 rw[e]
 simp only[dN,Bool.and_eq_true,beq_iff_eq] at h1
 omega
theorem Vm (w:D.World)(b:Int)(hz:w.sz≤100000000):uE w b=some (kQ w b):=by
 have hw8:w.sz≤34359738368:=by omega
 unfold uE
 rw[aD hw8,bd_s]
 cases h1:dN w with
 |false=>rw[nJ (.inl (by rw[h1];rfl))];simp only[Bool.not_false,cond_true,bd_s,aD hw8]
 |true=>
 cases h2:bK w b with
 |false=>rw[nJ (.inl (by rw[h1,h2];rfl))];simp only[Bool.not_false,Bool.not_true,cond_true,cond_false,bd_s,aD hw8]
 |true=>
 rw[bHv h1 h2]
 cases h3:Gd w b with
 |true=>rw[nJ (.inl (by rw[h1,h2,h3];rfl))];simp only[Bool.not_true,cond_true,cond_false,bd_s,aD hw8]
 |false=>
 cases h4:decide ((w.Devices.length:Int)≥6) with
 |true=>rw[nJ (.inl (by rw[h1,h2,h3,h4];rfl))];simp only[Bool.not_true,cond_true,cond_false,bd_s,aD hw8]
 |false=>
 simp only[Bool.not_true,cond_false,bd_s,aD (show w.sz≤34359738100 by omega),bne]
 cases hs:((aN w b 0).2==0) with
 |false=>rw[nJ (.inr hs)];simp only[Bool.not_false,cond_true,bd_s,aD hw8]
 |true=>
 rw[aWs h1 h2 h3 h4 hs]
 obtain⟨⟨⟨g1,g2⟩,g3⟩,g4⟩:=bHw hz h1 hs
 have hst:D.aAI.mk (1:Int) (w.Devices.length:Int) (dD w.Seed [277,(w.Devices.length:Int)]) 0=eD w.Seed (w.Devices.length:Int):=rfl
 simp only[hst,Tu g1,bd_s,aD (show(aN w b 0).1.aAH.Log.length≤34359738300 by omega),aD hw8,Bool.not_true,cond_false]
 have hll:=o8 (aN w b 0).1.aAH.Log 1 (dV (eD w.Seed (w.Devices.length:Int))) (dC (aN w b 0).1 b).Store
 obtain⟨l,hl⟩:∃l,l=kN (aN w b 0).1.aAH.Log 1 (dV (eD w.Seed (w.Devices.length:Int))) (dC (aN w b 0).1 b).Store:=⟨_,rfl⟩
 obtain⟨e,he⟩:∃e,e=jE l.1 (dC (aN w b 0).1 b).Key (IntKind.i64.wrap (1000+IntKind.i64.wrap (10*(l.1.length:Int)))):=⟨_,rfl⟩
 obtain⟨c,hcc⟩:∃c,c=lF (aN w b 0).1.aAH l.1 e.1:=⟨_,rfl⟩
 have A1:add1 w b=bif l.2&&(e.2&&c.2) then({(aN w b 0).1 with aAH:=c.1},true) else((aN w b 0).1,false):=by rw[hcc,he,hl];rfl
 rw[←hl] at hll ⊢
 have hez:=aEf l.1 (dC (aN w b 0).1 b).Key (IntKind.i64.wrap (1000+IntKind.i64.wrap (10*(l.1.length:Int))))
 rw[←he] at hez
 have hcz:=Rb (aN w b 0).1
 cases h5:l.2 with
 |false=>rw[qL (by rw[A1,h5];rfl)];rfl
 |true=>
 rw[Bool.not_true,cond_false,aD (show l.1.length≤34359738300 by omega),bd_s,←he]
 cases h6:e.2 with
 |false=>rw[qL (by rw[A1,h5,h6];rfl)];rfl
 |true=>
 rw[Bool.not_true,cond_false,aD (show(aN w b 0).1.aAH.sz≤34359738368∧l.1.length≤34359738368∧e.1.sz≤34359738368 from⟨by omega,by omega,by omega⟩),bd_s,←hcc]
 cases h7:c.2 with
 |false=>rw[qL (by rw[A1,h5,h6,h7];rfl)];rfl
 |true=>
 have A1':add1 w b=({(aN w b 0).1 with aAH:=c.1},true):=by rw[A1,h5,h6,h7];rfl
 have A2:aOs w b=iQ (eD w.Seed (w.Devices.length:Int)) (w.Devices.length:Int) 0 (aN w b 0).1.Sites:=by unfold aOs;rw[A1']
 have hss:∀s∈(aN w b 0).1.Sites,s.sz≤34359738300:=fun s hs=>by
  have h1:=aOf (g:=D.Site.sz) hs
  simp only[D.World.sz] at g3;omega
 rw[Bool.not_true,cond_false,aWr (x:=((w,false):D.World×Bool)) (st:=eD w.Seed (w.Devices.length:Int)) (n:=(w.Devices.length:Int)) (l:=(aN w b 0).1.Sites) (N:=(aN w b 0).1.Sites.length) rfl (by omega) hss (fun rec p s r hp hz=>by
  simp only[bH (show p.length<(aN w b 0).1.Sites.length by omega),cond_true,bDz,bd_s,aD (Tz (p.length:Int)),aD hz,bAw]) (fun rec S=>by simp only[bJ,cond_false])]
 cases h8:(iQ (eD w.Seed (w.Devices.length:Int)) (w.Devices.length:Int) 0 (aN w b 0).1.Sites).2 with
 |false=>rw[nI (.inl (by rw[A2,h8]))];rfl
 |true=>
 obtain⟨k1,k2,k3,k4⟩:=aQq g1
 have hg:=g1
 simp only[bK,Bool.and_eq_true,decide_eq_true_eq] at hg
 have W2:D.World.mk (aN w b 0).1.Now (aN w b 0).1.Seed ((aN w b 0).1.Devices.set b.toNat (o9 (dC (aN w b 0).1 b) (w.Devices.length:Int) false)) (aN w b 0).1.Stolen c.1 (iQ (eD w.Seed (w.Devices.length:Int)) (w.Devices.length:Int) 0 (aN w b 0).1.Sites).1 (aN w b 0).1.aAQ (aN w b 0).1.Hosts (aN w b 0).1.Pin (aN w b 0).1.Mail=nE w b:=by
  unfold nE;rw[A2,A1'];rfl
 obtain⟨⟨z1,z2⟩,z3,z4⟩:=aOt hs
 rw[cond_true,nx_r,bJf (d:=dC (aN w b 0).1 b) hg.1 k2 (by rw[k4];simp[List.getD,List.getElem?_eq_getElem k2]) (by omega),bd_s,W2,aD (show(nE w b).sz≤10000000000 by omega),bd_s,show kE (nE w b) b=sN w b from rfl]
 cases h9:(sN w b).2 with
 |false=>rw[nI (.inr (.inl h9))];rfl
 |true=>
 obtain⟨y1,y2⟩:=aXw hs h9
 obtain⟨v1,v2⟩:=bD0 hz hs h9
 have y0:(sN w b).1.sz≤34359738368:=by omega
 have y3:(sN w b).1.Devices.length≤34359738368∧(sN w b).1.Stolen.length≤34359738368:=by clear y1;simp only[D.World.sz] at y0;omega
 rw[Bool.not_true,cond_false,eT y3.1,eT y3.2]
 show(bd (gd ((appW (sN w b).1 (iC (eD w.Seed (w.Devices.length:Int)))).sz≤34359738100) (some (Ko w b))) fun z11=>bif !(z11.2==0) then some (w,false) else bd (gd (z11.1.Mail.sz≤34359738300) (some (Bn z11.1.Mail 2 1 z11.1.Now))) fun z12=>some (D.World.mk z11.1.Now z11.1.Seed z11.1.Devices z11.1.Stolen z11.1.aAH z11.1.Sites z11.1.aAQ z11.1.Hosts z11.1.Pin z12.1,true))=_
 rw[aD v1,bd_s]
 cases h10:((Ko w b).2==0) with
 |false=>rw[nI (.inr (.inr h10))];rfl
 |true=>rw[aJp (by rw[A1']) (by rw[A2,h8]) h9 h10,Bool.not_true,cond_false,aD (v2 h10),bd_s];rfl
theorem bJg {w:D.World}{d:Int}(h:(kE w d).2=false):(kE w d).1=w:=by
 unfold kE at*
 cases hc:((aN w d 0).2==0&&(upF (aN w d 0).1 d).2) with
 |true=>rw[hc] at h;cases h
 |false=>rfl
theorem Vn (w:D.World)(b:Int)(hz:w.sz≤100000000):tV w b=some (kQ w b):=by
 have hw8:w.sz≤34359738368:=by omega
 unfold tV
 simp only[bd_s,aD (show w.sz≤34359738100 by omega),aD hw8,bne]
 cases hs:((aN w b 0).2==0) with
 |false=>rw[nJ (.inr hs)];rfl
 |true=>
 obtain⟨⟨h1,h2⟩,_⟩:=yN hs
 rw[bHv h1 h2]
 cases h3:Gd w b with
 |true=>rw[nJ (.inl (by rw[h1,h2,h3];rfl))];rfl
 |false=>
 cases h4:decide ((w.Devices.length:Int)≥6) with
 |true=>rw[nJ (.inl (by rw[h1,h2,h3,h4];rfl))];rfl
 |false=>
 simp only[Bool.not_true,cond_false,bd_s]
 rw[aWs h1 h2 h3 h4 hs]
 have hn6:w.Devices.length<6:=by have:=of_decide_eq_false h4;omega
 obtain⟨⟨⟨g1,g2⟩,g3⟩,g4⟩:=bHw hz h1 hs
 have hst:D.aAI.mk (1:Int) (w.Devices.length:Int) (dD w.Seed [277,(w.Devices.length:Int)]) 0=eD w.Seed (w.Devices.length:Int):=rfl
 simp only[hst,Tu g1,bd_s,aD (show(aN w b 0).1.aAH.Log.length≤34359738300 by omega)]
 have hll:=o8 (aN w b 0).1.aAH.Log 1 (dV (eD w.Seed (w.Devices.length:Int))) (dC (aN w b 0).1 b).Store
 obtain⟨l,hl⟩:∃l,l=kN (aN w b 0).1.aAH.Log 1 (dV (eD w.Seed (w.Devices.length:Int))) (dC (aN w b 0).1 b).Store:=⟨_,rfl⟩
 obtain⟨e,he⟩:∃e,e=jE l.1 (dC (aN w b 0).1 b).Key (IntKind.i64.wrap (1000+IntKind.i64.wrap (10*(l.1.length:Int)))):=⟨_,rfl⟩
 obtain⟨c,hcc⟩:∃c,c=lF (aN w b 0).1.aAH l.1 e.1:=⟨_,rfl⟩
 have A1:add1 w b=bif l.2&&(e.2&&c.2) then({(aN w b 0).1 with aAH:=c.1},true) else((aN w b 0).1,false):=by rw[hcc,he,hl];rfl
 rw[←hl] at hll ⊢
 have hez:=aEf l.1 (dC (aN w b 0).1 b).Key (IntKind.i64.wrap (1000+IntKind.i64.wrap (10*(l.1.length:Int))))
 rw[aD (show l.1.length≤34359738300 by omega),bd_s]
 rw[←he] at hez ⊢
 have hcz:=Rb (aN w b 0).1
 rw[aD (show(aN w b 0).1.aAH.sz≤34359738368∧l.1.length≤34359738368∧e.1.sz≤34359738368 from⟨by omega,by omega,by omega⟩),bd_s,←hcc]
 cases h5:l.2 with
 |false=>rw[qL (by rw[A1,h5];rfl)];rfl
 |true=>
 cases h6:e.2 with
 |false=>rw[qL (by rw[A1,h5,h6];rfl)];rfl
 |true=>
 cases h7:c.2 with
 |false=>rw[qL (by rw[A1,h5,h6,h7];rfl)];rfl
 |true=>
 have A1':add1 w b=({(aN w b 0).1 with aAH:=c.1},true):=by rw[A1,h5,h6,h7];rfl
 have A2:aOs w b=iQ (eD w.Seed (w.Devices.length:Int)) (w.Devices.length:Int) 0 (aN w b 0).1.Sites:=by unfold aOs;rw[A1']
 have hss:∀s∈(aN w b 0).1.Sites,s.sz≤34359738300:=fun s hs=>by
  have h1:=aOf (g:=D.Site.sz) hs
  simp only[D.World.sz] at g3;omega
 simp only[Bool.not_true,cond_false,bd_s]
 rw[aWr (x:=((w,false):D.World×Bool)) (st:=eD w.Seed (w.Devices.length:Int)) (n:=(w.Devices.length:Int)) (l:=(aN w b 0).1.Sites) (N:=2) g2 (by omega) hss (fun rec p s r hp hz=>by
  simp only[decide_eq_true (show((p.length:Nat):Int)<2 by omega),cond_true,bDz,bd_s,aD (Tz (p.length:Int)),aD hz,bAw]) (fun rec S=>rfl)]
 cases h8:(iQ (eD w.Seed (w.Devices.length:Int)) (w.Devices.length:Int) 0 (aN w b 0).1.Sites).2 with
 |false=>rw[nI (.inl (by rw[A2,h8]))];rfl
 |true=>
 obtain⟨k1,k2,k3,k4⟩:=aQq g1
 have hg:=g1
 simp only[bK,Bool.and_eq_true,decide_eq_true_eq] at hg
 have W2:D.World.mk (aN w b 0).1.Now (aN w b 0).1.Seed ((aN w b 0).1.Devices.set b.toNat (o9 (dC (aN w b 0).1 b) (w.Devices.length:Int) false)) (aN w b 0).1.Stolen c.1 (iQ (eD w.Seed (w.Devices.length:Int)) (w.Devices.length:Int) 0 (aN w b 0).1.Sites).1 (aN w b 0).1.aAQ (aN w b 0).1.Hosts (aN w b 0).1.Pin (aN w b 0).1.Mail=nE w b:=by
  unfold nE;rw[A2,A1'];rfl
 obtain⟨⟨z1,z2⟩,z3,z4⟩:=aOt hs
 have y0:(aN w b 0).1.sz≤34359738368:=by omega
 have y3:(aN w b 0).1.Devices.length≤34359738368∧(aN w b 0).1.Stolen.length≤34359738368:=by clear g3;simp only[D.World.sz] at y0;omega
 simp only[cond_true,nx_r,aD (show(dC (aN w b 0).1 b).sz≤34359738300 by omega),bd_s,eT (show((aN w b 0).1.Devices.set b.toNat (o9 (dC (aN w b 0).1 b) (w.Devices.length:Int) false)).length≤34359738368 by rw[List.length_set];exact y3.1),eT y3.2]
 show(bd (gd ((appW (D.World.mk (aN w b 0).1.Now (aN w b 0).1.Seed ((aN w b 0).1.Devices.set b.toNat (o9 (dC (aN w b 0).1 b) (w.Devices.length:Int) false)) (aN w b 0).1.Stolen c.1 (iQ (eD w.Seed (w.Devices.length:Int)) (w.Devices.length:Int) 0 (aN w b 0).1.Sites).1 (aN w b 0).1.aAQ (aN w b 0).1.Hosts (aN w b 0).1.Pin (aN w b 0).1.Mail) (iC (eD w.Seed (w.Devices.length:Int)))).sz≤10000000000) (some (kE (appW (D.World.mk (aN w b 0).1.Now (aN w b 0).1.Seed ((aN w b 0).1.Devices.set b.toNat (o9 (dC (aN w b 0).1 b) (w.Devices.length:Int) false)) (aN w b 0).1.Stolen c.1 (iQ (eD w.Seed (w.Devices.length:Int)) (w.Devices.length:Int) 0 (aN w b 0).1.Sites).1 (aN w b 0).1.aAQ (aN w b 0).1.Hosts (aN w b 0).1.Pin (aN w b 0).1.Mail) (iC (eD w.Seed (w.Devices.length:Int)))) b))) fun z13=>bd (gd (z13.1.sz≤34359738100) (some (aN z13.1 (w.Devices.length:Int) 0))) fun z14=>bd (bif !z13.2 then some true else some !(z14.2==0)) fun z15=>bif z15 then some (w,false) else bd (gd (z14.1.Mail.sz≤34359738300) (some (Bn z14.1.Mail 2 1 z14.1.Now))) fun z16=>some (D.World.mk z14.1.Now z14.1.Seed z14.1.Devices z14.1.Stolen z14.1.aAH z14.1.Sites z14.1.aAQ z14.1.Hosts z14.1.Pin z16.1,true))=_
 have nz:(iC (eD w.Seed (w.Devices.length:Int))).sz=0:=rfl
 rw[W2,aD (show(appW (nE w b) (iC (eD w.Seed (w.Devices.length:Int)))).sz≤10000000000 by rw[aAa];omega),bd_s,bHo _ z1 (by omega),show kE (nE w b) b=sN w b from rfl]
 cases h9:(sN w b).2 with
 |false=>
  have hp:(sN w b).1=nE w b:=bJg (w:=nE w b) (d:=b) h9
  rw[nI (.inr (.inl h9)),aD (show(appW (sN w b).1 (iC (eD w.Seed (w.Devices.length:Int)))).sz≤34359738100 by rw[hp,aAa];omega)];rfl
 |true=>
 obtain⟨v1,v2⟩:=bD0 hz hs h9
 rw[aD v1,bd_s,show aN (appW (sN w b).1 (iC (eD w.Seed (w.Devices.length:Int)))) (w.Devices.length:Int) 0=Ko w b from rfl]
 cases h10:((Ko w b).2==0) with
 |false=>rw[nI (.inr (.inr h10))];rfl
 |true=>rw[aJp (by rw[A1']) (by rw[A2,h8]) h9 h10,Bool.not_true,cond_false,bd_s,cond_false,aD (v2 h10),bd_s];rfl
theorem xO (w:D.World)(d:Int)(h:w.ok):lG w d=some true:=by
 unfold lG
 obtain⟨e0,⟨hs,e⟩|e⟩:=szW h
 ·have hg:=bFf w d
  simp only[e0,bd_s,e,bL6 hs,aD hs,aD (show w.sz≤100000000 by omega)]
  generalize kQ w d=g at hg ⊢
  have hg:g.1.sz≤68719476736:=by omega
  have hw:w.sz≤68719476736:=by omega
  simp only[bHe hg,bHe hw,bd_s,Bool.not_true,cond_false,bHf,bJy hw,bJy hg,bM6 hw,bJe,bL4 hg,bL5,bM5 hg,bne_self_eq_false]
 ·simp only[e0,bd_s,e];rfl
end
end Go.VK
