import Derived.Test.YtefkjglmpmakcaaGreatDoorXlPs
import Derived.Test.YtefkjglmpmakcaaGreatDoorXlQ
/- Printed by wip/tools: models, walks, proofs. -/
set_option linter.unusedVariables false
set_option linter.unusedSimpArgs false
set_option maxRecDepth 100000
set_option maxHeartbeats 4000000
namespace Go.VK
open Go.RowKit Go.Proofs
noncomputable section
open EV (bS)
theorem Q0 (s n:Int):xK s n=some (dZ s n):=by unfold xK;rw[aB (by simp)];rfl
theorem Q3 (s n:Int):xY s n=some (dZ s n):=by unfold xY;rw[aB (by simp)];rfl
theorem aCz (s:D.aAH):aBl s=some (dR s):=rfl
theorem aC0 (s:D.aAH):aBn s=some (dR s):=rfl
theorem Xf (s:D.aAH)(n:ByteArray)(k:Int)(h:n.size≤34359738300):uX s n k=some (qD s n k):=by unfold uX;rw[aB h,bd_s,aB (by simp)];rfl
theorem Xg (s:D.aAH)(n:ByteArray)(k:Int)(h:n.size≤34359738300):vQ s n k=some (qD s n k):=by unfold vQ;rw[aB h,bd_s,aB (by simp)];rfl
theorem Q4 (s:D.aAH)(n:ByteArray)(k:Int)(h:n.size≤34359738300):xO s n k=some (kG s n k):=by unfold xO;rw[aB h];rfl
theorem Q5 (s:D.aAH)(n:ByteArray)(k:Int)(h:n.size≤34359738300):yD s n k=some (kG s n k):=by unfold yD;rw[aB h];rfl
theorem Qw (s:D.aAH)(l:List Int)(h:l.length≤34359738300):sD s l=some (kZ s l):=by unfold sD;rw[aB h];rfl
theorem Qx (s:D.aAH)(l:List Int)(h:l.length≤34359738300):sK s l=some (kZ s l):=by unfold sK;rw[aB (by simp),bd_s,aB h];rfl
theorem Q6 (e:D.aAD)(d:Int)(h:e.Boxes.length≤34359738368):xN e d=some (jX e d):=by
 unfold xN
 rw[fB (l:=e.Boxes) (fun n b=>bif b.To==d then IntKind.i64.wrap (n+1) else n) (fun _ _=>True) (fun s=>some s) (by omega) trivial (fun _ _ _ _=>trivial) (fun rec i s hi _=>by
  simp only[bJ hi,cond_true,aF hi,bd_s,jC]) (fun rec s _=>by simp only[bM,cond_false])]
 rfl
theorem Q7 (e:D.aAD)(d:Int)(h:e.Boxes.length≤34359738368):yC e d=some (jX e d):=by
 unfold yC
 rw[fB (l:=e.Boxes) (fun n b=>bif b.To==d then IntKind.i64.wrap (n+1) else n) (fun _ _=>True) (fun s=>some s) (by omega) trivial (fun _ _ _ _=>trivial) (fun rec i s hi _=>by
  simp only[bJ hi,cond_true,aF hi,bd_s,jC]) (fun rec s _=>by simp only[bM,cond_false])]
 rfl
theorem Xh (l:List D.aAB)(k d:Int)(s:D.aAH)(h:l.length≤34359738300):uS l k d s=some (mI l k d s):=by
 have h1:l.length≤34359738368:=by omega
 have e:∀x:D.aAB,gd ((l++[x]).length≤34359738368) (some (cO (l++[x])))=some (cO (l++[x])):=fun x=>aB (by simp;omega)
 have e1:∀x:Int,gd ([x].length≤34359738300) (some (kZ s [x]))=some (kZ s [x]):=fun x=>aB (by simp)
 unfold uS mI bDa bEt
 simp only[aB h1,bd_s,e1,gM h1,e]
 generalize cO (l++_)=q
 cases decide ((l.length:Int)>0)<;>cases cO l<;>cases q<;>rfl
theorem Xi (l:List D.aAB)(k d:Int)(s:D.aAH)(h:l.length≤34359738300):vI l k d s=some (mI l k d s):=by
 have h1:l.length≤34359738368:=by omega
 have e:∀x:D.aAB,gd ((l++[x]).length≤34359738368) (some (cO (l++[x])))=some (cO (l++[x])):=fun x=>aB (by simp;omega)
 have e1:∀x:Int,gd ([x].length≤34359738300) (some (kZ s [x]))=some (kZ s [x]):=fun x=>aB (by simp)
 unfold vI mI bDa bEt
 simp only[aB h1,bd_s,e1,gM h1,e]
 generalize cO (l++_)=q
 cases decide ((l.length:Int)>0)<;>cases cO l<;>cases q<;>rfl
theorem aM2 (p e:Int)(d:List Int)(h:aW d):(bd (bif fQ p==0 then some true else bif !dG e then some true else some (decide ((d.length:Int)>200))) fun z0=>bif z0 then some (D.Box.mk 0 0 [] 0,false) else bd (gd (aW d) (some (oP (gB (fQ p) e) d))) fun z1=>bd (gd (z1.length≤34359738200) (some (Pw (gB (fQ p) e) (D.Box.mk p e z1 0)))) fun z2=>some (D.Box.mk p e z1 z2,true))=some (fK p e d):=by
 unfold fK aLh
 rw[Ai,Ai,bd_s]
 cases hc:(fQ p==0||(!dG e||decide ((d.length:Int)>200))) with
 |true=>rfl
 |false=>
  have hl:d.length≤200:=by simp only[Bool.or_eq_false_iff,decide_eq_false_iff_not] at hc;omega
  rw[cond_false,cond_false,aB h,bd_s,aB (show(oP (gB (fQ p) e) d).length≤34359738200 by rw[J9];omega),bd_s]
theorem aM3 (p e:Int)(d:List Int)(h:aW d):aLs p e d=some (fK p e d):=aM2 p e d h
theorem aM4 (p e:Int)(d:List Int)(h:aW d):aLw p e d=some (fK p e d):=aM2 p e d h
theorem aC1 (l:List Int)(e:Int)(d:List Int)(h:l.length≤34359738300∧aW d):Au l e d=some (gQ e d 0 l):=by
 obtain⟨h1,h2⟩:=h
 unfold Au
 rw[aBi (e:=e) (d:=d) (l:=l) (x:=(([],false):List D.Box×Bool)) (fun rec i s hi hs=>by
  simp only[bJ hi,cond_true,aF hi,bd_s,aB h2,gM (show s.length≤34359738368 by omega)]) (fun rec s=>by simp only[bM,cond_false]) l.length 0 FUEL [] (by omega) (by have:=gU;omega) (by simp),List.drop_zero]
 cases hs:(gQ e d 0 l).2 with
 |true=>rw[cond_true,nx_r,List.nil_append,←hs]
 |false=>rw[cond_false,aV1 hs];rfl
theorem aC2 (l:List Int)(e:Int)(d:List Int)(h:l.length≤34359738300∧aW d):Bj l e d=some (gQ e d 0 l):=by
 obtain⟨h1,h2⟩:=h
 unfold Bj
 rw[aBi (e:=e) (d:=d) (l:=l) (x:=(([],false):List D.Box×Bool)) (fun rec i s hi hs=>by
  simp only[bJ hi,cond_true,aF hi,bd_s,aB h2,gM (show s.length≤34359738368 by omega)]) (fun rec s=>by simp only[bM,cond_false]) l.length 0 FUEL [] (by omega) (by have:=gU;omega) (by simp),List.drop_zero]
 cases hs:(gQ e d 0 l).2 with
 |true=>rw[cond_true,nx_r,List.nil_append,←hs]
 |false=>rw[cond_false,aV1 hs];rfl
theorem aZi (a b:Int):aW (kF [a,b]):=aLc (by have:=aVz a b;omega) (aLd _)
theorem Iy (l:List D.aAB)(k e:Int)(h:l.length≤34359738300):oQ l k e=some (dL l k e):=by
 have hd:=gN l
 unfold oQ dL
 simp only[aB (show l.length≤34359738368 by omega),bd_s,aB (show[bC l,k].length≤5000000000 by simp),aB (show(aJ l).length≤34359738300∧aW (kF [bC l,k]) from⟨by omega,aZi _ _⟩)]
 cases cO l<;>cases dG k<;>cases(gQ e (kF [bC l,k]) 0 (aJ l)).2<;>rfl
theorem Iz (l:List D.aAB)(k e:Int)(h:l.length≤34359738300):oZ l k e=some (dL l k e):=by
 have hd:=gN l
 unfold oZ dL
 simp only[aB (show l.length≤34359738368 by omega),bd_s,aB (show[bC l,k].length≤5000000000 by simp),aB (show(aJ l).length≤34359738300∧aW (kF [bC l,k]) from⟨by omega,aZi _ _⟩)]
 cases cO l<;>cases dG k<;>cases(gQ e (kF [bC l,k]) 0 (aJ l)).2<;>rfl
theorem aZj (e:D.aAD)(l:List Int):(l.all fun d=>jX e d==1)= !(l.any fun d=>jX e d !=1):=by
 induction l with
 |nil=>rfl
 |cons x l ih=>simp only[List.all_cons,List.any_cons,ih,bne];cases(jX e x==1)<;>simp
theorem aC3 (e:D.aAD)(l:List D.aAB)(h:e.Boxes.length≤34359738368∧l.length≤34359738368):Av e l=some (jY e l):=by
 obtain⟨h1,h2⟩:=h
 have hd:=gN l
 unfold Av jY
 rw[aB h2,bd_s,mG (l:=aJ l) (fun d=>jX e d !=1) (.inl false) (.inr PUnit.unit) (by omega) (fun rec i hi=>by
  simp only[bJ hi,cond_true,aF hi,bd_s,aB h1]) (fun rec=>by simp only[bM,cond_false]),aZj]
 simp only[aB h2,bd_s]
 cases(aJ l).any (fun d=>jX e d !=1)<;>cases(e.Epoch==bC l)<;>cases((e.Boxes.length:Int)==((aJ l).length:Int))<;>rfl
theorem aC4 (e:D.aAD)(l:List D.aAB)(h:e.Boxes.length≤34359738368∧l.length≤34359738368):Bl e l=some (jY e l):=by
 obtain⟨h1,h2⟩:=h
 have hd:=gN l
 unfold Bl jY
 rw[aB h2,bd_s,aB h2,bd_s,mG (l:=aJ l) (fun d=>jX e d !=1) (.inl false) (.inr PUnit.unit) (by omega) (fun rec i hi=>by
  simp only[bJ hi,cond_true,aF hi,bd_s,aB h1]) (fun rec=>by simp only[bM,cond_false]),aZj]
 simp only[bne]
 cases(aJ l).any (fun d=> !(jX e d==1))<;>cases(e.Epoch==bC l)<;>cases((e.Boxes.length:Int)==((aJ l).length:Int))<;>rfl
theorem Xj (s:D.Site)(i:Int)(h:s.Accounts.length≤34359738368):uY s i=some (bE s i):=by
 unfold uY
 exact J2 (l:=s.Accounts) (fun a=>a.Id==i) (by omega) (fun rec j hj=>by simp only[bJ hj,cond_true,aF hj,bd_s]) (fun rec=>by simp only[bM,cond_false])
theorem Xk (s:D.Site)(i:Int)(h:s.Accounts.length≤34359738368):vR s i=some (bE s i):=by
 unfold vR
 exact J2 (l:=s.Accounts) (fun a=>a.Id==i) (by omega) (fun rec j hj=>by simp only[bJ hj,cond_true,aF hj,bd_s]) (fun rec=>by simp only[bM,cond_false])
theorem bFg {l:List D.aAI}{h p:Int}(hz:l.length≤34359738300){β:Type}(k:List D.aAI→Option β):gd (jN l ((aBh h l:Nat):Int)) (gd (jN l ((aBh h l:Nat):Int)) (gd (bD [] (List.take (aBh h l) l)) (gd (bD ([]++List.take (aBh h l) l) [D.aAI.mk h p 0 false]) (gd (bD ([]++List.take (aBh h l) l++[D.aAI.mk h p 0 false]) (List.drop (aBh h l) l)) (k ([]++List.take (aBh h l) l++[D.aAI.mk h p 0 false]++List.drop (aBh h l) l))))))=k (aPd l h p):=by
 have hk:aBh h l≤l.length:=Ky
 have h1:jN l ((aBh h l:Nat):Int):=⟨by omega,by omega⟩
 rw[aB h1,aB h1,aB (by unfold bD;simp;omega),aB (by unfold bD;simp;omega),aB (by unfold bD;simp;omega)];rfl
theorem aZk {l:List D.aAI}{h:Int}(hz:l.length≤34359738300):EV.bS (α:=Int) FUEL (fun rec (i:Int)=>bd (bif decide (i<(l.length:Int)) then(bd (aT l i) fun z=>some (decide (z.Handle<h))) else some false) fun z=>bif z then rec (IntKind.i64.wrap (i+1)) else some i) 0=some ((aBh h l:Nat):Int):=by
 have:=aRs (l:=l) (fun c=>decide (c.Handle<h)) (fun i=>some (i:Int)) (fun i=>(i:Int)) (F:=fun rec (i:Int)=>bd (bif decide (i<(l.length:Int)) then(bd (aT l i) fun z=>some (decide (z.Handle<h))) else some false) fun z=>bif z then rec (IntKind.i64.wrap (i+1)) else some i) (by omega) (fun rec i hi=>by
  simp only[bJ hi,cond_true,aF hi,bd_s]
  rw[aK (by omega) (by omega)];rfl) (fun rec=>by simp only[bM,cond_false,bd_s])
 exact this
theorem bFh {a:D.aAF}(hz:a.sz≤34359738300)(h p:Int):(D.aAF.mk a.Id a.Minimum (aPd a.Credentials h p)).sz≤34359738368:=by
 simp only[D.aAF.sz,aV0] at*;omega
theorem Nt (a:D.aAF)(h p:Int)(hz:a.sz≤34359738300):rD a h p=some (gD a h p):=by
 have h1:a.sz≤34359738368:=by omega
 have hc:a.Credentials.length≤34359738300:=hz
 unfold rD gD
 rw[aB h1,bd_s,aZk hc]
 simp only[aB h1,bd_s,Int.toNat_natCast]
 rw[bFg hc (fun L=>bd (bif !bP a then some true else(bd (gd ((D.aAF.mk a.Id a.Minimum L).sz≤34359738368) (some (bP (D.aAF.mk a.Id a.Minimum L)))) fun z4=>some (!z4))) fun z3=>bif z3 then some (a,false) else some (D.aAF.mk a.Id a.Minimum L,true))]
 simp only[bd_s,aB (bFh hz h p)]
 cases bP a<;>cases bP {a with Credentials:=aPd a.Credentials h p}<;>rfl
theorem Nu (a:D.aAF)(h p:Int)(hz:a.sz≤34359738300):rF a h p=some (gD a h p):=by
 have h1:a.sz≤34359738368:=by omega
 have hc:a.Credentials.length≤34359738300:=hz
 unfold rF gD
 rw[aB h1,bd_s,aZk hc]
 simp only[aB h1,bd_s,Int.toNat_natCast]
 rw[bFg hc (fun L=>bd (gd ((D.aAF.mk a.Id a.Minimum L).sz≤34359738368) (some (bP (D.aAF.mk a.Id a.Minimum L)))) fun z3=>bif (!z3) then some (a,false) else some (D.aAF.mk a.Id a.Minimum L,true))]
 simp only[bd_s,aB (bFh hz h p)]
 cases bP a<;>cases bP {a with Credentials:=aPd a.Credentials h p}<;>rfl
theorem aX4 {a:D.aAF}{h p:Int}(hn:(gD a h p).2=false):(gD a h p).1=a:=by
 unfold gD at*
 cases hc: !bP a|| !bP {a with Credentials:=aPd a.Credentials h p} with
 |true=>rfl
 |false=>rw[hc] at hn;cases hn
theorem Xl (s:D.Site)(i h p:Int)(hz:s.sz≤34359738300):uZ s i h p=some (jZ s i h p):=by
 have h1:s.sz≤34359738368:=by omega
 have hl:s.Accounts.length≤34359738368:=by simp only[D.Site.sz] at hz;omega
 unfold uZ jZ
 simp only[aB h1,aB hl,bd_s]
 rw[Ai,bd_s]
 cases hc:(!fP s||decide (bE s i<0)) with
 |true=>rfl
 |false=>
  rw[Bool.or_eq_false_iff] at hc
  obtain⟨e1,e2,e3⟩:=bDb hz hc.2
  simp only[cond_false,e1,bd_s,aB e2]
  cases ha:(gD (s.Accounts.getD (bE s i).toNat default) h p).2 with
  |true=>rfl
  |false=>rw[aX4 ha,bC3 e3];rfl
theorem Xm (s:D.Site)(i h p:Int)(hz:s.sz≤34359738300):vS s i h p=some (jZ s i h p):=by
 have h1:s.sz≤34359738368:=by omega
 have hl:s.Accounts.length≤34359738368:=by simp only[D.Site.sz] at hz;omega
 unfold vS jZ
 simp only[aB h1,aB hl,bd_s]
 rw[Ai,bd_s]
 cases hc:(!fP s||decide (bE s i<0)) with
 |true=>rfl
 |false=>
  rw[Bool.or_eq_false_iff] at hc
  obtain⟨e1,e2,e3⟩:=bDb hz hc.2
  simp only[cond_false,e1,bd_s,aB e2]
  cases ha:(gD (s.Accounts.getD (bE s i).toNat default) h p).2<;>rfl
end
end Go.VK
