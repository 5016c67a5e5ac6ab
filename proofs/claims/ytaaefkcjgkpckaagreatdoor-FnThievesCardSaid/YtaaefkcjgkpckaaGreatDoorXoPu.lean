import Derived.Test.YtaaefkcjgkpckaaGreatDoorXoPs
import Derived.Test.YtaaefkcjgkpckaaGreatDoorXoM
/- Printed by wip/tools: models, walks, proofs. -/
set_option linter.unusedVariables false
set_option linter.unusedSimpArgs false
set_option maxRecDepth 100000
set_option maxHeartbeats 4000000
namespace Go.VK
open Go.RowKit Go.Proofs
noncomputable section
open EV (dL)
theorem Zq (s n:Int):xZ s n=some (aL s n):=by unfold xZ;rw[aG (by simp)];rfl
theorem U7 (s:D.aAH):Q0 s=some (bG s):=rfl
theorem Ua (s:D.aAH)(n:ByteArray)(k:Int)(h:n.size≤34359738300):vX s n k=some (bS s n k):=by unfold vX;rw[aG h,bd_s,aG (by simp)];rfl
theorem Ub (s:D.aAH)(n:ByteArray)(k:Int)(h:n.size≤34359738300):wR s n k=some (bS s n k):=by unfold wR;rw[aG h,bd_s,aG (by simp)];rfl
theorem Zr (s:D.aAH)(n:ByteArray)(k:Int)(h:n.size≤34359738300):yD s n k=some (fT s n k):=by unfold yD;rw[aG h];rfl
theorem Po (s:D.aAH)(l:List Int)(h:l.length≤34359738300):tL s l=some (kQ s l):=by unfold tL;rw[aG h];rfl
theorem Zt (e:D.aAG)(d:Int)(h:e.Boxes.length≤34359738368):yC e d=some (oO e d):=by
 unfold yC
 rw[gY (l:=e.Boxes) (fun n b=>bif b.To==d then IntKind.i64.wrap (n+1) else n) (fun _ _=>True) (fun s=>some s) (by omega) trivial (fun _ _ _ _=>trivial) (fun rec i s hi _=>by
  simp only[dZ hi,cond_true,aR hi,bd_s,nA]) (fun rec s _=>by simp only[eD,cond_false])]
 rfl
theorem Uc (l:List D.aAA)(k d:Int)(s:D.aAH)(h:l.length≤34359738300):vS l k d s=some (dD l k d s):=by
 have h1:l.length≤34359738368:=by omega
 have e:∀x:D.aAA,gd ((l++[x]).length≤34359738368) (some (aT (l++[x])))=some (aT (l++[x])):=fun x=>aG (by simp;omega)
 have e1:∀x:Int,gd ([x].length≤34359738300) (some (kQ s [x]))=some (kQ s [x]):=fun x=>aG (by simp)
 unfold vS dD zI aFn
 simp only[aG h1,bd_s,e1,iC h1,e]
 generalize aT (l++_)=q
 cases decide ((l.length:Int)>0)<;>cases aT l<;>cases q<;>rfl
theorem aTm (p e:Int)(d:List Int)(h:bF d):(bd (bif fF p==0 then some true else bif !bE e then some true else some (decide ((d.length:Int)>200))) fun z0=>bif z0 then some (D.Box.mk 0 0 [] 0,false) else bd (gd (bF d) (some (lT (iR (fF p) e) d))) fun z1=>bd (gd (z1.length≤34359738200) (some (aB0 (iR (fF p) e) (D.Box.mk p e z1 0)))) fun z2=>some (D.Box.mk p e z1 z2,true))=some (fU p e d):=by
 unfold fU gI
 rw[aFe,aFe,bd_s]
 cases hc:(fF p==0||(!bE e||decide ((d.length:Int)>200))) with
 |true=>rfl
 |false=>
  have hl:d.length≤200:=by simp only[Bool.or_eq_false_iff,decide_eq_false_iff_not] at hc;omega
  rw[cond_false,cond_false,aG h,bd_s,aG (show(lT (iR (fF p) e) d).length≤34359738200 by rw[Jp];omega),bd_s]
theorem aHp (p e:Int)(d:List Int)(h:bF d):aGo p e d=some (fU p e d):=aTm p e d h
theorem U8 (l:List Int)(e:Int)(d:List Int)(h:l.length≤34359738300∧bF d):Ao l e d=some (fI e d 0 l):=by
 obtain⟨h1,h2⟩:=h
 unfold Ao
 rw[aL2 (e:=e) (d:=d) (l:=l) (x:=(([],false):List D.Box×Bool)) (fun rec i s hi hs=>by
  simp only[dZ hi,cond_true,aR hi,bd_s,aG h2,iC (show s.length≤34359738368 by omega)]) (fun rec s=>by simp only[eD,cond_false]) l.length 0 FUEL [] (by omega) (by have:=jF;omega) (by simp),List.drop_zero]
 cases hs:(fI e d 0 l).2 with
 |true=>rw[cond_true,nx_r,List.nil_append,←hs]
 |false=>rw[cond_false,bAx hs];rfl
theorem bD9 (a b:Int):bF (gV [a,b]):=aFk (by have:=aQd a b;omega) (Sk _)
theorem Gv (l:List D.aAA)(k e:Int)(h:l.length≤34359738300):pX l k e=some (aW l k e):=by
 have hd:=iJ l
 unfold pX aW
 simp only[aG (show l.length≤34359738368 by omega),bd_s,aG (show[aD l,k].length≤5000000000 by simp),aG (show(aB l).length≤34359738300∧bF (gV [aD l,k]) from⟨by omega,bD9 _ _⟩)]
 cases aT l<;>cases bE k<;>cases(fI e (gV [aD l,k]) 0 (aB l)).2<;>rfl
theorem bEa (e:D.aAG)(l:List Int):(l.all fun d=>oO e d==1)= !(l.any fun d=>oO e d !=1):=by
 induction l with
 |nil=>rfl
 |cons x l ih=>simp only[List.all_cons,List.any_cons,ih,bne];cases(oO e x==1)<;>simp
theorem U9 (e:D.aAG)(l:List D.aAA)(h:e.Boxes.length≤34359738368∧l.length≤34359738368):Ap e l=some (iA e l):=by
 obtain⟨h1,h2⟩:=h
 have hd:=iJ l
 unfold Ap iA
 rw[aG h2,bd_s,mZ (l:=aB l) (fun d=>oO e d !=1) (.inl false) (.inr PUnit.unit) (by omega) (fun rec i hi=>by
  simp only[dZ hi,cond_true,aR hi,bd_s,aG h1]) (fun rec=>by simp only[eD,cond_false]),bEa]
 simp only[aG h2,bd_s]
 cases(aB l).any (fun d=>oO e d !=1)<;>cases(e.Epoch==aD l)<;>cases((e.Boxes.length:Int)==((aB l).length:Int))<;>rfl
theorem bGx {e:D.aAG}(h:e.sz≤34359738368):e.Boxes.length≤34359738368:=by simp only[D.aAG.sz] at h;omega
theorem V3 (c:D.aAB)(l:List D.aAA)(e:D.aAG)(h:c.sz≤34359738368∧l.length≤34359738368∧e.sz≤34359738368):Bj c l e=some (iP c l e):=by
 obtain⟨h1,h2,h3⟩:=h
 unfold Bj iP
 simp only[aG h1,aG h2,aG h3,bd_s,aG (show e.Boxes.length≤34359738368∧l.length≤34359738368 from⟨bGx h3,h2⟩)]
 cases aT l<;>cases cO l c.Log<;>cases iA e l<;>rfl
theorem Ud (s:D.Site)(i:Int)(h:s.Accounts.length≤34359738368):vY s i=some (aC s i):=by
 unfold vY
 exact zU (l:=s.Accounts) (fun a=>a.Id==i) (by omega) (fun rec j hj=>by simp only[dZ hj,cond_true,aR hj,bd_s]) (fun rec=>by simp only[eD,cond_false])
theorem Ue (s:D.Site)(i:Int)(h:s.Accounts.length≤34359738368):wO s i=some (aC s i):=by
 unfold wO
 exact zU (l:=s.Accounts) (fun a=>a.Id==i) (by omega) (fun rec j hj=>by simp only[dZ hj,cond_true,aR hj,bd_s]) (fun rec=>by simp only[eD,cond_false])
theorem bIh {l:List D.aAJ}{h p:Int}(hz:l.length≤34359738300){β:Type}(k:List D.aAJ→Option β):gd (kJ l ((Jq h l:Nat):Int)) (gd (kJ l ((Jq h l:Nat):Int)) (gd (aX [] (List.take (Jq h l) l)) (gd (aX ([]++List.take (Jq h l) l) [D.aAJ.mk h p 0 false]) (gd (aX ([]++List.take (Jq h l) l++[D.aAJ.mk h p 0 false]) (List.drop (Jq h l) l)) (k ([]++List.take (Jq h l) l++[D.aAJ.mk h p 0 false]++List.drop (Jq h l) l))))))=k (O3 l h p):=by
 have hk:Jq h l≤l.length:=Jr
 have h1:kJ l ((Jq h l:Nat):Int):=⟨by omega,by omega⟩
 rw[aG h1,aG h1,aG (by unfold aX;simp;omega),aG (by unfold aX;simp;omega),aG (by unfold aX;simp;omega)];rfl
theorem bEb {l:List D.aAJ}{h:Int}(hz:l.length≤34359738300):EV.dL (α:=Int) FUEL (fun rec (i:Int)=>bd (bif decide (i<(l.length:Int)) then(bd (bT l i) fun z=>some (decide (z.Handle<h))) else some false) fun z=>bif z then rec (IntKind.i64.wrap (i+1)) else some i) 0=some ((Jq h l:Nat):Int):=by
 have:=O5 (l:=l) (fun c=>decide (c.Handle<h)) (fun i=>some (i:Int)) (fun i=>(i:Int)) (F:=fun rec (i:Int)=>bd (bif decide (i<(l.length:Int)) then(bd (bT l i) fun z=>some (decide (z.Handle<h))) else some false) fun z=>bif z then rec (IntKind.i64.wrap (i+1)) else some i) (by omega) (fun rec i hi=>by
  simp only[dZ hi,cond_true,aR hi,bd_s]
  rw[aK (by omega) (by omega)];rfl) (fun rec=>by simp only[eD,cond_false,bd_s])
 exact this
theorem bIi {a:D.aAF}(hz:a.sz≤34359738300)(h p:Int):(D.aAF.mk a.Id a.Minimum (O3 a.Credentials h p)).sz≤34359738368:=by
 simp only[D.aAF.sz,aQe] at*;omega
theorem Lm (a:D.aAF)(h p:Int)(hz:a.sz≤34359738300):rX a h p=some (fE a h p):=by
 have h1:a.sz≤34359738368:=by omega
 have hc:a.Credentials.length≤34359738300:=hz
 unfold rX fE
 rw[aG h1,bd_s,bEb hc]
 simp only[aG h1,bd_s,Int.toNat_natCast]
 rw[bIh hc (fun L=>bd (bif !aU a then some true else(bd (gd ((D.aAF.mk a.Id a.Minimum L).sz≤34359738368) (some (aU (D.aAF.mk a.Id a.Minimum L)))) fun z4=>some (!z4))) fun z3=>bif z3 then some (a,false) else some (D.aAF.mk a.Id a.Minimum L,true))]
 simp only[bd_s,aG (bIi hz h p)]
 cases aU a<;>cases aU {a with Credentials:=O3 a.Credentials h p}<;>rfl
theorem aTn {a:D.aAF}{h p:Int}(hn:(fE a h p).2=false):(fE a h p).1=a:=by
 unfold fE at*
 cases hc: !aU a|| !aU {a with Credentials:=O3 a.Credentials h p} with
 |true=>rfl
 |false=>rw[hc] at hn;cases hn
theorem Uf (s:D.Site)(i h p:Int)(hz:s.sz≤34359738300):vZ s i h p=some (fV s i h p):=by
 have h1:s.sz≤34359738368:=by omega
 have hl:s.Accounts.length≤34359738368:=by simp only[D.Site.sz] at hz;omega
 unfold vZ fV
 simp only[aG h1,aG hl,bd_s]
 rw[aFe,bd_s]
 cases hc:(!bL s||decide (aC s i<0)) with
 |true=>rfl
 |false=>
  rw[Bool.or_eq_false_iff] at hc
  obtain⟨e1,e2,e3⟩:=bAy hz hc.2
  simp only[cond_false,e1,bd_s,aG e2]
  cases ha:(fE (s.Accounts.getD (aC s i).toNat default) h p).2 with
  |true=>rfl
  |false=>rw[aTn ha,bAq e3];rfl
theorem aMn (i:Int):(aA i).size≤34359738300:=by unfold aA;cases i==0<;>cases i==1<;>decide
theorem Zu (d:D.Device)(h:Int)(rm:Bool)(hz:d.sz≤34359738300):yY d h rm=some (jZ d h rm):=by
 have h1:=Ny d (aA 0) h rm
 unfold yY jZ
 rw[aG ⟨by omega,aMn 0⟩,bd_s,show FUEL=FUEL-2+1+1 from by have:=jF;omega]
 have e:∀{β:Type} (k:Option β),gd ((fB d (aA 0) h rm).1.sz≤34359738360∧(aA 1).size≤34359738300) k=k:=fun k=>aG ⟨by omega,aMn 1⟩
 show(bd (bd (gd ((fB d (aA 0) h rm).1.sz≤34359738360∧(aA 1).size≤34359738300) (some (fB (fB d (aA 0) h rm).1 (aA 1) h rm))) fun z3=>some (z3.1.Store.Vendor,z3.1.Store.Serial,z3.1.Store.Seed,z3.1.Store.Counter,z3.1.Log,z3.1.Key,z3.1.Epoch,z3.1.Version,z3.1.aAE.Entries)) fun z0=>some (D.Device.mk (D.aAH.mk z0.1 z0.2.1 z0.2.2.1 z0.2.2.2.1) z0.2.2.2.2.1 z0.2.2.2.2.2.1 z0.2.2.2.2.2.2.1 z0.2.2.2.2.2.2.2.1 (D.aAE.mk z0.2.2.2.2.2.2.2.2)))=_
 rw[e,bd_s,bd_s]
theorem bGy {w:D.World}{d:Int}(hw:bK w=true)(hd:aQ w d=true):bT w.Stolen d=some (bM w d):=by
 have hl:w.Stolen.length=w.Devices.length:=by
  simp only[bK,Bool.and_eq_true,beq_iff_eq] at hw;omega
 simp only[aQ,Bool.and_eq_true,decide_eq_true_eq] at hd
 rw[uI hd.1 (by omega)]
 simp[bM,List.getD,List.getElem?_eq_getElem (show d.toNat<w.Stolen.length by omega)]
theorem bEc {p r:List D.Site}{s:D.Site}:bT (p++s::r) ((p.length:Nat):Int)=some s:=by
 rw[aR (by simp)];simp
theorem bB1 {p r:List D.Site}{s y:D.Site}:(p++s::r).set (Int.toNat ((p.length:Nat):Int)) y=p++y::r:=by
 rw[Int.toNat_natCast];simp
theorem bGz {w:D.World}{b:Int}(hz:w.sz≤100000000)(h1:bK w=true)(hs:((aV w b 0).2==0)=true):((aQ (aV w b 0).1 b=true∧(aV w b 0).1.Sites.length=2)∧(aV w b 0).1.sz≤300000000)∧(aV w b 0).1.aAB.Log.length≤100000000:=by
 obtain⟨⟨k1,k2⟩,k3,k4,k5⟩:=uQ hs
 have hL:w.aAB.Log.length≤w.sz:=by simp only[D.World.sz,D.aAB.sz];omega
 refine⟨⟨⟨by simp only[aQ] at*;rw[k4];exact k2,?_⟩,by omega⟩,by rw[k3];omega⟩
 have e:(aV w b 0).1.Sites=w.Sites:=by unfold aV;cases(bK w&&aQ w b)<;>rfl
 rw[e]
 simp only[bK,Bool.and_eq_true,beq_iff_eq] at h1
 omega
theorem aMo {L:List D.aAP}(h30:30<L.length)(hL:L.length≤34359738301):gd (kJ L ((rR L:Nat):Int)) (gd (kJ L (IntKind.i64.wrap (((rR L:Nat):Int)+1))) (gd (aX [] (List.take (Int.toNat ((rR L:Nat):Int)) L)) (gd (aX ([]++List.take (Int.toNat ((rR L:Nat):Int)) L) (List.drop (Int.toNat (IntKind.i64.wrap (((rR L:Nat):Int)+1))) L)) (some ([]++List.take (Int.toNat ((rR L:Nat):Int)) L++List.drop (Int.toNat (IntKind.i64.wrap (((rR L:Nat):Int)+1))) L)))))=some (Aa L):=by
 have hs:=aQh (l:=L) (by omega)
 have e:IntKind.i64.wrap (((rR L:Nat):Int)+1)=((rR L+1:Nat):Int):=by rw[aK (by omega) (by omega)];rfl
 rw[e,aG ⟨by omega,by omega⟩,aG ⟨by omega,by omega⟩,aG (by unfold aX;simp;omega),aG (by unfold aX;simp;omega),Int.toNat_natCast,Int.toNat_natCast]
 unfold Aa
 rw[decide_eq_true (show(L.length:Int)>30 by omega)];rfl
theorem aVt (l:List D.aAP)(x:D.aAP)(h:l.length≤34359738300):(D.aAN.mk (Aa (l++[x]))).sz≤34359738368:=by
 have:=aLx (l++[x])
 simp only[List.length_append,List.length_singleton] at this
 simp only[D.aAN.sz];omega
theorem aRg {L:List D.aAP}(h:¬30<L.length):Aa L=L:=by
 unfold Aa
 rw[decide_eq_false (show ¬(L.length:Int)>30 by omega)];rfl
theorem Zv (m:D.aAN)(k a t:Int)(hz:m.sz≤34359738300):yR m k a t=some (xV m k a t):=by
 have h1:m.sz≤34359738368:=by omega
 have hm:m.Notices.length≤34359738300:=hz
 have hL:(m.Notices++[(⟨k,a,t,false⟩:D.aAP)]).length=m.Notices.length+1:=by simp
 have hn:=aVt m.Notices ⟨k,a,t,false⟩ hm
 unfold yR xV
 simp only[aG h1,bd_s,iC (show m.Notices.length≤34359738368 by omega)]
 generalize hg:m.Notices++[(⟨k,a,t,false⟩:D.aAP)]=L at*
 by_cases h30:30<L.length
 ·rw[decide_eq_true (show(L.length:Int)>30 by omega),bDl (l:=L) (fun i=>some i) (fun i=>((0:Int),i)) (by omega) (fun rec i hi=>by simp only[dZ hi,cond_true,aR hi,bd_s]) (fun rec=>by simp only[eD,cond_false]),cond_true,bd_s,aMo h30 (by omega),bd_s,aG hn,bd_s]
  cases dP m<;>cases dP ⟨Aa L⟩<;>rfl
 ·rw[decide_eq_false (show ¬(L.length:Int)>30 by omega),cond_false,bd_s]
  rw[aRg h30] at hn ⊢
  rw[aG hn,bd_s]
  cases dP m<;>cases dP ⟨L⟩<;>rfl
theorem Zw (m:D.aAN)(k a t:Int)(hz:m.sz≤34359738300):yS m k a t=some (xV m k a t):=by
 have h1:m.sz≤34359738368:=by omega
 have hm:m.Notices.length≤34359738300:=hz
 have hL:(m.Notices++[(⟨k,a,t,false⟩:D.aAP)]).length=m.Notices.length+1:=by simp
 have hn:=aVt m.Notices ⟨k,a,t,false⟩ hm
 unfold yS xV
 rw[aG (by unfold aX;simp;omega),List.nil_append,iC (show m.Notices.length≤34359738368 by omega)]
 simp only[aG h1,bd_s]
 generalize hg:m.Notices++[(⟨k,a,t,false⟩:D.aAP)]=L at*
 by_cases h30:30<L.length
 ·have e:=aL3 (l:=L) (F:=fun rec (i2:Int×Int)=>bif (decide (i2.2≥(0:Int))) then(bd (bd (bT L (i2.2)) fun z4=>bif (z4.Seen) then(some (i2.2)) else(some (i2.1))) fun z3=>rec ((z3,IntKind.i64.wrap (i2.2-(1:Int))))) else(some (i2.1))) (fun rec q i hi=>by
   simp only[decide_eq_true (show((i:Int)≥0) by omega),cond_true,aR hi,bd_s,nA,aK (show(-9223372036854775808:Int)≤(i:Int)-1 by omega) (show(i:Int)-1≤9223372036854775807 by omega)]) (fun rec q=>rfl) L.length FUEL 0 (Nat.le_refl _) (by have:=jF;omega)
  rw[List.take_length] at e
  rw[decide_eq_true (show(L.length:Int)>30 by omega),cond_true,aK (by omega) (by omega),e,←aQg,bd_s,aMo h30 (by omega),bd_s,aG hn,bd_s]
  cases dP m<;>cases dP ⟨Aa L⟩<;>rfl
 ·rw[decide_eq_false (show ¬(L.length:Int)>30 by omega),cond_false,bd_s]
  rw[aRg h30] at hn ⊢
  rw[aG hn,bd_s]
  cases dP m<;>cases dP ⟨L⟩<;>rfl
end
end Go.VK
