import Derived.Test.YtinkjfapmhcgmaaGreatDoorXjPs
import Derived.Test.YtinkjfapmhcgmaaGreatDoorXjQ
/- Printed by wip/tools: models, walks, proofs. -/
set_option linter.unusedVariables false
set_option linter.unusedSimpArgs false
set_option maxRecDepth 100000
set_option maxHeartbeats 4000000
namespace Go.VK
open Go.RowKit Go.Proofs
noncomputable section
open EV (bU)
theorem Vl (s:D.aAJ)(l:List Int)(h:l.length≤34359738300):tY s l=some (lK s l):=by unfold tY;rw[aC h];rfl
theorem Vm (s:D.aAJ)(l:List Int)(h:l.length≤34359738300):uE s l=some (lK s l):=by unfold uE;rw[aC (by simp),bd_s,aC h];rfl
theorem aAv (e:D.aAE)(d:Int)(h:e.Boxes.length≤34359738368):yM e d=some (kW e d):=by
 unfold yM
 rw[fK (l:=e.Boxes) (fun n b=>bif b.To==d then IntKind.i64.wrap (n+1) else n) (fun _ _=>True) (fun s=>some s) (by omega) trivial (fun _ _ _ _=>trivial) (fun rec i s hi _=>by
  simp only[bE hi,cond_true,aF hi,bd_s,kF]) (fun rec s _=>by simp only[bF,cond_false])]
 rfl
theorem aAw (e:D.aAE)(d:Int)(h:e.Boxes.length≤34359738368):zD e d=some (kW e d):=by
 unfold zD
 rw[fK (l:=e.Boxes) (fun n b=>bif b.To==d then IntKind.i64.wrap (n+1) else n) (fun _ _=>True) (fun s=>some s) (by omega) trivial (fun _ _ _ _=>trivial) (fun rec i s hi _=>by
  simp only[bE hi,cond_true,aF hi,bd_s,kF]) (fun rec s _=>by simp only[bF,cond_false])]
 rfl
theorem G9 (l:List D.aAB)(k d:Int)(s:D.aAJ)(h:l.length≤34359738300):wB l k d s=some (kG l k d s):=by
 have h1:l.length≤34359738368:=by omega
 have e:∀x:D.aAB,gd ((l++[x]).length≤34359738368) (some (cB (l++[x])))=some (cB (l++[x])):=fun x=>aC (by simp;omega)
 have e1:∀x:Int,gd ([x].length≤34359738300) (some (lK s [x]))=some (lK s [x]):=fun x=>aC (by simp)
 unfold wB kG bHf bI1
 simp only[aC h1,bd_s,e1,fF h1,e]
 generalize cB (l++_)=q
 cases decide ((l.length:Int)>0)<;>cases cB l<;>cases q<;>rfl
theorem H5 (l:List D.aAB)(k d:Int)(s:D.aAJ)(h:l.length≤34359738300):wP l k d s=some (kG l k d s):=by
 have h1:l.length≤34359738368:=by omega
 have e:∀x:D.aAB,gd ((l++[x]).length≤34359738368) (some (cB (l++[x])))=some (cB (l++[x])):=fun x=>aC (by simp;omega)
 have e1:∀x:Int,gd ([x].length≤34359738300) (some (lK s [x]))=some (lK s [x]):=fun x=>aC (by simp)
 unfold wP kG bHf bI1
 simp only[aC h1,bd_s,e1,fF h1,e]
 generalize cB (l++_)=q
 cases decide ((l.length:Int)>0)<;>cases cB l<;>cases q<;>rfl
theorem aP1 (p e:Int)(d:List Int)(h:aW d):(bd (bif fV p==0 then some true else bif !dP e then some true else some (decide ((d.length:Int)>200))) fun z0=>bif z0 then some (D.Box.mk 0 0 [] 0,false) else bd (gd (aW d) (some (pG (fU (fV p) e) d))) fun z1=>bd (gd (z1.length≤34359738200) (some (Uc (fU (fV p) e) (D.Box.mk p e z1 0)))) fun z2=>some (D.Box.mk p e z1 z2,true))=some (gP p e d):=by
 unfold gP aNy
 rw[Ay,Ay,bd_s]
 cases hc:(fV p==0||(!dP e||decide ((d.length:Int)>200))) with
 |true=>rfl
 |false=>
  have hl:d.length≤200:=by simp only[Bool.or_eq_false_iff,decide_eq_false_iff_not] at hc;omega
  rw[cond_false,cond_false,aC h,bd_s,aC (show(pG (fU (fV p) e) d).length≤34359738200 by rw[X8];omega),bd_s]
theorem aP2 (p e:Int)(d:List Int)(h:aW d):aN8 p e d=some (gP p e d):=aP1 p e d h
theorem aP3 (p e:Int)(d:List Int)(h:aW d):aOb p e d=some (gP p e d):=aP1 p e d h
theorem aE9 (l:List Int)(e:Int)(d:List Int)(h:l.length≤34359738300∧aW d):Ca l e d=some (iW e d 0 l):=by
 obtain⟨h1,h2⟩:=h
 unfold Ca
 rw[aDk (e:=e) (d:=d) (l:=l) (x:=(([],false):List D.Box×Bool)) (fun rec i s hi hs=>by
  simp only[bE hi,cond_true,aF hi,bd_s,aC h2,fF (show s.length≤34359738368 by omega)]) (fun rec s=>by simp only[bF,cond_false]) l.length 0 FUEL [] (by omega) (by have:=gK;omega) (by simp),List.drop_zero]
 cases hs:(iW e d 0 l).2 with
 |true=>rw[cond_true,nx_r,List.nil_append,←hs]
 |false=>rw[cond_false,bAb hs];rfl
theorem aFa (l:List Int)(e:Int)(d:List Int)(h:l.length≤34359738300∧aW d):Cw l e d=some (iW e d 0 l):=by
 obtain⟨h1,h2⟩:=h
 unfold Cw
 rw[aDk (e:=e) (d:=d) (l:=l) (x:=(([],false):List D.Box×Bool)) (fun rec i s hi hs=>by
  simp only[bE hi,cond_true,aF hi,bd_s,aC h2,fF (show s.length≤34359738368 by omega)]) (fun rec s=>by simp only[bF,cond_false]) l.length 0 FUEL [] (by omega) (by have:=gK;omega) (by simp),List.drop_zero]
 cases hs:(iW e d 0 l).2 with
 |true=>rw[cond_true,nx_r,List.nil_append,←hs]
 |false=>rw[cond_false,bAb hs];rfl
theorem bDq (a b:Int):aW (kY [a,b]):=aNv (by have:=aZ8 a b;omega) (aNw _)
theorem Lg (l:List D.aAB)(k e:Int)(h:l.length≤34359738300):pQ l k e=some (iX l k e):=by
 have hd:=fE l
 unfold pQ iX
 simp only[aC (show l.length≤34359738368 by omega),bd_s,aC (show[bC l,k].length≤5000000000 by simp),aC (show(aI l).length≤34359738300∧aW (kY [bC l,k]) from⟨by omega,bDq _ _⟩)]
 cases cB l<;>cases dP k<;>cases(iW e (kY [bC l,k]) 0 (aI l)).2<;>rfl
theorem Lh (l:List D.aAB)(k e:Int)(h:l.length≤34359738300):pY l k e=some (iX l k e):=by
 have hd:=fE l
 unfold pY iX
 simp only[aC (show l.length≤34359738368 by omega),bd_s,aC (show[bC l,k].length≤5000000000 by simp),aC (show(aI l).length≤34359738300∧aW (kY [bC l,k]) from⟨by omega,bDq _ _⟩)]
 cases cB l<;>cases dP k<;>cases(iW e (kY [bC l,k]) 0 (aI l)).2<;>rfl
theorem bDr (e:D.aAE)(l:List Int):(l.all fun d=>kW e d==1)= !(l.any fun d=>kW e d !=1):=by
 induction l with
 |nil=>rfl
 |cons x l ih=>simp only[List.all_cons,List.any_cons,ih,bne];cases(kW e x==1)<;>simp
theorem aFb (e:D.aAE)(l:List D.aAB)(h:e.Boxes.length≤34359738368∧l.length≤34359738368):Cb e l=some (lX e l):=by
 obtain⟨h1,h2⟩:=h
 have hd:=fE l
 unfold Cb lX
 rw[aC h2,bd_s,mP (l:=aI l) (fun d=>kW e d !=1) (.inl false) (.inr PUnit.unit) (by omega) (fun rec i hi=>by
  simp only[bE hi,cond_true,aF hi,bd_s,aC h1]) (fun rec=>by simp only[bF,cond_false]),bDr]
 simp only[aC h2,bd_s]
 cases(aI l).any (fun d=>kW e d !=1)<;>cases(e.Epoch==bC l)<;>cases((e.Boxes.length:Int)==((aI l).length:Int))<;>rfl
theorem aFc (e:D.aAE)(l:List D.aAB)(h:e.Boxes.length≤34359738368∧l.length≤34359738368):Cx e l=some (lX e l):=by
 obtain⟨h1,h2⟩:=h
 have hd:=fE l
 unfold Cx lX
 rw[aC h2,bd_s,aC h2,bd_s,mP (l:=aI l) (fun d=>kW e d !=1) (.inl false) (.inr PUnit.unit) (by omega) (fun rec i hi=>by
  simp only[bE hi,cond_true,aF hi,bd_s,aC h1]) (fun rec=>by simp only[bF,cond_false]),bDr]
 simp only[bne]
 cases(aI l).any (fun d=> !(kW e d==1))<;>cases(e.Epoch==bC l)<;>cases((e.Boxes.length:Int)==((aI l).length:Int))<;>rfl
theorem bHl {e:D.aAE}(h:e.sz≤34359738368):e.Boxes.length≤34359738368:=by simp only[D.aAE.sz] at h;omega
theorem aFd (c:D.aAH)(l:List D.aAB)(e:D.aAE)(h:c.sz≤34359738368∧l.length≤34359738368∧e.sz≤34359738368):Cc c l e=some (lL c l e):=by
 obtain⟨h1,h2,h3⟩:=h
 unfold Cc lL
 simp only[aC h1,aC h2,aC h3,bd_s,aC (show e.Boxes.length≤34359738368∧l.length≤34359738368 from⟨bHl h3,h2⟩)]
 cases cB l<;>cases dY l c.Log<;>cases lX e l<;>rfl
theorem aFe (c:D.aAH)(l:List D.aAB)(e:D.aAE)(h:c.sz≤34359738368∧l.length≤34359738368∧e.sz≤34359738368):Cy c l e=some (lL c l e):=by
 obtain⟨h1,h2,h3⟩:=h
 unfold Cy lL
 simp only[aC h1,aC h2,aC h3,bd_s,aC (show e.Boxes.length≤34359738368∧l.length≤34359738368 from⟨bHl h3,h2⟩)]
 cases cB l<;>cases dY l c.Log<;>cases lX e l<;>rfl
theorem H6 (s:D.Site)(i:Int)(h:s.Accounts.length≤34359738368):wC s i=some (bA s i):=by
 unfold wC
 exact Av (l:=s.Accounts) (fun a=>a.Id==i) (by omega) (fun rec j hj=>by simp only[bE hj,cond_true,aF hj,bd_s]) (fun rec=>by simp only[bF,cond_false])
theorem H7 (s:D.Site)(i:Int)(h:s.Accounts.length≤34359738368):wQ s i=some (bA s i):=by
 unfold wQ
 exact Av (l:=s.Accounts) (fun a=>a.Id==i) (by omega) (fun rec j hj=>by simp only[bE hj,cond_true,aF hj,bd_s]) (fun rec=>by simp only[bF,cond_false])
theorem aMi (i:Int):(bD i).size≤34359738300:=by unfold bD;cases i==0<;>cases i==1<;>decide
theorem aAx (d:D.Device)(h:Int)(rm:Bool)(hz:d.sz≤34359738300):yO d h rm=some (rU d h rm):=by
 have h1:=Tx d (bD 0) h rm
 unfold yO rU
 rw[aC ⟨by omega,aMi 0⟩,bd_s,show FUEL=FUEL-2+1+1 from by have:=gK;omega]
 have e:∀{β:Type} (k:Option β),gd ((fC d (bD 0) h rm).1.sz≤34359738360∧(bD 1).size≤34359738300) k=k:=fun k=>aC ⟨by omega,aMi 1⟩
 show(bd (bd (gd ((fC d (bD 0) h rm).1.sz≤34359738360∧(bD 1).size≤34359738300) (some (fC (fC d (bD 0) h rm).1 (bD 1) h rm))) fun z3=>some (z3.1.Store.Vendor,z3.1.Store.Serial,z3.1.Store.Seed,z3.1.Store.Counter,z3.1.Log,z3.1.Key,z3.1.Epoch,z3.1.Version,z3.1.aAD.Entries)) fun z0=>some (D.Device.mk (D.aAJ.mk z0.1 z0.2.1 z0.2.2.1 z0.2.2.2.1) z0.2.2.2.2.1 z0.2.2.2.2.2.1 z0.2.2.2.2.2.2.1 z0.2.2.2.2.2.2.2.1 (D.aAD.mk z0.2.2.2.2.2.2.2.2)))=_
 rw[e,bd_s,bd_s]
theorem bHm {w:D.World}{d:Int}(hw:dU w=true)(hd:bH w d=true):aL w.Stolen d=some (yA w d):=by
 have hl:w.Stolen.length=w.Devices.length:=by
  simp only[dU,Bool.and_eq_true,beq_iff_eq] at hw;omega
 simp only[bH,Bool.and_eq_true,decide_eq_true_eq] at hd
 rw[nK hd.1 (by omega)]
 simp[yA,List.getD,List.getElem?_eq_getElem (show d.toNat<w.Stolen.length by omega)]
theorem bDs {p r:List D.Site}{s:D.Site}:aL (p++s::r) ((p.length:Nat):Int)=some s:=by
 rw[aF (by simp)];simp
theorem bAq {p r:List D.Site}{s y:D.Site}:(p++s::r).set (Int.toNat ((p.length:Nat):Int)) y=p++y::r:=by
 rw[Int.toNat_natCast];simp
theorem bI7 {D0:List D.Device}{d:D.Device}{b n:Int}{rm:Bool}(hb:0≤b)(hi:b.toNat<D0.length)(hd:D0[b.toNat]=d)(hz:d.sz≤34359738300):EV.bU (α:=List D.Device) FUEL (fun rec (i:Nat×List D.Device)=>bif decide ((i.1:Int)<2) then(bd (aL i.2 b) fun z11=>bd (gd (z11.sz≤34359738360∧(bD (i.1:Int)).size≤34359738300) (some (fC z11 (bD (i.1:Int)) n rm))) fun z12=>bd (aL i.2 b) fun z13=>rec (i.1+1,i.2.set b.toNat z12.1)) else some i.2) (0,D0)=some (D0.set b.toNat (rU d n rm)):=by
 have h1:=Tx d (bD 0) n rm
 have e1:aL D0 b=some d:=by rw[nK hb (by omega),hd]
 have e2:aL (D0.set b.toNat (fC d (bD 0) n rm).1) b=some (fC d (bD 0) n rm).1:=by rw[nK hb (by simp;omega)];simp
 rw[show FUEL=FUEL-3+1+1+1 from by have:=gK;omega,iN]
 show(bd (aL D0 b) fun z11=>bd (gd (z11.sz≤34359738360∧(bD 0).size≤34359738300) (some (fC z11 (bD 0) n rm))) fun z12=>bd (aL D0 b) fun z13=>EV.bU (FUEL-3+1+1) _ (1,D0.set b.toNat z12.1))=_
 rw[e1,bd_s,aC ⟨by omega,aMi 0⟩,bd_s,bd_s,iN]
 show(bd (aL (D0.set b.toNat (fC d (bD 0) n rm).1) b) fun z11=>bd (gd (z11.sz≤34359738360∧(bD 1).size≤34359738300) (some (fC z11 (bD 1) n rm))) fun z12=>bd (aL (D0.set b.toNat (fC d (bD 0) n rm).1) b) fun z13=>EV.bU (FUEL-3+1) _ (2,(D0.set b.toNat (fC d (bD 0) n rm).1).set b.toNat z12.1))=_
 rw[e2,bd_s,aC ⟨by omega,aMi 1⟩,bd_s,bd_s,iN,List.set_set]
 rfl
theorem bLs {w:D.World}{b:Int}(hz:w.sz≤100000000)(h1:dU w=true)(hs:((bO w b 0).2==0)=true):((bH (bO w b 0).1 b=true∧(bO w b 0).1.Sites.length=2)∧(bO w b 0).1.sz≤300000000)∧(bO w b 0).1.aAH.Log.length≤100000000:=by
 obtain⟨⟨k1,k2⟩,k3,k4,k5⟩:=aMe hs
 have hL:w.aAH.Log.length≤w.sz:=by simp only[D.World.sz,D.aAH.sz];omega
 refine⟨⟨⟨by simp only[bH] at*;rw[k4];exact k2,?_⟩,by omega⟩,by rw[k3];omega⟩
 have e:(bO w b 0).1.Sites=w.Sites:=by unfold bO;cases(dU w&&bH w b)<;>rfl
 rw[e]
 simp only[dU,Bool.and_eq_true,beq_iff_eq] at h1
 omega
theorem aWc {L:List D.aAM}(h30:30<L.length)(hL:L.length≤34359738301):gd (mF L ((rT L:Nat):Int)) (gd (mF L (IntKind.i64.wrap (((rT L:Nat):Int)+1))) (gd (bJ [] (List.take (Int.toNat ((rT L:Nat):Int)) L)) (gd (bJ ([]++List.take (Int.toNat ((rT L:Nat):Int)) L) (List.drop (Int.toNat (IntKind.i64.wrap (((rT L:Nat):Int)+1))) L)) (some ([]++List.take (Int.toNat ((rT L:Nat):Int)) L++List.drop (Int.toNat (IntKind.i64.wrap (((rT L:Nat):Int)+1))) L)))))=some (Ii L):=by
 have hs:=bAa (l:=L) (by omega)
 have e:IntKind.i64.wrap (((rT L:Nat):Int)+1)=((rT L+1:Nat):Int):=by rw[aP (by omega) (by omega)];rfl
 rw[e,aC ⟨by omega,by omega⟩,aC ⟨by omega,by omega⟩,aC (by unfold bJ;simp;omega),aC (by unfold bJ;simp;omega),Int.toNat_natCast,Int.toNat_natCast]
 unfold Ii
 rw[decide_eq_true (show(L.length:Int)>30 by omega)];rfl
theorem bDt (l:List D.aAM)(x:D.aAM)(h:l.length≤34359738300):(D.aAK.mk (Ii (l++[x]))).sz≤34359738368:=by
 have:=aVz (l++[x])
 simp only[List.length_append,List.length_singleton] at this
 simp only[D.aAK.sz];omega
theorem bAr {L:List D.aAM}(h:¬30<L.length):Ii L=L:=by
 unfold Ii
 rw[decide_eq_false (show ¬(L.length:Int)>30 by omega)];rfl
theorem aAy (m:D.aAK)(k a t:Int)(hz:m.sz≤34359738300):zH m k a t=some (Ij m k a t):=by
 have h1:m.sz≤34359738368:=by omega
 have hm:m.Notices.length≤34359738300:=hz
 have hL:(m.Notices++[(⟨k,a,t,false⟩:D.aAM)]).length=m.Notices.length+1:=by simp
 have hn:=bDt m.Notices ⟨k,a,t,false⟩ hm
 unfold zH Ij
 simp only[aC h1,bd_s,fF (show m.Notices.length≤34359738368 by omega)]
 generalize hg:m.Notices++[(⟨k,a,t,false⟩:D.aAM)]=L at*
 by_cases h30:30<L.length
 ·rw[decide_eq_true (show(L.length:Int)>30 by omega),bI4 (l:=L) (fun i=>some i) (fun i=>((0:Int),i)) (by omega) (fun rec i hi=>by simp only[bE hi,cond_true,aF hi,bd_s]) (fun rec=>by simp only[bF,cond_false]),cond_true,bd_s,aWc h30 (by omega),bd_s,aC hn,bd_s]
  cases eZ m<;>cases eZ ⟨Ii L⟩<;>rfl
 ·rw[decide_eq_false (show ¬(L.length:Int)>30 by omega),cond_false,bd_s]
  rw[bAr h30] at hn ⊢
  rw[aC hn,bd_s]
  cases eZ m<;>cases eZ ⟨L⟩<;>rfl
theorem aAz (m:D.aAK)(k a t:Int)(hz:m.sz≤34359738300):yQ m k a t=some (Ij m k a t):=by
 have h1:m.sz≤34359738368:=by omega
 have hm:m.Notices.length≤34359738300:=hz
 have hL:(m.Notices++[(⟨k,a,t,false⟩:D.aAM)]).length=m.Notices.length+1:=by simp
 have hn:=bDt m.Notices ⟨k,a,t,false⟩ hm
 unfold yQ Ij
 rw[aC (by unfold bJ;simp;omega),List.nil_append,fF (show m.Notices.length≤34359738368 by omega)]
 simp only[aC h1,bd_s]
 generalize hg:m.Notices++[(⟨k,a,t,false⟩:D.aAM)]=L at*
 by_cases h30:30<L.length
 ·have e:=aV2 (l:=L) (F:=fun rec (i2:Int×Int)=>bif (decide (i2.2≥(0:Int))) then(bd (bd (aL L (i2.2)) fun z4=>bif (z4.Seen) then(some (i2.2)) else(some (i2.1))) fun z3=>rec ((z3,IntKind.i64.wrap (i2.2-(1:Int))))) else(some (i2.1))) (fun rec q i hi=>by
   simp only[decide_eq_true (show((i:Int)≥0) by omega),cond_true,aF hi,bd_s,kF,aP (show(-9223372036854775808:Int)≤(i:Int)-1 by omega) (show(i:Int)-1≤9223372036854775807 by omega)]) (fun rec q=>rfl) L.length FUEL 0 (Nat.le_refl _) (by have:=gK;omega)
  rw[List.take_length] at e
  rw[decide_eq_true (show(L.length:Int)>30 by omega),cond_true,aP (by omega) (by omega),e,←aZ9,bd_s,aWc h30 (by omega),bd_s,aC hn,bd_s]
  cases eZ m<;>cases eZ ⟨Ii L⟩<;>rfl
 ·rw[decide_eq_false (show ¬(L.length:Int)>30 by omega),cond_false,bd_s]
  rw[bAr h30] at hn ⊢
  rw[aC hn,bd_s]
  cases eZ m<;>cases eZ ⟨L⟩<;>rfl
end
end Go.VK
