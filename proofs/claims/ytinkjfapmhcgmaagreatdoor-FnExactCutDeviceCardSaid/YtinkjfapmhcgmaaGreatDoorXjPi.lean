import Derived.Test.YtinkjfapmhcgmaaGreatDoorXjPg
import Derived.Test.YtinkjfapmhcgmaaGreatDoorXjQ
/- Printed by wip/tools: models, walks, proofs. -/
set_option linter.unusedVariables false
set_option linter.unusedSimpArgs false
set_option maxRecDepth 100000
set_option maxHeartbeats 4000000
namespace Go.VK
open Go.RowKit Go.Proofs
noncomputable section
open EV (bU)
theorem bI6 (g:D.World)(k:Int):D.World.mk g.Now g.Seed (dE g k).1.Devices (dE g k).1.Stolen (D.aAH.mk (dE g k).1.aAH.Log (D.aAE.mk g.aAH.Boxes.Epoch (dE g k).1.aAH.Boxes.Boxes) (dE g k).1.aAH.History) (dE g k).1.Sites g.aAQ (dE g k).1.Hosts g.Pin (dE g k).1.Mail=(dE g k).1:=by simp only[dE]
theorem bJr {g:D.World}{β:Type}{k:Option β}(h:g.sz≤68719476736):gd (jU g.sz (dZ g) 1) k=k:=aC ⟨by omega,by omega,by have:=aIr g;omega⟩
theorem okW {g:D.World}(h:g.sz≤68719476736):(1:Int)+dZ g≤4611686018427387904:=by have:=aIr g;omega
theorem aPl {α:Type}{e:α→Int→α×Int}{c:α→Nat}(ok:uS e c){g:α}(h:(1:Int)+c g≤4611686018427387904):bL e c (e g 1).1 1∧(e g 1).2=1+((c (e g 1).1:Nat):Int)∧decide ((e g 1).2<0)=false:=by
 obtain⟨m1,m2⟩:=ok g 1 (by omega) h
 exact⟨fD (by omega) h rfl m2,by rw[m1,m2],by rw[m1];exact decide_eq_false (by omega)⟩
theorem bMp {g:D.World}{β:Type}{k:Option β}(h:g.sz≤68719476736):gd (bL dE dZ (dE g 1).1 1) k=k:=aC (aPl Qv (okW h)).1
theorem bNu {g:D.World}(h:g.sz≤68719476736):(dE g 1).2=1+((dZ (dE g 1).1:Nat):Int):=(aPl Qv (okW h)).2.1
theorem bNv {g:D.World}(h:g.sz≤68719476736):decide ((dE g 1).2<0)=false:=(aPl Qv (okW h)).2.2
theorem bMq {n:Nat}:decide (1+(n:Int)<0)=false:=decide_eq_false (by omega)
theorem szW {w:D.World}(h:w.ok):(∀{k:Option Int},gd (gL D.World.ok w (1048576:Int)) k=k)∧((w.sz≤1048576∧eT w.sz 1048576=1048576-(w.sz:Int))∨eT w.sz 1048576= -1):=by
 refine⟨fun {k}=>aC ⟨h,by unfold szP;omega⟩,?_⟩
 unfold eT
 by_cases h:(w.sz:Int)≤1048576
 ·exact .inl ⟨by omega,if_pos h⟩
 ·exact .inr (if_neg h)
theorem bMr {n:Nat}{k:Option Bool}(h:n≤1048576):(bif decide ((1048576:Int)-(n:Int)<0) then some true else k)=k:=aDa (decide_eq_false (by omega))
end
end Go.VK
