import Derived.Test.YtehmmnigkcmhoaaGreatDoorXmPg
import Derived.Test.YtehmmnigkcmhoaaGreatDoorXmQ
/- Printed by wip/tools: models, walks, proofs. -/
set_option linter.unusedVariables false
set_option linter.unusedSimpArgs false
set_option maxRecDepth 100000
set_option maxHeartbeats 4000000
namespace Go.VK
open Go.RowKit Go.Proofs
noncomputable section
open EV (cB)
theorem aZx (g:D.World)(k:Int):D.World.mk g.Now g.Seed (bX g k).1.Devices (bX g k).1.Stolen (D.aAJ.mk (bX g k).1.aAJ.Log (D.aAF.mk g.aAJ.Boxes.Epoch (bX g k).1.aAJ.Boxes.Boxes) (bX g k).1.aAJ.History) (bX g k).1.Sites g.aAQ (bX g k).1.Hosts g.Pin (bX g k).1.Mail=(bX g k).1:=by simp only[bX]
theorem bAi {g:D.World}{β:Type}{k:Option β}(h:g.sz≤68719476736):gd (iG g.sz (dJ g) 1) k=k:=aG ⟨by omega,by omega,by have:=aB7 g;omega⟩
theorem okW {g:D.World}(h:g.sz≤68719476736):(1:Int)+dJ g≤4611686018427387904:=by have:=aB7 g;omega
theorem aId {α:Type}{e:α→Int→α×Int}{c:α→Nat}(ok:qR e c){g:α}(h:(1:Int)+c g≤4611686018427387904):bC e c (e g 1).1 1∧(e g 1).2=1+((c (e g 1).1:Nat):Int)∧decide ((e g 1).2<0)=false:=by
 obtain⟨m1,m2⟩:=ok g 1 (by omega) h
 exact⟨dW (by omega) h rfl m2,by rw[m1,m2],by rw[m1];exact decide_eq_false (by omega)⟩
theorem bDa {g:D.World}{β:Type}{k:Option β}(h:g.sz≤68719476736):gd (bC bX dJ (bX g 1).1 1) k=k:=aG (aId Kh (okW h)).1
theorem bEj {g:D.World}(h:g.sz≤68719476736):(bX g 1).2=1+((dJ (bX g 1).1:Nat):Int):=(aId Kh (okW h)).2.1
theorem bEk {g:D.World}(h:g.sz≤68719476736):decide ((bX g 1).2<0)=false:=(aId Kh (okW h)).2.2
theorem bDb {n:Nat}:decide (1+(n:Int)<0)=false:=decide_eq_false (by omega)
theorem szW {w:D.World}(h:w.ok):(∀{k:Option Int},gd (fE D.World.ok w (1048576:Int)) k=k)∧((w.sz≤1048576∧dQ w.sz 1048576=1048576-(w.sz:Int))∨dQ w.sz 1048576= -1):=by
 refine⟨fun {k}=>aG ⟨h,by unfold szP;omega⟩,?_⟩
 unfold dQ
 by_cases h:(w.sz:Int)≤1048576
 ·exact .inl ⟨by omega,if_pos h⟩
 ·exact .inr (if_neg h)
theorem bDc {n:Nat}{k:Option Bool}(h:n≤1048576):(bif decide ((1048576:Int)-(n:Int)<0) then some true else k)=k:=I8 (decide_eq_false (by omega))
end
end Go.VK
