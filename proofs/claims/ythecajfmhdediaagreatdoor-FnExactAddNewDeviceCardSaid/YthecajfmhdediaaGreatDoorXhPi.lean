import Derived.Test.YthecajfmhdediaaGreatDoorXhPg
import Derived.Test.YthecajfmhdediaaGreatDoorXhQ
/- Printed by wip/tools: models, walks, proofs. -/
set_option linter.unusedVariables false
set_option linter.unusedSimpArgs false
set_option maxRecDepth 100000
set_option maxHeartbeats 4000000
namespace Go.VK
open Go.RowKit Go.Proofs
noncomputable section
open EV (bX)
theorem bJe (g:D.World)(k:Int):D.World.mk g.Now g.Seed (dG g k).1.Devices (dG g k).1.Stolen (D.aAH.mk (dG g k).1.aAH.Log (D.aAE.mk g.aAH.Boxes.Epoch (dG g k).1.aAH.Boxes.Boxes) (dG g k).1.aAH.History) (dG g k).1.Sites g.aAQ (dG g k).1.Hosts g.Pin (dG g k).1.Mail=(dG g k).1:=by simp only[dG]
theorem bJy {g:D.World}{β:Type}{k:Option β}(h:g.sz≤68719476736):gd (jS g.sz (eG g) 1) k=k:=aD ⟨by omega,by omega,by have:=aJo g;omega⟩
theorem okW {g:D.World}(h:g.sz≤68719476736):(1:Int)+eG g≤4611686018427387904:=by have:=aJo g;omega
theorem aQf {α:Type}{e:α→Int→α×Int}{c:α→Nat}(ok:uR e c){g:α}(h:(1:Int)+c g≤4611686018427387904):bO e c (e g 1).1 1∧(e g 1).2=1+((c (e g 1).1:Nat):Int)∧decide ((e g 1).2<0)=false:=by
 obtain⟨m1,m2⟩:=ok g 1 (by omega) h
 exact⟨fE (by omega) h rfl m2,by rw[m1,m2],by rw[m1];exact decide_eq_false (by omega)⟩
theorem bL4 {g:D.World}{β:Type}{k:Option β}(h:g.sz≤68719476736):gd (bO dG eG (dG g 1).1 1) k=k:=aD (aQf Qr (okW h)).1
theorem bM5 {g:D.World}(h:g.sz≤68719476736):(dG g 1).2=1+((eG (dG g 1).1:Nat):Int):=(aQf Qr (okW h)).2.1
theorem bM6 {g:D.World}(h:g.sz≤68719476736):decide ((dG g 1).2<0)=false:=(aQf Qr (okW h)).2.2
theorem bL5 {n:Nat}:decide (1+(n:Int)<0)=false:=decide_eq_false (by omega)
theorem szW {w:D.World}(h:w.ok):(∀{k:Option Int},gd (gP D.World.ok w (1048576:Int)) k=k)∧((w.sz≤1048576∧eX w.sz 1048576=1048576-(w.sz:Int))∨eX w.sz 1048576= -1):=by
 refine⟨fun {k}=>aD ⟨h,by unfold szP;omega⟩,?_⟩
 unfold eX
 by_cases h:(w.sz:Int)≤1048576
 ·exact .inl ⟨by omega,if_pos h⟩
 ·exact .inr (if_neg h)
theorem bL6 {n:Nat}{k:Option Bool}(h:n≤1048576):(bif decide ((1048576:Int)-(n:Int)<0) then some true else k)=k:=aD5 (decide_eq_false (by omega))
end
end Go.VK
