import Derived.Test.YtefkjglmpmakcaaGreatDoorXlPg
import Derived.Test.YtefkjglmpmakcaaGreatDoorXlQ
/- Printed by wip/tools: models, walks, proofs. -/
set_option linter.unusedVariables false
set_option linter.unusedSimpArgs false
set_option maxRecDepth 100000
set_option maxHeartbeats 4000000
namespace Go.VK
open Go.RowKit Go.Proofs
noncomputable section
open EV (bS)
theorem bEw (g:D.World)(k:Int):D.World.mk g.Now g.Seed (dK g k).1.Devices (dK g k).1.Stolen (D.aAJ.mk (dK g k).1.aAJ.Log (D.aAD.mk g.aAJ.Boxes.Epoch (dK g k).1.aAJ.Boxes.Boxes) (dK g k).1.aAJ.History) (dK g k).1.Sites g.aAQ (dK g k).1.Hosts g.Pin (dK g k).1.Mail=(dK g k).1:=by simp only[dK]
theorem bIi {g:D.World}{β:Type}{k:Option β}(h:g.sz≤68719476736):gd (jO g.sz (eQ g) 1) k=k:=aB ⟨by omega,by omega,by have:=aGd g;omega⟩
theorem okW {g:D.World}(h:g.sz≤68719476736):(1:Int)+eQ g≤4611686018427387904:=by have:=aGd g;omega
theorem aWb {α:Type}{e:α→Int→α×Int}{c:α→Nat}(ok:tN e c){g:α}(h:(1:Int)+c g≤4611686018427387904):bL e c (e g 1).1 1∧(e g 1).2=1+((c (e g 1).1:Nat):Int)∧decide ((e g 1).2<0)=false:=by
 obtain⟨m1,m2⟩:=ok g 1 (by omega) h
 exact⟨fC (by omega) h rfl m2,by rw[m1,m2],by rw[m1];exact decide_eq_false (by omega)⟩
theorem bIj {g:D.World}{β:Type}{k:Option β}(h:g.sz≤68719476736):gd (bL dK eQ (dK g 1).1 1) k=k:=aB (aWb aGc (okW h)).1
theorem bJo {g:D.World}(h:g.sz≤68719476736):(dK g 1).2=1+((eQ (dK g 1).1:Nat):Int):=(aWb aGc (okW h)).2.1
theorem bIk {n:Nat}:decide (1+(n:Int)<0)=false:=decide_eq_false (by omega)
end
end Go.VK
