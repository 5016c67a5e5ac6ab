import Derived.Test.YtffpnfmhcpcaaaaGreatDoorXgPg
import Derived.Test.YtffpnfmhcpcaaaaGreatDoorXgQ
/-
  Printed by wip/tools (own work of this part): models of functions, walks over the value kit, and proofs.
-/
set_option linter.unusedVariables false
set_option linter.unusedSimpArgs false
set_option maxRecDepth 100000
set_option maxHeartbeats 4000000
namespace Go.VK
open Go.RowKit Go.Proofs
noncomputable section
open EV (bW)
theorem bBk (g:D.World)(k:Int):D.World.mk g.Now g.Seed (cK g k).fst.Devices (cK g k).fst.Stolen (D.Cloud.mk (cK g k).fst.Cloud.Log (D.EpochBoxes.mk g.Cloud.Boxes.Epoch (cK g k).fst.Cloud.Boxes.Boxes) (cK g k).fst.Cloud.History) (cK g k).fst.Sites g.Vault (cK g k).fst.Hosts g.Pin (cK g k).fst.Mail=(cK g k).fst:=by simp only[cK]
theorem bB3 {g:D.World}{β:Type}{k:Option β}(h:g.sz≤68719476736):gd (iO g.sz (dM g) 1) k=k:=aH ⟨by omega,by omega,by have:=aDk g;omega⟩
theorem okW {g:D.World}(h:g.sz≤68719476736):(1:Int)+dM g≤4611686018427387904:=by have:=aDk g;omega
theorem aJr {α:Type}{e:α→Int→α×Int}{c:α→Nat}(ok:rA e c){g:α}(h:(1:Int)+c g≤4611686018427387904):bI e c (e g 1).fst 1∧(e g 1).snd=1+((c (e g 1).fst:Nat):Int)∧decide ((e g 1).snd<0)=false:=by
 obtain⟨m1,m2⟩:=ok g 1 (by omega) h
 exact⟨eH (by omega) h rfl m2,by rw[m1,m2],by rw[m1];exact decide_eq_false (by omega)⟩
theorem bD2 {g:D.World}{β:Type}{k:Option β}(h:g.sz≤68719476736):gd (bI cK dM (cK g 1).fst 1) k=k:=aH (aJr Lu (okW h)).1
theorem bE5 {g:D.World}(h:g.sz≤68719476736):(cK g 1).snd=1+((dM (cK g 1).fst:Nat):Int):=(aJr Lu (okW h)).2.1
theorem bE6 {g:D.World}(h:g.sz≤68719476736):decide ((cK g 1).snd<0)=false:=(aJr Lu (okW h)).2.2
theorem bD3 {n:Nat}:decide (1+(n:Int)<0)=false:=decide_eq_false (by omega)
theorem szW {w:D.World}(h:w.ok):(∀{k:Option Int},gd (fK D.World.ok w (1048576:Int)) k=k)∧((w.sz≤1048576∧dW w.sz 1048576=1048576-(w.sz:Int))∨dW w.sz 1048576= -1):=by
 refine⟨fun {k}=>aH ⟨h,by unfold szP;omega⟩,?_⟩
 unfold dW
 by_cases h:(w.sz:Int)≤1048576
 ·exact .inl ⟨by omega,if_pos h⟩
 ·exact .inr (if_neg h)
theorem bD4 {n:Nat}{k:Option Bool}(h:n≤1048576):(bif decide ((1048576:Int)-(n:Int)<0) then some true else k)=k:=Zn (decide_eq_false (by omega))
end
end Go.VK
