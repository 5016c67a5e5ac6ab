import Derived.Test.YtffpnfmhcpcaaaaGreatDoorXgPg
import Derived.Test.YtffpnfmhcpcaaaaGreatDoorXgQ
/-
  Printed by wip/tools (own work of this part): models of functions, walks over the value kit, and proofs.
-/
set_option linter.unusedVariables false
set_option linter.unusedSimpArgs false
set_option maxRecDepth 100000
set_option maxHeartbeats 4000000
namespace Go.VK
open Go.RowKit Go.Proofs
noncomputable section
open EV (itr)
theorem mvW_eta (g:D.World)(k:Int):D.World.mk g.Now g.Seed (mv_World g k).fst.Devices (mv_World g k).fst.Stolen (D.Cloud.mk (mv_World g k).fst.Cloud.Log (D.EpochBoxes.mk g.Cloud.Boxes.Epoch (mv_World g k).fst.Cloud.Boxes.Boxes) (mv_World g k).fst.Cloud.History) (mv_World g k).fst.Sites g.Vault (mv_World g k).fst.Hosts g.Pin (mv_World g k).fst.Mail=(mv_World g k).fst:=by simp only[mv_World]
theorem gdMkW {g:D.World}{β:Type}{k:Option β}(h:g.sz≤68719476736):gd (MkP g.sz (cv_World g) 1) k=k:=gd_t ⟨by omega,by omega,by have:=cv_World_le g;omega⟩
theorem okW {g:D.World}(h:g.sz≤68719476736):(1:Int)+cv_World g≤4611686018427387904:=by have:=cv_World_le g;omega
theorem heldP_mk {α:Type}{e:α→Int→α×Int}{c:α→Nat}(ok:MkOk e c){g:α}(h:(1:Int)+c g≤4611686018427387904):HeldP e c (e g 1).fst 1∧(e g 1).snd=1+((c (e g 1).fst:Nat):Int)∧decide ((e g 1).snd<0)=false:=by
 obtain⟨m1,m2⟩:=ok g 1 (by omega) h
 exact⟨heldP_of (by omega) h rfl m2,by rw[m1,m2],by rw[m1];exact decide_eq_false (by omega)⟩
theorem heldW {g:D.World}{β:Type}{k:Option β}(h:g.sz≤68719476736):gd (HeldP mv_World cv_World (mv_World g 1).fst 1) k=k:=gd_t (heldP_mk mv_World_ok (okW h)).1
theorem mvW2 {g:D.World}(h:g.sz≤68719476736):(mv_World g 1).snd=1+((cv_World (mv_World g 1).fst:Nat):Int):=(heldP_mk mv_World_ok (okW h)).2.1
theorem mvW0 {g:D.World}(h:g.sz≤68719476736):decide ((mv_World g 1).snd<0)=false:=(heldP_mk mv_World_ok (okW h)).2.2
theorem cntW0 {n:Nat}:decide (1+(n:Int)<0)=false:=decide_eq_false (by omega)
theorem szW {w:D.World}(h:w.ok):(∀{k:Option Int},gd (SzP D.World.ok w (1048576:Int)) k=k)∧((w.sz≤1048576∧szI w.sz 1048576=1048576-(w.sz:Int))∨szI w.sz 1048576= -1):=by
 refine⟨fun {k}=>gd_t ⟨h,by unfold szP;omega⟩,?_⟩
 unfold szI
 by_cases h:(w.sz:Int)≤1048576
 ·exact .inl ⟨by omega,if_pos h⟩
 ·exact .inr (if_neg h)
theorem lawGo {n:Nat}{k:Option Bool}(h:n≤1048576):(bif decide ((1048576:Int)-(n:Int)<0) then some true else k)=k:=bifF (decide_eq_false (by omega))
end
end Go.VK
