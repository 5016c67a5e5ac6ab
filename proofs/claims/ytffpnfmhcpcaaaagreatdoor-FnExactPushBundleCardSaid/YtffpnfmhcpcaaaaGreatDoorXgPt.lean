import Derived.Test.YtffpnfmhcpcaaaaGreatDoorXgPs
import Derived.Test.YtffpnfmhcpcaaaaGreatDoorXgQ
/-
  Printed by wip/tools (own work of this part): models of functions, walks over the value kit, and proofs.
-/
set_option linter.unusedVariables false
set_option linter.unusedSimpArgs false
set_option maxRecDepth 100000
set_option maxHeartbeats 4000000
namespace Go.VK
open Go.RowKit Go.Proofs
noncomputable section
open EV (itr)
theorem pushF_sz (w:D.World)(d:Int):(pushF w d).1.sz≤2*w.sz+521:=by
 cases h:(pushF w d).2 with
 |true=>
  have h1:=(push_ok h).2
  have h2:w.Cloud.Log.length≤w.sz:=by simp only[D.World.sz,D.Cloud.sz];omega
  omega
 |false=>
  unfold pushF at*
  cases hc:((syncF w d 0).2==0&&(upF (syncF w d 0).1 d).2) with
  |true=>rw[hc] at h;cases h
  |false=>simp only[cond_false];omega
theorem t_laws_FnExactPushBundle (w:D.World)(d:Int)(h:w.ok):m_laws_FnExactPushBundle w d=some true:=by
 unfold m_laws_FnExactPushBundle
 obtain⟨e0,⟨hs,e⟩|e⟩:=szW h
 ·have hg:=pushF_sz w d
  simp only[e0,bd_s,e,lawGo hs,gd_t hs,gd_t (show w.sz≤10000000000 by omega)]
  generalize pushF w d=g at hg ⊢
  have hg:g.fst.sz≤68719476736:=by omega
  have hw:w.sz≤68719476736:=by omega
  simp only[gd_eqz hg,gd_eqz hw,bd_s,Bool.not_true,cond_false,not_self,gdMkW hw,gdMkW hg,mvW0 hw,mvW_eta,heldW hg,cntW0,mvW2 hg,bne_self_eq_false]
 ·simp only[e0,bd_s,e];rfl
end
end Go.VK
