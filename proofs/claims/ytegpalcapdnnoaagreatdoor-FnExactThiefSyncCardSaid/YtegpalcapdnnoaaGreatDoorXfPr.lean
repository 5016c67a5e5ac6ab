import Derived.Test.YtegpalcapdnnoaaGreatDoorXfPq
import Derived.Test.YtegpalcapdnnoaaGreatDoorXfQ
/-
  Printed by wip/tools (own work of this part): models of functions, walks over the value kit, and proofs.
-/
set_option linter.unusedVariables false
set_option linter.unusedSimpArgs false
set_option maxRecDepth 100000
set_option maxHeartbeats 4000000
namespace Go.VK
open Go.RowKit Go.Proofs
noncomputable section
open EV (itr)
theorem syncDev_sz (d:D.Device)(l:List D.LogEntry)(bx:D.EpochBoxes)(s:D.SealedBundle):(syncDevF d l bx s).1.sz≤d.sz+l.length+20:=by
 unfold syncDevF
 cases hc:syncBad d l bx s==0 with
 |false=>simp only[cond_false];omega
 |true=>
  have hm:(mergeF d.Bundle (openBF (openEpochF d.Store bx).1 s).1).2=true:=by
   cases hm:(mergeF d.Bundle (openBF (openEpochF d.Store bx).1 s).1).2 with
   |true=>rfl
   |false=>
    unfold syncBad at hc
    rw[hm] at hc
    revert hc
    cases !logOkF l|| !extendsF l d.Log<;>cases !hasF (devicesOfF l) (devPubF d.Store)<;>cases bx.Epoch !=epochOfF l|| !(openEpochF d.Store bx).2<;>cases decide (s.Epoch<epochOfF l)||(decide (s.Epoch<d.Epoch)||(s.Epoch==d.Epoch&&decide (s.Version<d.Version)))<;>cases !(openBF (openEpochF d.Store bx).1 s).2<;>simp
  have:=mergeF_sz hm
  simp only[cond_true,D.Device.sz,D.Bundle.sz] at*;omega
theorem sync_sz (w:D.World)(d b:Int):(syncF w d b).1.sz≤3*w.sz+20:=by
 unfold syncF
 cases hc:(worldOkF w&&hasDevF w d) with
 |false=>simp only[cond_false];omega
 |true=>
  have hd:=(Bool.and_eq_true_iff.1 hc).2
  simp only[hasDevF,Bool.and_eq_true,decide_eq_true_eq] at hd
  have h1:=sum_set (f:=D.Device.sz) (l:=w.Devices) (i:=d.toNat) (x:=(syncDevF (devAt w d) w.Cloud.Log w.Cloud.Boxes (fetchF w.Cloud b).1).1)
  have h2:=syncDev_sz (devAt w d) w.Cloud.Log w.Cloud.Boxes (fetchF w.Cloud b).1
  have h3:(devAt w d).sz≤(w.Devices.map D.Device.sz).sum:=getD_sz (f:=D.Device.sz) (by omega)
  have h4:w.Cloud.Log.length≤w.Cloud.sz:=by simp only[D.Cloud.sz];omega
  generalize(syncDevF (devAt w d) w.Cloud.Log w.Cloud.Boxes (fetchF w.Cloud b).1).1=x at*
  simp only[cond_true,D.World.sz,D.Cloud.sz,List.length_set] at*;omega
theorem thiefSync_sz (w:D.World)(d:Int):(thiefSyncF w d).1.sz≤3*w.sz+20:=by
 unfold thiefSyncF
 cases(worldOkF w&&(hasDevF w d&&stolenF w d)) with
 |false=>simp only[cond_false];omega
 |true=>exact sync_sz w d 0
theorem t_laws_FnExactThiefSync (w:D.World)(d:Int)(h:w.ok):m_laws_FnExactThiefSync w d=some true:=by
 unfold m_laws_FnExactThiefSync
 obtain⟨e0,⟨hs,e⟩|e⟩:=szW h
 ·have hg:=thiefSync_sz w d
  simp only[e0,bd_s,e,lawGo hs,gd_t hs,gd_t (show w.sz≤34359738100 by omega)]
  generalize thiefSyncF w d=g at hg ⊢
  have hg:g.fst.sz≤68719476736:=by omega
  have hw:w.sz≤68719476736:=by omega
  simp only[gd_eqz hg,gd_eqz hw,bd_s,Bool.not_true,cond_false,not_self,gdMkW hw,gdMkW hg,mvW0 hw,mvW_eta,heldW hg,cntW0,mvW2 hg,bne_self_eq_false]
 ·simp only[e0,bd_s,e];rfl
end
end Go.VK
