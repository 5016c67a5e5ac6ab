import Derived.Test.YtffpnfmhcpcaaaaGreatDoorXgPs
import Derived.Test.YtffpnfmhcpcaaaaGreatDoorXgQ
/-
  Printed by wip/tools (own work of this part): models of functions, walks over the value kit, and proofs.
-/
set_option linter.unusedVariables false
set_option linter.unusedSimpArgs false
set_option maxRecDepth 100000
set_option maxHeartbeats 4000000
namespace Go.VK
open Go.RowKit Go.Proofs
noncomputable section
open EV (bW)
theorem aYd (w:D.World):(kR w).1.sz≤13*w.sz+4000:=by
 unfold kR
 cases hc:(dS w&&((iA (cZ w) w).2&&(lQ (cZ w) (iA (cZ w) w).1).2)) with
 |false=>simp only[cond_false];omega
 |true=>
  rw[Bool.and_eq_true] at hc
  have h6:=aVg hc.1
  obtain⟨h1,h2⟩:=Bu (cZ w) w
  have h3:=aH7 (cZ w) (iA (cZ w) w).1
  rw[h2] at h3
  have h4:w.Cloud.Log.length≤w.sz:=by simp only[D.World.sz,D.Cloud.sz];omega
  have h5:=Nat.mul_le_mul_right (w.Cloud.Log.length+521) h6
  have h7:=Nat.mul_le_mul_right (w.Cloud.Log.length+20) h6
  simp only[cond_true];omega
theorem vI (w:D.World)(h:w.ok):jZ w=some true:=by
 unfold jZ
 obtain⟨e0,⟨hs,e⟩|e⟩:=szW h
 ·have hg:=aYd w
  simp only[e0,bd_s,e,bD4 hs,aH hs,aH (show w.sz≤1000000000 by omega)]
  generalize kR w=g at hg ⊢
  have hg:g.fst.sz≤68719476736:=by omega
  have hw:w.sz≤68719476736:=by omega
  simp only[aZ6 hg,aZ6 hw,bd_s,Bool.not_true,cond_false,aZ7,bB3 hw,bB3 hg,bE6 hw,bBk,bD2 hg,bD3,bE5 hg,bne_self_eq_false]
 ·simp only[e0,bd_s,e];rfl
end
end Go.VK
