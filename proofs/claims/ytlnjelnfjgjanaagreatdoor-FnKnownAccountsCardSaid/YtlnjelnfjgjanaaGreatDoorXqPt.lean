import Derived.Test.YtlnjelnfjgjanaaGreatDoorXqPs
import Derived.Test.YtlnjelnfjgjanaaGreatDoorXqM
/- Printed by wip/tools: models, walks, proofs. -/
set_option linter.all false
set_option maxRecDepth 100000
set_option maxHeartbeats 4000000
namespace Go.VK
open Go.RowKit Go.Proofs
noncomputable section
open EV (cB)
def aPj (w:D.World):(iA w).1.sz<=13*w.sz+4000:=by
 unfold iA
 cases hc:(aU w&&((gP (bX w) w).2&&(lD (bX w) (gP (bX w) w).1).2)) with
 |false=>simp only[ab];omega
 |true=>
  rw[aa] at hc
  have h6:=bE6 hc.1
  obtain⟨h1,h2⟩:=Vz (bX w) w
  have h3:=aHs (bX w) (gP (bX w) w).1
  rw[h2] at h3
  have h4:w.aAE.Log.length<=w.sz:=by simp only[D.World.sz,D.aAE.sz];omega
  have h5:=db (w.aAE.Log.length+521) h6
  have h7:=db (w.aAE.Log.length+20) h6
  simp only[ac];omega
end
end Go.VK
