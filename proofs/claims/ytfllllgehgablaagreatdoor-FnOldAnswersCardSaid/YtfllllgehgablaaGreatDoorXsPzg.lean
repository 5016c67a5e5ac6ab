import Derived.Test.YtfllllgehgablaaGreatDoorXsPzb
import Derived.Test.YtfllllgehgablaaGreatDoorXsM
import Derived.Test.YtfllllgehgablaaGreatDoorLKatob
import Derived.Test.YtfllllgehgablaaGreatDoorLMctop
/- Printed by wip/tools: models, walks, proofs. -/
set_option linter.all false
set_option maxRecDepth 100000
set_option maxHeartbeats 4000000
namespace Go.VK
open Go.RowKit Go.Proofs
noncomputable section
open EV (bU)
structure NewIn (n:Nat) (s:Int) (w:D.World):Prop where
 ok:aV w=true
 len:w.Devices.length=n
 dev:∀i (hi:i<n),w.Devices[i]? =some (aU5 s n i 1 (nwB n))
 acc:∀j (hj:j<2),∃x l,w.Sites[j]? =some x/\x.Accounts=[⟨1,3,l⟩]/\l.length=n
 two:w.Sites.length=2
 list:∀i:Nat,i<n->kG w (i:Int)=true
 no:kG w (n:Int)=false
end
end Go.VK
