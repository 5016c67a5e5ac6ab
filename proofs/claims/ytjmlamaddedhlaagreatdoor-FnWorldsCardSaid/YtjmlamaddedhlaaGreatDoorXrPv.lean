import Derived.Test.YtjmlamaddedhlaaGreatDoorXrPu
import Derived.Test.YtjmlamaddedhlaaGreatDoorXrM
/- Printed by wip/tools: models, walks, proofs. -/
set_option linter.all false
set_option maxRecDepth 100000
set_option maxHeartbeats 4000000
namespace Go.VK
open Go.RowKit Go.Proofs
noncomputable section
open EV (bO)
def aDt (s e:Int):Ea s e=some (bH s e):=by unfold Ea;rw[aA (by simp)];rfl
def aDu (s e:Int):Dj s e=some (bH s e):=by unfold Dj;rw[aA (by simp)];rfl
def o6 (d:D.Device)(l:List D.aAB)(k:Int)(h:d.sz<=34359738368/\l.length<=34359738368):xE d l k=some (kM d l k):=by
 unfold xE kM
 simp only[aA h.1,aA h.2,bd_s]
 cases aV l<;>cases bS l d.Log<;>cases decide (aJ l<d.Epoch)<;>cases bB k<;>rfl
def o7 (d:D.Device)(l:List D.aAB)(k:Int)(h:d.sz<=34359738368/\l.length<=34359738368):wP d l k=some (kM d l k):=by
 unfold wP kM
 simp only[aA h.1,aA h.2,bd_s]
 cases aV l<;>cases bS l d.Log<;>cases decide (aJ l<d.Epoch)<;>cases bB k<;>rfl
end
end Go.VK
