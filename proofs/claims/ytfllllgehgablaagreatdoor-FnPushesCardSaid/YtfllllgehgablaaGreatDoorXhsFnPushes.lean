import Derived.Test.YtfllllgehgablaaGreatDoorXsC
import Derived.Test.YtfllllgehgablaaGreatDoorEVyltod
/- Printed by wip/tools: models, walks, proofs. -/
set_option linter.all false
set_option maxRecDepth 100000
set_option maxHeartbeats 4000000
namespace Go.VK
open Go.RowKit Go.Proofs
noncomputable section
def T.hd5:Sg Tryz.prog 5 Int y8:=bP1 Tryz.underlying5
def T.aDO:Sg Tryz.prog 22 (List Int) (λl=>[.slice 1 (l.map y8)]):=bF0 Tryz.underlying22 (by kernel_rfl) (by decide) (λ_=>rfl) T.hd5
def aIz (x0:List Int):(EV.bY Yn Ki.ar (x0)).map EV.wJ=[.slice 1 (x0.map y8)]:=by kernel_rfl
def aFx (args:Array Value)(w:Go.World):(callFunc 4 args).run Tryz.prog w= .ok (.enter 4 args) w:=by kernel_rfl
def aI0 (x0:List Int)(h:aUc x0):Spec Tryz.prog G0 4 [.slice 1 (x0.map y8)] (λv=>v= .bool true):=by rw[<-aIz];exact(aIy (x0) true (aB h)).1 rfl rfl
def aFy (x0:List Int):Spec Tryz.prog G0 4 [.slice 1 (x0.map y8)] (λv=>v= .bool true):=bKw (aFx) (aI0 x0) (λw X h=>bOl h.1 (λy h=>bOk h.1))
end
end Go.VK
