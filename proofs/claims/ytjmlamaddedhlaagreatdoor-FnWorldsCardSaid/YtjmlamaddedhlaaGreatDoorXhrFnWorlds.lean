import Derived.Test.YtjmlamaddedhlaaGreatDoorXrC
import Derived.Test.YtjmlamaddedhlaaGreatDoorEVzbtod
/- Printed by wip/tools: models, walks, proofs. -/
set_option linter.all false
set_option maxRecDepth 100000
set_option maxHeartbeats 4000000
namespace Go.VK
open Go.RowKit Go.Proofs
noncomputable section
def T.hd5:Lg Tryz.prog 5 Int y8:=bIl Tryz.underlying5
def T.aDC:Lg Tryz.prog 22 (List Int) (λl=>[.slice 1 (l.map y8)]):=aYv Tryz.underlying22 (by kernel_rfl) (by decide) (λ_=>rfl) T.hd5
def aE3 (x0:List Int):(EV.bL Yn Et.ar (x0)).map EV.rQ=[.slice 1 (x0.map y8)]:=by kernel_rfl
def aB3 (args:Array Value)(w:Go.World):(callFunc 3 args).run Tryz.prog w= .ok (.enter 3 args) w:=by kernel_rfl
def aE4 (x0:List Int)(h:aO4 x0):Spec Tryz.prog G0 3 [.slice 1 (x0.map y8)] (λv=>v= .bool true):=by
 rw[<-aE3]
 exact(aE2 (x0) true (aA h)).1 rfl rfl
def aB4 (x0:List Int):Spec Tryz.prog G0 3 [.slice 1 (x0.map y8)] (λv=>v= .bool true):=bDj (aB3) (aE4 x0) (λw X h=>bHc h.1 (λy h=>bHb h.1))
end
end Go.VK
