import Derived.Test.YtmnliljalhgmiaaGreatDoorXuC
import Derived.Test.YtmnliljalhgmiaaGreatDoorEVztod
/- Printed by wip/tools: models, walks, proofs. -/
set_option linter.all false
set_option maxRecDepth 100000
set_option maxHeartbeats 4000000
namespace Go.VK
open Go.RowKit Go.Proofs
noncomputable section
def T.hd5:Zz Tryz.prog 5 Int y8:=cBy Tryz.underlying5
def T.aEI:Zz Tryz.prog 22 (List Int) (λl=>[.slice 1 (l.map y8)]):=bQy Tryz.underlying22 (by kernel_rfl) (by decide) (λ_=>rfl) T.hd5
def bEx (x0:List Int):(EV.bM Yn aJm.ar (x0)).map EV.pM=[.slice 1 (x0.map y8)]:=by kernel_rfl
def bAc (args:Array Value)(w:Go.World):(callFunc 3 args).run Tryz.prog w= .ok (.enter 3 args) w:=by kernel_rfl
def bEy (x0:List Int)(h:bD0 x0):Spec Tryz.prog G0 3 [.slice 1 (x0.map y8)] (λv=>v= .bool true):=by rw[<-bEx];exact(bEw (x0) true (aB h)).1 rfl rfl
def bAd (x0:List Int):Spec Tryz.prog G0 3 [.slice 1 (x0.map y8)] (λv=>v= .bool true):=bWb (bAc) (bEy x0) (λw X h=>cAi h.1 (λy h=>cAh h.1))
end
end Go.VK
