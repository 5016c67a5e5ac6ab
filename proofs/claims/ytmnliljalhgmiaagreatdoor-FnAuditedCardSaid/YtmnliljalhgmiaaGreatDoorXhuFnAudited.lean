import Derived.Test.YtmnliljalhgmiaaGreatDoorXuC
import Derived.Test.YtmnliljalhgmiaaGreatDoorEVztod
/- Printed by wip/tools: models, walks, proofs. -/
set_option linter.all false
set_option maxRecDepth 100000
set_option maxHeartbeats 4000000
namespace Go.VK
open Go.RowKit Go.Proofs
noncomputable section
def T.hd5:Zg Tryz.prog 5 Int y8:=bZl Tryz.underlying5
def T.aEA:Zg Tryz.prog 22 (List Int) (λl=>[.slice 1 (l.map y8)]):=bOx Tryz.underlying22 (by kernel_rfl) (by decide) (λ_=>rfl) T.hd5
def aM7 (x0:List Int):(EV.bJ Yn Nj.ar (x0)).map EV.pF=[.slice 1 (x0.map y8)]:=by kernel_rfl
def aIo (args:Array Value)(w:Go.World):(callFunc 4 args).run Tryz.prog w= .ok (.enter 4 args) w:=by kernel_rfl
def aM8 (x0:List Int)(h:bCo x0):Spec Tryz.prog G0 4 [.slice 1 (x0.map y8)] (λv=>v= .bool true):=by rw[<-aM7];exact(aM6 (x0) true (aB h)).1 rfl rfl
def aIp (x0:List Int):Spec Tryz.prog G0 4 [.slice 1 (x0.map y8)] (λv=>v= .bool true):=bT3 (aIo) (aM8 x0) (λw X h=>bX9 h.1 (λy h=>bX8 h.1))
end
end Go.VK
