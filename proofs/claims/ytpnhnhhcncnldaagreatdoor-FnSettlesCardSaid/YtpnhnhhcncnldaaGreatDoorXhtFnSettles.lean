import Derived.Test.YtpnhnhhcncnldaaGreatDoorXtC
import Derived.Test.YtpnhnhhcncnldaaGreatDoorEVyltod
/- Printed by wip/tools: models, walks, proofs. -/
set_option linter.all false
set_option maxRecDepth 100000
set_option maxHeartbeats 4000000
namespace Go.VK
open Go.RowKit Go.Proofs
noncomputable section
def T.hd5:Xx Tryz.prog 5 Int y8:=bV9 Tryz.underlying5
def T.aEE:Xx Tryz.prog 22 (List Int) (λl=>[.slice 1 (l.map y8)]):=bLr Tryz.underlying22 (by kernel_rfl) (by decide) (λ_=>rfl) T.hd5
def aKx (x0:List Int):(EV.cO Yn Lh.ar (x0)).map EV.zA=[.slice 1 (x0.map y8)]:=by kernel_rfl
def aGh (args:Array Value)(w:Go.World):(callFunc 3 args).run Tryz.prog w= .ok (.enter 3 args) w:=by kernel_rfl
def aKy (x0:List Int)(h:aZ4 x0):Spec Tryz.prog G0 3 [.slice 1 (x0.map y8)] (λv=>v= .bool true):=by rw[<-aKx];exact(aKw (x0) true (aB h)).1 rfl rfl
def aGi (x0:List Int):Spec Tryz.prog G0 3 [.slice 1 (x0.map y8)] (λv=>v= .bool true):=bQ2 (aGh) (aKy x0) (λw X h=>bUy h.1 (λy h=>bUx h.1))
end
end Go.VK
