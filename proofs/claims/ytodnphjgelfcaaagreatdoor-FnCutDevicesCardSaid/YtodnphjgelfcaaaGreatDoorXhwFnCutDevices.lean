import Derived.Test.YtodnphjgelfcaaaGreatDoorXwC
import Derived.Test.YtodnphjgelfcaaaGreatDoorEVyltod
/- Printed by wip/tools: models, walks, proofs. -/
set_option linter.all false
set_option maxRecDepth 100000
set_option maxHeartbeats 4000000
namespace Go.VK
open Go.RowKit Go.Proofs
noncomputable section
def T.hd5:Xm Tryz.prog 5 Int y8:=bWz Tryz.underlying5
def T.aDU:Xm Tryz.prog 22 (List Int) (λl=>[.slice 1 (l.map y8)]):=bK7 Tryz.underlying22 (by kernel_rfl) (by decide) (λ_=>rfl) T.hd5
def F7 (x0:List Int):(EV.dG Yn yK.ar (x0)).map EV.yQ=[.slice 1 (x0.map y8)]:=by kernel_rfl
def Xh (args:Array Value)(w:Go.World):(callFunc 3 args).run Tryz.prog w= .ok (.enter 3 args) w:=by kernel_rfl
def F8 (x0:List Int)(h:aY8 x0):Spec Tryz.prog G0 3 [.slice 1 (x0.map y8)] (λv=>v= .bool true):=by rw[<-F7];exact(F6 (x0) true (aD h)).1 rfl rfl
def Xi (x0:List Int):Spec Tryz.prog G0 3 [.slice 1 (x0.map y8)] (λv=>v= .bool true):=bQs (Xh) (F8 x0) (λw X h=>bU8 h.1 (λy h=>bU7 h.1))
end
end Go.VK
