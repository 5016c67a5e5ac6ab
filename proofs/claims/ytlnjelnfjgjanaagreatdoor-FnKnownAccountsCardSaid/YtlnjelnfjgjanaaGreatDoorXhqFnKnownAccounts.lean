import Derived.Test.YtlnjelnfjgjanaaGreatDoorXqC
import Derived.Test.YtlnjelnfjgjanaaGreatDoorEVzbtod
/- Printed by wip/tools: models, walks, proofs. -/
set_option linter.all false
set_option maxRecDepth 100000
set_option maxHeartbeats 4000000
namespace Go.VK
open Go.RowKit Go.Proofs
noncomputable section
def T.hd5:Qc Tryz.prog 5 Int y8:=bK6 Tryz.underlying5
def T.aDS:Qc Tryz.prog 22 (List Int) (λl=>[.slice 1 (l.map y8)]):=bBx Tryz.underlying22 (by kernel_rfl) (by decide) (λ_=>rfl) T.hd5
def Gn (x0:List Int):(EV.bT Yn qB.ar (x0)).map EV.uI=[.slice 1 (x0.map y8)]:=by kernel_rfl
def Ei (args:Array Value)(w:Go.World):(callFunc 3 args).run Tryz.prog w= .ok (.enter 3 args) w:=by kernel_rfl
def Gp (x0:List Int)(h:aHy x0):Spec Tryz.prog G0 3 [.slice 1 (x0.map y8)] (λv=>v= .bool true):=by
 rw[<-Gn]
 exact(Gm (x0) true (aB h)).1 rfl rfl
def Ej (x0:List Int):Spec Tryz.prog G0 3 [.slice 1 (x0.map y8)] (λv=>v= .bool true):=bGi (Ei) (Gp x0) (λw X h=>bJ1 h.1 (λy h=>bJ0 h.1))
end
end Go.VK
