import Derived.Test.YtfllllgehgablaaGreatDoorXsC
import Derived.Test.YtfllllgehgablaaGreatDoorEVzbtod
/- Printed by wip/tools: models, walks, proofs. -/
set_option linter.all false
set_option maxRecDepth 100000
set_option maxHeartbeats 4000000
namespace Go.VK
open Go.RowKit Go.Proofs
noncomputable section
def T.hd5:Qf Tryz.prog 5 Int y8:=bM8 Tryz.underlying5
def T.aDO:Qf Tryz.prog 22 (List Int) (λl=>[.slice 1 (l.map y8)]):=bDb Tryz.underlying22 (by kernel_rfl) (by decide) (λ_=>rfl) T.hd5
def Tx (x0:List Int):(EV.bW Yn uX.ar (x0)).map EV.vC=[.slice 1 (x0.map y8)]:=by kernel_rfl
def Qb (args:Array Value)(w:Go.World):(callFunc 3 args).run Tryz.prog w= .ok (.enter 3 args) w:=by kernel_rfl
def Ty (x0:List Int)(h:aRv x0):Spec Tryz.prog G0 3 [.slice 1 (x0.map y8)] (λv=>v= .bool true):=by
 rw[<-Tx]
 exact(Tw (x0) true (aB h)).1 rfl rfl
def Qc (x0:List Int):Spec Tryz.prog G0 3 [.slice 1 (x0.map y8)] (λv=>v= .bool true):=bHy (Qb) (Ty x0) (λw X h=>bLt h.1 (λy h=>bLs h.1))
end
end Go.VK
