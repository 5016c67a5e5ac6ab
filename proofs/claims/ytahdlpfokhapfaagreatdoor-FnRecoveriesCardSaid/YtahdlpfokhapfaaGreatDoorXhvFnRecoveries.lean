import Derived.Test.YtahdlpfokhapfaaGreatDoorXvC
import Derived.Test.YtahdlpfokhapfaaGreatDoorEVyltod
/- Printed by wip/tools: models, walks, proofs. -/
set_option linter.all false
set_option maxRecDepth 100000
set_option maxHeartbeats 4000000
namespace Go.VK
open Go.RowKit Go.Proofs
noncomputable section
def T.hd5:Pj Tryz.prog 5 Int y8:=bK3 Tryz.underlying5
def T.aCZ:Pj Tryz.prog 22 (List Int) (λl=>[.slice 1 (l.map y8)]):=bA5 Tryz.underlying22 (by kernel_rfl) (by decide) (λ_=>rfl) T.hd5
def Sw (x0:List Int):(EV.aZ Yn uR.ar (x0)).map EV.mU=[.slice 1 (x0.map y8)]:=by kernel_rfl
def Pe (args:Array Value)(w:Go.World):(callFunc 3 args).run Tryz.prog w= .ok (.enter 3 args) w:=by kernel_rfl
def Sy (x0:List Int)(h:aHu x0):Spec Tryz.prog G0 3 [.slice 1 (x0.map y8)] (λv=>v= .bool true):=by rw[<-Sw];exact(Su (x0) true (aB h)).1 rfl rfl
def Pf (x0:List Int):Spec Tryz.prog G0 3 [.slice 1 (x0.map y8)] (λv=>v= .bool true):=bFx (Pe) (Sy x0) (λw X h=>bJo h.1 (λy h=>bJn h.1))
end
end Go.VK
