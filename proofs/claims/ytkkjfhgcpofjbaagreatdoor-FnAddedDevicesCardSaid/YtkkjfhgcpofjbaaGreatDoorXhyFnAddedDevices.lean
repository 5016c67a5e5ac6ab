import Derived.Test.YtkkjfhgcpofjbaaGreatDoorXyC
import Derived.Test.YtkkjfhgcpofjbaaGreatDoorEVyltod
/- Printed by wip/tools: models, walks, proofs. -/
set_option linter.all false
set_option maxRecDepth 100000
set_option maxHeartbeats 4000000
namespace Go.VK
open Go.RowKit Go.Proofs
noncomputable section
def T.hd5:Zz Tryz.prog 5 Int y8:=bSs Tryz.underlying5
def T.aDS:Zz Tryz.prog 22 (List Int) (λl=>[.slice 1 (l.map y8)]):=bHl Tryz.underlying22 (by kernel_rfl) (by decide) (λ_=>rfl) T.hd5
def Te (x0:List Int):(EV.dQ Yn uZ.ar (x0)).map EV.zI=[.slice 1 (x0.map y8)]:=by kernel_rfl
def Pk (args:Array Value)(w:Go.World):(callFunc 3 args).run Tryz.prog w= .ok (.enter 3 args) w:=by kernel_rfl
def Tf (x0:List Int)(h:aVd x0):Spec Tryz.prog G0 3 [.slice 1 (x0.map y8)] (λv=>v= .bool true):=by rw[<-Te];exact(Td (x0) true (aD h)).1 rfl rfl
def Pm (x0:List Int):Spec Tryz.prog G0 3 [.slice 1 (x0.map y8)] (λv=>v= .bool true):=bMv (Pk) (Tf x0) (λw X h=>bQ9 h.1 (λy h=>bQ8 h.1))
end
end Go.VK
