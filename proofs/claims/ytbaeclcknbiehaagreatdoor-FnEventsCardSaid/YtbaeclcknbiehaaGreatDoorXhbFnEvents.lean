import Derived.Test.YtbaeclcknbiehaaGreatDoorXbC
import Derived.Test.YtbaeclcknbiehaaGreatDoorEVztod
/- Printed by wip/tools: models, walks, proofs. -/
set_option linter.all false
set_option maxRecDepth 100000
set_option maxHeartbeats 4000000
namespace Go.VK
open Go.RowKit Go.Proofs
noncomputable section
def T.hd5:aCf Tryz.prog 5 Int y8:=cCd Tryz.underlying5
def T.aDO:aCf Tryz.prog 22 (List Int) (λl=>[.slice 1 (l.map y8)]):=bRu Tryz.underlying22 (by kernel_rfl) (by decide) (λ_=>rfl) T.hd5
def aUf (x0:List Int):(EV.bK Yn D8.ar (x0)).map EV.qF=[.slice 1 (x0.map y8)]:=by kernel_rfl
def aRf (args:Array Value)(w:Go.World):(callFunc 3 args).run Tryz.prog w= .ok (.enter 3 args) w:=by kernel_rfl
def aUg (x0:List Int)(h:bFa x0):Spec Tryz.prog G0 3 [.slice 1 (x0.map y8)] (λv=>v= .bool true):=by rw[<-aUf];exact(aUe (x0) true (aA h)).1 rfl rfl
def aRg (x0:List Int):Spec Tryz.prog G0 3 [.slice 1 (x0.map y8)] (λv=>v= .bool true):=bWx (aRf) (aUg x0) (λw X h=>cA4 h.1 (λy h=>cA3 h.1))
end
end Go.VK
