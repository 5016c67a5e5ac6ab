import Derived.Test.YtahdlpfokhapfaaGreatDoorXvC
import Derived.Test.YtahdlpfokhapfaaGreatDoorEVyltod
/- Printed by wip/tools: models, walks, proofs. -/
set_option linter.all false
set_option maxRecDepth 100000
set_option maxHeartbeats 4000000
namespace Go.VK
open Go.RowKit Go.Proofs
noncomputable section
def T.hd5:Jh Tryz.prog 5 Int y8:=bEr Tryz.underlying5
def T.aDW:Jh Tryz.prog 22 (List Int) (λl=>[.slice 1 (l.map y8)]):=aUs Tryz.underlying22 (by kernel_rfl) (by decide) (λ_=>rfl) T.hd5
def Eb (x0:List Int):(EV.bY Yn oI.ar (x0)).map EV.vF=[.slice 1 (x0.map y8)]:=by kernel_rfl
def Be (args:Array Value)(w:Go.World):(callFunc 4 args).run Tryz.prog w= .ok (.enter 4 args) w:=by kernel_rfl
def Ec (x0:List Int)(h:aBv x0):Spec Tryz.prog G0 4 [.slice 1 (x0.map y8)] (λv=>v= .bool true):=by rw[<-Eb];exact(Ea (x0) true (aG h)).1 rfl rfl
def Bf (x0:List Int):Spec Tryz.prog G0 4 [.slice 1 (x0.map y8)] (λv=>v= .bool true):=aZm (Be) (Ec x0) (λw X h=>bDa h.1 (λy h=>bC9 h.1))
end
end Go.VK
