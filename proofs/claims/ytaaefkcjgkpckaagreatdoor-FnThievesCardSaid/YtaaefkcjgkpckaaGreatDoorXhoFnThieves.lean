import Derived.Test.YtaaefkcjgkpckaaGreatDoorXoC
import Derived.Test.YtaaefkcjgkpckaaGreatDoorEWbtor
/- Printed by wip/tools: models, walks, proofs. -/
set_option linter.unusedVariables false
set_option linter.unusedSimpArgs false
set_option maxRecDepth 100000
set_option maxHeartbeats 4000000
namespace Go.VK
open Go.RowKit Go.Proofs
noncomputable section
theorem T.hd5:Np Tryz.prog 5 Int y8:=bHk Tryz.underlying5
theorem T.aEA:Np Tryz.prog 22 (List Int) (fun l=>[.slice 1 (l.map y8)]):=aYv Tryz.underlying22 (by kernel_rfl) (by decide) (fun _=>rfl) T.hd5
theorem aAt (x0:List Int):(EV.bY Yn Cn.ar (x0)).map EV.uL=[.slice 1 (x0.map y8)]:=by kernel_rfl
theorem I9 (args:Array Value)(w:Go.World):(callFunc 5 args).run Tryz.prog w= .ok (.enter 5 args) w:=by kernel_rfl
theorem aAu (x0:List Int)(h:aFw x0):Spec Tryz.prog G0 5 [.slice 1 (x0.map y8)] (fun v=>v= .bool true):=by
 rw[←aAt]
 exact(aAs (x0) true (aG h)).1 rfl rfl
theorem J2 (x0:List Int):Spec Tryz.prog G0 5 [.slice 1 (x0.map y8)] (fun v=>v= .bool true):=bC9 (I9) (aAu x0) (fun w X h=>bGf h.1 (fun y h=>bGe h.1))
end
end Go.VK
