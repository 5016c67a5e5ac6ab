import Derived.Test.YtaaefkcjgkpckaaGreatDoorXoC
import Derived.Test.YtaaefkcjgkpckaaGreatDoorEWbtor
/- Printed by wip/tools: models, walks, proofs. -/
set_option linter.unusedVariables false
set_option linter.unusedSimpArgs false
set_option maxRecDepth 100000
set_option maxHeartbeats 4000000
namespace Go.VK
open Go.RowKit Go.Proofs
noncomputable section
theorem T.hd5:Na Tryz.prog 5 Int y8:=bH5 Tryz.underlying5
theorem T.aDH:Na Tryz.prog 22 (List Int) (fun l=>[.slice 1 (l.map y8)]):=aYw Tryz.underlying22 (by kernel_rfl) (by decide) (fun _=>rfl) T.hd5
theorem Mv (x0:List Int):(EV.aY Yn rJ.ar (x0)).map EV.mM=[.slice 1 (x0.map y8)]:=by kernel_rfl
theorem Gz (args:Array Value)(w:Go.World):(callFunc 3 args).run Tryz.prog w= .ok (.enter 3 args) w:=by kernel_rfl
theorem Mw (x0:List Int)(h:U0 x0):Spec Tryz.prog G0 3 [.slice 1 (x0.map y8)] (fun v=>v= .bool true):=by
 rw[←Mv]
 exact(Mt (x0) true (aA h)).1 rfl rfl
theorem pG (x0:List Int):Spec Tryz.prog G0 3 [.slice 1 (x0.map y8)] (fun v=>v= .bool true):=bDa (Gz) (Mw x0) (fun w X h=>bGw h.1 (fun y h=>bGv h.1))
end
end Go.VK
