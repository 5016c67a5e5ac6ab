import Derived.Test.YtlnjelnfjgjanaaGreatXpC
import Derived.Test.YtlnjelnfjgjanaaGreatEWbtod
/- Printed by wip/tools: models, walks, proofs. -/
set_option linter.unusedVariables false
set_option linter.unusedSimpArgs false
set_option maxRecDepth 100000
set_option maxHeartbeats 4000000
namespace Go.VK
open Go.RowKit Go.Proofs
noncomputable section
theorem T.hd5:Nl Tryz.prog 5 Int y8:=bHr Tryz.underlying5
theorem T.aDB:Nl Tryz.prog 22 (List Int) (fun l=>[.slice 1 (l.map y8)]):=aYh Tryz.underlying22 (by kernel_rfl) (by decide) (fun _=>rfl) T.hd5
theorem Ra (x0:List Int):(EV.bS Yn uM.ar (x0)).map EV.Ac=[.slice 1 (x0.map y8)]:=by kernel_rfl
theorem Ni (args:Array Value)(w:Go.World):(callFunc 3 args).run Tryz.prog w= .ok (.enter 3 args) w:=by kernel_rfl
theorem Rb (x0:List Int)(h:aN2 x0):Spec Tryz.prog G0 3 [.slice 1 (x0.map y8)] (fun v=>v= .bool true):=by
 rw[←Ra]
 exact(Qz (x0) true (aB h)).1 rfl rfl
theorem Nj (x0:List Int):Spec Tryz.prog G0 3 [.slice 1 (x0.map y8)] (fun v=>v= .bool true):=bC9 (Ni) (Rb x0) (fun w X h=>bGm h.1 (fun y h=>bGl h.1))
end
end Go.VK
