import Derived.Test.YtefkjglmpmakcaaGreatDoorXlC
import Derived.Test.YtefkjglmpmakcaaGreatDoorEVztor
/- Printed by wip/tools: models, walks, proofs. -/
set_option linter.unusedVariables false
set_option linter.unusedSimpArgs false
set_option maxRecDepth 100000
set_option maxHeartbeats 4000000
namespace Go.VK
open Go.RowKit Go.Proofs
noncomputable section
theorem Fx (x0:Int)(x1:Int)(x2:Int)(x3:Int)(x4:Int):(EV.dA Yn oL.ar (x0,x1,x2,x3,x4)).map EV.zG=[.int .i64 x0, .int .i64 x1, .int .i64 x2, .int .i64 x3, .int .i64 x4]:=by kernel_rfl
theorem Fy (x0:Int)(x1:Int)(x2:Int)(x3:Int)(x4:Int):Spec Tryz.prog G0 3 [.int .i64 x0, .int .i64 x1, .int .i64 x2, .int .i64 x3, .int .i64 x4] (fun v=>v= .bool true):=by
 rw[←Fx]
 exact(Fw (x0,x1,x2,x3,x4) true rfl).1 rfl rfl
theorem Dj (x0:Int)(x1:Int)(x2:Int)(x3:Int)(x4:Int):Spec Tryz.prog G0 3 [.int .i64 x0, .int .i64 x1, .int .i64 x2, .int .i64 x3, .int .i64 x4] (fun v=>v= .bool true):=Fy x0 x1 x2 x3 x4
end
end Go.VK
