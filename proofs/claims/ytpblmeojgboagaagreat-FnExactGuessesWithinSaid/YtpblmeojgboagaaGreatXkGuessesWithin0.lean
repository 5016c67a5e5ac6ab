/-
  Printed by wip/tools (own work of this part): models of functions, walks over the value kit, and proofs.
-/
import Derived.Test.YtpblmeojgboagaaGreatXmGuessesWithin
import Derived.Test.YtpblmeojgboagaaGreatProg
set_option linter.unusedVariables false
set_option linter.unusedSimpArgs false
set_option maxRecDepth 100000
set_option maxHeartbeats 4000000
namespace Go.VK
open Go.RowKit Go.Proofs
abbrev G0 : GI := GTriv
theorem T.a102 : aggB Tryz.prog 102 1 = true := by kernel_rfl
theorem T.a104 : aggB Tryz.prog 104 9 = true := by kernel_rfl
theorem T.a106 : aggB Tryz.prog 106 6 = true := by kernel_rfl
theorem T.a111 : aggB Tryz.prog 111 4 = true := by kernel_rfl
theorem T.a118 : aggB Tryz.prog 118 3 = true := by kernel_rfl
theorem T.a120 : aggB Tryz.prog 120 6 = true := by kernel_rfl
theorem T.a123 : aggB Tryz.prog 123 3 = true := by kernel_rfl
theorem T.a125 : aggB Tryz.prog 125 4 = true := by kernel_rfl
theorem T.a130 : aggB Tryz.prog 130 4 = true := by kernel_rfl
theorem T.a133 : aggB Tryz.prog 133 1 = true := by kernel_rfl
theorem T.a135 : aggB Tryz.prog 135 9 = true := by kernel_rfl
theorem T.a143 : aggB Tryz.prog 143 3 = true := by kernel_rfl
theorem T.a145 : aggB Tryz.prog 145 6 = true := by kernel_rfl
theorem T.a147 : aggB Tryz.prog 147 2 = true := by kernel_rfl
theorem T.a149 : aggB Tryz.prog 149 5 = true := by kernel_rfl
theorem T.a152 : aggB Tryz.prog 152 7 = true := by kernel_rfl
theorem T.a184 : aggB Tryz.prog 184 4 = true := by kernel_rfl
theorem T.a192 : aggB Tryz.prog 192 6 = true := by kernel_rfl
theorem T.a194 : aggB Tryz.prog 194 4 = true := by kernel_rfl
theorem T.a202 : aggB Tryz.prog 202 4 = true := by kernel_rfl
theorem T.a204 : aggB Tryz.prog 204 4 = true := by kernel_rfl
theorem T.a220 : aggB Tryz.prog 220 4 = true := by kernel_rfl
theorem T.a225 : aggB Tryz.prog 225 4 = true := by kernel_rfl
theorem T.a230 : aggB Tryz.prog 230 3 = true := by kernel_rfl
theorem T.a248 : aggB Tryz.prog 248 4 = true := by kernel_rfl
theorem T.a251 : aggB Tryz.prog 251 3 = true := by kernel_rfl
theorem T.a253 : aggB Tryz.prog 253 3 = true := by kernel_rfl
theorem T.a258 : aggB Tryz.prog 258 4 = true := by kernel_rfl
theorem T.a27 : aggB Tryz.prog 27 2 = true := by kernel_rfl
theorem T.a30 : aggB Tryz.prog 30 4 = true := by kernel_rfl
theorem T.a33 : aggB Tryz.prog 33 4 = true := by kernel_rfl
theorem T.a37 : aggB Tryz.prog 37 1 = true := by kernel_rfl
theorem T.a39 : aggB Tryz.prog 39 16 = true := by kernel_rfl
theorem T.a46 : aggB Tryz.prog 46 2 = true := by kernel_rfl
theorem T.a49 : aggB Tryz.prog 49 4 = true := by kernel_rfl
theorem T.a51 : aggB Tryz.prog 51 4 = true := by kernel_rfl
theorem T.a55 : aggB Tryz.prog 55 1 = true := by kernel_rfl
theorem T.a57 : aggB Tryz.prog 57 16 = true := by kernel_rfl
theorem T.a73 : aggB Tryz.prog 73 2 = true := by kernel_rfl
theorem T.a75 : aggB Tryz.prog 75 5 = true := by kernel_rfl
theorem T.a78 : aggB Tryz.prog 78 7 = true := by kernel_rfl
theorem T.a99 : aggB Tryz.prog 99 4 = true := by kernel_rfl
theorem T.en11 (args : Array Value) (w : World) : (callFunc 11 args).run Tryz.prog w = .ok (.enter 11 args) w := by kernel_rfl
theorem T.en116 (args : Array Value) (w : World) : (callFunc 116 args).run Tryz.prog w = .ok (.enter 116 args) w := by kernel_rfl
theorem T.en117 (args : Array Value) (w : World) : (callFunc 117 args).run Tryz.prog w = .ok (.enter 117 args) w := by kernel_rfl
theorem T.en118 (args : Array Value) (w : World) : (callFunc 118 args).run Tryz.prog w = .ok (.enter 118 args) w := by kernel_rfl
theorem T.en119 (args : Array Value) (w : World) : (callFunc 119 args).run Tryz.prog w = .ok (.enter 119 args) w := by kernel_rfl
theorem T.en12 (args : Array Value) (w : World) : (callFunc 12 args).run Tryz.prog w = .ok (.enter 12 args) w := by kernel_rfl
theorem T.en120 (args : Array Value) (w : World) : (callFunc 120 args).run Tryz.prog w = .ok (.enter 120 args) w := by kernel_rfl
theorem T.en121 (args : Array Value) (w : World) : (callFunc 121 args).run Tryz.prog w = .ok (.enter 121 args) w := by kernel_rfl
theorem T.en122 (args : Array Value) (w : World) : (callFunc 122 args).run Tryz.prog w = .ok (.enter 122 args) w := by kernel_rfl
theorem T.en123 (args : Array Value) (w : World) : (callFunc 123 args).run Tryz.prog w = .ok (.enter 123 args) w := by kernel_rfl
theorem T.en124 (args : Array Value) (w : World) : (callFunc 124 args).run Tryz.prog w = .ok (.enter 124 args) w := by kernel_rfl
theorem T.en125 (args : Array Value) (w : World) : (callFunc 125 args).run Tryz.prog w = .ok (.enter 125 args) w := by kernel_rfl
theorem T.en126 (args : Array Value) (w : World) : (callFunc 126 args).run Tryz.prog w = .ok (.enter 126 args) w := by kernel_rfl
theorem T.en127 (args : Array Value) (w : World) : (callFunc 127 args).run Tryz.prog w = .ok (.enter 127 args) w := by kernel_rfl
theorem T.en128 (args : Array Value) (w : World) : (callFunc 128 args).run Tryz.prog w = .ok (.enter 128 args) w := by kernel_rfl
theorem T.en129 (args : Array Value) (w : World) : (callFunc 129 args).run Tryz.prog w = .ok (.enter 129 args) w := by kernel_rfl
theorem T.en13 (args : Array Value) (w : World) : (callFunc 13 args).run Tryz.prog w = .ok (.enter 13 args) w := by kernel_rfl
theorem T.en130 (args : Array Value) (w : World) : (callFunc 130 args).run Tryz.prog w = .ok (.enter 130 args) w := by kernel_rfl
theorem T.en131 (args : Array Value) (w : World) : (callFunc 131 args).run Tryz.prog w = .ok (.enter 131 args) w := by kernel_rfl
theorem T.en132 (args : Array Value) (w : World) : (callFunc 132 args).run Tryz.prog w = .ok (.enter 132 args) w := by kernel_rfl
theorem T.en133 (args : Array Value) (w : World) : (callFunc 133 args).run Tryz.prog w = .ok (.enter 133 args) w := by kernel_rfl
theorem T.en134 (args : Array Value) (w : World) : (callFunc 134 args).run Tryz.prog w = .ok (.enter 134 args) w := by kernel_rfl
theorem T.en135 (args : Array Value) (w : World) : (callFunc 135 args).run Tryz.prog w = .ok (.enter 135 args) w := by kernel_rfl
theorem T.en136 (args : Array Value) (w : World) : (callFunc 136 args).run Tryz.prog w = .ok (.enter 136 args) w := by kernel_rfl
theorem T.en137 (args : Array Value) (w : World) : (callFunc 137 args).run Tryz.prog w = .ok (.enter 137 args) w := by kernel_rfl
theorem T.en138 (args : Array Value) (w : World) : (callFunc 138 args).run Tryz.prog w = .ok (.enter 138 args) w := by kernel_rfl
theorem T.en139 (args : Array Value) (w : World) : (callFunc 139 args).run Tryz.prog w = .ok (.enter 139 args) w := by kernel_rfl
theorem T.en14 (args : Array Value) (w : World) : (callFunc 14 args).run Tryz.prog w = .ok (.enter 14 args) w := by kernel_rfl
theorem T.en140 (args : Array Value) (w : World) : (callFunc 140 args).run Tryz.prog w = .ok (.enter 140 args) w := by kernel_rfl
theorem T.en141 (args : Array Value) (w : World) : (callFunc 141 args).run Tryz.prog w = .ok (.enter 141 args) w := by kernel_rfl
theorem T.en142 (args : Array Value) (w : World) : (callFunc 142 args).run Tryz.prog w = .ok (.enter 142 args) w := by kernel_rfl
theorem T.en143 (args : Array Value) (w : World) : (callFunc 143 args).run Tryz.prog w = .ok (.enter 143 args) w := by kernel_rfl
theorem T.en144 (args : Array Value) (w : World) : (callFunc 144 args).run Tryz.prog w = .ok (.enter 144 args) w := by kernel_rfl
theorem T.en15 (args : Array Value) (w : World) : (callFunc 15 args).run Tryz.prog w = .ok (.enter 15 args) w := by kernel_rfl
theorem T.en154 (args : Array Value) (w : World) : (callFunc 154 args).run Tryz.prog w = .ok (.enter 154 args) w := by kernel_rfl
theorem T.en155 (args : Array Value) (w : World) : (callFunc 155 args).run Tryz.prog w = .ok (.enter 155 args) w := by kernel_rfl
theorem T.en156 (args : Array Value) (w : World) : (callFunc 156 args).run Tryz.prog w = .ok (.enter 156 args) w := by kernel_rfl
theorem T.en157 (args : Array Value) (w : World) : (callFunc 157 args).run Tryz.prog w = .ok (.enter 157 args) w := by kernel_rfl
theorem T.en158 (args : Array Value) (w : World) : (callFunc 158 args).run Tryz.prog w = .ok (.enter 158 args) w := by kernel_rfl
theorem T.en159 (args : Array Value) (w : World) : (callFunc 159 args).run Tryz.prog w = .ok (.enter 159 args) w := by kernel_rfl
theorem T.en160 (args : Array Value) (w : World) : (callFunc 160 args).run Tryz.prog w = .ok (.enter 160 args) w := by kernel_rfl
theorem T.en161 (args : Array Value) (w : World) : (callFunc 161 args).run Tryz.prog w = .ok (.enter 161 args) w := by kernel_rfl
theorem T.en162 (args : Array Value) (w : World) : (callFunc 162 args).run Tryz.prog w = .ok (.enter 162 args) w := by kernel_rfl
theorem T.en163 (args : Array Value) (w : World) : (callFunc 163 args).run Tryz.prog w = .ok (.enter 163 args) w := by kernel_rfl
theorem T.en164 (args : Array Value) (w : World) : (callFunc 164 args).run Tryz.prog w = .ok (.enter 164 args) w := by kernel_rfl
theorem T.en165 (args : Array Value) (w : World) : (callFunc 165 args).run Tryz.prog w = .ok (.enter 165 args) w := by kernel_rfl
theorem T.en166 (args : Array Value) (w : World) : (callFunc 166 args).run Tryz.prog w = .ok (.enter 166 args) w := by kernel_rfl
theorem T.en167 (args : Array Value) (w : World) : (callFunc 167 args).run Tryz.prog w = .ok (.enter 167 args) w := by kernel_rfl
theorem T.en168 (args : Array Value) (w : World) : (callFunc 168 args).run Tryz.prog w = .ok (.enter 168 args) w := by kernel_rfl
theorem T.en169 (args : Array Value) (w : World) : (callFunc 169 args).run Tryz.prog w = .ok (.enter 169 args) w := by kernel_rfl
theorem T.en170 (args : Array Value) (w : World) : (callFunc 170 args).run Tryz.prog w = .ok (.enter 170 args) w := by kernel_rfl
theorem T.en179 (args : Array Value) (w : World) : (callFunc 179 args).run Tryz.prog w = .ok (.enter 179 args) w := by kernel_rfl
theorem T.en180 (args : Array Value) (w : World) : (callFunc 180 args).run Tryz.prog w = .ok (.enter 180 args) w := by kernel_rfl
theorem T.en181 (args : Array Value) (w : World) : (callFunc 181 args).run Tryz.prog w = .ok (.enter 181 args) w := by kernel_rfl
theorem T.en182 (args : Array Value) (w : World) : (callFunc 182 args).run Tryz.prog w = .ok (.enter 182 args) w := by kernel_rfl
theorem T.en183 (args : Array Value) (w : World) : (callFunc 183 args).run Tryz.prog w = .ok (.enter 183 args) w := by kernel_rfl
theorem T.en184 (args : Array Value) (w : World) : (callFunc 184 args).run Tryz.prog w = .ok (.enter 184 args) w := by kernel_rfl
theorem T.en185 (args : Array Value) (w : World) : (callFunc 185 args).run Tryz.prog w = .ok (.enter 185 args) w := by kernel_rfl
theorem T.en186 (args : Array Value) (w : World) : (callFunc 186 args).run Tryz.prog w = .ok (.enter 186 args) w := by kernel_rfl
theorem T.en187 (args : Array Value) (w : World) : (callFunc 187 args).run Tryz.prog w = .ok (.enter 187 args) w := by kernel_rfl
theorem T.en3 (args : Array Value) (w : World) : (callFunc 3 args).run Tryz.prog w = .ok (.enter 3 args) w := by kernel_rfl
theorem T.en30 (args : Array Value) (w : World) : (callFunc 30 args).run Tryz.prog w = .ok (.enter 30 args) w := by kernel_rfl
theorem T.en31 (args : Array Value) (w : World) : (callFunc 31 args).run Tryz.prog w = .ok (.enter 31 args) w := by kernel_rfl
theorem T.en32 (args : Array Value) (w : World) : (callFunc 32 args).run Tryz.prog w = .ok (.enter 32 args) w := by kernel_rfl
theorem T.en33 (args : Array Value) (w : World) : (callFunc 33 args).run Tryz.prog w = .ok (.enter 33 args) w := by kernel_rfl
theorem T.en34 (args : Array Value) (w : World) : (callFunc 34 args).run Tryz.prog w = .ok (.enter 34 args) w := by kernel_rfl
theorem T.en35 (args : Array Value) (w : World) : (callFunc 35 args).run Tryz.prog w = .ok (.enter 35 args) w := by kernel_rfl
theorem T.en36 (args : Array Value) (w : World) : (callFunc 36 args).run Tryz.prog w = .ok (.enter 36 args) w := by kernel_rfl
theorem T.en37 (args : Array Value) (w : World) : (callFunc 37 args).run Tryz.prog w = .ok (.enter 37 args) w := by kernel_rfl
theorem T.en38 (args : Array Value) (w : World) : (callFunc 38 args).run Tryz.prog w = .ok (.enter 38 args) w := by kernel_rfl
theorem T.en39 (args : Array Value) (w : World) : (callFunc 39 args).run Tryz.prog w = .ok (.enter 39 args) w := by kernel_rfl
theorem T.en40 (args : Array Value) (w : World) : (callFunc 40 args).run Tryz.prog w = .ok (.enter 40 args) w := by kernel_rfl
theorem T.en41 (args : Array Value) (w : World) : (callFunc 41 args).run Tryz.prog w = .ok (.enter 41 args) w := by kernel_rfl
theorem T.en42 (args : Array Value) (w : World) : (callFunc 42 args).run Tryz.prog w = .ok (.enter 42 args) w := by kernel_rfl
theorem T.en43 (args : Array Value) (w : World) : (callFunc 43 args).run Tryz.prog w = .ok (.enter 43 args) w := by kernel_rfl
theorem T.en44 (args : Array Value) (w : World) : (callFunc 44 args).run Tryz.prog w = .ok (.enter 44 args) w := by kernel_rfl
theorem T.en45 (args : Array Value) (w : World) : (callFunc 45 args).run Tryz.prog w = .ok (.enter 45 args) w := by kernel_rfl
theorem T.en46 (args : Array Value) (w : World) : (callFunc 46 args).run Tryz.prog w = .ok (.enter 46 args) w := by kernel_rfl
theorem T.en47 (args : Array Value) (w : World) : (callFunc 47 args).run Tryz.prog w = .ok (.enter 47 args) w := by kernel_rfl
theorem T.en48 (args : Array Value) (w : World) : (callFunc 48 args).run Tryz.prog w = .ok (.enter 48 args) w := by kernel_rfl
theorem T.en49 (args : Array Value) (w : World) : (callFunc 49 args).run Tryz.prog w = .ok (.enter 49 args) w := by kernel_rfl
theorem T.en50 (args : Array Value) (w : World) : (callFunc 50 args).run Tryz.prog w = .ok (.enter 50 args) w := by kernel_rfl
theorem T.en51 (args : Array Value) (w : World) : (callFunc 51 args).run Tryz.prog w = .ok (.enter 51 args) w := by kernel_rfl
theorem T.en75 (args : Array Value) (w : World) : (callFunc 75 args).run Tryz.prog w = .ok (.enter 75 args) w := by kernel_rfl
theorem T.en76 (args : Array Value) (w : World) : (callFunc 76 args).run Tryz.prog w = .ok (.enter 76 args) w := by kernel_rfl
theorem T.en77 (args : Array Value) (w : World) : (callFunc 77 args).run Tryz.prog w = .ok (.enter 77 args) w := by kernel_rfl
theorem T.en78 (args : Array Value) (w : World) : (callFunc 78 args).run Tryz.prog w = .ok (.enter 78 args) w := by kernel_rfl
theorem T.en79 (args : Array Value) (w : World) : (callFunc 79 args).run Tryz.prog w = .ok (.enter 79 args) w := by kernel_rfl
theorem T.en80 (args : Array Value) (w : World) : (callFunc 80 args).run Tryz.prog w = .ok (.enter 80 args) w := by kernel_rfl
theorem T.en81 (args : Array Value) (w : World) : (callFunc 81 args).run Tryz.prog w = .ok (.enter 81 args) w := by kernel_rfl
theorem T.en82 (args : Array Value) (w : World) : (callFunc 82 args).run Tryz.prog w = .ok (.enter 82 args) w := by kernel_rfl
theorem T.en83 (args : Array Value) (w : World) : (callFunc 83 args).run Tryz.prog w = .ok (.enter 83 args) w := by kernel_rfl
theorem T.en84 (args : Array Value) (w : World) : (callFunc 84 args).run Tryz.prog w = .ok (.enter 84 args) w := by kernel_rfl
theorem T.en85 (args : Array Value) (w : World) : (callFunc 85 args).run Tryz.prog w = .ok (.enter 85 args) w := by kernel_rfl
theorem T.en86 (args : Array Value) (w : World) : (callFunc 86 args).run Tryz.prog w = .ok (.enter 86 args) w := by kernel_rfl
theorem T.en87 (args : Array Value) (w : World) : (callFunc 87 args).run Tryz.prog w = .ok (.enter 87 args) w := by kernel_rfl
theorem T.en88 (args : Array Value) (w : World) : (callFunc 88 args).run Tryz.prog w = .ok (.enter 88 args) w := by kernel_rfl
theorem T.en89 (args : Array Value) (w : World) : (callFunc 89 args).run Tryz.prog w = .ok (.enter 89 args) w := by kernel_rfl
theorem T.en90 (args : Array Value) (w : World) : (callFunc 90 args).run Tryz.prog w = .ok (.enter 90 args) w := by kernel_rfl
theorem T.en91 (args : Array Value) (w : World) : (callFunc 91 args).run Tryz.prog w = .ok (.enter 91 args) w := by kernel_rfl
theorem T.en92 (args : Array Value) (w : World) : (callFunc 92 args).run Tryz.prog w = .ok (.enter 92 args) w := by kernel_rfl
theorem T.en93 (args : Array Value) (w : World) : (callFunc 93 args).run Tryz.prog w = .ok (.enter 93 args) w := by kernel_rfl
theorem T.en94 (args : Array Value) (w : World) : (callFunc 94 args).run Tryz.prog w = .ok (.enter 94 args) w := by kernel_rfl
theorem T.en95 (args : Array Value) (w : World) : (callFunc 95 args).run Tryz.prog w = .ok (.enter 95 args) w := by kernel_rfl
theorem T.f102_0 : fldB Tryz.prog 102 0 0 = true := by kernel_rfl
theorem T.f104_0 : fldB Tryz.prog 104 0 0 = true := by kernel_rfl
theorem T.f104_1 : fldB Tryz.prog 104 1 4 = true := by kernel_rfl
theorem T.f104_2 : fldB Tryz.prog 104 2 5 = true := by kernel_rfl
theorem T.f104_3 : fldB Tryz.prog 104 3 6 = true := by kernel_rfl
theorem T.f104_4 : fldB Tryz.prog 104 4 7 = true := by kernel_rfl
theorem T.f104_5 : fldB Tryz.prog 104 5 8 = true := by kernel_rfl
theorem T.f106_0 : fldB Tryz.prog 106 0 0 = true := by kernel_rfl
theorem T.f106_1 : fldB Tryz.prog 106 1 1 = true := by kernel_rfl
theorem T.f106_2 : fldB Tryz.prog 106 2 2 = true := by kernel_rfl
theorem T.f106_3 : fldB Tryz.prog 106 3 3 = true := by kernel_rfl
theorem T.f106_4 : fldB Tryz.prog 106 4 4 = true := by kernel_rfl
theorem T.f106_5 : fldB Tryz.prog 106 5 5 = true := by kernel_rfl
theorem T.f111_0 : fldB Tryz.prog 111 0 0 = true := by kernel_rfl
theorem T.f111_1 : fldB Tryz.prog 111 1 1 = true := by kernel_rfl
theorem T.f111_2 : fldB Tryz.prog 111 2 2 = true := by kernel_rfl
theorem T.f111_3 : fldB Tryz.prog 111 3 3 = true := by kernel_rfl
theorem T.f118_0 : fldB Tryz.prog 118 0 0 = true := by kernel_rfl
theorem T.f118_1 : fldB Tryz.prog 118 1 1 = true := by kernel_rfl
theorem T.f118_2 : fldB Tryz.prog 118 2 2 = true := by kernel_rfl
theorem T.f120_0 : fldB Tryz.prog 120 0 0 = true := by kernel_rfl
theorem T.f120_1 : fldB Tryz.prog 120 1 1 = true := by kernel_rfl
theorem T.f120_2 : fldB Tryz.prog 120 2 2 = true := by kernel_rfl
theorem T.f120_3 : fldB Tryz.prog 120 3 5 = true := by kernel_rfl
theorem T.f123_0 : fldB Tryz.prog 123 0 0 = true := by kernel_rfl
theorem T.f123_1 : fldB Tryz.prog 123 1 1 = true := by kernel_rfl
theorem T.f123_2 : fldB Tryz.prog 123 2 2 = true := by kernel_rfl
theorem T.f125_0 : fldB Tryz.prog 125 0 0 = true := by kernel_rfl
theorem T.f125_1 : fldB Tryz.prog 125 1 1 = true := by kernel_rfl
theorem T.f125_2 : fldB Tryz.prog 125 2 2 = true := by kernel_rfl
theorem T.f125_3 : fldB Tryz.prog 125 3 3 = true := by kernel_rfl
theorem T.f130_0 : fldB Tryz.prog 130 0 0 = true := by kernel_rfl
theorem T.f130_1 : fldB Tryz.prog 130 1 1 = true := by kernel_rfl
theorem T.f130_2 : fldB Tryz.prog 130 2 2 = true := by kernel_rfl
theorem T.f130_3 : fldB Tryz.prog 130 3 3 = true := by kernel_rfl
theorem T.f133_0 : fldB Tryz.prog 133 0 0 = true := by kernel_rfl
theorem T.f135_0 : fldB Tryz.prog 135 0 0 = true := by kernel_rfl
theorem T.f135_1 : fldB Tryz.prog 135 1 4 = true := by kernel_rfl
theorem T.f135_2 : fldB Tryz.prog 135 2 5 = true := by kernel_rfl
theorem T.f135_3 : fldB Tryz.prog 135 3 6 = true := by kernel_rfl
theorem T.f135_4 : fldB Tryz.prog 135 4 7 = true := by kernel_rfl
theorem T.f135_5 : fldB Tryz.prog 135 5 8 = true := by kernel_rfl
theorem T.f143_0 : fldB Tryz.prog 143 0 0 = true := by kernel_rfl
theorem T.f143_1 : fldB Tryz.prog 143 1 1 = true := by kernel_rfl
theorem T.f143_2 : fldB Tryz.prog 143 2 2 = true := by kernel_rfl
theorem T.f145_0 : fldB Tryz.prog 145 0 0 = true := by kernel_rfl
theorem T.f145_1 : fldB Tryz.prog 145 1 1 = true := by kernel_rfl
theorem T.f145_2 : fldB Tryz.prog 145 2 2 = true := by kernel_rfl
theorem T.f145_3 : fldB Tryz.prog 145 3 5 = true := by kernel_rfl
theorem T.f147_0 : fldB Tryz.prog 147 0 0 = true := by kernel_rfl
theorem T.f147_1 : fldB Tryz.prog 147 1 1 = true := by kernel_rfl
theorem T.f149_0 : fldB Tryz.prog 149 0 0 = true := by kernel_rfl
theorem T.f149_1 : fldB Tryz.prog 149 1 2 = true := by kernel_rfl
theorem T.f149_2 : fldB Tryz.prog 149 2 3 = true := by kernel_rfl
theorem T.f149_3 : fldB Tryz.prog 149 3 4 = true := by kernel_rfl
theorem T.f152_0 : fldB Tryz.prog 152 0 0 = true := by kernel_rfl
theorem T.f152_1 : fldB Tryz.prog 152 1 5 = true := by kernel_rfl
theorem T.f152_2 : fldB Tryz.prog 152 2 6 = true := by kernel_rfl
theorem T.f184_0 : fldB Tryz.prog 184 0 0 = true := by kernel_rfl
theorem T.f184_1 : fldB Tryz.prog 184 1 1 = true := by kernel_rfl
theorem T.f184_2 : fldB Tryz.prog 184 2 2 = true := by kernel_rfl
theorem T.f184_3 : fldB Tryz.prog 184 3 3 = true := by kernel_rfl
theorem T.f192_0 : fldB Tryz.prog 192 0 0 = true := by kernel_rfl
theorem T.f192_1 : fldB Tryz.prog 192 1 1 = true := by kernel_rfl
theorem T.f192_2 : fldB Tryz.prog 192 2 2 = true := by kernel_rfl
theorem T.f192_3 : fldB Tryz.prog 192 3 3 = true := by kernel_rfl
theorem T.f192_4 : fldB Tryz.prog 192 4 4 = true := by kernel_rfl
theorem T.f192_5 : fldB Tryz.prog 192 5 5 = true := by kernel_rfl
theorem T.f194_0 : fldB Tryz.prog 194 0 0 = true := by kernel_rfl
theorem T.f194_1 : fldB Tryz.prog 194 1 1 = true := by kernel_rfl
theorem T.f194_2 : fldB Tryz.prog 194 2 2 = true := by kernel_rfl
theorem T.f194_3 : fldB Tryz.prog 194 3 3 = true := by kernel_rfl
theorem T.f202_0 : fldB Tryz.prog 202 0 0 = true := by kernel_rfl
theorem T.f202_1 : fldB Tryz.prog 202 1 1 = true := by kernel_rfl
theorem T.f202_2 : fldB Tryz.prog 202 2 2 = true := by kernel_rfl
theorem T.f202_3 : fldB Tryz.prog 202 3 3 = true := by kernel_rfl
theorem T.f204_0 : fldB Tryz.prog 204 0 0 = true := by kernel_rfl
theorem T.f204_1 : fldB Tryz.prog 204 1 1 = true := by kernel_rfl
theorem T.f204_2 : fldB Tryz.prog 204 2 2 = true := by kernel_rfl
theorem T.f204_3 : fldB Tryz.prog 204 3 3 = true := by kernel_rfl
theorem T.f220_0 : fldB Tryz.prog 220 0 0 = true := by kernel_rfl
theorem T.f220_1 : fldB Tryz.prog 220 1 1 = true := by kernel_rfl
theorem T.f220_2 : fldB Tryz.prog 220 2 2 = true := by kernel_rfl
theorem T.f220_3 : fldB Tryz.prog 220 3 3 = true := by kernel_rfl
theorem T.f225_0 : fldB Tryz.prog 225 0 0 = true := by kernel_rfl
theorem T.f225_1 : fldB Tryz.prog 225 1 1 = true := by kernel_rfl
theorem T.f225_2 : fldB Tryz.prog 225 2 2 = true := by kernel_rfl
theorem T.f225_3 : fldB Tryz.prog 225 3 3 = true := by kernel_rfl
theorem T.f230_0 : fldB Tryz.prog 230 0 0 = true := by kernel_rfl
theorem T.f230_1 : fldB Tryz.prog 230 1 1 = true := by kernel_rfl
theorem T.f230_2 : fldB Tryz.prog 230 2 2 = true := by kernel_rfl
theorem T.f248_0 : fldB Tryz.prog 248 0 0 = true := by kernel_rfl
theorem T.f248_1 : fldB Tryz.prog 248 1 1 = true := by kernel_rfl
theorem T.f248_2 : fldB Tryz.prog 248 2 2 = true := by kernel_rfl
theorem T.f248_3 : fldB Tryz.prog 248 3 3 = true := by kernel_rfl
theorem T.f251_0 : fldB Tryz.prog 251 0 0 = true := by kernel_rfl
theorem T.f251_1 : fldB Tryz.prog 251 1 1 = true := by kernel_rfl
theorem T.f251_2 : fldB Tryz.prog 251 2 2 = true := by kernel_rfl
theorem T.f253_0 : fldB Tryz.prog 253 0 0 = true := by kernel_rfl
theorem T.f253_1 : fldB Tryz.prog 253 1 1 = true := by kernel_rfl
theorem T.f253_2 : fldB Tryz.prog 253 2 2 = true := by kernel_rfl
theorem T.f258_0 : fldB Tryz.prog 258 0 0 = true := by kernel_rfl
theorem T.f258_1 : fldB Tryz.prog 258 1 1 = true := by kernel_rfl
theorem T.f258_2 : fldB Tryz.prog 258 2 2 = true := by kernel_rfl
theorem T.f258_3 : fldB Tryz.prog 258 3 3 = true := by kernel_rfl
theorem T.f27_0 : fldB Tryz.prog 27 0 0 = true := by kernel_rfl
theorem T.f27_1 : fldB Tryz.prog 27 1 1 = true := by kernel_rfl
theorem T.f30_0 : fldB Tryz.prog 30 0 0 = true := by kernel_rfl
theorem T.f30_1 : fldB Tryz.prog 30 1 1 = true := by kernel_rfl
theorem T.f30_2 : fldB Tryz.prog 30 2 3 = true := by kernel_rfl
theorem T.f33_0 : fldB Tryz.prog 33 0 0 = true := by kernel_rfl
theorem T.f33_1 : fldB Tryz.prog 33 1 1 = true := by kernel_rfl
theorem T.f33_2 : fldB Tryz.prog 33 2 2 = true := by kernel_rfl
theorem T.f33_3 : fldB Tryz.prog 33 3 3 = true := by kernel_rfl
theorem T.f37_0 : fldB Tryz.prog 37 0 0 = true := by kernel_rfl
theorem T.f39_0 : fldB Tryz.prog 39 0 0 = true := by kernel_rfl
theorem T.f39_1 : fldB Tryz.prog 39 1 1 = true := by kernel_rfl
theorem T.f39_2 : fldB Tryz.prog 39 2 2 = true := by kernel_rfl
theorem T.f39_3 : fldB Tryz.prog 39 3 3 = true := by kernel_rfl
theorem T.f39_4 : fldB Tryz.prog 39 4 4 = true := by kernel_rfl
theorem T.f39_5 : fldB Tryz.prog 39 5 8 = true := by kernel_rfl
theorem T.f39_6 : fldB Tryz.prog 39 6 9 = true := by kernel_rfl
theorem T.f39_7 : fldB Tryz.prog 39 7 13 = true := by kernel_rfl
theorem T.f39_8 : fldB Tryz.prog 39 8 14 = true := by kernel_rfl
theorem T.f39_9 : fldB Tryz.prog 39 9 15 = true := by kernel_rfl
theorem T.f46_0 : fldB Tryz.prog 46 0 0 = true := by kernel_rfl
theorem T.f46_1 : fldB Tryz.prog 46 1 1 = true := by kernel_rfl
theorem T.f49_0 : fldB Tryz.prog 49 0 0 = true := by kernel_rfl
theorem T.f49_1 : fldB Tryz.prog 49 1 1 = true := by kernel_rfl
theorem T.f49_2 : fldB Tryz.prog 49 2 3 = true := by kernel_rfl
theorem T.f51_0 : fldB Tryz.prog 51 0 0 = true := by kernel_rfl
theorem T.f51_1 : fldB Tryz.prog 51 1 1 = true := by kernel_rfl
theorem T.f51_2 : fldB Tryz.prog 51 2 2 = true := by kernel_rfl
theorem T.f51_3 : fldB Tryz.prog 51 3 3 = true := by kernel_rfl
theorem T.f55_0 : fldB Tryz.prog 55 0 0 = true := by kernel_rfl
theorem T.f57_0 : fldB Tryz.prog 57 0 0 = true := by kernel_rfl
theorem T.f57_1 : fldB Tryz.prog 57 1 1 = true := by kernel_rfl
theorem T.f57_2 : fldB Tryz.prog 57 2 2 = true := by kernel_rfl
theorem T.f57_3 : fldB Tryz.prog 57 3 3 = true := by kernel_rfl
theorem T.f57_4 : fldB Tryz.prog 57 4 4 = true := by kernel_rfl
theorem T.f57_5 : fldB Tryz.prog 57 5 8 = true := by kernel_rfl
theorem T.f57_6 : fldB Tryz.prog 57 6 9 = true := by kernel_rfl
theorem T.f57_7 : fldB Tryz.prog 57 7 13 = true := by kernel_rfl
theorem T.f57_8 : fldB Tryz.prog 57 8 14 = true := by kernel_rfl
theorem T.f57_9 : fldB Tryz.prog 57 9 15 = true := by kernel_rfl
theorem T.f73_0 : fldB Tryz.prog 73 0 0 = true := by kernel_rfl
theorem T.f73_1 : fldB Tryz.prog 73 1 1 = true := by kernel_rfl
theorem T.f75_0 : fldB Tryz.prog 75 0 0 = true := by kernel_rfl
theorem T.f75_1 : fldB Tryz.prog 75 1 2 = true := by kernel_rfl
theorem T.f75_2 : fldB Tryz.prog 75 2 3 = true := by kernel_rfl
theorem T.f75_3 : fldB Tryz.prog 75 3 4 = true := by kernel_rfl
theorem T.f78_0 : fldB Tryz.prog 78 0 0 = true := by kernel_rfl
theorem T.f78_1 : fldB Tryz.prog 78 1 5 = true := by kernel_rfl
theorem T.f78_2 : fldB Tryz.prog 78 2 6 = true := by kernel_rfl
theorem T.f99_0 : fldB Tryz.prog 99 0 0 = true := by kernel_rfl
theorem T.f99_1 : fldB Tryz.prog 99 1 1 = true := by kernel_rfl
theorem T.f99_2 : fldB Tryz.prog 99 2 2 = true := by kernel_rfl
theorem T.f99_3 : fldB Tryz.prog 99 3 3 = true := by kernel_rfl
theorem T.mix : Tryz.prog.follows .mixedOrders = true := by kernel_rfl
theorem T.o100 : oneB Tryz.prog 100 = true := by kernel_rfl
theorem T.o115 : oneB Tryz.prog 115 = true := by kernel_rfl
theorem T.o116 : oneB Tryz.prog 116 = true := by kernel_rfl
theorem T.o121 : oneB Tryz.prog 121 = true := by kernel_rfl
theorem T.o131 : oneB Tryz.prog 131 = true := by kernel_rfl
theorem T.o140 : oneB Tryz.prog 140 = true := by kernel_rfl
theorem T.o141 : oneB Tryz.prog 141 = true := by kernel_rfl
theorem T.o150 : oneB Tryz.prog 150 = true := by kernel_rfl
theorem T.o174 : oneB Tryz.prog 174 = true := by kernel_rfl
theorem T.o22 : oneB Tryz.prog 22 = true := by kernel_rfl
theorem T.o228 : oneB Tryz.prog 228 = true := by kernel_rfl
theorem T.o23 : oneB Tryz.prog 23 = true := by kernel_rfl
theorem T.o24 : oneB Tryz.prog 24 = true := by kernel_rfl
theorem T.o25 : oneB Tryz.prog 25 = true := by kernel_rfl
theorem T.o28 : oneB Tryz.prog 28 = true := by kernel_rfl
theorem T.o3 : oneB Tryz.prog 3 = true := by kernel_rfl
theorem T.o31 : oneB Tryz.prog 31 = true := by kernel_rfl
theorem T.o34 : oneB Tryz.prog 34 = true := by kernel_rfl
theorem T.o35 : oneB Tryz.prog 35 = true := by kernel_rfl
theorem T.o4 : oneB Tryz.prog 4 = true := by kernel_rfl
theorem T.o42 : oneB Tryz.prog 42 = true := by kernel_rfl
theorem T.o43 : oneB Tryz.prog 43 = true := by kernel_rfl
theorem T.o44 : oneB Tryz.prog 44 = true := by kernel_rfl
theorem T.o47 : oneB Tryz.prog 47 = true := by kernel_rfl
theorem T.o5 : oneB Tryz.prog 5 = true := by kernel_rfl
theorem T.o50 : oneB Tryz.prog 50 = true := by kernel_rfl
theorem T.o52 : oneB Tryz.prog 52 = true := by kernel_rfl
theorem T.o53 : oneB Tryz.prog 53 = true := by kernel_rfl
theorem T.o76 : oneB Tryz.prog 76 = true := by kernel_rfl
theorem T.o9 : oneB Tryz.prog 9 = true := by kernel_rfl
theorem T.o95 : oneB Tryz.prog 95 = true := by kernel_rfl
theorem T.s100 : slB Tryz.prog 100 111 4 32 = true := by kernel_rfl
theorem T.s115 : slB Tryz.prog 115 123 3 40 = true := by kernel_rfl
theorem T.s116 : slB Tryz.prog 116 251 3 24 = true := by kernel_rfl
theorem T.s121 : slB Tryz.prog 121 125 4 32 = true := by kernel_rfl
theorem T.s131 : slB Tryz.prog 131 248 4 32 = true := by kernel_rfl
theorem T.s140 : slB Tryz.prog 140 230 3 40 = true := by kernel_rfl
theorem T.s141 : slB Tryz.prog 141 253 3 24 = true := by kernel_rfl
theorem T.s150 : slB Tryz.prog 150 149 5 40 = true := by kernel_rfl
theorem T.s174 : slB Tryz.prog 174 5 1 1 = true := by kernel_rfl
theorem T.s22 : slB Tryz.prog 22 135 9 104 = true := by kernel_rfl
theorem T.s228 : slB Tryz.prog 228 258 4 32 = true := by kernel_rfl
theorem T.s23 : slB Tryz.prog 23 4 1 1 = true := by kernel_rfl
theorem T.s24 : slB Tryz.prog 24 192 6 48 = true := by kernel_rfl
theorem T.s25 : slB Tryz.prog 25 225 4 48 = true := by kernel_rfl
theorem T.s28 : slB Tryz.prog 28 184 4 48 = true := by kernel_rfl
theorem T.s31 : slB Tryz.prog 31 145 6 104 = true := by kernel_rfl
theorem T.s34 : slB Tryz.prog 34 152 7 72 = true := by kernel_rfl
theorem T.s35 : slB Tryz.prog 35 204 4 32 = true := by kernel_rfl
theorem T.s42 : slB Tryz.prog 42 104 9 104 = true := by kernel_rfl
theorem T.s43 : slB Tryz.prog 43 106 6 48 = true := by kernel_rfl
theorem T.s44 : slB Tryz.prog 44 220 4 48 = true := by kernel_rfl
theorem T.s47 : slB Tryz.prog 47 194 4 48 = true := by kernel_rfl
theorem T.s50 : slB Tryz.prog 50 120 6 104 = true := by kernel_rfl
theorem T.s52 : slB Tryz.prog 52 78 7 72 = true := by kernel_rfl
theorem T.s53 : slB Tryz.prog 53 202 4 32 = true := by kernel_rfl
theorem T.s76 : slB Tryz.prog 76 75 5 40 = true := by kernel_rfl
theorem T.s95 : slB Tryz.prog 95 3 1 8 = true := by kernel_rfl
theorem T.z102 : zerosOf Tryz.prog 102 = some [.nil] := by kernel_rfl
theorem T.z104 : zerosOf Tryz.prog 104 = some [.int .i64 0, .int .i64 0, .int .i64 0, .int .i64 0, .nil, .int .i64 0, .int .i64 0, .int .i64 0, .nil] := by kernel_rfl
theorem T.z106 : zerosOf Tryz.prog 106 = some [.int .i64 0, .int .i64 0, .int .i64 0, .int .i64 0, .int .i64 0, .int .i64 0] := by kernel_rfl
theorem T.z111 : zerosOf Tryz.prog 111 = some [.int .i64 0, .int .i64 0, .int .i64 0, .bool false] := by kernel_rfl
theorem T.z118 : zerosOf Tryz.prog 118 = some [.int .i64 0, .int .i64 0, .nil] := by kernel_rfl
theorem T.z120 : zerosOf Tryz.prog 120 = some [.str ⟨#[]⟩, .nil, .int .i64 0, .int .i64 0, .nil, .nil] := by kernel_rfl
theorem T.z123 : zerosOf Tryz.prog 123 = some [.int .i64 0, .int .i64 0, .nil] := by kernel_rfl
theorem T.z125 : zerosOf Tryz.prog 125 = some [.int .i64 0, .int .i64 0, .int .i64 0, .bool false] := by kernel_rfl
theorem T.z194 : zerosOf Tryz.prog 194 = some [.int .i64 0, .int .i64 0, .nil, .int .i64 0] := by kernel_rfl
theorem T.z202 : zerosOf Tryz.prog 202 = some [.int .i64 0, .int .i64 0, .int .i64 0, .bool false] := by kernel_rfl
theorem T.z220 : zerosOf Tryz.prog 220 = some [.int .i64 0, .int .i64 0, .nil, .int .i64 0] := by kernel_rfl
theorem T.z251 : zerosOf Tryz.prog 251 = some [.int .i64 0, .int .i64 0, .int .i64 0] := by kernel_rfl
theorem T.z3 : zerosOf Tryz.prog 3 = some [.int .i64 0] := by kernel_rfl
theorem T.z4 : zerosOf Tryz.prog 4 = some [.bool false] := by kernel_rfl
theorem T.z46 : zerosOf Tryz.prog 46 = some [.int .i64 0, .nil] := by kernel_rfl
theorem T.z49 : zerosOf Tryz.prog 49 = some [.nil, .int .i64 0, .nil, .nil] := by kernel_rfl
theorem T.z5 : zerosOf Tryz.prog 5 = some [.int .u8 0] := by kernel_rfl
theorem T.z51 : zerosOf Tryz.prog 51 = some [.int .i64 0, .int .i64 0, .int .i64 0, .int .i64 0] := by kernel_rfl
theorem T.z55 : zerosOf Tryz.prog 55 = some [.nil] := by kernel_rfl
theorem T.z57 : zerosOf Tryz.prog 57 = some [.int .i64 0, .int .i64 0, .nil, .nil, .nil, .int .i64 0, .nil, .nil, .nil, .int .i64 0, .int .i64 0, .int .i64 0, .int .i64 0, .nil, .int .i64 0, .nil] := by kernel_rfl
theorem T.z73 : zerosOf Tryz.prog 73 = some [.int .i64 0, .int .i64 0] := by kernel_rfl
theorem T.z75 : zerosOf Tryz.prog 75 = some [.int .i64 0, .int .i64 0, .int .i64 0, .int .i64 0, .int .i64 0] := by kernel_rfl
theorem T.z78 : zerosOf Tryz.prog 78 = some [.int .i64 0, .int .i64 0, .int .i64 0, .int .i64 0, .int .i64 0, .nil, .int .i64 0] := by kernel_rfl
theorem T.z99 : zerosOf Tryz.prog 99 = some [.int .i64 0, .int .i64 0, .int .i64 0, .int .i64 0] := by kernel_rfl
theorem sp_spec_l24Mark (k_ : D.Keeper) (r : Int) (hm : m_spec_l24Mark k_ = some r) : Spec Tryz.prog G0 36 [.agg (D.Keeper.V k_)] (fun v => v = .int .i64 r) := by
  rw [m_spec_l24Mark] at hm
  refine enter (l := [.tmp 2]) Tryz.func36 rfl Tryz.ntmps36 rfl T.en36 fun E => ?_
  simp only [List.length_cons, List.length_nil, List.replicate_succ, List.replicate_zero, List.cons_append, List.nil_append, Nat.reduceAdd, Nat.reduceSub]
  refine sr <| k (bx rfl s0 u1 (.t n0)) <| m (as_ (.i rfl)) u2 <| e ?_
  refine sr <| m (fab 2 rfl T.f75_1 (.t n1)) u3 <| m (ldb T.o3 n0 n2 (.t n3)) u4 <| m (mul (.t n4) (.i rfl)) u5 <| m (fab 3 rfl T.f75_2 (.t n1)) u6 <| m (ldb T.o3 n0 n3 (.t n6)) u7 <| m (add (.t n5) (.t n7)) u8 <| m (as_ (.t n8)) u2 <| e ?_
  replace hm := sj hm
  subst hm
  exact rt (ret1 (.t n2 (.p rfl) .n) rfl)

theorem tot_spec_l24Mark (k_ : D.Keeper)  : Spec Tryz.prog G0 36 [.agg (D.Keeper.V k_)] (fun v => v = .int .i64 (markF k_)) := sp_spec_l24Mark k_ _ (t_spec_l24Mark k_)

theorem sp_impl_progress (k_ : D.Keeper) (r : Int) (hm : m_impl_progress k_ = some r) : Spec Tryz.prog G0 44 [.agg (D.Keeper.V k_)] (fun v => v = .int .i64 r) := by
  rw [m_impl_progress] at hm
  refine enter (l := [.tmp 2]) Tryz.func44 rfl Tryz.ntmps44 rfl T.en44 fun E => ?_
  simp only [List.length_cons, List.length_nil, List.replicate_succ, List.replicate_zero, List.cons_append, List.nil_append, Nat.reduceAdd, Nat.reduceSub]
  refine sr <| k (bx rfl s0 u1 (.t n0)) <| m (as_ (.i rfl)) u2 <| e ?_
  refine sr <| m (fab 2 rfl T.f75_1 (.t n1)) u3 <| m (ldb T.o3 n0 n2 (.t n3)) u4 <| m (mul (.t n4) (.i rfl)) u5 <| m (fab 3 rfl T.f75_2 (.t n1)) u6 <| m (ldb T.o3 n0 n3 (.t n6)) u7 <| m (add (.t n5) (.t n7)) u8 <| m (as_ (.t n8)) u2 <| e ?_
  replace hm := sj hm
  subst hm
  exact rt (ret1 (.t n2 (.p rfl) .n) rfl)

theorem tot_impl_progress (k_ : D.Keeper)  : Spec Tryz.prog G0 44 [.agg (D.Keeper.V k_)] (fun v => v = .int .i64 (markF k_)) := sp_impl_progress k_ _ (t_impl_progress k_)

theorem sp_spec_GuessesWithin (w_ : D.World) (r : Bool) (hm : m_spec_GuessesWithin w_ = some r) : Spec Tryz.prog G0 12 [.agg (D.World.V w_)] (fun v => v = .bool r) := by
  rw [m_spec_GuessesWithin] at hm
  refine enter (l := [.tmp 2]) Tryz.func12 rfl Tryz.ntmps12 rfl T.en12 fun E => ?_
  simp only [List.length_cons, List.length_nil, List.replicate_succ, List.replicate_zero, List.cons_append, List.nil_append, Nat.reduceAdd, Nat.reduceSub]
  refine sr <| k (bx rfl s0 u1 (.t n0)) <| m (as_ .b) u2 <| e ?_
  refine sq ?_
  refine sr <| m (as_ (.i rfl)) u3 <| e ?_
  refine jmx hm (fun _ : Unit => ⟨[.any, .any, .any, .any, .any, .any, .any, .any, .any, .any, .any, .any, .any, .any, .any, .any, .any, .any, .any, .any, .any, .any, .any, .any, .any, .any, .any, .any, .any, .any, .any, .any, .any, .any], []⟩) (fun _ hm hq1 => ?_) (fun _ hm => ?_)
  ·
    refine bk ?_
    refine lpf (m := m_spec_GuessesWithin_l0 w_) hm (fun i0 : Nat => ⟨[.any, .box 0 0, .any, .int .i64 (i0 : Int), .any, .any, .any, .any, .any, .any, .any, .any, .any, .any, .any, .any, .any, .any, .any, .any, .any, .any, .any, .any, .any, .any, .any, .any, .any, .any, .any, .any, .any, .any], [.box 57 [.int .i64 w_.Now, .int .i64 w_.Seed, .slice 9 (w_.Devices.map D.Device.V), .slice 1 (w_.Stolen.map bV), .slice 6 (w_.Cloud.Log.map D.LogEntry.V), .int .i64 w_.Cloud.Boxes.Epoch, .slice 4 (w_.Cloud.Boxes.Boxes.map D.Box.V), .slice 4 (w_.Cloud.History.map D.SealedBundle.V), .slice 6 (w_.Sites.map D.Site.V), .int .i64 w_.Vault.Salt, .int .i64 w_.Vault.Threshold, .int .i64 w_.Vault.Check, .int .i64 w_.Vault.Masked, .slice 7 (w_.Hosts.map D.KeeperHost.V), .int .i64 w_.Pin, .slice 4 (w_.Mail.Notices.map D.Notice.V)]]⟩) (fun _ => rfl) (le [0] (by decide) (.c .a (.c (.b n0) (.c .a (.c (.e rfl rfl) (.c .a (.c .a (.c .a (.c .a (.c .a (.c .a (.c .a (.c .a (.c .a (.c .a (.c .a (.c .a (.c .a (.c .a (.c .a (.c .a (.c .a (.c .a (.c .a (.c .a (.c .a (.c .a (.c .a (.c .a (.c .a (.c .a (.c .a (.c .a (.c .a (.c .a .n)))))))))))))))))))))))))))))))))) (.b n0 (.c (.e rfl rfl) (.c (.e rfl rfl) (.c (.e rfl rfl) (.c (.e rfl rfl) (.c (.e rfl rfl) (.c (.e rfl rfl) (.c (.e rfl rfl) (.c (.e rfl rfl) (.c (.e rfl rfl) (.c (.e rfl rfl) (.c (.e rfl rfl) (.c (.e rfl rfl) (.c (.e rfl rfl) (.c (.e rfl rfl) (.c (.e rfl rfl) (.c (.e rfl rfl) .n)))))))))))))))) .n)) ?_
    rintro f i0 hm
    rw [m_spec_GuessesWithin_l0] at hm
    refine sq ?_
    refine sr <| m (mv (.t n3)) u5 <| m (fab 13 rfl T.f57_7 (.t n1)) u6 <| m (ldb T.o52 n0 n13 (.t n6)) u7 <| m (lenm (l := w_.Hosts) (f := D.KeeperHost.V) T.s52 (.t n7)) u8 <| m (lss (.t n5) (.t n8)) u9 <| e ?_
    refine rng n8 fun _ ra2 => ?_
    replace ra2 := (show (_ : Int) ≤ 9223372036854775807 from ra2)
    refine cnd n9 (fun h3 => ?_) (fun h3 => ?_)
    ·
      replace hm := ct h3 hm
      have h3d := of_decide_eq_true h3
      refine skp ?_
      refine sq ?_
      refine bk ?_
      obtain ⟨z4, e5, hm⟩ := bd_some hm
      refine sr <| m (fab 13 rfl T.f57_7 (.t n1)) u12 <| m (ldb T.o52 n0 n13 (.t n12)) u13 <| m (mv (.t n3)) u14 <| m (ixq (f := D.KeeperHost.V) e5 T.s52 (.t n13) (.t n14)) u15 <| m (fae T.f78_0 d0 (.t n15)) u16 <| m (lae T.a75 k5 (.t n16)) u17 <| k (al T.z75 s1 u4) <| k (sta T.a75 rfl rfl n1 (.z (.z (.z (.z (.z .n))))) q1 (.t n4) (.t n17)) <| e ?_
      refine sd none [(0, true), (1, true), (2, true), (3, true), (4, true), (5, true), (6, true), (8, true), (9, true), (10, true), (11, true), (12, true), (13, true), (7, false), (14, true), (15, true)] T.mix (by kernel_rfl) <| rob hm (fun j1_33 : Bool => ⟨[.any, .box 0 0, .any, .int .i64 (i0 : Int), .any, .any, .any, .any, .any, .any, .any, .any, .any, .any, .any, .any, .any, .any, .any, .any, .any, .any, .any, .any, .any, .any, .any, .any, .any, .any, .any, .any, .any, .bool j1_33], [.box 57 [.int .i64 w_.Now, .int .i64 w_.Seed, .slice 9 (w_.Devices.map D.Device.V), .slice 1 (w_.Stolen.map bV), .slice 6 (w_.Cloud.Log.map D.LogEntry.V), .int .i64 w_.Cloud.Boxes.Epoch, .slice 4 (w_.Cloud.Boxes.Boxes.map D.Box.V), .slice 4 (w_.Cloud.History.map D.SealedBundle.V), .slice 6 (w_.Sites.map D.Site.V), .int .i64 w_.Vault.Salt, .int .i64 w_.Vault.Threshold, .int .i64 w_.Vault.Check, .int .i64 w_.Vault.Masked, .slice 7 (w_.Hosts.map D.KeeperHost.V), .int .i64 w_.Pin, .slice 4 (w_.Mail.Notices.map D.Notice.V)]]⟩) (fun _ hm hq6 => ?_) (fun j1_33 hm => ?_)
      ·
        refine om n0 (fab 3 rfl T.f75_2 (.t n4)) u18 <| om n1 (ldb T.o3 n1 n3 (.t n18)) u19 <| om n2 (fab 4 rfl T.f75_3 (.t n4)) u20 <| om n3 (ldb T.o3 n1 n4 (.t n20)) u21 <| om n4 (gtr (.t n19) (.t n21)) u22 <| om n5 (mv (.t n22)) u23 <| osp n23 u23 u23 (fun h7 => ?_) (fun h7 => ?_)
        ·
          replace hm := ct h7 hm
          refine os n6 n5 rfl n23 rfl u24 <| os n8 n5 rfl n23 rfl u26 <| os n9 n5 rfl n23 rfl u27 <| os n10 n5 rfl n23 rfl u28 <| os n11 n5 rfl n23 rfl u29 <| os n12 n5 rfl n23 rfl u30 <| os n13 n5 rfl n23 rfl u31 <| osf n7 n5 rfl n23 rfl u25 <| os n14 n5 rfl n23 rfl u32 <| om n15 (pkt (.t n23) .b) u33 <| oe ?_
          replace hm := sj hm
          subst hm
          have hm := hq6
          exact ⟨true, hm, le [0] (by decide) (.c .a (.c (.b n0) (.c .a (.c (.e rfl rfl) (.c .a (.c .a (.c .a (.c .a (.c .a (.c .a (.c .a (.c .a (.c .a (.c .a (.c .a (.c .a (.c .a (.c .a (.c .a (.c .a (.c .a (.c .a (.c .a (.c .a (.c .a (.c .a (.c .a (.c .a (.c .a (.c .a (.c .a (.c .a (.c .a (.c (.e rfl rfl) .n)))))))))))))))))))))))))))))))))) (.b n0 (.c (.e rfl rfl) (.c (.e rfl rfl) (.c (.e rfl rfl) (.c (.e rfl rfl) (.c (.e rfl rfl) (.c (.e rfl rfl) (.c (.e rfl rfl) (.c (.e rfl rfl) (.c (.e rfl rfl) (.c (.e rfl rfl) (.c (.e rfl rfl) (.c (.e rfl rfl) (.c (.e rfl rfl) (.c (.e rfl rfl) (.c (.e rfl rfl) (.c (.e rfl rfl) .n)))))))))))))))) .n)⟩
        ·
          replace hm := cf h7 hm
          refine omg n6 n5 rfl n23 (lab T.a75 n1 d0 k5 (.t n4)) u24 <| omg n8 n5 rfl n23 (fab 13 rfl T.f57_7 (.t n1)) u26 <| omg n9 n5 rfl n23 (ldb T.o52 n0 n13 (.t n26)) u27 <| omg n10 n5 rfl n23 (mv (.t n3)) u28 <| omg n11 n5 rfl n23 (ixq (f := D.KeeperHost.V) e5 T.s52 (.t n27) (.t n28)) u29 <| omg n12 n5 rfl n23 (fae T.f78_2 d6 (.t n29)) u30 <| omg n13 n5 rfl n23 (lde T.o3 n0 (.t n30)) u31 <| ocg n7 n5 rfl n23 (call (tot_spec_l24Mark z4.State) (.c (.t n24) rfl .n)) u25 <| omg n14 n5 rfl n23 (gtr (.t n25) (.t n31)) u32 <| om n15 (pkf (.t n23) (.t n32)) u33 <| oe ?_
          replace hm := sj hm
          subst hm
          have hm := hq6
          exact ⟨decide ((markF z4.State) > z4.Monotonic), hm, le [0] (by decide) (.c .a (.c (.b n0) (.c .a (.c (.e rfl rfl) (.c .a (.c .a (.c .a (.c .a (.c .a (.c .a (.c .a (.c .a (.c .a (.c .a (.c .a (.c .a (.c .a (.c .a (.c .a (.c .a (.c .a (.c .a (.c .a (.c .a (.c .a (.c .a (.c .a (.c .a (.c .a (.c .a (.c .a (.c .a (.c .a (.c (.e rfl rfl) .n)))))))))))))))))))))))))))))))))) (.b n0 (.c (.e rfl rfl) (.c (.e rfl rfl) (.c (.e rfl rfl) (.c (.e rfl rfl) (.c (.e rfl rfl) (.c (.e rfl rfl) (.c (.e rfl rfl) (.c (.e rfl rfl) (.c (.e rfl rfl) (.c (.e rfl rfl) (.c (.e rfl rfl) (.c (.e rfl rfl) (.c (.e rfl rfl) (.c (.e rfl rfl) (.c (.e rfl rfl) (.c (.e rfl rfl) .n)))))))))))))))) .n)⟩
      ·
        refine cnd n33 (fun h8 => ?_) (fun h8 => ?_)
        ·
          replace hm := ct h8 hm
          refine sr <| m (as_ .b) u2 <| e ?_
          replace hm := inl1 hm hq1
          subst hm
          exact rt (ret1 (.t n2 (.p rfl) .n) rfl)
        ·
          replace hm := cf h8 hm
          refine skp ?_
          refine rg <| m (mv (.t n3)) u10 <| m (add (.t n10) (.i rfl)) u11 <| m (as_ (.t n11)) u3 <| e ?_
          exact ⟨i0 + 1, hm, le [0] (by decide) (.c .a (.c (.b n0) (.c .a (.c (.e (wi (by omega)) rfl) (.c .a (.c .a (.c .a (.c .a (.c .a (.c .a (.c .a (.c .a (.c .a (.c .a (.c .a (.c .a (.c .a (.c .a (.c .a (.c .a (.c .a (.c .a (.c .a (.c .a (.c .a (.c .a (.c .a (.c .a (.c .a (.c .a (.c .a (.c .a (.c .a (.c .a .n)))))))))))))))))))))))))))))))))) (.b n0 (.c (.e rfl rfl) (.c (.e rfl rfl) (.c (.e rfl rfl) (.c (.e rfl rfl) (.c (.e rfl rfl) (.c (.e rfl rfl) (.c (.e rfl rfl) (.c (.e rfl rfl) (.c (.e rfl rfl) (.c (.e rfl rfl) (.c (.e rfl rfl) (.c (.e rfl rfl) (.c (.e rfl rfl) (.c (.e rfl rfl) (.c (.e rfl rfl) (.c (.e rfl rfl) .n)))))))))))))))) .n)⟩
    ·
      replace hm := cf h3 hm
      have h3d := of_decide_eq_false h3
      refine ex (x1 ?_)
      replace hm := inr1 hm hq1
      exact ⟨(), hm, le [] (by decide) (.c .a (.c .a (.c .a (.c .a (.c .a (.c .a (.c .a (.c .a (.c .a (.c .a (.c .a (.c .a (.c .a (.c .a (.c .a (.c .a (.c .a (.c .a (.c .a (.c .a (.c .a (.c .a (.c .a (.c .a (.c .a (.c .a (.c .a (.c .a (.c .a (.c .a (.c .a (.c .a (.c .a (.c .a .n)))))))))))))))))))))))))))))))))) .n⟩
  ·
    refine sr <| m (as_ .b) u2 <| e ?_
    replace hm := sj hm
    subst hm
    exact rt (ret1 (.t n2 (.p rfl) .n) rfl)

theorem tot_spec_GuessesWithin (w_ : D.World)  : Spec Tryz.prog G0 12 [.agg (D.World.V w_)] (fun v => v = .bool (guessesWithinF w_)) := sp_spec_GuessesWithin w_ _ (t_spec_GuessesWithin w_)

theorem sp_impl_GuessesWithin (w_ : D.World) (r : Bool) (hm : m_impl_GuessesWithin w_ = some r) : Spec Tryz.prog G0 14 [.agg (D.World.V w_)] (fun v => v = .bool r) := by
  rw [m_impl_GuessesWithin] at hm
  refine enter (l := [.tmp 2]) Tryz.func14 rfl Tryz.ntmps14 rfl T.en14 fun E => ?_
  simp only [List.length_cons, List.length_nil, List.replicate_succ, List.replicate_zero, List.cons_append, List.nil_append, Nat.reduceAdd, Nat.reduceSub]
  refine sr <| k (bx rfl s0 u1 (.t n0)) <| m (as_ .b) u2 <| e ?_
  refine sq ?_
  refine sr <| m (fab 13 rfl T.f57_7 (.t n1)) u5 <| m (ldb T.o52 n0 n13 (.t n5)) u6 <| m (lenm (l := w_.Hosts) (f := D.KeeperHost.V) T.s52 (.t n6)) u7 <| m (mv (.i rfl)) u8 <| e ?_
  refine jmx hm (fun _ : Unit => ⟨[.any, .any, .any, .any, .any, .any, .any, .any, .any, .any, .any, .any, .any, .any, .any, .any, .any, .any, .any, .any, .any, .any, .any, .any, .any, .any, .any, .any], []⟩) (fun _ hm hq1 => ?_) (fun _ hm => ?_)
  ·
    refine bk ?_
    refine lpf (m := m_impl_GuessesWithin_l0 w_) hm (fun i0 : Nat => ⟨[.any, .any, .any, .any, .any, .any, .slice 7 (w_.Hosts.map D.KeeperHost.V), .int .i64 (w_.Hosts.length : Int), .int .i64 (i0 : Int), .any, .any, .any, .any, .any, .any, .any, .any, .any, .any, .any, .any, .any, .any, .any, .any, .any, .any, .any], []⟩) (fun _ => rfl) (le [] (by decide) (.c .a (.c .a (.c .a (.c .a (.c .a (.c .a (.c (.e rfl rfl) (.c (.e rfl rfl) (.c (.e rfl rfl) (.c .a (.c .a (.c .a (.c .a (.c .a (.c .a (.c .a (.c .a (.c .a (.c .a (.c .a (.c .a (.c .a (.c .a (.c .a (.c .a (.c .a (.c .a (.c .a .n)))))))))))))))))))))))))))) .n) ?_
    rintro f i0 hm
    rw [m_impl_GuessesWithin_l0] at hm
    refine sr <| m (lss (.t n8) (.t n7)) u9 <| e ?_
    refine rng n7 fun _ ra2 => ?_
    replace ra2 := (show (_ : Int) ≤ 9223372036854775807 from ra2)
    refine sq ?_
    refine cnd n9 (fun h3 => ?_) (fun h3 => ?_)
    ·
      replace hm := ct h3 hm
      have h3d := of_decide_eq_true h3
      refine skp ?_
      refine sq ?_
      refine bk ?_
      obtain ⟨z4, e5, hm⟩ := bd_some hm
      refine sr <| m (ixq (f := D.KeeperHost.V) e5 T.s52 (.t n6) (.t n8)) u10 <| m (lae T.a78 k7 (.t n10)) u11 <| k (al T.z78 s0 u4) <| k (sta T.a78 rfl rfl n0 (.z (.z (.z (.z (.z (.z (.z .n))))))) q0 (.t n4) (.t n11)) <| e ?_
      refine sd none [(0, true), (1, true), (2, true), (3, true), (4, true), (5, true), (6, true), (7, true), (8, true), (9, true), (11, true), (12, true), (10, false), (13, true), (14, true)] T.mix (by kernel_rfl) <| rob hm (fun j1_26 : Bool => ⟨[.any, .any, .any, .any, .any, .any, .slice 7 (w_.Hosts.map D.KeeperHost.V), .int .i64 (w_.Hosts.length : Int), .int .i64 (i0 : Int), .any, .any, .any, .any, .any, .any, .any, .any, .any, .any, .any, .any, .any, .any, .any, .any, .any, .bool j1_26, .any], []⟩) (fun _ hm hq6 => ?_) (fun j1_26 hm => ?_)
      ·
        refine om n0 (fab 0 rfl T.f78_0 (.t n4)) u12 <| om n1 (fab 3 rfl T.f75_2 (.t n12)) u13 <| om n2 (ldb T.o3 n0 n3 (.t n13)) u14 <| om n3 (fab 0 rfl T.f78_0 (.t n4)) u15 <| om n4 (fab 4 rfl T.f75_3 (.t n15)) u16 <| om n5 (ldb T.o3 n0 n4 (.t n16)) u17 <| om n6 (gtr (.t n14) (.t n17)) u18 <| om n7 (mv (.t n18)) u19 <| osp n19 u19 u19 (fun h7 => ?_) (fun h7 => ?_)
        ·
          replace hm := ct h7 hm
          refine os n8 n7 rfl n19 rfl u20 <| os n9 n7 rfl n19 rfl u21 <| os n11 n7 rfl n19 rfl u23 <| os n12 n7 rfl n19 rfl u24 <| osf n10 n7 rfl n19 rfl u22 <| os n13 n7 rfl n19 rfl u25 <| om n14 (pkt (.t n19) .b) u26 <| oe ?_
          replace hm := sj hm
          subst hm
          have hm := hq6
          exact ⟨true, hm, le [] (by decide) (.c .a (.c .a (.c .a (.c .a (.c .a (.c .a (.c (.e rfl rfl) (.c (.e rfl rfl) (.c (.e rfl rfl) (.c .a (.c .a (.c .a (.c .a (.c .a (.c .a (.c .a (.c .a (.c .a (.c .a (.c .a (.c .a (.c .a (.c .a (.c .a (.c .a (.c .a (.c (.e rfl rfl) (.c .a .n)))))))))))))))))))))))))))) .n⟩
        ·
          replace hm := cf h7 hm
          refine omg n8 n7 rfl n19 (fab 0 rfl T.f78_0 (.t n4)) u20 <| omg n9 n7 rfl n19 (lab T.a75 n0 d0 k5 (.t n20)) u21 <| omg n11 n7 rfl n19 (fab 6 rfl T.f78_2 (.t n4)) u23 <| omg n12 n7 rfl n19 (ldb T.o3 n0 n6 (.t n23)) u24 <| ocg n10 n7 rfl n19 (call (tot_impl_progress z4.State) (.c (.t n21) rfl .n)) u22 <| omg n13 n7 rfl n19 (gtr (.t n22) (.t n24)) u25 <| om n14 (pkf (.t n19) (.t n25)) u26 <| oe ?_
          replace hm := sj hm
          subst hm
          have hm := hq6
          exact ⟨decide ((markF z4.State) > z4.Monotonic), hm, le [] (by decide) (.c .a (.c .a (.c .a (.c .a (.c .a (.c .a (.c (.e rfl rfl) (.c (.e rfl rfl) (.c (.e rfl rfl) (.c .a (.c .a (.c .a (.c .a (.c .a (.c .a (.c .a (.c .a (.c .a (.c .a (.c .a (.c .a (.c .a (.c .a (.c .a (.c .a (.c .a (.c (.e rfl rfl) (.c .a .n)))))))))))))))))))))))))))) .n⟩
      ·
        refine cnd n26 (fun h8 => ?_) (fun h8 => ?_)
        ·
          replace hm := ct h8 hm
          refine sr <| m (as_ .b) u2 <| e ?_
          replace hm := inl1 hm hq1
          subst hm
          exact rt (ret1 (.t n2 (.p rfl) .n) rfl)
        ·
          replace hm := cf h8 hm
          refine skp ?_
          refine rg <| m (add (.t n8) (.i rfl)) u27 <| m (mv (.t n27)) u8 <| e ?_
          exact ⟨i0 + 1, hm, le [] (by decide) (.c .a (.c .a (.c .a (.c .a (.c .a (.c .a (.c (.e rfl rfl) (.c (.e rfl rfl) (.c (.e (wi (by omega)) rfl) (.c .a (.c .a (.c .a (.c .a (.c .a (.c .a (.c .a (.c .a (.c .a (.c .a (.c .a (.c .a (.c .a (.c .a (.c .a (.c .a (.c .a (.c .a (.c .a .n)))))))))))))))))))))))))))) .n⟩
    ·
      replace hm := cf h3 hm
      have h3d := of_decide_eq_false h3
      refine ex (x1 ?_)
      replace hm := inr1 hm hq1
      exact ⟨(), hm, le [] (by decide) (.c .a (.c .a (.c .a (.c .a (.c .a (.c .a (.c .a (.c .a (.c .a (.c .a (.c .a (.c .a (.c .a (.c .a (.c .a (.c .a (.c .a (.c .a (.c .a (.c .a (.c .a (.c .a (.c .a (.c .a (.c .a (.c .a (.c .a (.c .a .n)))))))))))))))))))))))))))) .n⟩
  ·
    refine sr <| m (as_ .b) u2 <| e ?_
    replace hm := sj hm
    subst hm
    exact rt (ret1 (.t n2 (.p rfl) .n) rfl)

theorem tot_impl_GuessesWithin (w_ : D.World)  : Spec Tryz.prog G0 14 [.agg (D.World.V w_)] (fun v => v = .bool (guessesWithinF w_)) := sp_impl_GuessesWithin w_ _ (t_impl_GuessesWithin w_)
end Go.VK
