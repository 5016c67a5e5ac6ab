/-
  Printed by wip/tools (own work of this part): models of functions, walks over the value kit, and proofs.
-/
import Derived.Test.YtpblmeojgboagaaGreatXmIsConverged
import Derived.Test.YtpblmeojgboagaaGreatProg
set_option linter.unusedVariables false
set_option linter.unusedSimpArgs false
set_option maxRecDepth 100000
set_option maxHeartbeats 4000000
namespace Go.VK
open Go.RowKit Go.Proofs
abbrev G0 : GI := GTriv
theorem T.a102 : aggB Tryz.prog 102 1 = true := by kernel_rfl
theorem T.a104 : aggB Tryz.prog 104 9 = true := by kernel_rfl
theorem T.a106 : aggB Tryz.prog 106 6 = true := by kernel_rfl
theorem T.a111 : aggB Tryz.prog 111 4 = true := by kernel_rfl
theorem T.a118 : aggB Tryz.prog 118 3 = true := by kernel_rfl
theorem T.a120 : aggB Tryz.prog 120 6 = true := by kernel_rfl
theorem T.a123 : aggB Tryz.prog 123 3 = true := by kernel_rfl
theorem T.a125 : aggB Tryz.prog 125 4 = true := by kernel_rfl
theorem T.a130 : aggB Tryz.prog 130 4 = true := by kernel_rfl
theorem T.a133 : aggB Tryz.prog 133 1 = true := by kernel_rfl
theorem T.a135 : aggB Tryz.prog 135 9 = true := by kernel_rfl
theorem T.a143 : aggB Tryz.prog 143 3 = true := by kernel_rfl
theorem T.a145 : aggB Tryz.prog 145 6 = true := by kernel_rfl
theorem T.a147 : aggB Tryz.prog 147 2 = true := by kernel_rfl
theorem T.a149 : aggB Tryz.prog 149 5 = true := by kernel_rfl
theorem T.a152 : aggB Tryz.prog 152 7 = true := by kernel_rfl
theorem T.a184 : aggB Tryz.prog 184 4 = true := by kernel_rfl
theorem T.a192 : aggB Tryz.prog 192 6 = true := by kernel_rfl
theorem T.a194 : aggB Tryz.prog 194 4 = true := by kernel_rfl
theorem T.a202 : aggB Tryz.prog 202 4 = true := by kernel_rfl
theorem T.a204 : aggB Tryz.prog 204 4 = true := by kernel_rfl
theorem T.a220 : aggB Tryz.prog 220 4 = true := by kernel_rfl
theorem T.a225 : aggB Tryz.prog 225 4 = true := by kernel_rfl
theorem T.a230 : aggB Tryz.prog 230 3 = true := by kernel_rfl
theorem T.a248 : aggB Tryz.prog 248 4 = true := by kernel_rfl
theorem T.a251 : aggB Tryz.prog 251 3 = true := by kernel_rfl
theorem T.a253 : aggB Tryz.prog 253 3 = true := by kernel_rfl
theorem T.a258 : aggB Tryz.prog 258 4 = true := by kernel_rfl
theorem T.a27 : aggB Tryz.prog 27 2 = true := by kernel_rfl
theorem T.a30 : aggB Tryz.prog 30 4 = true := by kernel_rfl
theorem T.a33 : aggB Tryz.prog 33 4 = true := by kernel_rfl
theorem T.a37 : aggB Tryz.prog 37 1 = true := by kernel_rfl
theorem T.a39 : aggB Tryz.prog 39 16 = true := by kernel_rfl
theorem T.a46 : aggB Tryz.prog 46 2 = true := by kernel_rfl
theorem T.a49 : aggB Tryz.prog 49 4 = true := by kernel_rfl
theorem T.a51 : aggB Tryz.prog 51 4 = true := by kernel_rfl
theorem T.a55 : aggB Tryz.prog 55 1 = true := by kernel_rfl
theorem T.a57 : aggB Tryz.prog 57 16 = true := by kernel_rfl
theorem T.a73 : aggB Tryz.prog 73 2 = true := by kernel_rfl
theorem T.a75 : aggB Tryz.prog 75 5 = true := by kernel_rfl
theorem T.a78 : aggB Tryz.prog 78 7 = true := by kernel_rfl
theorem T.a99 : aggB Tryz.prog 99 4 = true := by kernel_rfl
theorem T.en100 (args : Array Value) (w : World) : (callFunc 100 args).run Tryz.prog w = .ok (.enter 100 args) w := by kernel_rfl
theorem T.en101 (args : Array Value) (w : World) : (callFunc 101 args).run Tryz.prog w = .ok (.enter 101 args) w := by kernel_rfl
theorem T.en102 (args : Array Value) (w : World) : (callFunc 102 args).run Tryz.prog w = .ok (.enter 102 args) w := by kernel_rfl
theorem T.en103 (args : Array Value) (w : World) : (callFunc 103 args).run Tryz.prog w = .ok (.enter 103 args) w := by kernel_rfl
theorem T.en106 (args : Array Value) (w : World) : (callFunc 106 args).run Tryz.prog w = .ok (.enter 106 args) w := by kernel_rfl
theorem T.en107 (args : Array Value) (w : World) : (callFunc 107 args).run Tryz.prog w = .ok (.enter 107 args) w := by kernel_rfl
theorem T.en108 (args : Array Value) (w : World) : (callFunc 108 args).run Tryz.prog w = .ok (.enter 108 args) w := by kernel_rfl
theorem T.en109 (args : Array Value) (w : World) : (callFunc 109 args).run Tryz.prog w = .ok (.enter 109 args) w := by kernel_rfl
theorem T.en11 (args : Array Value) (w : World) : (callFunc 11 args).run Tryz.prog w = .ok (.enter 11 args) w := by kernel_rfl
theorem T.en112 (args : Array Value) (w : World) : (callFunc 112 args).run Tryz.prog w = .ok (.enter 112 args) w := by kernel_rfl
theorem T.en115 (args : Array Value) (w : World) : (callFunc 115 args).run Tryz.prog w = .ok (.enter 115 args) w := by kernel_rfl
theorem T.en116 (args : Array Value) (w : World) : (callFunc 116 args).run Tryz.prog w = .ok (.enter 116 args) w := by kernel_rfl
theorem T.en117 (args : Array Value) (w : World) : (callFunc 117 args).run Tryz.prog w = .ok (.enter 117 args) w := by kernel_rfl
theorem T.en118 (args : Array Value) (w : World) : (callFunc 118 args).run Tryz.prog w = .ok (.enter 118 args) w := by kernel_rfl
theorem T.en119 (args : Array Value) (w : World) : (callFunc 119 args).run Tryz.prog w = .ok (.enter 119 args) w := by kernel_rfl
theorem T.en120 (args : Array Value) (w : World) : (callFunc 120 args).run Tryz.prog w = .ok (.enter 120 args) w := by kernel_rfl
theorem T.en121 (args : Array Value) (w : World) : (callFunc 121 args).run Tryz.prog w = .ok (.enter 121 args) w := by kernel_rfl
theorem T.en122 (args : Array Value) (w : World) : (callFunc 122 args).run Tryz.prog w = .ok (.enter 122 args) w := by kernel_rfl
theorem T.en123 (args : Array Value) (w : World) : (callFunc 123 args).run Tryz.prog w = .ok (.enter 123 args) w := by kernel_rfl
theorem T.en124 (args : Array Value) (w : World) : (callFunc 124 args).run Tryz.prog w = .ok (.enter 124 args) w := by kernel_rfl
theorem T.en125 (args : Array Value) (w : World) : (callFunc 125 args).run Tryz.prog w = .ok (.enter 125 args) w := by kernel_rfl
theorem T.en126 (args : Array Value) (w : World) : (callFunc 126 args).run Tryz.prog w = .ok (.enter 126 args) w := by kernel_rfl
theorem T.en127 (args : Array Value) (w : World) : (callFunc 127 args).run Tryz.prog w = .ok (.enter 127 args) w := by kernel_rfl
theorem T.en128 (args : Array Value) (w : World) : (callFunc 128 args).run Tryz.prog w = .ok (.enter 128 args) w := by kernel_rfl
theorem T.en129 (args : Array Value) (w : World) : (callFunc 129 args).run Tryz.prog w = .ok (.enter 129 args) w := by kernel_rfl
theorem T.en13 (args : Array Value) (w : World) : (callFunc 13 args).run Tryz.prog w = .ok (.enter 13 args) w := by kernel_rfl
theorem T.en130 (args : Array Value) (w : World) : (callFunc 130 args).run Tryz.prog w = .ok (.enter 130 args) w := by kernel_rfl
theorem T.en131 (args : Array Value) (w : World) : (callFunc 131 args).run Tryz.prog w = .ok (.enter 131 args) w := by kernel_rfl
theorem T.en132 (args : Array Value) (w : World) : (callFunc 132 args).run Tryz.prog w = .ok (.enter 132 args) w := by kernel_rfl
theorem T.en133 (args : Array Value) (w : World) : (callFunc 133 args).run Tryz.prog w = .ok (.enter 133 args) w := by kernel_rfl
theorem T.en134 (args : Array Value) (w : World) : (callFunc 134 args).run Tryz.prog w = .ok (.enter 134 args) w := by kernel_rfl
theorem T.en135 (args : Array Value) (w : World) : (callFunc 135 args).run Tryz.prog w = .ok (.enter 135 args) w := by kernel_rfl
theorem T.en136 (args : Array Value) (w : World) : (callFunc 136 args).run Tryz.prog w = .ok (.enter 136 args) w := by kernel_rfl
theorem T.en137 (args : Array Value) (w : World) : (callFunc 137 args).run Tryz.prog w = .ok (.enter 137 args) w := by kernel_rfl
theorem T.en138 (args : Array Value) (w : World) : (callFunc 138 args).run Tryz.prog w = .ok (.enter 138 args) w := by kernel_rfl
theorem T.en139 (args : Array Value) (w : World) : (callFunc 139 args).run Tryz.prog w = .ok (.enter 139 args) w := by kernel_rfl
theorem T.en140 (args : Array Value) (w : World) : (callFunc 140 args).run Tryz.prog w = .ok (.enter 140 args) w := by kernel_rfl
theorem T.en141 (args : Array Value) (w : World) : (callFunc 141 args).run Tryz.prog w = .ok (.enter 141 args) w := by kernel_rfl
theorem T.en142 (args : Array Value) (w : World) : (callFunc 142 args).run Tryz.prog w = .ok (.enter 142 args) w := by kernel_rfl
theorem T.en143 (args : Array Value) (w : World) : (callFunc 143 args).run Tryz.prog w = .ok (.enter 143 args) w := by kernel_rfl
theorem T.en144 (args : Array Value) (w : World) : (callFunc 144 args).run Tryz.prog w = .ok (.enter 144 args) w := by kernel_rfl
theorem T.en145 (args : Array Value) (w : World) : (callFunc 145 args).run Tryz.prog w = .ok (.enter 145 args) w := by kernel_rfl
theorem T.en146 (args : Array Value) (w : World) : (callFunc 146 args).run Tryz.prog w = .ok (.enter 146 args) w := by kernel_rfl
theorem T.en15 (args : Array Value) (w : World) : (callFunc 15 args).run Tryz.prog w = .ok (.enter 15 args) w := by kernel_rfl
theorem T.en153 (args : Array Value) (w : World) : (callFunc 153 args).run Tryz.prog w = .ok (.enter 153 args) w := by kernel_rfl
theorem T.en154 (args : Array Value) (w : World) : (callFunc 154 args).run Tryz.prog w = .ok (.enter 154 args) w := by kernel_rfl
theorem T.en155 (args : Array Value) (w : World) : (callFunc 155 args).run Tryz.prog w = .ok (.enter 155 args) w := by kernel_rfl
theorem T.en156 (args : Array Value) (w : World) : (callFunc 156 args).run Tryz.prog w = .ok (.enter 156 args) w := by kernel_rfl
theorem T.en157 (args : Array Value) (w : World) : (callFunc 157 args).run Tryz.prog w = .ok (.enter 157 args) w := by kernel_rfl
theorem T.en158 (args : Array Value) (w : World) : (callFunc 158 args).run Tryz.prog w = .ok (.enter 158 args) w := by kernel_rfl
theorem T.en159 (args : Array Value) (w : World) : (callFunc 159 args).run Tryz.prog w = .ok (.enter 159 args) w := by kernel_rfl
theorem T.en160 (args : Array Value) (w : World) : (callFunc 160 args).run Tryz.prog w = .ok (.enter 160 args) w := by kernel_rfl
theorem T.en161 (args : Array Value) (w : World) : (callFunc 161 args).run Tryz.prog w = .ok (.enter 161 args) w := by kernel_rfl
theorem T.en162 (args : Array Value) (w : World) : (callFunc 162 args).run Tryz.prog w = .ok (.enter 162 args) w := by kernel_rfl
theorem T.en163 (args : Array Value) (w : World) : (callFunc 163 args).run Tryz.prog w = .ok (.enter 163 args) w := by kernel_rfl
theorem T.en164 (args : Array Value) (w : World) : (callFunc 164 args).run Tryz.prog w = .ok (.enter 164 args) w := by kernel_rfl
theorem T.en165 (args : Array Value) (w : World) : (callFunc 165 args).run Tryz.prog w = .ok (.enter 165 args) w := by kernel_rfl
theorem T.en166 (args : Array Value) (w : World) : (callFunc 166 args).run Tryz.prog w = .ok (.enter 166 args) w := by kernel_rfl
theorem T.en167 (args : Array Value) (w : World) : (callFunc 167 args).run Tryz.prog w = .ok (.enter 167 args) w := by kernel_rfl
theorem T.en168 (args : Array Value) (w : World) : (callFunc 168 args).run Tryz.prog w = .ok (.enter 168 args) w := by kernel_rfl
theorem T.en169 (args : Array Value) (w : World) : (callFunc 169 args).run Tryz.prog w = .ok (.enter 169 args) w := by kernel_rfl
theorem T.en170 (args : Array Value) (w : World) : (callFunc 170 args).run Tryz.prog w = .ok (.enter 170 args) w := by kernel_rfl
theorem T.en171 (args : Array Value) (w : World) : (callFunc 171 args).run Tryz.prog w = .ok (.enter 171 args) w := by kernel_rfl
theorem T.en172 (args : Array Value) (w : World) : (callFunc 172 args).run Tryz.prog w = .ok (.enter 172 args) w := by kernel_rfl
theorem T.en179 (args : Array Value) (w : World) : (callFunc 179 args).run Tryz.prog w = .ok (.enter 179 args) w := by kernel_rfl
theorem T.en180 (args : Array Value) (w : World) : (callFunc 180 args).run Tryz.prog w = .ok (.enter 180 args) w := by kernel_rfl
theorem T.en181 (args : Array Value) (w : World) : (callFunc 181 args).run Tryz.prog w = .ok (.enter 181 args) w := by kernel_rfl
theorem T.en182 (args : Array Value) (w : World) : (callFunc 182 args).run Tryz.prog w = .ok (.enter 182 args) w := by kernel_rfl
theorem T.en183 (args : Array Value) (w : World) : (callFunc 183 args).run Tryz.prog w = .ok (.enter 183 args) w := by kernel_rfl
theorem T.en184 (args : Array Value) (w : World) : (callFunc 184 args).run Tryz.prog w = .ok (.enter 184 args) w := by kernel_rfl
theorem T.en185 (args : Array Value) (w : World) : (callFunc 185 args).run Tryz.prog w = .ok (.enter 185 args) w := by kernel_rfl
theorem T.en186 (args : Array Value) (w : World) : (callFunc 186 args).run Tryz.prog w = .ok (.enter 186 args) w := by kernel_rfl
theorem T.en187 (args : Array Value) (w : World) : (callFunc 187 args).run Tryz.prog w = .ok (.enter 187 args) w := by kernel_rfl
theorem T.en24 (args : Array Value) (w : World) : (callFunc 24 args).run Tryz.prog w = .ok (.enter 24 args) w := by kernel_rfl
theorem T.en25 (args : Array Value) (w : World) : (callFunc 25 args).run Tryz.prog w = .ok (.enter 25 args) w := by kernel_rfl
theorem T.en30 (args : Array Value) (w : World) : (callFunc 30 args).run Tryz.prog w = .ok (.enter 30 args) w := by kernel_rfl
theorem T.en31 (args : Array Value) (w : World) : (callFunc 31 args).run Tryz.prog w = .ok (.enter 31 args) w := by kernel_rfl
theorem T.en32 (args : Array Value) (w : World) : (callFunc 32 args).run Tryz.prog w = .ok (.enter 32 args) w := by kernel_rfl
theorem T.en33 (args : Array Value) (w : World) : (callFunc 33 args).run Tryz.prog w = .ok (.enter 33 args) w := by kernel_rfl
theorem T.en34 (args : Array Value) (w : World) : (callFunc 34 args).run Tryz.prog w = .ok (.enter 34 args) w := by kernel_rfl
theorem T.en35 (args : Array Value) (w : World) : (callFunc 35 args).run Tryz.prog w = .ok (.enter 35 args) w := by kernel_rfl
theorem T.en37 (args : Array Value) (w : World) : (callFunc 37 args).run Tryz.prog w = .ok (.enter 37 args) w := by kernel_rfl
theorem T.en38 (args : Array Value) (w : World) : (callFunc 38 args).run Tryz.prog w = .ok (.enter 38 args) w := by kernel_rfl
theorem T.en39 (args : Array Value) (w : World) : (callFunc 39 args).run Tryz.prog w = .ok (.enter 39 args) w := by kernel_rfl
theorem T.en40 (args : Array Value) (w : World) : (callFunc 40 args).run Tryz.prog w = .ok (.enter 40 args) w := by kernel_rfl
theorem T.en41 (args : Array Value) (w : World) : (callFunc 41 args).run Tryz.prog w = .ok (.enter 41 args) w := by kernel_rfl
theorem T.en42 (args : Array Value) (w : World) : (callFunc 42 args).run Tryz.prog w = .ok (.enter 42 args) w := by kernel_rfl
theorem T.en43 (args : Array Value) (w : World) : (callFunc 43 args).run Tryz.prog w = .ok (.enter 43 args) w := by kernel_rfl
theorem T.en45 (args : Array Value) (w : World) : (callFunc 45 args).run Tryz.prog w = .ok (.enter 45 args) w := by kernel_rfl
theorem T.en46 (args : Array Value) (w : World) : (callFunc 46 args).run Tryz.prog w = .ok (.enter 46 args) w := by kernel_rfl
theorem T.en47 (args : Array Value) (w : World) : (callFunc 47 args).run Tryz.prog w = .ok (.enter 47 args) w := by kernel_rfl
theorem T.en48 (args : Array Value) (w : World) : (callFunc 48 args).run Tryz.prog w = .ok (.enter 48 args) w := by kernel_rfl
theorem T.en49 (args : Array Value) (w : World) : (callFunc 49 args).run Tryz.prog w = .ok (.enter 49 args) w := by kernel_rfl
theorem T.en50 (args : Array Value) (w : World) : (callFunc 50 args).run Tryz.prog w = .ok (.enter 50 args) w := by kernel_rfl
theorem T.en51 (args : Array Value) (w : World) : (callFunc 51 args).run Tryz.prog w = .ok (.enter 51 args) w := by kernel_rfl
theorem T.en52 (args : Array Value) (w : World) : (callFunc 52 args).run Tryz.prog w = .ok (.enter 52 args) w := by kernel_rfl
theorem T.en53 (args : Array Value) (w : World) : (callFunc 53 args).run Tryz.prog w = .ok (.enter 53 args) w := by kernel_rfl
theorem T.en54 (args : Array Value) (w : World) : (callFunc 54 args).run Tryz.prog w = .ok (.enter 54 args) w := by kernel_rfl
theorem T.en55 (args : Array Value) (w : World) : (callFunc 55 args).run Tryz.prog w = .ok (.enter 55 args) w := by kernel_rfl
theorem T.en56 (args : Array Value) (w : World) : (callFunc 56 args).run Tryz.prog w = .ok (.enter 56 args) w := by kernel_rfl
theorem T.en58 (args : Array Value) (w : World) : (callFunc 58 args).run Tryz.prog w = .ok (.enter 58 args) w := by kernel_rfl
theorem T.en63 (args : Array Value) (w : World) : (callFunc 63 args).run Tryz.prog w = .ok (.enter 63 args) w := by kernel_rfl
theorem T.en64 (args : Array Value) (w : World) : (callFunc 64 args).run Tryz.prog w = .ok (.enter 64 args) w := by kernel_rfl
theorem T.en65 (args : Array Value) (w : World) : (callFunc 65 args).run Tryz.prog w = .ok (.enter 65 args) w := by kernel_rfl
theorem T.en66 (args : Array Value) (w : World) : (callFunc 66 args).run Tryz.prog w = .ok (.enter 66 args) w := by kernel_rfl
theorem T.en68 (args : Array Value) (w : World) : (callFunc 68 args).run Tryz.prog w = .ok (.enter 68 args) w := by kernel_rfl
theorem T.en69 (args : Array Value) (w : World) : (callFunc 69 args).run Tryz.prog w = .ok (.enter 69 args) w := by kernel_rfl
theorem T.en75 (args : Array Value) (w : World) : (callFunc 75 args).run Tryz.prog w = .ok (.enter 75 args) w := by kernel_rfl
theorem T.en76 (args : Array Value) (w : World) : (callFunc 76 args).run Tryz.prog w = .ok (.enter 76 args) w := by kernel_rfl
theorem T.en77 (args : Array Value) (w : World) : (callFunc 77 args).run Tryz.prog w = .ok (.enter 77 args) w := by kernel_rfl
theorem T.en78 (args : Array Value) (w : World) : (callFunc 78 args).run Tryz.prog w = .ok (.enter 78 args) w := by kernel_rfl
theorem T.en79 (args : Array Value) (w : World) : (callFunc 79 args).run Tryz.prog w = .ok (.enter 79 args) w := by kernel_rfl
theorem T.en8 (args : Array Value) (w : World) : (callFunc 8 args).run Tryz.prog w = .ok (.enter 8 args) w := by kernel_rfl
theorem T.en80 (args : Array Value) (w : World) : (callFunc 80 args).run Tryz.prog w = .ok (.enter 80 args) w := by kernel_rfl
theorem T.en81 (args : Array Value) (w : World) : (callFunc 81 args).run Tryz.prog w = .ok (.enter 81 args) w := by kernel_rfl
theorem T.en82 (args : Array Value) (w : World) : (callFunc 82 args).run Tryz.prog w = .ok (.enter 82 args) w := by kernel_rfl
theorem T.en83 (args : Array Value) (w : World) : (callFunc 83 args).run Tryz.prog w = .ok (.enter 83 args) w := by kernel_rfl
theorem T.en84 (args : Array Value) (w : World) : (callFunc 84 args).run Tryz.prog w = .ok (.enter 84 args) w := by kernel_rfl
theorem T.en85 (args : Array Value) (w : World) : (callFunc 85 args).run Tryz.prog w = .ok (.enter 85 args) w := by kernel_rfl
theorem T.en86 (args : Array Value) (w : World) : (callFunc 86 args).run Tryz.prog w = .ok (.enter 86 args) w := by kernel_rfl
theorem T.en87 (args : Array Value) (w : World) : (callFunc 87 args).run Tryz.prog w = .ok (.enter 87 args) w := by kernel_rfl
theorem T.en88 (args : Array Value) (w : World) : (callFunc 88 args).run Tryz.prog w = .ok (.enter 88 args) w := by kernel_rfl
theorem T.en89 (args : Array Value) (w : World) : (callFunc 89 args).run Tryz.prog w = .ok (.enter 89 args) w := by kernel_rfl
theorem T.en90 (args : Array Value) (w : World) : (callFunc 90 args).run Tryz.prog w = .ok (.enter 90 args) w := by kernel_rfl
theorem T.en91 (args : Array Value) (w : World) : (callFunc 91 args).run Tryz.prog w = .ok (.enter 91 args) w := by kernel_rfl
theorem T.en92 (args : Array Value) (w : World) : (callFunc 92 args).run Tryz.prog w = .ok (.enter 92 args) w := by kernel_rfl
theorem T.en93 (args : Array Value) (w : World) : (callFunc 93 args).run Tryz.prog w = .ok (.enter 93 args) w := by kernel_rfl
theorem T.en94 (args : Array Value) (w : World) : (callFunc 94 args).run Tryz.prog w = .ok (.enter 94 args) w := by kernel_rfl
theorem T.en95 (args : Array Value) (w : World) : (callFunc 95 args).run Tryz.prog w = .ok (.enter 95 args) w := by kernel_rfl
theorem T.en96 (args : Array Value) (w : World) : (callFunc 96 args).run Tryz.prog w = .ok (.enter 96 args) w := by kernel_rfl
theorem T.en97 (args : Array Value) (w : World) : (callFunc 97 args).run Tryz.prog w = .ok (.enter 97 args) w := by kernel_rfl
theorem T.en98 (args : Array Value) (w : World) : (callFunc 98 args).run Tryz.prog w = .ok (.enter 98 args) w := by kernel_rfl
theorem T.en99 (args : Array Value) (w : World) : (callFunc 99 args).run Tryz.prog w = .ok (.enter 99 args) w := by kernel_rfl
theorem T.f102_0 : fldB Tryz.prog 102 0 0 = true := by kernel_rfl
theorem T.f104_0 : fldB Tryz.prog 104 0 0 = true := by kernel_rfl
theorem T.f104_1 : fldB Tryz.prog 104 1 4 = true := by kernel_rfl
theorem T.f104_2 : fldB Tryz.prog 104 2 5 = true := by kernel_rfl
theorem T.f104_3 : fldB Tryz.prog 104 3 6 = true := by kernel_rfl
theorem T.f104_4 : fldB Tryz.prog 104 4 7 = true := by kernel_rfl
theorem T.f104_5 : fldB Tryz.prog 104 5 8 = true := by kernel_rfl
theorem T.f106_0 : fldB Tryz.prog 106 0 0 = true := by kernel_rfl
theorem T.f106_1 : fldB Tryz.prog 106 1 1 = true := by kernel_rfl
theorem T.f106_2 : fldB Tryz.prog 106 2 2 = true := by kernel_rfl
theorem T.f106_3 : fldB Tryz.prog 106 3 3 = true := by kernel_rfl
theorem T.f106_4 : fldB Tryz.prog 106 4 4 = true := by kernel_rfl
theorem T.f106_5 : fldB Tryz.prog 106 5 5 = true := by kernel_rfl
theorem T.f111_0 : fldB Tryz.prog 111 0 0 = true := by kernel_rfl
theorem T.f111_1 : fldB Tryz.prog 111 1 1 = true := by kernel_rfl
theorem T.f111_2 : fldB Tryz.prog 111 2 2 = true := by kernel_rfl
theorem T.f111_3 : fldB Tryz.prog 111 3 3 = true := by kernel_rfl
theorem T.f118_0 : fldB Tryz.prog 118 0 0 = true := by kernel_rfl
theorem T.f118_1 : fldB Tryz.prog 118 1 1 = true := by kernel_rfl
theorem T.f118_2 : fldB Tryz.prog 118 2 2 = true := by kernel_rfl
theorem T.f120_0 : fldB Tryz.prog 120 0 0 = true := by kernel_rfl
theorem T.f120_1 : fldB Tryz.prog 120 1 1 = true := by kernel_rfl
theorem T.f120_2 : fldB Tryz.prog 120 2 2 = true := by kernel_rfl
theorem T.f120_3 : fldB Tryz.prog 120 3 5 = true := by kernel_rfl
theorem T.f123_0 : fldB Tryz.prog 123 0 0 = true := by kernel_rfl
theorem T.f123_1 : fldB Tryz.prog 123 1 1 = true := by kernel_rfl
theorem T.f123_2 : fldB Tryz.prog 123 2 2 = true := by kernel_rfl
theorem T.f125_0 : fldB Tryz.prog 125 0 0 = true := by kernel_rfl
theorem T.f125_1 : fldB Tryz.prog 125 1 1 = true := by kernel_rfl
theorem T.f125_2 : fldB Tryz.prog 125 2 2 = true := by kernel_rfl
theorem T.f125_3 : fldB Tryz.prog 125 3 3 = true := by kernel_rfl
theorem T.f130_0 : fldB Tryz.prog 130 0 0 = true := by kernel_rfl
theorem T.f130_1 : fldB Tryz.prog 130 1 1 = true := by kernel_rfl
theorem T.f130_2 : fldB Tryz.prog 130 2 2 = true := by kernel_rfl
theorem T.f130_3 : fldB Tryz.prog 130 3 3 = true := by kernel_rfl
theorem T.f133_0 : fldB Tryz.prog 133 0 0 = true := by kernel_rfl
theorem T.f135_0 : fldB Tryz.prog 135 0 0 = true := by kernel_rfl
theorem T.f135_1 : fldB Tryz.prog 135 1 4 = true := by kernel_rfl
theorem T.f135_2 : fldB Tryz.prog 135 2 5 = true := by kernel_rfl
theorem T.f135_3 : fldB Tryz.prog 135 3 6 = true := by kernel_rfl
theorem T.f135_4 : fldB Tryz.prog 135 4 7 = true := by kernel_rfl
theorem T.f135_5 : fldB Tryz.prog 135 5 8 = true := by kernel_rfl
theorem T.f143_0 : fldB Tryz.prog 143 0 0 = true := by kernel_rfl
theorem T.f143_1 : fldB Tryz.prog 143 1 1 = true := by kernel_rfl
theorem T.f143_2 : fldB Tryz.prog 143 2 2 = true := by kernel_rfl
theorem T.f145_0 : fldB Tryz.prog 145 0 0 = true := by kernel_rfl
theorem T.f145_1 : fldB Tryz.prog 145 1 1 = true := by kernel_rfl
theorem T.f145_2 : fldB Tryz.prog 145 2 2 = true := by kernel_rfl
theorem T.f145_3 : fldB Tryz.prog 145 3 5 = true := by kernel_rfl
theorem T.f147_0 : fldB Tryz.prog 147 0 0 = true := by kernel_rfl
theorem T.f147_1 : fldB Tryz.prog 147 1 1 = true := by kernel_rfl
theorem T.f149_0 : fldB Tryz.prog 149 0 0 = true := by kernel_rfl
theorem T.f149_1 : fldB Tryz.prog 149 1 2 = true := by kernel_rfl
theorem T.f149_2 : fldB Tryz.prog 149 2 3 = true := by kernel_rfl
theorem T.f149_3 : fldB Tryz.prog 149 3 4 = true := by kernel_rfl
theorem T.f152_0 : fldB Tryz.prog 152 0 0 = true := by kernel_rfl
theorem T.f152_1 : fldB Tryz.prog 152 1 5 = true := by kernel_rfl
theorem T.f152_2 : fldB Tryz.prog 152 2 6 = true := by kernel_rfl
theorem T.f184_0 : fldB Tryz.prog 184 0 0 = true := by kernel_rfl
theorem T.f184_1 : fldB Tryz.prog 184 1 1 = true := by kernel_rfl
theorem T.f184_2 : fldB Tryz.prog 184 2 2 = true := by kernel_rfl
theorem T.f184_3 : fldB Tryz.prog 184 3 3 = true := by kernel_rfl
theorem T.f192_0 : fldB Tryz.prog 192 0 0 = true := by kernel_rfl
theorem T.f192_1 : fldB Tryz.prog 192 1 1 = true := by kernel_rfl
theorem T.f192_2 : fldB Tryz.prog 192 2 2 = true := by kernel_rfl
theorem T.f192_3 : fldB Tryz.prog 192 3 3 = true := by kernel_rfl
theorem T.f192_4 : fldB Tryz.prog 192 4 4 = true := by kernel_rfl
theorem T.f192_5 : fldB Tryz.prog 192 5 5 = true := by kernel_rfl
theorem T.f194_0 : fldB Tryz.prog 194 0 0 = true := by kernel_rfl
theorem T.f194_1 : fldB Tryz.prog 194 1 1 = true := by kernel_rfl
theorem T.f194_2 : fldB Tryz.prog 194 2 2 = true := by kernel_rfl
theorem T.f194_3 : fldB Tryz.prog 194 3 3 = true := by kernel_rfl
theorem T.f202_0 : fldB Tryz.prog 202 0 0 = true := by kernel_rfl
theorem T.f202_1 : fldB Tryz.prog 202 1 1 = true := by kernel_rfl
theorem T.f202_2 : fldB Tryz.prog 202 2 2 = true := by kernel_rfl
theorem T.f202_3 : fldB Tryz.prog 202 3 3 = true := by kernel_rfl
theorem T.f204_0 : fldB Tryz.prog 204 0 0 = true := by kernel_rfl
theorem T.f204_1 : fldB Tryz.prog 204 1 1 = true := by kernel_rfl
theorem T.f204_2 : fldB Tryz.prog 204 2 2 = true := by kernel_rfl
theorem T.f204_3 : fldB Tryz.prog 204 3 3 = true := by kernel_rfl
theorem T.f220_0 : fldB Tryz.prog 220 0 0 = true := by kernel_rfl
theorem T.f220_1 : fldB Tryz.prog 220 1 1 = true := by kernel_rfl
theorem T.f220_2 : fldB Tryz.prog 220 2 2 = true := by kernel_rfl
theorem T.f220_3 : fldB Tryz.prog 220 3 3 = true := by kernel_rfl
theorem T.f225_0 : fldB Tryz.prog 225 0 0 = true := by kernel_rfl
theorem T.f225_1 : fldB Tryz.prog 225 1 1 = true := by kernel_rfl
theorem T.f225_2 : fldB Tryz.prog 225 2 2 = true := by kernel_rfl
theorem T.f225_3 : fldB Tryz.prog 225 3 3 = true := by kernel_rfl
theorem T.f230_0 : fldB Tryz.prog 230 0 0 = true := by kernel_rfl
theorem T.f230_1 : fldB Tryz.prog 230 1 1 = true := by kernel_rfl
theorem T.f230_2 : fldB Tryz.prog 230 2 2 = true := by kernel_rfl
theorem T.f248_0 : fldB Tryz.prog 248 0 0 = true := by kernel_rfl
theorem T.f248_1 : fldB Tryz.prog 248 1 1 = true := by kernel_rfl
theorem T.f248_2 : fldB Tryz.prog 248 2 2 = true := by kernel_rfl
theorem T.f248_3 : fldB Tryz.prog 248 3 3 = true := by kernel_rfl
theorem T.f251_0 : fldB Tryz.prog 251 0 0 = true := by kernel_rfl
theorem T.f251_1 : fldB Tryz.prog 251 1 1 = true := by kernel_rfl
theorem T.f251_2 : fldB Tryz.prog 251 2 2 = true := by kernel_rfl
theorem T.f253_0 : fldB Tryz.prog 253 0 0 = true := by kernel_rfl
theorem T.f253_1 : fldB Tryz.prog 253 1 1 = true := by kernel_rfl
theorem T.f253_2 : fldB Tryz.prog 253 2 2 = true := by kernel_rfl
theorem T.f258_0 : fldB Tryz.prog 258 0 0 = true := by kernel_rfl
theorem T.f258_1 : fldB Tryz.prog 258 1 1 = true := by kernel_rfl
theorem T.f258_2 : fldB Tryz.prog 258 2 2 = true := by kernel_rfl
theorem T.f258_3 : fldB Tryz.prog 258 3 3 = true := by kernel_rfl
theorem T.f27_0 : fldB Tryz.prog 27 0 0 = true := by kernel_rfl
theorem T.f27_1 : fldB Tryz.prog 27 1 1 = true := by kernel_rfl
theorem T.f30_0 : fldB Tryz.prog 30 0 0 = true := by kernel_rfl
theorem T.f30_1 : fldB Tryz.prog 30 1 1 = true := by kernel_rfl
theorem T.f30_2 : fldB Tryz.prog 30 2 3 = true := by kernel_rfl
theorem T.f33_0 : fldB Tryz.prog 33 0 0 = true := by kernel_rfl
theorem T.f33_1 : fldB Tryz.prog 33 1 1 = true := by kernel_rfl
theorem T.f33_2 : fldB Tryz.prog 33 2 2 = true := by kernel_rfl
theorem T.f33_3 : fldB Tryz.prog 33 3 3 = true := by kernel_rfl
theorem T.f37_0 : fldB Tryz.prog 37 0 0 = true := by kernel_rfl
theorem T.f39_0 : fldB Tryz.prog 39 0 0 = true := by kernel_rfl
theorem T.f39_1 : fldB Tryz.prog 39 1 1 = true := by kernel_rfl
theorem T.f39_2 : fldB Tryz.prog 39 2 2 = true := by kernel_rfl
theorem T.f39_3 : fldB Tryz.prog 39 3 3 = true := by kernel_rfl
theorem T.f39_4 : fldB Tryz.prog 39 4 4 = true := by kernel_rfl
theorem T.f39_5 : fldB Tryz.prog 39 5 8 = true := by kernel_rfl
theorem T.f39_6 : fldB Tryz.prog 39 6 9 = true := by kernel_rfl
theorem T.f39_7 : fldB Tryz.prog 39 7 13 = true := by kernel_rfl
theorem T.f39_8 : fldB Tryz.prog 39 8 14 = true := by kernel_rfl
theorem T.f39_9 : fldB Tryz.prog 39 9 15 = true := by kernel_rfl
theorem T.f46_0 : fldB Tryz.prog 46 0 0 = true := by kernel_rfl
theorem T.f46_1 : fldB Tryz.prog 46 1 1 = true := by kernel_rfl
theorem T.f49_0 : fldB Tryz.prog 49 0 0 = true := by kernel_rfl
theorem T.f49_1 : fldB Tryz.prog 49 1 1 = true := by kernel_rfl
theorem T.f49_2 : fldB Tryz.prog 49 2 3 = true := by kernel_rfl
theorem T.f51_0 : fldB Tryz.prog 51 0 0 = true := by kernel_rfl
theorem T.f51_1 : fldB Tryz.prog 51 1 1 = true := by kernel_rfl
theorem T.f51_2 : fldB Tryz.prog 51 2 2 = true := by kernel_rfl
theorem T.f51_3 : fldB Tryz.prog 51 3 3 = true := by kernel_rfl
theorem T.f55_0 : fldB Tryz.prog 55 0 0 = true := by kernel_rfl
theorem T.f57_0 : fldB Tryz.prog 57 0 0 = true := by kernel_rfl
theorem T.f57_1 : fldB Tryz.prog 57 1 1 = true := by kernel_rfl
theorem T.f57_2 : fldB Tryz.prog 57 2 2 = true := by kernel_rfl
theorem T.f57_3 : fldB Tryz.prog 57 3 3 = true := by kernel_rfl
theorem T.f57_4 : fldB Tryz.prog 57 4 4 = true := by kernel_rfl
theorem T.f57_5 : fldB Tryz.prog 57 5 8 = true := by kernel_rfl
theorem T.f57_6 : fldB Tryz.prog 57 6 9 = true := by kernel_rfl
theorem T.f57_7 : fldB Tryz.prog 57 7 13 = true := by kernel_rfl
theorem T.f57_8 : fldB Tryz.prog 57 8 14 = true := by kernel_rfl
theorem T.f57_9 : fldB Tryz.prog 57 9 15 = true := by kernel_rfl
theorem T.f73_0 : fldB Tryz.prog 73 0 0 = true := by kernel_rfl
theorem T.f73_1 : fldB Tryz.prog 73 1 1 = true := by kernel_rfl
theorem T.f75_0 : fldB Tryz.prog 75 0 0 = true := by kernel_rfl
theorem T.f75_1 : fldB Tryz.prog 75 1 2 = true := by kernel_rfl
theorem T.f75_2 : fldB Tryz.prog 75 2 3 = true := by kernel_rfl
theorem T.f75_3 : fldB Tryz.prog 75 3 4 = true := by kernel_rfl
theorem T.f78_0 : fldB Tryz.prog 78 0 0 = true := by kernel_rfl
theorem T.f78_1 : fldB Tryz.prog 78 1 5 = true := by kernel_rfl
theorem T.f78_2 : fldB Tryz.prog 78 2 6 = true := by kernel_rfl
theorem T.f99_0 : fldB Tryz.prog 99 0 0 = true := by kernel_rfl
theorem T.f99_1 : fldB Tryz.prog 99 1 1 = true := by kernel_rfl
theorem T.f99_2 : fldB Tryz.prog 99 2 2 = true := by kernel_rfl
theorem T.f99_3 : fldB Tryz.prog 99 3 3 = true := by kernel_rfl
theorem T.mix : Tryz.prog.follows .mixedOrders = true := by kernel_rfl
theorem T.o100 : oneB Tryz.prog 100 = true := by kernel_rfl
theorem T.o115 : oneB Tryz.prog 115 = true := by kernel_rfl
theorem T.o116 : oneB Tryz.prog 116 = true := by kernel_rfl
theorem T.o121 : oneB Tryz.prog 121 = true := by kernel_rfl
theorem T.o131 : oneB Tryz.prog 131 = true := by kernel_rfl
theorem T.o140 : oneB Tryz.prog 140 = true := by kernel_rfl
theorem T.o141 : oneB Tryz.prog 141 = true := by kernel_rfl
theorem T.o150 : oneB Tryz.prog 150 = true := by kernel_rfl
theorem T.o174 : oneB Tryz.prog 174 = true := by kernel_rfl
theorem T.o22 : oneB Tryz.prog 22 = true := by kernel_rfl
theorem T.o228 : oneB Tryz.prog 228 = true := by kernel_rfl
theorem T.o23 : oneB Tryz.prog 23 = true := by kernel_rfl
theorem T.o24 : oneB Tryz.prog 24 = true := by kernel_rfl
theorem T.o25 : oneB Tryz.prog 25 = true := by kernel_rfl
theorem T.o28 : oneB Tryz.prog 28 = true := by kernel_rfl
theorem T.o3 : oneB Tryz.prog 3 = true := by kernel_rfl
theorem T.o31 : oneB Tryz.prog 31 = true := by kernel_rfl
theorem T.o34 : oneB Tryz.prog 34 = true := by kernel_rfl
theorem T.o35 : oneB Tryz.prog 35 = true := by kernel_rfl
theorem T.o4 : oneB Tryz.prog 4 = true := by kernel_rfl
theorem T.o42 : oneB Tryz.prog 42 = true := by kernel_rfl
theorem T.o43 : oneB Tryz.prog 43 = true := by kernel_rfl
theorem T.o44 : oneB Tryz.prog 44 = true := by kernel_rfl
theorem T.o47 : oneB Tryz.prog 47 = true := by kernel_rfl
theorem T.o5 : oneB Tryz.prog 5 = true := by kernel_rfl
theorem T.o50 : oneB Tryz.prog 50 = true := by kernel_rfl
theorem T.o52 : oneB Tryz.prog 52 = true := by kernel_rfl
theorem T.o53 : oneB Tryz.prog 53 = true := by kernel_rfl
theorem T.o76 : oneB Tryz.prog 76 = true := by kernel_rfl
theorem T.o9 : oneB Tryz.prog 9 = true := by kernel_rfl
theorem T.o95 : oneB Tryz.prog 95 = true := by kernel_rfl
theorem T.s100 : slB Tryz.prog 100 111 4 32 = true := by kernel_rfl
theorem T.s115 : slB Tryz.prog 115 123 3 40 = true := by kernel_rfl
theorem T.s116 : slB Tryz.prog 116 251 3 24 = true := by kernel_rfl
theorem T.s121 : slB Tryz.prog 121 125 4 32 = true := by kernel_rfl
theorem T.s131 : slB Tryz.prog 131 248 4 32 = true := by kernel_rfl
theorem T.s140 : slB Tryz.prog 140 230 3 40 = true := by kernel_rfl
theorem T.s141 : slB Tryz.prog 141 253 3 24 = true := by kernel_rfl
theorem T.s150 : slB Tryz.prog 150 149 5 40 = true := by kernel_rfl
theorem T.s174 : slB Tryz.prog 174 5 1 1 = true := by kernel_rfl
theorem T.s216 : slB Tryz.prog 216 95 1 24 = true := by kernel_rfl
theorem T.s22 : slB Tryz.prog 22 135 9 104 = true := by kernel_rfl
theorem T.s228 : slB Tryz.prog 228 258 4 32 = true := by kernel_rfl
theorem T.s23 : slB Tryz.prog 23 4 1 1 = true := by kernel_rfl
theorem T.s24 : slB Tryz.prog 24 192 6 48 = true := by kernel_rfl
theorem T.s25 : slB Tryz.prog 25 225 4 48 = true := by kernel_rfl
theorem T.s28 : slB Tryz.prog 28 184 4 48 = true := by kernel_rfl
theorem T.s31 : slB Tryz.prog 31 145 6 104 = true := by kernel_rfl
theorem T.s34 : slB Tryz.prog 34 152 7 72 = true := by kernel_rfl
theorem T.s35 : slB Tryz.prog 35 204 4 32 = true := by kernel_rfl
theorem T.s42 : slB Tryz.prog 42 104 9 104 = true := by kernel_rfl
theorem T.s43 : slB Tryz.prog 43 106 6 48 = true := by kernel_rfl
theorem T.s44 : slB Tryz.prog 44 220 4 48 = true := by kernel_rfl
theorem T.s47 : slB Tryz.prog 47 194 4 48 = true := by kernel_rfl
theorem T.s50 : slB Tryz.prog 50 120 6 104 = true := by kernel_rfl
theorem T.s52 : slB Tryz.prog 52 78 7 72 = true := by kernel_rfl
theorem T.s53 : slB Tryz.prog 53 202 4 32 = true := by kernel_rfl
theorem T.s76 : slB Tryz.prog 76 75 5 40 = true := by kernel_rfl
theorem T.s95 : slB Tryz.prog 95 3 1 8 = true := by kernel_rfl
theorem T.z102 : zerosOf Tryz.prog 102 = some [.nil] := by kernel_rfl
theorem T.z104 : zerosOf Tryz.prog 104 = some [.int .i64 0, .int .i64 0, .int .i64 0, .int .i64 0, .nil, .int .i64 0, .int .i64 0, .int .i64 0, .nil] := by kernel_rfl
theorem T.z106 : zerosOf Tryz.prog 106 = some [.int .i64 0, .int .i64 0, .int .i64 0, .int .i64 0, .int .i64 0, .int .i64 0] := by kernel_rfl
theorem T.z111 : zerosOf Tryz.prog 111 = some [.int .i64 0, .int .i64 0, .int .i64 0, .bool false] := by kernel_rfl
theorem T.z118 : zerosOf Tryz.prog 118 = some [.int .i64 0, .int .i64 0, .nil] := by kernel_rfl
theorem T.z120 : zerosOf Tryz.prog 120 = some [.str ⟨#[]⟩, .nil, .int .i64 0, .int .i64 0, .nil, .nil] := by kernel_rfl
theorem T.z123 : zerosOf Tryz.prog 123 = some [.int .i64 0, .int .i64 0, .nil] := by kernel_rfl
theorem T.z125 : zerosOf Tryz.prog 125 = some [.int .i64 0, .int .i64 0, .int .i64 0, .bool false] := by kernel_rfl
theorem T.z194 : zerosOf Tryz.prog 194 = some [.int .i64 0, .int .i64 0, .nil, .int .i64 0] := by kernel_rfl
theorem T.z202 : zerosOf Tryz.prog 202 = some [.int .i64 0, .int .i64 0, .int .i64 0, .bool false] := by kernel_rfl
theorem T.z220 : zerosOf Tryz.prog 220 = some [.int .i64 0, .int .i64 0, .nil, .int .i64 0] := by kernel_rfl
theorem T.z251 : zerosOf Tryz.prog 251 = some [.int .i64 0, .int .i64 0, .int .i64 0] := by kernel_rfl
theorem T.z3 : zerosOf Tryz.prog 3 = some [.int .i64 0] := by kernel_rfl
theorem T.z4 : zerosOf Tryz.prog 4 = some [.bool false] := by kernel_rfl
theorem T.z46 : zerosOf Tryz.prog 46 = some [.int .i64 0, .nil] := by kernel_rfl
theorem T.z49 : zerosOf Tryz.prog 49 = some [.nil, .int .i64 0, .nil, .nil] := by kernel_rfl
theorem T.z5 : zerosOf Tryz.prog 5 = some [.int .u8 0] := by kernel_rfl
theorem T.z51 : zerosOf Tryz.prog 51 = some [.int .i64 0, .int .i64 0, .int .i64 0, .int .i64 0] := by kernel_rfl
theorem T.z55 : zerosOf Tryz.prog 55 = some [.nil] := by kernel_rfl
theorem T.z57 : zerosOf Tryz.prog 57 = some [.int .i64 0, .int .i64 0, .nil, .nil, .nil, .int .i64 0, .nil, .nil, .nil, .int .i64 0, .int .i64 0, .int .i64 0, .int .i64 0, .nil, .int .i64 0, .nil] := by kernel_rfl
theorem T.z73 : zerosOf Tryz.prog 73 = some [.int .i64 0, .int .i64 0] := by kernel_rfl
theorem T.z75 : zerosOf Tryz.prog 75 = some [.int .i64 0, .int .i64 0, .int .i64 0, .int .i64 0, .int .i64 0] := by kernel_rfl
theorem T.z78 : zerosOf Tryz.prog 78 = some [.int .i64 0, .int .i64 0, .int .i64 0, .int .i64 0, .int .i64 0, .nil, .int .i64 0] := by kernel_rfl
theorem T.z99 : zerosOf Tryz.prog 99 = some [.int .i64 0, .int .i64 0, .int .i64 0, .int .i64 0] := by kernel_rfl
theorem T.q111 (x y : D.Entry) (w : World) : (Op.equalIn 10000 111 (.agg ((D.Entry.V x).map V.val).toArray) (.agg ((D.Entry.V y).map V.val).toArray)).run Tryz.prog w = .ok (D.Entry.eqB x y) w := by
  rw [run_equalIn_struct w 9999 111 _ _ (by kernel_rfl) (by kernel_rfl)]
  simp only [Program.fieldsOf, Tryz.underlying111]
  exact (eqf_cons rfl T.o3 rfl rfl (run_equalIn_int w 9998 _ _ _ _ _ Tryz.underlying3) (eqf_cons rfl T.o3 rfl rfl (run_equalIn_int w 9998 _ _ _ _ _ Tryz.underlying3) (eqf_cons rfl T.o3 rfl rfl (run_equalIn_int w 9998 _ _ _ _ _ Tryz.underlying3) (eqf_cons rfl T.o4 rfl rfl (run_equalIn_bool' w 9998 _ _ _ Tryz.underlying4) eqf_nil))))
theorem sp_spec_l1In (x_ : Int) (least_ : Int) (most_ : Int) (r : Bool) (hm : m_spec_l1In x_ least_ most_ = some r) : Spec Tryz.prog G0 54 [.int .i64 x_, .int .i64 least_, .int .i64 most_] (fun v => v = .bool r) := by
  rw [m_spec_l1In] at hm
  refine enter (l := [.tmp 6]) Tryz.func54 rfl Tryz.ntmps54 rfl T.en54 fun E => ?_
  simp only [List.length_cons, List.length_nil, List.replicate_succ, List.replicate_zero, List.cons_append, List.nil_append, Nat.reduceAdd, Nat.reduceSub]
  refine sr <| m (as_ .b) u6 <| e ?_
  refine sr <| rjb hm (fun j0_6 : Bool => ⟨[.any, .any, .any, .any, .any, .any, .bool j0_6, .any, .any, .any, .any, .any, .any, .any, .any], []⟩) (fun _ hm hq1 => ?_) (fun j0_6 hm => ?_)
  ·
    refine m (mv (.t n0)) u7 <| m (mv (.t n1)) u8 <| m (geq (.t n7) (.t n8)) u9 <| m (mv (.t n9)) u10 <| sp n10 u10 u10 (fun h2 => ?_) (fun h2 => ?_)
    ·
      replace hm := ct h2 hm
      refine mg n3 rfl n10 (mv (.t n0)) u11 <| mg n3 rfl n10 (mv (.t n2)) u12 <| mg n3 rfl n10 (leq (.t n11) (.t n12)) u13 <| m (pkt (.t n10) (.t n13)) u14 <| m (as_ (.t n14)) u6 <| e ?_
      replace hm := sj hm
      subst hm
      have hm := hq1
      exact ⟨decide (x_ ≤ most_), hm, le [] (by decide) (.c .a (.c .a (.c .a (.c .a (.c .a (.c .a (.c (.e rfl rfl) (.c .a (.c .a (.c .a (.c .a (.c .a (.c .a (.c .a (.c .a .n))))))))))))))) .n⟩
    ·
      replace hm := cf h2 hm
      refine sk n3 rfl n10 rfl u11 <| sk n3 rfl n10 rfl u12 <| sk n3 rfl n10 rfl u13 <| m (pkf (.t n10) .b) u14 <| m (as_ (.t n14)) u6 <| e ?_
      replace hm := sj hm
      subst hm
      have hm := hq1
      exact ⟨false, hm, le [] (by decide) (.c .a (.c .a (.c .a (.c .a (.c .a (.c .a (.c (.e rfl rfl) (.c .a (.c .a (.c .a (.c .a (.c .a (.c .a (.c .a (.c .a .n))))))))))))))) .n⟩
  ·
    replace hm := sj hm
    subst hm
    exact rt (ret1 (.t n6 (.p rfl) .n) rfl)

theorem tot_spec_l1In (x_ : Int) (least_ : Int) (most_ : Int)  : Spec Tryz.prog G0 54 [.int .i64 x_, .int .i64 least_, .int .i64 most_] (fun v => v = .bool (inR x_ least_ most_)) := sp_spec_l1In x_ least_ most_ _ (t_spec_l1In x_ least_ most_)

theorem sp_spec_Mod (n_ : Int) (m_ : Int) (r : Int) (hm : m_spec_Mod n_ m_ = some r) : Spec Tryz.prog G0 171 [.int .i64 n_, .int .i64 m_] (fun v => v = .int .i64 r) := by
  rw [m_spec_Mod] at hm
  refine enter (l := [.tmp 4]) Tryz.func171 rfl Tryz.ntmps171 rfl T.en171 fun E => ?_
  simp only [List.length_cons, List.length_nil, List.replicate_succ, List.replicate_zero, List.cons_append, List.nil_append, Nat.reduceAdd, Nat.reduceSub]
  refine sr <| m (as_ (.i rfl)) u4 <| e ?_
  refine sq ?_
  refine sr <| m (mv (.t n1)) u5 <| c (call (tot_spec_l1In m_ (1 : Int) (1000000000000 : Int)) (.c (.t n5) rfl (.c (.i rfl) rfl (.c (.i rfl) rfl .n)))) u6 <| m (not_ (.t n6)) u7 <| e ?_
  refine cnd n7 (fun h1 => ?_) (fun h1 => ?_)
  ·
    replace hm := ct h1 hm
    refine sr <| m (as_ (.i rfl)) u4 <| e ?_
    replace hm := sj hm
    subst hm
    exact rt (ret1 (.t n4 (.p rfl) .n) rfl)
  ·
    replace hm := cf h1 hm
    refine skp ?_
    obtain ⟨c2, hm⟩ := gd_some hm
    obtain ⟨c3, hm⟩ := gd_some hm
    refine sr <| m (mv (.t n0)) u8 <| m (mv (.t n1)) u9 <| m (rem c2 (.t n8) (.t n9)) u10 <| m (mv (.t n1)) u11 <| m (add (.t n10) (.t n11)) u12 <| m (mv (.t n1)) u13 <| m (rem c3 (.t n12) (.t n13)) u14 <| m (as_ (.t n14)) u4 <| e ?_
    replace hm := sj hm
    subst hm
    exact rt (ret1 (.t n4 (.p rfl) .n) rfl)

theorem tot_spec_Mod (n_ : Int) (m_ : Int)  : Spec Tryz.prog G0 171 [.int .i64 n_, .int .i64 m_] (fun v => v = .int .i64 (modI n_ m_)) := sp_spec_Mod n_ m_ _ (t_spec_Mod n_ m_)

theorem sp_spec_Max (a_ : Int) (b_ : Int) (r : Int) (hm : m_spec_Max a_ b_ = some r) : Spec Tryz.prog G0 96 [.int .i64 a_, .int .i64 b_] (fun v => v = .int .i64 r) := by
  rw [m_spec_Max] at hm
  refine enter (l := [.tmp 4]) Tryz.func96 rfl Tryz.ntmps96 rfl T.en96 fun E => ?_
  simp only [List.length_cons, List.length_nil, List.replicate_succ, List.replicate_zero, List.cons_append, List.nil_append, Nat.reduceAdd, Nat.reduceSub]
  refine sr <| m (as_ (.i rfl)) u4 <| e ?_
  refine sq ?_
  refine sr <| m (mv (.t n1)) u5 <| m (mv (.t n0)) u6 <| m (gtr (.t n5) (.t n6)) u7 <| e ?_
  refine cnd n7 (fun h1 => ?_) (fun h1 => ?_)
  ·
    replace hm := ct h1 hm
    refine sr <| m (mv (.t n1)) u8 <| m (as_ (.t n8)) u4 <| e ?_
    replace hm := sj hm
    subst hm
    exact rt (ret1 (.t n4 (.p rfl) .n) rfl)
  ·
    replace hm := cf h1 hm
    refine skp ?_
    refine sr <| m (mv (.t n0)) u9 <| m (as_ (.t n9)) u4 <| e ?_
    replace hm := sj hm
    subst hm
    exact rt (ret1 (.t n4 (.p rfl) .n) rfl)

theorem tot_spec_Max (a_ : Int) (b_ : Int)  : Spec Tryz.prog G0 96 [.int .i64 a_, .int .i64 b_] (fun v => v = .int .i64 (maxF a_ b_)) := sp_spec_Max a_ b_ _ (t_spec_Max a_ b_)

theorem sp_impl_Mod (p_ : Int) (q_ : Int) (r : Int) (hm : m_impl_Mod p_ q_ = some r) : Spec Tryz.prog G0 172 [.int .i64 p_, .int .i64 q_] (fun v => v = .int .i64 r) := by
  rw [m_impl_Mod] at hm
  refine enter (l := [.tmp 4]) Tryz.func172 rfl Tryz.ntmps172 rfl T.en172 fun E => ?_
  simp only [List.length_cons, List.length_nil, List.replicate_succ, List.replicate_zero, List.cons_append, List.nil_append, Nat.reduceAdd, Nat.reduceSub]
  refine sr <| m (as_ (.i rfl)) u4 <| e ?_
  refine sq ?_
  refine sr <| rjb hm (fun j0_11 : Bool => ⟨[.int .i64 p_, .int .i64 q_, .any, .any, .any, .any, .any, .any, .any, .any, .any, .bool j0_11, .any, .any, .any, .any, .any, .any, .any, .any, .any], []⟩) (fun _ hm hq1 => ?_) (fun j0_11 hm => ?_)
  ·
    refine m (mv (.t n1)) u6 <| m (lss (.t n6) (.i rfl)) u7 <| m (mv (.t n7)) u8 <| sp n8 u8 u8 (fun h2 => ?_) (fun h2 => ?_)
    ·
      replace hm := ct h2 hm
      refine sk n2 rfl n8 rfl u9 <| sk n2 rfl n8 rfl u10 <| m (pkt (.t n8) .b) u11 <| e ?_
      replace hm := sj hm
      subst hm
      have hm := hq1
      exact ⟨true, hm, le [] (by decide) (.c (.e rfl rfl) (.c (.e rfl rfl) (.c .a (.c .a (.c .a (.c .a (.c .a (.c .a (.c .a (.c .a (.c .a (.c (.e rfl rfl) (.c .a (.c .a (.c .a (.c .a (.c .a (.c .a (.c .a (.c .a (.c .a .n))))))))))))))))))))) .n⟩
    ·
      replace hm := cf h2 hm
      refine mg n2 rfl n8 (mv (.t n1)) u9 <| mg n2 rfl n8 (gtr (.t n9) (.i rfl)) u10 <| m (pkf (.t n8) (.t n10)) u11 <| e ?_
      replace hm := sj hm
      subst hm
      have hm := hq1
      exact ⟨decide (q_ > (1000000000000 : Int)), hm, le [] (by decide) (.c (.e rfl rfl) (.c (.e rfl rfl) (.c .a (.c .a (.c .a (.c .a (.c .a (.c .a (.c .a (.c .a (.c .a (.c (.e rfl rfl) (.c .a (.c .a (.c .a (.c .a (.c .a (.c .a (.c .a (.c .a (.c .a .n))))))))))))))))))))) .n⟩
  ·
    refine cnd n11 (fun h3 => ?_) (fun h3 => ?_)
    ·
      replace hm := ct h3 hm
      refine sr <| m (as_ (.i rfl)) u4 <| e ?_
      replace hm := sj hm
      subst hm
      exact rt (ret1 (.t n4 (.p rfl) .n) rfl)
    ·
      replace hm := cf h3 hm
      refine skp ?_
      obtain ⟨c4, hm⟩ := gd_some hm
      refine sr <| m (mv (.t n0)) u12 <| m (mv (.t n1)) u13 <| m (rem c4 (.t n12) (.t n13)) u14 <| m (as_ (.t n14)) u5 <| e ?_
      refine sq ?_
      refine sr <| m (mv (.t n5)) u15 <| m (lss (.t n15) (.i rfl)) u16 <| e ?_
      refine jmb hm (fun j1_5 : Int => ⟨[.any, .any, .any, .any, .any, .int .i64 j1_5, .any, .any, .any, .any, .any, .any, .any, .any, .any, .any, .any, .any, .any, .any, .any], []⟩) (fun _ hm hq5 => ?_) (fun j1_5 hm => ?_)
      ·
        refine cnd n16 (fun h6 => ?_) (fun h6 => ?_)
        ·
          replace hm := ct h6 hm
          refine rg <| m (mv (.t n5)) u17 <| m (mv (.t n1)) u18 <| m (add (.t n17) (.t n18)) u19 <| m (as_ (.t n19)) u5 <| e ?_
          replace hm := sj hm
          subst hm
          have hm := hq5
          exact ⟨IntKind.i64.wrap (p_.tmod q_ + q_), hm, le [] (by decide) (.c .a (.c .a (.c .a (.c .a (.c .a (.c (.e rfl rfl) (.c .a (.c .a (.c .a (.c .a (.c .a (.c .a (.c .a (.c .a (.c .a (.c .a (.c .a (.c .a (.c .a (.c .a (.c .a .n))))))))))))))))))))) .n⟩
        ·
          replace hm := cf h6 hm
          refine skp ?_
          replace hm := sj hm
          subst hm
          have hm := hq5
          exact ⟨p_.tmod q_, hm, le [] (by decide) (.c .a (.c .a (.c .a (.c .a (.c .a (.c (.e rfl rfl) (.c .a (.c .a (.c .a (.c .a (.c .a (.c .a (.c .a (.c .a (.c .a (.c .a (.c .a (.c .a (.c .a (.c .a (.c .a .n))))))))))))))))))))) .n⟩
      ·
        refine sr <| m (mv (.t n5)) u20 <| m (as_ (.t n20)) u4 <| e ?_
        replace hm := sj hm
        subst hm
        exact rt (ret1 (.t n4 (.p rfl) .n) rfl)

theorem tot_impl_Mod (p_ : Int) (q_ : Int)  : Spec Tryz.prog G0 172 [.int .i64 p_, .int .i64 q_] (fun v => v = .int .i64 (modI p_ q_)) := sp_impl_Mod p_ q_ _ (t_impl_Mod p_ q_)

theorem sp_impl_InRange (n_ : Int) (low_ : Int) (high_ : Int) (r : Bool) (hm : m_impl_InRange n_ low_ high_ = some r) : Spec Tryz.prog G0 153 [.int .i64 n_, .int .i64 low_, .int .i64 high_] (fun v => v = .bool r) := by
  rw [m_impl_InRange] at hm
  refine enter (l := [.tmp 6]) Tryz.func153 rfl Tryz.ntmps153 rfl T.en153 fun E => ?_
  simp only [List.length_cons, List.length_nil, List.replicate_succ, List.replicate_zero, List.cons_append, List.nil_append, Nat.reduceAdd, Nat.reduceSub]
  refine sr <| m (as_ .b) u6 <| e ?_
  refine sr <| rjb hm (fun j0_6 : Bool => ⟨[.any, .any, .any, .any, .any, .any, .bool j0_6, .any, .any, .any, .any, .any, .any, .any, .any], []⟩) (fun _ hm hq1 => ?_) (fun j0_6 hm => ?_)
  ·
    refine m (mv (.t n1)) u7 <| m (mv (.t n0)) u8 <| m (leq (.t n7) (.t n8)) u9 <| m (mv (.t n9)) u10 <| sp n10 u10 u10 (fun h2 => ?_) (fun h2 => ?_)
    ·
      replace hm := ct h2 hm
      refine mg n3 rfl n10 (mv (.t n0)) u11 <| mg n3 rfl n10 (mv (.t n2)) u12 <| mg n3 rfl n10 (leq (.t n11) (.t n12)) u13 <| m (pkt (.t n10) (.t n13)) u14 <| m (as_ (.t n14)) u6 <| e ?_
      replace hm := sj hm
      subst hm
      have hm := hq1
      exact ⟨decide (n_ ≤ high_), hm, le [] (by decide) (.c .a (.c .a (.c .a (.c .a (.c .a (.c .a (.c (.e rfl rfl) (.c .a (.c .a (.c .a (.c .a (.c .a (.c .a (.c .a (.c .a .n))))))))))))))) .n⟩
    ·
      replace hm := cf h2 hm
      refine sk n3 rfl n10 rfl u11 <| sk n3 rfl n10 rfl u12 <| sk n3 rfl n10 rfl u13 <| m (pkf (.t n10) .b) u14 <| m (as_ (.t n14)) u6 <| e ?_
      replace hm := sj hm
      subst hm
      have hm := hq1
      exact ⟨false, hm, le [] (by decide) (.c .a (.c .a (.c .a (.c .a (.c .a (.c .a (.c (.e rfl rfl) (.c .a (.c .a (.c .a (.c .a (.c .a (.c .a (.c .a (.c .a .n))))))))))))))) .n⟩
  ·
    replace hm := sj hm
    subst hm
    exact rt (ret1 (.t n6 (.p rfl) .n) rfl)

theorem tot_impl_InRange (n_ : Int) (low_ : Int) (high_ : Int)  : Spec Tryz.prog G0 153 [.int .i64 n_, .int .i64 low_, .int .i64 high_] (fun v => v = .bool (inR n_ low_ high_)) := sp_impl_InRange n_ low_ high_ _ (t_impl_InRange n_ low_ high_)

theorem sp_spec_Hash (l_ : List Int) (r : Int) (hm : m_spec_Hash l_ = some r) : Spec Tryz.prog G0 145 [.slice 1 (l_.map iV)] (fun v => v = .int .i64 r) := by
  rw [m_spec_Hash] at hm
  refine enter (l := [.tmp 2]) Tryz.func145 rfl Tryz.ntmps145 rfl T.en145 fun E => ?_
  simp only [List.length_cons, List.length_nil, List.replicate_succ, List.replicate_zero, List.cons_append, List.nil_append, Nat.reduceAdd, Nat.reduceSub]
  refine sr <| m (as_ (.i rfl)) u2 <| e ?_
  refine sr <| m (as_ (.i rfl)) u3 <| e ?_
  refine sq ?_
  refine sr <| m (as_ (.i rfl)) u4 <| e ?_
  refine jmb hm (fun j0_3 : Int => ⟨[.any, .any, .any, .int .i64 j0_3, .any, .any, .any, .any, .any, .any, .any, .any, .any, .any, .any, .any, .any, .any, .any, .any, .any, .any], []⟩) (fun _ hm hq1 => ?_) (fun j0_3 hm => ?_)
  ·
    refine bk ?_
    refine lpf (m := m_spec_Hash_l0 l_) hm (fun yy2_ : Int × Nat => ⟨[.slice 1 (l_.map iV), .any, .any, .int .i64 yy2_.1, .int .i64 (yy2_.2 : Int), .any, .any, .any, .any, .any, .any, .any, .any, .any, .any, .any, .any, .any, .any, .any, .any, .any], []⟩) (fun _ => rfl) (le [] (by decide) (.c (.e rfl rfl) (.c .a (.c .a (.c (.e rfl rfl) (.c (.e rfl rfl) (.c .a (.c .a (.c .a (.c .a (.c .a (.c .a (.c .a (.c .a (.c .a (.c .a (.c .a (.c .a (.c .a (.c .a (.c .a (.c .a (.c .a .n)))))))))))))))))))))) .n) ?_
    rintro f ⟨v0_3, i0⟩ hm
    rw [m_spec_Hash_l0] at hm
    dsimp only at hm ⊢
    refine sq ?_
    refine sr <| m (mv (.t n4)) u5 <| m (mv (.t n0)) u6 <| m (lenm (l := l_) (f := iV) T.s95 (.t n6)) u7 <| m (lss (.t n5) (.t n7)) u8 <| e ?_
    refine rng n7 fun _ ra3 => ?_
    replace ra3 := (show (_ : Int) ≤ 9223372036854775807 from ra3)
    refine cnd n8 (fun h4 => ?_) (fun h4 => ?_)
    ·
      replace hm := ct h4 hm
      have h4d := of_decide_eq_true h4
      refine skp ?_
      refine sq ?_
      refine bk ?_
      obtain ⟨z5, e6, hm⟩ := bd_some hm
      refine rg <| m (mv (.t n3)) u11 <| m (mul (.t n11) (.i rfl)) u12 <| m (mv (.t n0)) u13 <| m (mv (.t n4)) u14 <| m (ixq (f := iV) e6 T.s95 (.t n13) (.t n14)) u15 <| m (lde T.o3 n0 (.t n15)) u16 <| c (call (tot_spec_Mod z5 (2147483647 : Int)) (.c (.t n16) rfl (.c (.i rfl) rfl .n))) u17 <| m (add (.t n12) (.t n17)) u18 <| m (add (.t n18) (.i rfl)) u19 <| m (rem (by decide) (.t n19) (.i rfl)) u20 <| m (as_ (.t n20)) u3 <| e ?_
      refine rg <| m (mv (.t n4)) u9 <| m (add (.t n9) (.i rfl)) u10 <| m (as_ (.t n10)) u4 <| e ?_
      exact ⟨((IntKind.i64.wrap (IntKind.i64.wrap (IntKind.i64.wrap (v0_3 * (1000003 : Int)) + (modI z5 (2147483647 : Int))) + (13 : Int))).tmod (2147483647 : Int), i0 + 1), hm, le [] (by decide) (.c (.e rfl rfl) (.c .a (.c .a (.c (.e rfl rfl) (.c (.e (wi (by omega)) rfl) (.c .a (.c .a (.c .a (.c .a (.c .a (.c .a (.c .a (.c .a (.c .a (.c .a (.c .a (.c .a (.c .a (.c .a (.c .a (.c .a (.c .a .n)))))))))))))))))))))) .n⟩
    ·
      replace hm := cf h4 hm
      have h4d := of_decide_eq_false h4
      refine ex (x1 ?_)
      replace hm := sj hm
      subst hm
      have hm := hq1
      exact ⟨v0_3, hm, le [] (by decide) (.c .a (.c .a (.c .a (.c (.e rfl rfl) (.c .a (.c .a (.c .a (.c .a (.c .a (.c .a (.c .a (.c .a (.c .a (.c .a (.c .a (.c .a (.c .a (.c .a (.c .a (.c .a (.c .a (.c .a .n)))))))))))))))))))))) .n⟩
  ·
    refine sr <| m (mv (.t n3)) u21 <| m (as_ (.t n21)) u2 <| e ?_
    replace hm := sj hm
    subst hm
    exact rt (ret1 (.t n2 (.p rfl) .n) rfl)

theorem tot_spec_Hash (l_ : List Int)  : Spec Tryz.prog G0 145 [.slice 1 (l_.map iV)] (fun v => v = .int .i64 (hashI l_)) := sp_spec_Hash l_ _ (t_spec_Hash l_)

theorem sp_spec_KeyedHash (secret_ : Int) (l_ : List Int) (r : Int) (hm : m_spec_KeyedHash secret_ l_ = some r) : Spec Tryz.prog G0 97 [.int .i64 secret_, .slice 1 (l_.map iV)] (fun v => v = .int .i64 r) := by
  rw [m_spec_KeyedHash] at hm
  refine enter (l := [.tmp 4]) Tryz.func97 rfl Tryz.ntmps97 rfl T.en97 fun E => ?_
  simp only [List.length_cons, List.length_nil, List.replicate_succ, List.replicate_zero, List.cons_append, List.nil_append, Nat.reduceAdd, Nat.reduceSub]
  refine sr <| m (as_ (.i rfl)) u4 <| e ?_
  obtain ⟨c1, hm⟩ := gd_some hm
  obtain ⟨c2, hm⟩ := gd_some hm
  refine sr <| m (mv (.t n0)) u5 <| k (bom ([secret_] : List Int) iV T.s95 rfl rfl (.c (.t n5) rfl rfl rfl .n) rfl s0 u6) <| m (mv (.t n1)) u7 <| k (apm (l := ([secret_] : List Int)) (l2 := l_) (f := iV) 6 c1 rfl (fun _ => rfl) T.s95 rfl n6 u6 n0 (.t n7) q0 rfl u8) <| m (mv (.t n0)) u9 <| k (bsm ([secret_] : List Int) iV T.s95 rfl rfl (.c (.t n9) rfl rfl rfl .n) rfl u10) <| k (apm (l := (([secret_] : List Int) ++ l_)) (l2 := ([secret_] : List Int)) (f := iV) 8 c2 rfl (fun _ => rfl) T.s95 rfl n8 u8 n0 (.t n10) q0 rfl u11) <| c (callm (tot_spec_Hash ((([secret_] : List Int) ++ l_) ++ ([secret_] : List Int))) rfl (.c (.t n11) (.o n0) .n)) u12 <| m (as_ (.t n12)) u4 <| e ?_
  replace hm := sj hm
  subst hm
  exact rt (ret1 (.t n4 (.p rfl) .n) rfl)

theorem tot_spec_KeyedHash (secret_ : Int) (l_ : List Int) (hp0 : l_.length ≤ 34359738368) : Spec Tryz.prog G0 97 [.int .i64 secret_, .slice 1 (l_.map iV)] (fun v => v = .int .i64 (keyedI secret_ l_)) := sp_spec_KeyedHash secret_ l_ _ (t_spec_KeyedHash secret_ l_ hp0)

theorem sp_spec_IsValidKey (secret_ : Int) (r : Bool) (hm : m_spec_IsValidKey secret_ = some r) : Spec Tryz.prog G0 112 [.int .i64 secret_] (fun v => v = .bool r) := by
  rw [m_spec_IsValidKey] at hm
  refine enter (l := [.tmp 2]) Tryz.func112 rfl Tryz.ntmps112 rfl T.en112 fun E => ?_
  simp only [List.length_cons, List.length_nil, List.replicate_succ, List.replicate_zero, List.cons_append, List.nil_append, Nat.reduceAdd, Nat.reduceSub]
  refine sr <| m (as_ .b) u2 <| e ?_
  refine sr <| m (mv (.t n0)) u3 <| c (call (tot_spec_l1In secret_ (1 : Int) (2147483646 : Int)) (.c (.t n3) rfl (.c (.i rfl) rfl (.c (.i rfl) rfl .n)))) u4 <| m (as_ (.t n4)) u2 <| e ?_
  replace hm := sj hm
  subst hm
  exact rt (ret1 (.t n2 (.p rfl) .n) rfl)

theorem tot_spec_IsValidKey (secret_ : Int)  : Spec Tryz.prog G0 112 [.int .i64 secret_] (fun v => v = .bool (keyF secret_)) := sp_spec_IsValidKey secret_ _ (t_spec_IsValidKey secret_)

theorem sp_impl_joined (first_ : List Int) (rest_ : List (List Int)) (r : (List Int)) (hm : m_impl_joined first_ rest_ = some r) : Spec Tryz.prog G0 100 [.slice 1 (first_.map iV), .slice 1 (rest_.map (fun l => [V.slice 1 (l.map iV)]))] (fun v => v = .slice 1 (r.map iV)) := by
  rw [m_impl_joined] at hm
  refine enter (l := [.tmp 4]) Tryz.func100 rfl Tryz.ntmps100 rfl T.en100 fun E => ?_
  simp only [List.length_cons, List.length_nil, List.replicate_succ, List.replicate_zero, List.cons_append, List.nil_append, Nat.reduceAdd, Nat.reduceSub]
  refine sr <| m (as_ .n) u4 <| e ?_
  obtain ⟨c1, hm⟩ := gd_some hm
  refine sr <| k (bom ([] : List Int) iV T.s95 rfl rfl .n rfl s0 u8) <| m (mv (.t n0)) u9 <| k (apm (l := ([] : List Int)) (l2 := first_) (f := iV) 8 c1 rfl (fun _ => rfl) T.s95 rfl n8 u8 n0 (.t n9) q0 rfl u10) <| m (as_ (.t n10)) u5 <| e ?_
  refine sq ?_
  refine sr <| m (mv (.t n1)) u11 <| m (lenm (l := rest_) (f := (fun l => [V.slice 1 (l.map iV)])) T.s216 (.t n11)) u12 <| m (mv (.i rfl)) u13 <| e ?_
  refine jmb hm (fun j0r1 : List Int => ⟨[.any, .any, .any, .any, .any, .own 0, .any, .any, .any, .any, .any, .any, .any, .any, .any, .any, .any, .any, .any, .any, .any, .any], [.row 3 1 (j0r1.map iV)]⟩) (fun _ hm hq2 => ?_) (fun j0r1 hm => ?_)
  ·
    refine bk ?_
    refine lpf (m := m_impl_joined_l0 rest_) hm (fun yy3_ : Nat × (List Int) => ⟨[.any, .any, .any, .any, .any, .own 0, .any, .any, .any, .any, .any, .slice 1 (rest_.map (fun l => [V.slice 1 (l.map iV)])), .int .i64 (rest_.length : Int), .int .i64 (yy3_.1 : Int), .any, .any, .any, .any, .any, .any, .any, .any], [.row 3 1 (yy3_.2.map iV)]⟩) (fun _ => rfl) (le [0] (by decide) (.c .a (.c .a (.c .a (.c .a (.c .a (.c (.w n0) (.c .a (.c .a (.c .a (.c .a (.c .a (.c (.e rfl rfl) (.c (.e rfl rfl) (.c (.e rfl rfl) (.c .a (.c .a (.c .a (.c .a (.c .a (.c .a (.c .a (.c .a .n)))))))))))))))))))))) (.r n0 rfl .n)) ?_
    rintro f ⟨i0, v0r1⟩ hm
    rw [m_impl_joined_l0] at hm
    dsimp only at hm ⊢
    refine sr <| m (lss (.t n13) (.t n12)) u14 <| e ?_
    refine rng n12 fun _ ra4 => ?_
    replace ra4 := (show (_ : Int) ≤ 9223372036854775807 from ra4)
    refine sq ?_
    refine cnd n14 (fun h5 => ?_) (fun h5 => ?_)
    ·
      replace hm := ct h5 hm
      have h5d := of_decide_eq_true h5
      refine skp ?_
      refine sq ?_
      refine bk ?_
      obtain ⟨z6, e7, hm⟩ := bd_some hm
      refine sr <| m (ixq (f := (fun l => [V.slice 1 (l.map iV)])) e7 T.s216 (.t n11) (.t n13)) u15 <| m (lde T.o95 n0 (.t n15)) u16 <| m (as_ (.t n16)) u7 <| e ?_
      obtain ⟨c8, hm⟩ := gd_some hm
      refine rg <| m (mv (.t n5)) u17 <| m (mv (.t n7)) u18 <| dr u5 <| k (apm (l := v0r1) (l2 := z6) (f := iV) 17 c8 rfl (fun _ => rfl) T.s95 rfl n17 u17 n0 (.t n18) q0 rfl u19) <| m (as_ (.t n19)) u5 <| e ?_
      refine rg <| m (add (.t n13) (.i rfl)) u20 <| m (mv (.t n20)) u13 <| e ?_
      exact ⟨(i0 + 1, (v0r1 ++ z6)), hm, le [0] (by decide) (.c .a (.c .a (.c .a (.c .a (.c .a (.c (.w n0) (.c .a (.c .a (.c .a (.c .a (.c .a (.c (.e rfl rfl) (.c (.e rfl rfl) (.c (.e (wi (by omega)) rfl) (.c .a (.c .a (.c .a (.c .a (.c .a (.c .a (.c .a (.c .a .n)))))))))))))))))))))) (.r n0 rfl .n)⟩
    ·
      replace hm := cf h5 hm
      have h5d := of_decide_eq_false h5
      refine ex (x1 ?_)
      replace hm := sj hm
      subst hm
      have hm := hq2
      exact ⟨v0r1, hm, le [0] (by decide) (.c .a (.c .a (.c .a (.c .a (.c .a (.c (.w n0) (.c .a (.c .a (.c .a (.c .a (.c .a (.c .a (.c .a (.c .a (.c .a (.c .a (.c .a (.c .a (.c .a (.c .a (.c .a (.c .a .n)))))))))))))))))))))) (.r n0 rfl .n)⟩
  ·
    refine sr <| m (mv (.t n5)) u21 <| m (as_ (.t n21)) u4 <| e ?_
    replace hm := sj hm
    subst hm
    exact rt (ret1 (.t n4 (.o n0) .n) rfl)

theorem tot_impl_joined (first_ : List Int) (rest_ : List (List Int)) (hp0 : first_.length + rest_.flatten.length ≤ 68719476736) : Spec Tryz.prog G0 100 [.slice 1 (first_.map iV), .slice 1 (rest_.map (fun l => [V.slice 1 (l.map iV)]))] (fun v => v = .slice 1 ((joinF first_ rest_).map iV)) := sp_impl_joined first_ rest_ _ (t_impl_joined first_ rest_ hp0)

theorem sp_impl_Hash (values_ : List Int) (r : Int) (hm : m_impl_Hash values_ = some r) : Spec Tryz.prog G0 146 [.slice 1 (values_.map iV)] (fun v => v = .int .i64 r) := by
  rw [m_impl_Hash] at hm
  refine enter (l := [.tmp 2]) Tryz.func146 rfl Tryz.ntmps146 rfl T.en146 fun E => ?_
  simp only [List.length_cons, List.length_nil, List.replicate_succ, List.replicate_zero, List.cons_append, List.nil_append, Nat.reduceAdd, Nat.reduceSub]
  refine sr <| m (as_ (.i rfl)) u2 <| e ?_
  refine sr <| m (as_ (.i rfl)) u3 <| e ?_
  refine sq ?_
  refine sr <| m (mv (.t n0)) u6 <| m (lenm (l := values_) (f := iV) T.s95 (.t n6)) u7 <| m (mv (.i rfl)) u8 <| e ?_
  refine jmb hm (fun j0_3 : Int => ⟨[.any, .any, .any, .int .i64 j0_3, .any, .any, .any, .any, .any, .any, .any, .any, .any, .any, .any, .any, .any, .any, .any, .any, .any], []⟩) (fun _ hm hq1 => ?_) (fun j0_3 hm => ?_)
  ·
    refine bk ?_
    refine lpf (m := m_impl_Hash_l0 values_) hm (fun yy2_ : Int × Nat => ⟨[.any, .any, .any, .int .i64 yy2_.1, .any, .any, .slice 1 (values_.map iV), .int .i64 (values_.length : Int), .int .i64 (yy2_.2 : Int), .any, .any, .any, .any, .any, .any, .any, .any, .any, .any, .any, .any], []⟩) (fun _ => rfl) (le [] (by decide) (.c .a (.c .a (.c .a (.c (.e rfl rfl) (.c .a (.c .a (.c (.e rfl rfl) (.c (.e rfl rfl) (.c (.e rfl rfl) (.c .a (.c .a (.c .a (.c .a (.c .a (.c .a (.c .a (.c .a (.c .a (.c .a (.c .a (.c .a .n))))))))))))))))))))) .n) ?_
    rintro f ⟨v0_3, i0⟩ hm
    rw [m_impl_Hash_l0] at hm
    dsimp only at hm ⊢
    refine sr <| m (lss (.t n8) (.t n7)) u9 <| e ?_
    refine rng n7 fun _ ra3 => ?_
    replace ra3 := (show (_ : Int) ≤ 9223372036854775807 from ra3)
    refine sq ?_
    refine cnd n9 (fun h4 => ?_) (fun h4 => ?_)
    ·
      replace hm := ct h4 hm
      have h4d := of_decide_eq_true h4
      refine skp ?_
      refine sq ?_
      refine bk ?_
      obtain ⟨z5, e6, hm⟩ := bd_some hm
      refine sr <| m (ixq (f := iV) e6 T.s95 (.t n6) (.t n8)) u10 <| m (lde T.o3 n0 (.t n10)) u11 <| m (as_ (.t n11)) u5 <| e ?_
      refine rg <| m (mv (.t n3)) u12 <| m (mul (.t n12) (.i rfl)) u13 <| m (mv (.t n5)) u14 <| c (call (tot_impl_Mod z5 (2147483647 : Int)) (.c (.t n14) rfl (.c (.i rfl) rfl .n))) u15 <| m (add (.t n13) (.t n15)) u16 <| m (add (.t n16) (.i rfl)) u17 <| m (rem (by decide) (.t n17) (.i rfl)) u18 <| m (as_ (.t n18)) u3 <| e ?_
      refine rg <| m (add (.t n8) (.i rfl)) u19 <| m (mv (.t n19)) u8 <| e ?_
      exact ⟨((IntKind.i64.wrap (IntKind.i64.wrap (IntKind.i64.wrap (v0_3 * (1000003 : Int)) + (modI z5 (2147483647 : Int))) + (13 : Int))).tmod (2147483647 : Int), i0 + 1), hm, le [] (by decide) (.c .a (.c .a (.c .a (.c (.e rfl rfl) (.c .a (.c .a (.c (.e rfl rfl) (.c (.e rfl rfl) (.c (.e (wi (by omega)) rfl) (.c .a (.c .a (.c .a (.c .a (.c .a (.c .a (.c .a (.c .a (.c .a (.c .a (.c .a (.c .a .n))))))))))))))))))))) .n⟩
    ·
      replace hm := cf h4 hm
      have h4d := of_decide_eq_false h4
      refine ex (x1 ?_)
      replace hm := sj hm
      subst hm
      have hm := hq1
      exact ⟨v0_3, hm, le [] (by decide) (.c .a (.c .a (.c .a (.c (.e rfl rfl) (.c .a (.c .a (.c .a (.c .a (.c .a (.c .a (.c .a (.c .a (.c .a (.c .a (.c .a (.c .a (.c .a (.c .a (.c .a (.c .a (.c .a .n))))))))))))))))))))) .n⟩
  ·
    refine sr <| m (mv (.t n3)) u20 <| m (as_ (.t n20)) u2 <| e ?_
    replace hm := sj hm
    subst hm
    exact rt (ret1 (.t n2 (.p rfl) .n) rfl)

theorem tot_impl_Hash (values_ : List Int)  : Spec Tryz.prog G0 146 [.slice 1 (values_.map iV)] (fun v => v = .int .i64 (hashI values_)) := sp_impl_Hash values_ _ (t_impl_Hash values_)

theorem sp_impl_KeyedHash (key_ : Int) (values_ : List Int) (r : Int) (hm : m_impl_KeyedHash key_ values_ = some r) : Spec Tryz.prog G0 99 [.int .i64 key_, .slice 1 (values_.map iV)] (fun v => v = .int .i64 r) := by
  rw [m_impl_KeyedHash] at hm
  refine enter (l := [.tmp 4]) Tryz.func99 rfl Tryz.ntmps99 rfl T.en99 fun E => ?_
  simp only [List.length_cons, List.length_nil, List.replicate_succ, List.replicate_zero, List.cons_append, List.nil_append, Nat.reduceAdd, Nat.reduceSub]
  refine sr <| m (as_ (.i rfl)) u4 <| e ?_
  obtain ⟨c1, hm⟩ := gd_some hm
  refine sr <| m (mv (.t n0)) u5 <| k (bsm ([key_] : List Int) iV T.s95 rfl rfl (.c (.t n5) rfl rfl rfl .n) rfl u6) <| m (mv (.t n1)) u7 <| m (mv (.t n0)) u8 <| k (bsm ([key_] : List Int) iV T.s95 rfl rfl (.c (.t n8) rfl rfl rfl .n) rfl u9) <| k (bsm ([values_, ([key_] : List Int)] : List (List Int)) (fun l => [V.slice 1 (l.map iV)]) T.s216 rfl rfl (.c (.t n7) rfl rfl rfl (.c (.t n9) rfl rfl rfl .n)) rfl u10) <| c (call (tot_impl_joined ([key_] : List Int) ([values_, ([key_] : List Int)] : List (List Int)) c1) (.c (.t n6) rfl (.c (.t n10) rfl .n))) u11 <| c (call (tot_impl_Hash (joinF ([key_] : List Int) ([values_, ([key_] : List Int)] : List (List Int)))) (.c (.t n11) rfl .n)) u12 <| m (as_ (.t n12)) u4 <| e ?_
  replace hm := sj hm
  subst hm
  exact rt (ret1 (.t n4 (.p rfl) .n) rfl)

theorem tot_impl_KeyedHash (key_ : Int) (values_ : List Int) (hp0 : values_.length ≤ 34359738368) : Spec Tryz.prog G0 99 [.int .i64 key_, .slice 1 (values_.map iV)] (fun v => v = .int .i64 (keyedI key_ values_)) := sp_impl_KeyedHash key_ values_ _ (t_impl_KeyedHash key_ values_ hp0)

theorem sp_impl_orOne (n_ : Int) (r : Int) (hm : m_impl_orOne n_ = some r) : Spec Tryz.prog G0 98 [.int .i64 n_] (fun v => v = .int .i64 r) := by
  rw [m_impl_orOne] at hm
  refine enter (l := [.tmp 2]) Tryz.func98 rfl Tryz.ntmps98 rfl T.en98 fun E => ?_
  simp only [List.length_cons, List.length_nil, List.replicate_succ, List.replicate_zero, List.cons_append, List.nil_append, Nat.reduceAdd, Nat.reduceSub]
  refine sr <| m (as_ (.i rfl)) u2 <| e ?_
  refine sq ?_
  refine sr <| m (mv (.t n0)) u3 <| m (eql (.t n3) (.i rfl)) u4 <| e ?_
  refine cnd n4 (fun h1 => ?_) (fun h1 => ?_)
  ·
    replace hm := ct h1 hm
    refine sr <| m (as_ (.i rfl)) u2 <| e ?_
    replace hm := sj hm
    subst hm
    exact rt (ret1 (.t n2 (.p rfl) .n) rfl)
  ·
    replace hm := cf h1 hm
    refine skp ?_
    refine sr <| m (mv (.t n0)) u5 <| m (as_ (.t n5)) u2 <| e ?_
    replace hm := sj hm
    subst hm
    exact rt (ret1 (.t n2 (.p rfl) .n) rfl)

theorem tot_impl_orOne (n_ : Int)  : Spec Tryz.prog G0 98 [.int .i64 n_] (fun v => v = .int .i64 (orOneF n_)) := sp_impl_orOne n_ _ (t_impl_orOne n_)

theorem sp_impl_IsValidKey (key_ : Int) (r : Bool) (hm : m_impl_IsValidKey key_ = some r) : Spec Tryz.prog G0 115 [.int .i64 key_] (fun v => v = .bool r) := by
  rw [m_impl_IsValidKey] at hm
  refine enter (l := [.tmp 2]) Tryz.func115 rfl Tryz.ntmps115 rfl T.en115 fun E => ?_
  simp only [List.length_cons, List.length_nil, List.replicate_succ, List.replicate_zero, List.cons_append, List.nil_append, Nat.reduceAdd, Nat.reduceSub]
  refine sr <| m (as_ .b) u2 <| e ?_
  refine sr <| m (mv (.t n0)) u3 <| c (call (tot_impl_InRange key_ (1 : Int) (2147483646 : Int)) (.c (.t n3) rfl (.c (.i rfl) rfl (.c (.i rfl) rfl .n)))) u4 <| m (as_ (.t n4)) u2 <| e ?_
  replace hm := sj hm
  subst hm
  exact rt (ret1 (.t n2 (.p rfl) .n) rfl)

theorem tot_impl_IsValidKey (key_ : Int)  : Spec Tryz.prog G0 115 [.int .i64 key_] (fun v => v = .bool (keyF key_)) := sp_impl_IsValidKey key_ _ (t_impl_IsValidKey key_)

theorem sp_spec_DeriveKey (seed_ : Int) (labels_ : List Int) (r : Int) (hm : m_spec_DeriveKey seed_ labels_ = some r) : Spec Tryz.prog G0 52 [.int .i64 seed_, .slice 1 (labels_.map iV)] (fun v => v = .int .i64 r) := by
  rw [m_spec_DeriveKey] at hm
  refine enter (l := [.tmp 4]) Tryz.func52 rfl Tryz.ntmps52 rfl T.en52 fun E => ?_
  simp only [List.length_cons, List.length_nil, List.replicate_succ, List.replicate_zero, List.cons_append, List.nil_append, Nat.reduceAdd, Nat.reduceSub]
  refine sr <| m (as_ (.i rfl)) u4 <| e ?_
  obtain ⟨c1, hm⟩ := gd_some hm
  obtain ⟨c2, hm⟩ := gd_some hm
  refine sr <| m (mv (.t n0)) u5 <| k (bom ([(151 : Int)] : List Int) iV T.s95 rfl rfl (.c (.i rfl) rfl rfl rfl .n) rfl s0 u6) <| m (mv (.t n1)) u7 <| k (apm (l := ([(151 : Int)] : List Int)) (l2 := labels_) (f := iV) 6 c1 rfl (fun _ => rfl) T.s95 rfl n6 u6 n0 (.t n7) q0 rfl u8) <| c (callm (tot_spec_KeyedHash seed_ (([(151 : Int)] : List Int) ++ labels_) c2) rfl (.c (.t n5) (.p rfl) (.c (.t n8) (.o n0) .n))) u9 <| c (call (tot_spec_Max (1 : Int) (keyedI seed_ (([(151 : Int)] : List Int) ++ labels_))) (.c (.i rfl) rfl (.c (.t n9) rfl .n))) u10 <| m (as_ (.t n10)) u4 <| e ?_
  replace hm := sj hm
  subst hm
  exact rt (ret1 (.t n4 (.p rfl) .n) rfl)

theorem tot_spec_DeriveKey (seed_ : Int) (labels_ : List Int) (hp0 : labels_.length ≤ 34359738300) : Spec Tryz.prog G0 52 [.int .i64 seed_, .slice 1 (labels_.map iV)] (fun v => v = .int .i64 (deriveF seed_ labels_)) := sp_spec_DeriveKey seed_ labels_ _ (t_spec_DeriveKey seed_ labels_ hp0)

theorem sp_spec_PublicKey (private_ : Int) (r : Int) (hm : m_spec_PublicKey private_ = some r) : Spec Tryz.prog G0 101 [.int .i64 private_] (fun v => v = .int .i64 r) := by
  rw [m_spec_PublicKey] at hm
  refine enter (l := [.tmp 2]) Tryz.func101 rfl Tryz.ntmps101 rfl T.en101 fun E => ?_
  simp only [List.length_cons, List.length_nil, List.replicate_succ, List.replicate_zero, List.cons_append, List.nil_append, Nat.reduceAdd, Nat.reduceSub]
  refine sr <| m (as_ (.i rfl)) u2 <| e ?_
  refine sq ?_
  refine sr <| m (mv (.t n0)) u3 <| c (call (tot_spec_IsValidKey private_) (.c (.t n3) rfl .n)) u4 <| m (not_ (.t n4)) u5 <| e ?_
  refine cnd n5 (fun h1 => ?_) (fun h1 => ?_)
  ·
    replace hm := ct h1 hm
    refine sr <| m (as_ (.i rfl)) u2 <| e ?_
    replace hm := sj hm
    subst hm
    exact rt (ret1 (.t n2 (.p rfl) .n) rfl)
  ·
    replace hm := cf h1 hm
    refine skp ?_
    refine sr <| m (mv (.t n0)) u6 <| m (mul (.t n6) (.i rfl)) u7 <| m (rem (by decide) (.t n7) (.i rfl)) u8 <| m (as_ (.t n8)) u2 <| e ?_
    replace hm := sj hm
    subst hm
    exact rt (ret1 (.t n2 (.p rfl) .n) rfl)

theorem tot_spec_PublicKey (private_ : Int)  : Spec Tryz.prog G0 101 [.int .i64 private_] (fun v => v = .int .i64 (publicF private_)) := sp_spec_PublicKey private_ _ (t_spec_PublicKey private_)

theorem sp_impl_DeriveKey (seed_ : Int) (labels_ : List Int) (r : Int) (hm : m_impl_DeriveKey seed_ labels_ = some r) : Spec Tryz.prog G0 53 [.int .i64 seed_, .slice 1 (labels_.map iV)] (fun v => v = .int .i64 r) := by
  rw [m_impl_DeriveKey] at hm
  refine enter (l := [.tmp 4]) Tryz.func53 rfl Tryz.ntmps53 rfl T.en53 fun E => ?_
  simp only [List.length_cons, List.length_nil, List.replicate_succ, List.replicate_zero, List.cons_append, List.nil_append, Nat.reduceAdd, Nat.reduceSub]
  refine sr <| m (as_ (.i rfl)) u4 <| e ?_
  obtain ⟨c1, hm⟩ := gd_some hm
  obtain ⟨c2, hm⟩ := gd_some hm
  refine sr <| m (mv (.t n0)) u5 <| k (bsm ([(151 : Int)] : List Int) iV T.s95 rfl rfl (.c (.i rfl) rfl rfl rfl .n) rfl u6) <| m (mv (.t n1)) u7 <| k (bsm ([labels_] : List (List Int)) (fun l => [V.slice 1 (l.map iV)]) T.s216 rfl rfl (.c (.t n7) rfl rfl rfl .n) rfl u8) <| c (call (tot_impl_joined ([(151 : Int)] : List Int) ([labels_] : List (List Int)) c1) (.c (.t n6) rfl (.c (.t n8) rfl .n))) u9 <| c (call (tot_impl_KeyedHash seed_ (joinF ([(151 : Int)] : List Int) ([labels_] : List (List Int))) c2) (.c (.t n5) rfl (.c (.t n9) rfl .n))) u10 <| c (call (tot_impl_orOne (keyedI seed_ (joinF ([(151 : Int)] : List Int) ([labels_] : List (List Int))))) (.c (.t n10) rfl .n)) u11 <| m (as_ (.t n11)) u4 <| e ?_
  replace hm := sj hm
  subst hm
  exact rt (ret1 (.t n4 (.p rfl) .n) rfl)

theorem tot_impl_DeriveKey (seed_ : Int) (labels_ : List Int) (hp0 : labels_.length ≤ 34359738300) : Spec Tryz.prog G0 53 [.int .i64 seed_, .slice 1 (labels_.map iV)] (fun v => v = .int .i64 (deriveF seed_ labels_)) := sp_impl_DeriveKey seed_ labels_ _ (t_impl_DeriveKey seed_ labels_ hp0)

theorem sp_impl_PublicKey (private_ : Int) (r : Int) (hm : m_impl_PublicKey private_ = some r) : Spec Tryz.prog G0 103 [.int .i64 private_] (fun v => v = .int .i64 r) := by
  rw [m_impl_PublicKey] at hm
  refine enter (l := [.tmp 2]) Tryz.func103 rfl Tryz.ntmps103 rfl T.en103 fun E => ?_
  simp only [List.length_cons, List.length_nil, List.replicate_succ, List.replicate_zero, List.cons_append, List.nil_append, Nat.reduceAdd, Nat.reduceSub]
  refine sr <| m (as_ (.i rfl)) u2 <| e ?_
  refine sq ?_
  refine sr <| m (mv (.t n0)) u3 <| c (call (tot_impl_IsValidKey private_) (.c (.t n3) rfl .n)) u4 <| m (not_ (.t n4)) u5 <| e ?_
  refine cnd n5 (fun h1 => ?_) (fun h1 => ?_)
  ·
    replace hm := ct h1 hm
    refine sr <| m (as_ (.i rfl)) u2 <| e ?_
    replace hm := sj hm
    subst hm
    exact rt (ret1 (.t n2 (.p rfl) .n) rfl)
  ·
    replace hm := cf h1 hm
    refine skp ?_
    refine sr <| m (mv (.t n0)) u6 <| m (mul (.t n6) (.i rfl)) u7 <| m (rem (by decide) (.t n7) (.i rfl)) u8 <| m (as_ (.t n8)) u2 <| e ?_
    replace hm := sj hm
    subst hm
    exact rt (ret1 (.t n2 (.p rfl) .n) rfl)

theorem tot_impl_PublicKey (private_ : Int)  : Spec Tryz.prog G0 103 [.int .i64 private_] (fun v => v = .int .i64 (publicF private_)) := sp_impl_PublicKey private_ _ (t_impl_PublicKey private_)

theorem sp_spec_l10Device (s_ : D.KeyStore) (r : Int) (hm : m_spec_l10Device s_ = some r) : Spec Tryz.prog G0 102 [.agg (D.KeyStore.V s_)] (fun v => v = .int .i64 r) := by
  rw [m_spec_l10Device] at hm
  refine enter (l := [.tmp 2]) Tryz.func102 rfl Tryz.ntmps102 rfl T.en102 fun E => ?_
  simp only [List.length_cons, List.length_nil, List.replicate_succ, List.replicate_zero, List.cons_append, List.nil_append, Nat.reduceAdd, Nat.reduceSub]
  refine sr <| k (bx rfl s0 u1 (.t n0)) <| m (as_ (.i rfl)) u2 <| e ?_
  obtain ⟨c1, hm⟩ := gd_some hm
  refine sr <| m (fab 2 rfl T.f99_2 (.t n1)) u3 <| m (ldb T.o3 n0 n2 (.t n3)) u4 <| k (bsm ([(181 : Int)] : List Int) iV T.s95 rfl rfl (.c (.i rfl) rfl rfl rfl .n) rfl u5) <| c (call (tot_spec_DeriveKey s_.Seed ([(181 : Int)] : List Int) c1) (.c (.t n4) rfl (.c (.t n5) rfl .n))) u6 <| m (as_ (.t n6)) u2 <| e ?_
  replace hm := sj hm
  subst hm
  exact rt (ret1 (.t n2 (.p rfl) .n) rfl)

theorem tot_spec_l10Device (s_ : D.KeyStore)  : Spec Tryz.prog G0 102 [.agg (D.KeyStore.V s_)] (fun v => v = .int .i64 (devKeyF s_)) := sp_spec_l10Device s_ _ (t_spec_l10Device s_)

theorem sp_spec_DevicePublic (s_ : D.KeyStore) (r : Int) (hm : m_spec_DevicePublic s_ = some r) : Spec Tryz.prog G0 55 [.agg (D.KeyStore.V s_)] (fun v => v = .int .i64 r) := by
  rw [m_spec_DevicePublic] at hm
  refine enter (l := [.tmp 2]) Tryz.func55 rfl Tryz.ntmps55 rfl T.en55 fun E => ?_
  simp only [List.length_cons, List.length_nil, List.replicate_succ, List.replicate_zero, List.cons_append, List.nil_append, Nat.reduceAdd, Nat.reduceSub]
  refine sr <| k (bx rfl s0 u1 (.t n0)) <| m (as_ (.i rfl)) u2 <| e ?_
  refine sr <| m (lab T.a99 n0 d0 k4 (.t n1)) u3 <| c (call (tot_spec_l10Device s_) (.c (.t n3) rfl .n)) u4 <| c (call (tot_spec_PublicKey (devKeyF s_)) (.c (.t n4) rfl .n)) u5 <| m (as_ (.t n5)) u2 <| e ?_
  replace hm := sj hm
  subst hm
  exact rt (ret1 (.t n2 (.p rfl) .n) rfl)

theorem tot_spec_DevicePublic (s_ : D.KeyStore)  : Spec Tryz.prog G0 55 [.agg (D.KeyStore.V s_)] (fun v => v = .int .i64 (devPubF s_)) := sp_spec_DevicePublic s_ _ (t_spec_DevicePublic s_)

theorem sp_impl_DevicePublic (s_ : D.KeyStore) (r : Int) (hm : m_impl_DevicePublic s_ = some r) : Spec Tryz.prog G0 58 [.agg (D.KeyStore.V s_)] (fun v => v = .int .i64 r) := by
  rw [m_impl_DevicePublic] at hm
  refine enter (l := [.tmp 2]) Tryz.func58 rfl Tryz.ntmps58 rfl T.en58 fun E => ?_
  simp only [List.length_cons, List.length_nil, List.replicate_succ, List.replicate_zero, List.cons_append, List.nil_append, Nat.reduceAdd, Nat.reduceSub]
  refine sr <| k (bx rfl s0 u1 (.t n0)) <| m (as_ (.i rfl)) u2 <| e ?_
  obtain ⟨c1, hm⟩ := gd_some hm
  refine sr <| m (fab 2 rfl T.f99_2 (.t n1)) u3 <| m (ldb T.o3 n0 n2 (.t n3)) u4 <| k (bsm ([(181 : Int)] : List Int) iV T.s95 rfl rfl (.c (.i rfl) rfl rfl rfl .n) rfl u5) <| c (call (tot_impl_DeriveKey s_.Seed ([(181 : Int)] : List Int) c1) (.c (.t n4) rfl (.c (.t n5) rfl .n))) u6 <| c (call (tot_impl_PublicKey (deriveF s_.Seed ([(181 : Int)] : List Int))) (.c (.t n6) rfl .n)) u7 <| m (as_ (.t n7)) u2 <| e ?_
  replace hm := sj hm
  subst hm
  exact rt (ret1 (.t n2 (.p rfl) .n) rfl)

theorem tot_impl_DevicePublic (s_ : D.KeyStore)  : Spec Tryz.prog G0 58 [.agg (D.KeyStore.V s_)] (fun v => v = .int .i64 (devPubF s_)) := sp_impl_DevicePublic s_ _ (t_impl_DevicePublic s_)

theorem sp_spec_EqualBundles (a_ : D.Bundle) (b_ : D.Bundle) (r : Bool) (hm : m_spec_EqualBundles a_ b_ = some r) : Spec Tryz.prog G0 65 [.agg (D.Bundle.V a_), .agg (D.Bundle.V b_)] (fun v => v = .bool r) := by
  rw [m_spec_EqualBundles] at hm
  refine enter (l := [.tmp 4]) Tryz.func65 rfl Tryz.ntmps65 rfl T.en65 fun E => ?_
  simp only [List.length_cons, List.length_nil, List.replicate_succ, List.replicate_zero, List.cons_append, List.nil_append, Nat.reduceAdd, Nat.reduceSub]
  refine sr <| k (bx rfl s0 u2 (.t n0)) <| k (bx rfl s1 u3 (.t n1)) <| m (as_ .b) u4 <| e ?_
  refine sq ?_
  refine sr <| m (fab 0 rfl T.f102_0 (.t n2)) u6 <| m (ldb T.o100 n0 n0 (.t n6)) u7 <| m (lenm (l := a_.Entries) (f := D.Entry.V) T.s100 (.t n7)) u8 <| m (fab 0 rfl T.f102_0 (.t n3)) u9 <| m (ldb T.o100 n1 n0 (.t n9)) u10 <| m (lenm (l := b_.Entries) (f := D.Entry.V) T.s100 (.t n10)) u11 <| m (neq (.t n8) (.t n11)) u12 <| e ?_
  refine cnd n12 (fun h1 => ?_) (fun h1 => ?_)
  ·
    replace hm := ct h1 hm
    refine sr <| m (as_ .b) u4 <| e ?_
    replace hm := sj hm
    subst hm
    exact rt (ret1 (.t n4 (.p rfl) .n) rfl)
  ·
    replace hm := cf h1 hm
    refine skp ?_
    refine sq ?_
    refine sr <| m (as_ (.i rfl)) u5 <| e ?_
    refine jmx hm (fun _ : Unit => ⟨[.any, .any, .any, .any, .any, .any, .any, .any, .any, .any, .any, .any, .any, .any, .any, .any, .any, .any, .any, .any, .any, .any, .any, .any, .any, .any, .any, .any, .any, .any, .any], []⟩) (fun _ hm hq2 => ?_) (fun _ hm => ?_)
    ·
      refine bk ?_
      refine lpf (m := m_spec_EqualBundles_l0 a_ b_) hm (fun i0 : Nat => ⟨[.any, .any, .box 0 0, .box 1 0, .any, .int .i64 (i0 : Int), .any, .any, .any, .any, .any, .any, .any, .any, .any, .any, .any, .any, .any, .any, .any, .any, .any, .any, .any, .any, .any, .any, .any, .any, .any], [.box 102 [.slice 4 (a_.Entries.map D.Entry.V)], .box 102 [.slice 4 (b_.Entries.map D.Entry.V)]]⟩) (fun _ => rfl) (le [0, 1] (by decide) (.c .a (.c .a (.c (.b n0) (.c (.b n1) (.c .a (.c (.e rfl rfl) (.c .a (.c .a (.c .a (.c .a (.c .a (.c .a (.c .a (.c .a (.c .a (.c .a (.c .a (.c .a (.c .a (.c .a (.c .a (.c .a (.c .a (.c .a (.c .a (.c .a (.c .a (.c .a (.c .a (.c .a (.c .a .n))))))))))))))))))))))))))))))) (.b n0 (.c (.e rfl rfl) .n) (.b n1 (.c (.e rfl rfl) .n) .n))) ?_
      rintro f i0 hm
      rw [m_spec_EqualBundles_l0] at hm
      refine sq ?_
      refine sr <| m (mv (.t n5)) u13 <| m (fab 0 rfl T.f102_0 (.t n2)) u14 <| m (ldb T.o100 n0 n0 (.t n14)) u15 <| m (lenm (l := a_.Entries) (f := D.Entry.V) T.s100 (.t n15)) u16 <| m (lss (.t n13) (.t n16)) u17 <| e ?_
      refine rng n16 fun _ ra3 => ?_
      replace ra3 := (show (_ : Int) ≤ 9223372036854775807 from ra3)
      refine cnd n17 (fun h4 => ?_) (fun h4 => ?_)
      ·
        replace hm := ct h4 hm
        have h4d := of_decide_eq_true h4
        refine skp ?_
        refine sq ?_
        refine bk ?_
        obtain ⟨z5, e6, hm⟩ := bd_some hm
        obtain ⟨z7, e8, hm⟩ := bd_some hm
        refine sd none [(0, true), (1, true), (2, true), (3, true), (4, true), (5, true), (6, true), (7, true), (8, true), (9, true), (10, true)] T.mix (by kernel_rfl) <| om n0 (fab 0 rfl T.f102_0 (.t n2)) u20 <| om n1 (ldb T.o100 n0 n0 (.t n20)) u21 <| om n2 (mv (.t n5)) u22 <| om n3 (ixq (f := D.Entry.V) e6 T.s100 (.t n21) (.t n22)) u23 <| om n4 (lae T.a111 k4 (.t n23)) u24 <| om n5 (fab 0 rfl T.f102_0 (.t n3)) u25 <| om n6 (ldb T.o100 n1 n0 (.t n25)) u26 <| om n7 (mv (.t n5)) u27 <| om n8 (ixq (f := D.Entry.V) e8 T.s100 (.t n26) (.t n27)) u28 <| om n9 (lae T.a111 k4 (.t n28)) u29 <| om n10 (ane (by kernel_rfl) (T.q111 z5 z7) rfl rfl (.t n24) (.t n29)) u30 <| oe ?_
        refine cnd n30 (fun h9 => ?_) (fun h9 => ?_)
        ·
          replace hm := ct h9 hm
          refine sr <| m (as_ .b) u4 <| e ?_
          replace hm := inl1 hm hq2
          subst hm
          exact rt (ret1 (.t n4 (.p rfl) .n) rfl)
        ·
          replace hm := cf h9 hm
          refine skp ?_
          refine rg <| m (mv (.t n5)) u18 <| m (add (.t n18) (.i rfl)) u19 <| m (as_ (.t n19)) u5 <| e ?_
          exact ⟨i0 + 1, hm, le [0, 1] (by decide) (.c .a (.c .a (.c (.b n0) (.c (.b n1) (.c .a (.c (.e (wi (by omega)) rfl) (.c .a (.c .a (.c .a (.c .a (.c .a (.c .a (.c .a (.c .a (.c .a (.c .a (.c .a (.c .a (.c .a (.c .a (.c .a (.c .a (.c .a (.c .a (.c .a (.c .a (.c .a (.c .a (.c .a (.c .a (.c .a .n))))))))))))))))))))))))))))))) (.b n0 (.c (.e rfl rfl) .n) (.b n1 (.c (.e rfl rfl) .n) .n))⟩
      ·
        replace hm := cf h4 hm
        have h4d := of_decide_eq_false h4
        refine ex (x1 ?_)
        replace hm := inr1 hm hq2
        exact ⟨(), hm, le [] (by decide) (.c .a (.c .a (.c .a (.c .a (.c .a (.c .a (.c .a (.c .a (.c .a (.c .a (.c .a (.c .a (.c .a (.c .a (.c .a (.c .a (.c .a (.c .a (.c .a (.c .a (.c .a (.c .a (.c .a (.c .a (.c .a (.c .a (.c .a (.c .a (.c .a (.c .a (.c .a .n))))))))))))))))))))))))))))))) .n⟩
    ·
      refine sr <| m (as_ .b) u4 <| e ?_
      replace hm := sj hm
      subst hm
      exact rt (ret1 (.t n4 (.p rfl) .n) rfl)

theorem tot_spec_EqualBundles (a_ : D.Bundle) (b_ : D.Bundle)  : Spec Tryz.prog G0 65 [.agg (D.Bundle.V a_), .agg (D.Bundle.V b_)] (fun v => v = .bool (eqBundlesF a_ b_)) := sp_spec_EqualBundles a_ b_ _ (t_spec_EqualBundles a_ b_)

theorem sp_impl_EqualBundles (a_ : D.Bundle) (b_ : D.Bundle) (r : Bool) (hm : m_impl_EqualBundles a_ b_ = some r) : Spec Tryz.prog G0 66 [.agg (D.Bundle.V a_), .agg (D.Bundle.V b_)] (fun v => v = .bool r) := by
  rw [m_impl_EqualBundles] at hm
  refine enter (l := [.tmp 4]) Tryz.func66 rfl Tryz.ntmps66 rfl T.en66 fun E => ?_
  simp only [List.length_cons, List.length_nil, List.replicate_succ, List.replicate_zero, List.cons_append, List.nil_append, Nat.reduceAdd, Nat.reduceSub]
  refine sr <| k (bx rfl s0 u2 (.t n0)) <| k (bx rfl s1 u3 (.t n1)) <| m (as_ .b) u4 <| e ?_
  refine sq ?_
  refine sr <| m (fab 0 rfl T.f102_0 (.t n2)) u6 <| m (ldb T.o100 n0 n0 (.t n6)) u7 <| m (lenm (l := a_.Entries) (f := D.Entry.V) T.s100 (.t n7)) u8 <| m (fab 0 rfl T.f102_0 (.t n3)) u9 <| m (ldb T.o100 n1 n0 (.t n9)) u10 <| m (lenm (l := b_.Entries) (f := D.Entry.V) T.s100 (.t n10)) u11 <| m (neq (.t n8) (.t n11)) u12 <| e ?_
  refine cnd n12 (fun h1 => ?_) (fun h1 => ?_)
  ·
    replace hm := ct h1 hm
    refine sr <| m (as_ .b) u4 <| e ?_
    replace hm := sj hm
    subst hm
    exact rt (ret1 (.t n4 (.p rfl) .n) rfl)
  ·
    replace hm := cf h1 hm
    refine skp ?_
    refine sq ?_
    refine sr <| m (fab 0 rfl T.f102_0 (.t n2)) u13 <| m (ldb T.o100 n0 n0 (.t n13)) u14 <| m (lenm (l := a_.Entries) (f := D.Entry.V) T.s100 (.t n14)) u15 <| m (mv (.i rfl)) u16 <| e ?_
    refine jmx hm (fun _ : Unit => ⟨[.any, .any, .any, .any, .any, .any, .any, .any, .any, .any, .any, .any, .any, .any, .any, .any, .any, .any, .any, .any, .any, .any, .any, .any, .any, .any, .any, .any, .any, .any, .any], []⟩) (fun _ hm hq2 => ?_) (fun _ hm => ?_)
    ·
      refine bk ?_
      refine lpf (m := m_impl_EqualBundles_l0 a_ b_) hm (fun i0 : Nat => ⟨[.any, .any, .box 0 0, .box 1 0, .any, .any, .any, .any, .any, .any, .any, .any, .any, .any, .any, .int .i64 (a_.Entries.length : Int), .int .i64 (i0 : Int), .any, .any, .any, .any, .any, .any, .any, .any, .any, .any, .any, .any, .any, .any], [.box 102 [.slice 4 (a_.Entries.map D.Entry.V)], .box 102 [.slice 4 (b_.Entries.map D.Entry.V)]]⟩) (fun _ => rfl) (le [0, 1] (by decide) (.c .a (.c .a (.c (.b n0) (.c (.b n1) (.c .a (.c .a (.c .a (.c .a (.c .a (.c .a (.c .a (.c .a (.c .a (.c .a (.c .a (.c (.e rfl rfl) (.c (.e rfl rfl) (.c .a (.c .a (.c .a (.c .a (.c .a (.c .a (.c .a (.c .a (.c .a (.c .a (.c .a (.c .a (.c .a (.c .a .n))))))))))))))))))))))))))))))) (.b n0 (.c (.e rfl rfl) .n) (.b n1 (.c (.e rfl rfl) .n) .n))) ?_
      rintro f i0 hm
      rw [m_impl_EqualBundles_l0] at hm
      refine sr <| m (lss (.t n16) (.t n15)) u17 <| e ?_
      refine rng n15 fun _ ra3 => ?_
      replace ra3 := (show (_ : Int) ≤ 9223372036854775807 from ra3)
      refine sq ?_
      refine cnd n17 (fun h4 => ?_) (fun h4 => ?_)
      ·
        replace hm := ct h4 hm
        have h4d := of_decide_eq_true h4
        refine skp ?_
        refine sq ?_
        refine bk ?_
        refine sr <| m (mv (.t n16)) u18 <| m (as_ (.t n18)) u5 <| e ?_
        obtain ⟨z5, e6, hm⟩ := bd_some hm
        obtain ⟨z7, e8, hm⟩ := bd_some hm
        refine sd none [(0, true), (1, true), (2, true), (3, true), (4, true), (5, true), (6, true), (7, true), (8, true), (9, true), (10, true)] T.mix (by kernel_rfl) <| om n0 (fab 0 rfl T.f102_0 (.t n2)) u19 <| om n1 (ldb T.o100 n0 n0 (.t n19)) u20 <| om n2 (mv (.t n5)) u21 <| om n3 (ixq (f := D.Entry.V) e6 T.s100 (.t n20) (.t n21)) u22 <| om n4 (lae T.a111 k4 (.t n22)) u23 <| om n5 (fab 0 rfl T.f102_0 (.t n3)) u24 <| om n6 (ldb T.o100 n1 n0 (.t n24)) u25 <| om n7 (mv (.t n5)) u26 <| om n8 (ixq (f := D.Entry.V) e8 T.s100 (.t n25) (.t n26)) u27 <| om n9 (lae T.a111 k4 (.t n27)) u28 <| om n10 (ane (by kernel_rfl) (T.q111 z5 z7) rfl rfl (.t n23) (.t n28)) u29 <| oe ?_
        refine cnd n29 (fun h9 => ?_) (fun h9 => ?_)
        ·
          replace hm := ct h9 hm
          refine sr <| m (as_ .b) u4 <| e ?_
          replace hm := inl1 hm hq2
          subst hm
          exact rt (ret1 (.t n4 (.p rfl) .n) rfl)
        ·
          replace hm := cf h9 hm
          refine skp ?_
          refine rg <| m (add (.t n16) (.i rfl)) u30 <| m (mv (.t n30)) u16 <| e ?_
          exact ⟨i0 + 1, hm, le [0, 1] (by decide) (.c .a (.c .a (.c (.b n0) (.c (.b n1) (.c .a (.c .a (.c .a (.c .a (.c .a (.c .a (.c .a (.c .a (.c .a (.c .a (.c .a (.c (.e rfl rfl) (.c (.e (wi (by omega)) rfl) (.c .a (.c .a (.c .a (.c .a (.c .a (.c .a (.c .a (.c .a (.c .a (.c .a (.c .a (.c .a (.c .a (.c .a .n))))))))))))))))))))))))))))))) (.b n0 (.c (.e rfl rfl) .n) (.b n1 (.c (.e rfl rfl) .n) .n))⟩
      ·
        replace hm := cf h4 hm
        have h4d := of_decide_eq_false h4
        refine ex (x1 ?_)
        replace hm := inr1 hm hq2
        exact ⟨(), hm, le [] (by decide) (.c .a (.c .a (.c .a (.c .a (.c .a (.c .a (.c .a (.c .a (.c .a (.c .a (.c .a (.c .a (.c .a (.c .a (.c .a (.c .a (.c .a (.c .a (.c .a (.c .a (.c .a (.c .a (.c .a (.c .a (.c .a (.c .a (.c .a (.c .a (.c .a (.c .a (.c .a .n))))))))))))))))))))))))))))))) .n⟩
    ·
      refine sr <| m (as_ .b) u4 <| e ?_
      replace hm := sj hm
      subst hm
      exact rt (ret1 (.t n4 (.p rfl) .n) rfl)

theorem tot_impl_EqualBundles (a_ : D.Bundle) (b_ : D.Bundle)  : Spec Tryz.prog G0 66 [.agg (D.Bundle.V a_), .agg (D.Bundle.V b_)] (fun v => v = .bool (eqBundlesF a_ b_)) := sp_impl_EqualBundles a_ b_ _ (t_impl_EqualBundles a_ b_)

theorem sp_spec_l19Has (l_ : List Int) (x_ : Int) (r : Bool) (hm : m_spec_l19Has l_ x_ = some r) : Spec Tryz.prog G0 106 [.slice 1 (l_.map iV), .int .i64 x_] (fun v => v = .bool r) := by
  rw [m_spec_l19Has] at hm
  refine enter (l := [.tmp 4]) Tryz.func106 rfl Tryz.ntmps106 rfl T.en106 fun E => ?_
  simp only [List.length_cons, List.length_nil, List.replicate_succ, List.replicate_zero, List.cons_append, List.nil_append, Nat.reduceAdd, Nat.reduceSub]
  refine sr <| m (as_ .b) u4 <| e ?_
  refine sq ?_
  refine sr <| m (as_ (.i rfl)) u5 <| e ?_
  refine jmx hm (fun _ : Unit => ⟨[.any, .any, .any, .any, .any, .any, .any, .any, .any, .any, .any, .any, .any, .any, .any, .any, .any, .any], []⟩) (fun _ hm hq1 => ?_) (fun _ hm => ?_)
  ·
    refine bk ?_
    refine lpf (m := m_spec_l19Has_l0 l_ x_) hm (fun i0 : Nat => ⟨[.slice 1 (l_.map iV), .int .i64 x_, .any, .any, .any, .int .i64 (i0 : Int), .any, .any, .any, .any, .any, .any, .any, .any, .any, .any, .any, .any], []⟩) (fun _ => rfl) (le [] (by decide) (.c (.e rfl rfl) (.c (.e rfl rfl) (.c .a (.c .a (.c .a (.c (.e rfl rfl) (.c .a (.c .a (.c .a (.c .a (.c .a (.c .a (.c .a (.c .a (.c .a (.c .a (.c .a (.c .a .n)))))))))))))))))) .n) ?_
    rintro f i0 hm
    rw [m_spec_l19Has_l0] at hm
    refine sq ?_
    refine sr <| m (mv (.t n5)) u6 <| m (mv (.t n0)) u7 <| m (lenm (l := l_) (f := iV) T.s95 (.t n7)) u8 <| m (lss (.t n6) (.t n8)) u9 <| e ?_
    refine rng n8 fun _ ra2 => ?_
    replace ra2 := (show (_ : Int) ≤ 9223372036854775807 from ra2)
    refine cnd n9 (fun h3 => ?_) (fun h3 => ?_)
    ·
      replace hm := ct h3 hm
      have h3d := of_decide_eq_true h3
      refine skp ?_
      refine sq ?_
      refine bk ?_
      obtain ⟨z4, e5, hm⟩ := bd_some hm
      refine sr <| m (mv (.t n0)) u12 <| m (mv (.t n5)) u13 <| m (ixq (f := iV) e5 T.s95 (.t n12) (.t n13)) u14 <| m (lde T.o3 n0 (.t n14)) u15 <| m (mv (.t n1)) u16 <| m (eql (.t n15) (.t n16)) u17 <| e ?_
      refine cnd n17 (fun h6 => ?_) (fun h6 => ?_)
      ·
        replace hm := ct h6 hm
        refine sr <| m (as_ .b) u4 <| e ?_
        replace hm := inl1 hm hq1
        subst hm
        exact rt (ret1 (.t n4 (.p rfl) .n) rfl)
      ·
        replace hm := cf h6 hm
        refine skp ?_
        refine rg <| m (mv (.t n5)) u10 <| m (add (.t n10) (.i rfl)) u11 <| m (as_ (.t n11)) u5 <| e ?_
        exact ⟨i0 + 1, hm, le [] (by decide) (.c (.e rfl rfl) (.c (.e rfl rfl) (.c .a (.c .a (.c .a (.c (.e (wi (by omega)) rfl) (.c .a (.c .a (.c .a (.c .a (.c .a (.c .a (.c .a (.c .a (.c .a (.c .a (.c .a (.c .a .n)))))))))))))))))) .n⟩
    ·
      replace hm := cf h3 hm
      have h3d := of_decide_eq_false h3
      refine ex (x1 ?_)
      replace hm := inr1 hm hq1
      exact ⟨(), hm, le [] (by decide) (.c .a (.c .a (.c .a (.c .a (.c .a (.c .a (.c .a (.c .a (.c .a (.c .a (.c .a (.c .a (.c .a (.c .a (.c .a (.c .a (.c .a (.c .a .n)))))))))))))))))) .n⟩
  ·
    refine sr <| m (as_ .b) u4 <| e ?_
    replace hm := sj hm
    subst hm
    exact rt (ret1 (.t n4 (.p rfl) .n) rfl)

theorem tot_spec_l19Has (l_ : List Int) (x_ : Int)  : Spec Tryz.prog G0 106 [.slice 1 (l_.map iV), .int .i64 x_] (fun v => v = .bool (hasF l_ x_)) := sp_spec_l19Has l_ x_ _ (t_spec_l19Has l_ x_)

theorem sp_spec_DevicesOf (log_ : List D.LogEntry) (r : (List Int)) (hm : m_spec_DevicesOf log_ = some r) : Spec Tryz.prog G0 107 [.slice 6 (log_.map D.LogEntry.V)] (fun v => v = .slice 1 (r.map iV)) := by
  rw [m_spec_DevicesOf] at hm
  refine enter (l := [.tmp 2]) Tryz.func107 rfl Tryz.ntmps107 rfl T.en107 fun E => ?_
  simp only [List.length_cons, List.length_nil, List.replicate_succ, List.replicate_zero, List.cons_append, List.nil_append, Nat.reduceAdd, Nat.reduceSub]
  refine sr <| m (as_ .n) u2 <| e ?_
  refine sr <| k (bom ([] : List Int) iV T.s95 rfl rfl .n rfl s0 u8) <| m (as_ (.t n8)) u3 <| e ?_
  refine sq ?_
  refine sr <| m (as_ (.i rfl)) u4 <| e ?_
  refine jmb hm (fun j0_3r : List Int => ⟨[.any, .any, .any, .own 0, .any, .any, .any, .any, .any, .any, .any, .any, .any, .any, .any, .any, .any, .any, .any, .any, .any, .any, .any, .any, .any, .any, .any, .any, .any, .any, .any, .any, .any, .any, .any, .any, .any, .any, .any, .any, .any, .any, .any, .any, .any, .any, .any, .any, .any, .any, .any, .any, .any, .any, .any, .any, .any, .any, .any, .any, .any, .any, .any, .any, .any, .any], [.row 3 1 (j0_3r.map iV)]⟩) (fun _ hm hq1 => ?_) (fun j0_3r hm => ?_)
  ·
    refine bk ?_
    refine lpf (m := m_spec_DevicesOf_l0 log_) hm (fun yy2_ : Nat × (List Int) => ⟨[.slice 6 (log_.map D.LogEntry.V), .any, .any, .own 0, .int .i64 (yy2_.1 : Int), .any, .any, .any, .any, .any, .any, .any, .any, .any, .any, .any, .any, .any, .any, .any, .any, .any, .any, .any, .any, .any, .any, .any, .any, .any, .any, .any, .any, .any, .any, .any, .any, .any, .any, .any, .any, .any, .any, .any, .any, .any, .any, .any, .any, .any, .any, .any, .any, .any, .any, .any, .any, .any, .any, .any, .any, .any, .any, .any, .any, .any], [.row 3 1 (yy2_.2.map iV)]⟩) (fun _ => rfl) (le [0] (by decide) (.c (.e rfl rfl) (.c .a (.c .a (.c (.w n0) (.c (.e rfl rfl) (.c .a (.c .a (.c .a (.c .a (.c .a (.c .a (.c .a (.c .a (.c .a (.c .a (.c .a (.c .a (.c .a (.c .a (.c .a (.c .a (.c .a (.c .a (.c .a (.c .a (.c .a (.c .a (.c .a (.c .a (.c .a (.c .a (.c .a (.c .a (.c .a (.c .a (.c .a (.c .a (.c .a (.c .a (.c .a (.c .a (.c .a (.c .a (.c .a (.c .a (.c .a (.c .a (.c .a (.c .a (.c .a (.c .a (.c .a (.c .a (.c .a (.c .a (.c .a (.c .a (.c .a (.c .a (.c .a (.c .a (.c .a (.c .a (.c .a (.c .a (.c .a .n)))))))))))))))))))))))))))))))))))))))))))))))))))))))))))))))))) (.r n0 rfl .n)) ?_
    rintro f ⟨i0, v0_3r⟩ hm
    rw [m_spec_DevicesOf_l0] at hm
    dsimp only at hm ⊢
    refine sq ?_
    refine sr <| m (mv (.t n4)) u9 <| m (mv (.t n0)) u10 <| m (lenm (l := log_) (f := D.LogEntry.V) T.s43 (.t n10)) u11 <| m (lss (.t n9) (.t n11)) u12 <| e ?_
    refine rng n11 fun _ ra3 => ?_
    replace ra3 := (show (_ : Int) ≤ 9223372036854775807 from ra3)
    refine cnd n12 (fun h4 => ?_) (fun h4 => ?_)
    ·
      replace hm := ct h4 hm
      have h4d := of_decide_eq_true h4
      refine skp ?_
      refine sq ?_
      refine jmb hm (fun j1_3r : List Int => ⟨[.slice 6 (log_.map D.LogEntry.V), .any, .any, .own 0, .int .i64 (i0 : Int), .any, .any, .any, .any, .any, .any, .any, .any, .any, .any, .any, .any, .any, .any, .any, .any, .any, .any, .any, .any, .any, .any, .any, .any, .any, .any, .any, .any, .any, .any, .any, .any, .any, .any, .any, .any, .any, .any, .any, .any, .any, .any, .any, .any, .any, .any, .any, .any, .any, .any, .any, .any, .any, .any, .any, .any, .any, .any, .any, .any, .any], [.row 3 1 (j1_3r.map iV)]⟩) (fun _ hm hq5 => ?_) (fun j1_3r hm => ?_)
      ·
        refine bk ?_
        obtain ⟨z6, e7, hm⟩ := bd_some hm
        refine sr <| m (mv (.t n0)) u15 <| m (mv (.t n4)) u16 <| m (ixq (f := D.LogEntry.V) e7 T.s43 (.t n15) (.t n16)) u17 <| m (fae T.f106_2 d2 (.t n17)) u18 <| m (lde T.o3 n0 (.t n18)) u19 <| m (as_ (.t n19)) u5 <| e ?_
        refine jmb hm (fun j2_3r : List Int => ⟨[.slice 6 (log_.map D.LogEntry.V), .any, .any, .own 0, .int .i64 (i0 : Int), .any, .any, .any, .any, .any, .any, .any, .any, .any, .any, .any, .any, .any, .any, .any, .any, .any, .any, .any, .any, .any, .any, .any, .any, .any, .any, .any, .any, .any, .any, .any, .any, .any, .any, .any, .any, .any, .any, .any, .any, .any, .any, .any, .any, .any, .any, .any, .any, .any, .any, .any, .any, .any, .any, .any, .any, .any, .any, .any, .any, .any], [.row 3 1 (j2_3r.map iV)]⟩) (fun _ hm hq8 => ?_) (fun j2_3r hm => ?_)
        ·
          refine bk ?_
          refine sr <| rjb hm (fun j3_20 : Bool => ⟨[.slice 6 (log_.map D.LogEntry.V), .any, .any, .own 0, .int .i64 (i0 : Int), .int .i64 z6.Device, .any, .any, .any, .any, .any, .any, .any, .any, .any, .any, .any, .any, .any, .any, .bool j3_20, .any, .any, .any, .any, .any, .any, .any, .any, .any, .any, .any, .any, .any, .any, .any, .any, .any, .any, .any, .any, .any, .any, .any, .any, .any, .any, .any, .any, .any, .any, .any, .any, .any, .any, .any, .any, .any, .any, .any, .any, .any, .any, .any, .any, .any], [.row 3 1 (v0_3r.map iV)]⟩) (fun _ hm hq9 => ?_) (fun j3_20 hm => ?_)
          ·
            refine m (mv (.t n0)) u21 <| m (mv (.t n4)) u22 <| m (ixq (f := D.LogEntry.V) e7 T.s43 (.t n21) (.t n22)) u23 <| m (fae T.f106_1 d1 (.t n23)) u24 <| m (lde T.o3 n0 (.t n24)) u25 <| m (eql (.t n25) (.i rfl)) u26 <| m (mv (.t n26)) u27 <| sp n27 u27 u27 (fun h10 => ?_) (fun h10 => ?_)
            ·
              replace hm := ct h10 hm
              refine mg n6 rfl n27 (mv (.t n3)) u28 <| mg n6 rfl n27 (mv (.t n5)) u29 <| cg n6 rfl n27 (callm (tot_spec_l19Has v0_3r z6.Device) rfl (.c (.t n28) (.o n0) (.c (.t n29) (.p rfl) .n))) u30 <| mg n6 rfl n27 (not_ (.t n30)) u31 <| m (pkt (.t n27) (.t n31)) u32 <| m (as_ (.t n32)) u20 <| e ?_
              replace hm := sj hm
              subst hm
              have hm := hq9
              exact ⟨(!(hasF v0_3r z6.Device)), hm, le [0] (by decide) (.c (.e rfl rfl) (.c .a (.c .a (.c (.w n0) (.c (.e rfl rfl) (.c (.e rfl rfl) (.c .a (.c .a (.c .a (.c .a (.c .a (.c .a (.c .a (.c .a (.c .a (.c .a (.c .a (.c .a (.c .a (.c .a (.c (.e rfl rfl) (.c .a (.c .a (.c .a (.c .a (.c .a (.c .a (.c .a (.c .a (.c .a (.c .a (.c .a (.c .a (.c .a (.c .a (.c .a (.c .a (.c .a (.c .a (.c .a (.c .a (.c .a (.c .a (.c .a (.c .a (.c .a (.c .a (.c .a (.c .a (.c .a (.c .a (.c .a (.c .a (.c .a (.c .a (.c .a (.c .a (.c .a (.c .a (.c .a (.c .a (.c .a (.c .a (.c .a (.c .a (.c .a .n)))))))))))))))))))))))))))))))))))))))))))))))))))))))))))))))))) (.r n0 rfl .n)⟩
            ·
              replace hm := cf h10 hm
              refine sk n6 rfl n27 rfl u28 <| sk n6 rfl n27 rfl u29 <| sk n6 rfl n27 rfl u30 <| sk n6 rfl n27 rfl u31 <| m (pkf (.t n27) .b) u32 <| m (as_ (.t n32)) u20 <| e ?_
              replace hm := sj hm
              subst hm
              have hm := hq9
              exact ⟨false, hm, le [0] (by decide) (.c (.e rfl rfl) (.c .a (.c .a (.c (.w n0) (.c (.e rfl rfl) (.c (.e rfl rfl) (.c .a (.c .a (.c .a (.c .a (.c .a (.c .a (.c .a (.c .a (.c .a (.c .a (.c .a (.c .a (.c .a (.c .a (.c (.e rfl rfl) (.c .a (.c .a (.c .a (.c .a (.c .a (.c .a (.c .a (.c .a (.c .a (.c .a (.c .a (.c .a (.c .a (.c .a (.c .a (.c .a (.c .a (.c .a (.c .a (.c .a (.c .a (.c .a (.c .a (.c .a (.c .a (.c .a (.c .a (.c .a (.c .a (.c .a (.c .a (.c .a (.c .a (.c .a (.c .a (.c .a (.c .a (.c .a (.c .a (.c .a (.c .a (.c .a (.c .a (.c .a (.c .a .n)))))))))))))))))))))))))))))))))))))))))))))))))))))))))))))))))) (.r n0 rfl .n)⟩
          ·
            refine cnd n20 (fun h11 => ?_) (fun h11 => ?_)
            ·
              replace hm := ct h11 hm
              obtain ⟨c12, hm⟩ := gd_some hm
              refine rg <| m (mv (.t n3)) u33 <| m (mv (.t n5)) u34 <| k (bsm ([z6.Device] : List Int) iV T.s95 rfl rfl (.c (.t n34) rfl rfl rfl .n) rfl u35) <| dr u3 <| k (apm (l := v0_3r) (l2 := ([z6.Device] : List Int)) (f := iV) 33 c12 rfl (fun _ => rfl) T.s95 rfl n33 u33 n0 (.t n35) q0 rfl u36) <| m (as_ (.t n36)) u3 <| e ?_
              replace hm := sj hm
              subst hm
              have hm := hq8
              exact ⟨(v0_3r ++ ([z6.Device] : List Int)), hm, le [0] (by decide) (.c (.e rfl rfl) (.c .a (.c .a (.c (.w n0) (.c (.e rfl rfl) (.c .a (.c .a (.c .a (.c .a (.c .a (.c .a (.c .a (.c .a (.c .a (.c .a (.c .a (.c .a (.c .a (.c .a (.c .a (.c .a (.c .a (.c .a (.c .a (.c .a (.c .a (.c .a (.c .a (.c .a (.c .a (.c .a (.c .a (.c .a (.c .a (.c .a (.c .a (.c .a (.c .a (.c .a (.c .a (.c .a (.c .a (.c .a (.c .a (.c .a (.c .a (.c .a (.c .a (.c .a (.c .a (.c .a (.c .a (.c .a (.c .a (.c .a (.c .a (.c .a (.c .a (.c .a (.c .a (.c .a (.c .a (.c .a (.c .a (.c .a (.c .a .n)))))))))))))))))))))))))))))))))))))))))))))))))))))))))))))))))) (.r n0 rfl .n)⟩
            ·
              replace hm := cf h11 hm
              refine sr <| m (mv (.t n0)) u38 <| m (mv (.t n4)) u39 <| m (ixq (f := D.LogEntry.V) e7 T.s43 (.t n38) (.t n39)) u40 <| m (fae T.f106_1 d1 (.t n40)) u41 <| m (lde T.o3 n0 (.t n41)) u42 <| m (eql (.t n42) (.i rfl)) u43 <| m (as_ (.t n43)) u37 <| e ?_
              refine cnd n37 (fun h13 => ?_) (fun h13 => ?_)
              ·
                replace hm := ct h13 hm
                refine sr <| k (bom ([] : List Int) iV T.s95 rfl rfl .n rfl s1 u44) <| m (as_ (.t n44)) u6 <| e ?_
                refine sq ?_
                refine sr <| m (as_ (.i rfl)) u7 <| e ?_
                refine jmb hm (fun j4r6 : List Int => ⟨[.slice 6 (log_.map D.LogEntry.V), .any, .any, .any, .int .i64 (i0 : Int), .any, .own 0, .any, .any, .any, .any, .any, .any, .any, .any, .any, .any, .any, .any, .any, .any, .any, .any, .any, .any, .any, .any, .any, .any, .any, .any, .any, .any, .any, .any, .any, .any, .any, .any, .any, .any, .any, .any, .any, .any, .any, .any, .any, .any, .any, .any, .any, .any, .any, .any, .any, .any, .any, .any, .any, .any, .any, .any, .any, .any, .any], [.row 3 1 (j4r6.map iV)]⟩) (fun _ hm hq14 => ?_) (fun j4r6 hm => ?_)
                ·
                  refine bk ?_
                  refine lpf (m := m_spec_DevicesOf_l1 v0_3r z6) hm (fun yy15_ : Nat × (List Int) => ⟨[.slice 6 (log_.map D.LogEntry.V), .any, .any, .own 0, .int .i64 (i0 : Int), .int .i64 z6.Device, .own 1, .int .i64 (yy15_.1 : Int), .any, .any, .any, .any, .any, .any, .any, .any, .any, .any, .any, .any, .any, .any, .any, .any, .any, .any, .any, .any, .any, .any, .any, .any, .any, .any, .any, .any, .any, .any, .any, .any, .any, .any, .any, .any, .any, .any, .any, .any, .any, .any, .any, .any, .any, .any, .any, .any, .any, .any, .any, .any, .any, .any, .any, .any, .any, .any], [.row 3 1 (v0_3r.map iV), .row 3 1 (yy15_.2.map iV)]⟩) (fun _ => rfl) (le [0, 1] (by decide) (.c (.e rfl rfl) (.c .a (.c .a (.c (.w n0) (.c (.e rfl rfl) (.c (.e rfl rfl) (.c (.w n1) (.c (.e rfl rfl) (.c .a (.c .a (.c .a (.c .a (.c .a (.c .a (.c .a (.c .a (.c .a (.c .a (.c .a (.c .a (.c .a (.c .a (.c .a (.c .a (.c .a (.c .a (.c .a (.c .a (.c .a (.c .a (.c .a (.c .a (.c .a (.c .a (.c .a (.c .a (.c .a (.c .a (.c .a (.c .a (.c .a (.c .a (.c .a (.c .a (.c .a (.c .a (.c .a (.c .a (.c .a (.c .a (.c .a (.c .a (.c .a (.c .a (.c .a (.c .a (.c .a (.c .a (.c .a (.c .a (.c .a (.c .a (.c .a (.c .a (.c .a (.c .a .n)))))))))))))))))))))))))))))))))))))))))))))))))))))))))))))))))) (.r n0 rfl (.r n1 rfl .n))) ?_
                  rintro f ⟨i1, v1r6⟩ hm
                  rw [m_spec_DevicesOf_l1] at hm
                  dsimp only at hm ⊢
                  refine sq ?_
                  refine sr <| m (mv (.t n7)) u45 <| m (mv (.t n3)) u46 <| m (lenom (l := v0_3r) (f := iV) T.s95 n0 (.t n46)) u47 <| m (lss (.t n45) (.t n47)) u48 <| e ?_
                  refine rng n47 fun _ ra16 => ?_
                  replace ra16 := (show (_ : Int) ≤ 9223372036854775807 from ra16)
                  refine cnd n48 (fun h17 => ?_) (fun h17 => ?_)
                  ·
                    replace hm := ct h17 hm
                    have h17d := of_decide_eq_true h17
                    refine skp ?_
                    refine sq ?_
                    refine jmb hm (fun j5r6 : List Int => ⟨[.slice 6 (log_.map D.LogEntry.V), .any, .any, .own 0, .int .i64 (i0 : Int), .int .i64 z6.Device, .own 1, .int .i64 (i1 : Int), .any, .any, .any, .any, .any, .any, .any, .any, .any, .any, .any, .any, .any, .any, .any, .any, .any, .any, .any, .any, .any, .any, .any, .any, .any, .any, .any, .any, .any, .any, .any, .any, .any, .any, .any, .any, .any, .any, .any, .any, .any, .any, .any, .any, .any, .any, .any, .any, .any, .any, .any, .any, .any, .any, .any, .any, .any, .any], [.row 3 1 (v0_3r.map iV), .row 3 1 (j5r6.map iV)]⟩) (fun _ hm hq18 => ?_) (fun j5r6 hm => ?_)
                    ·
                      refine bk ?_
                      obtain ⟨z19, e20, hm⟩ := bd_some hm
                      refine sr <| m (mv (.t n3)) u51 <| m (mv (.t n7)) u52 <| m (oixq (f := iV) e20 T.s95 n0 (.t n51) (.t n52)) u53 <| m (ldm1 0 e20 T.o3 n0 rfl n0 (.t n53)) u54 <| m (mv (.t n5)) u55 <| m (neq (.t n54) (.t n55)) u56 <| e ?_
                      refine cnd n56 (fun h21 => ?_) (fun h21 => ?_)
                      ·
                        replace hm := ct h21 hm
                        obtain ⟨c22, hm⟩ := gd_some hm
                        refine rg <| m (mv (.t n6)) u57 <| m (mv (.t n3)) u58 <| m (mv (.t n7)) u59 <| m (oixq (f := iV) e20 T.s95 n0 (.t n58) (.t n59)) u60 <| m (ldm1 0 e20 T.o3 n0 rfl n0 (.t n60)) u61 <| k (bsm ([z19] : List Int) iV T.s95 rfl rfl (.c (.t n61) rfl rfl rfl .n) rfl u62) <| dr u6 <| k (apm (l := v1r6) (l2 := ([z19] : List Int)) (f := iV) 57 c22 rfl (fun _ => rfl) T.s95 rfl n57 u57 n1 (.t n62) q1 rfl u63) <| m (as_ (.t n63)) u6 <| e ?_
                        replace hm := sj hm
                        subst hm
                        have hm := hq18
                        exact ⟨(v1r6 ++ ([z19] : List Int)), hm, le [0, 1] (by decide) (.c (.e rfl rfl) (.c .a (.c .a (.c (.w n0) (.c (.e rfl rfl) (.c (.e rfl rfl) (.c (.w n1) (.c (.e rfl rfl) (.c .a (.c .a (.c .a (.c .a (.c .a (.c .a (.c .a (.c .a (.c .a (.c .a (.c .a (.c .a (.c .a (.c .a (.c .a (.c .a (.c .a (.c .a (.c .a (.c .a (.c .a (.c .a (.c .a (.c .a (.c .a (.c .a (.c .a (.c .a (.c .a (.c .a (.c .a (.c .a (.c .a (.c .a (.c .a (.c .a (.c .a (.c .a (.c .a (.c .a (.c .a (.c .a (.c .a (.c .a (.c .a (.c .a (.c .a (.c .a (.c .a (.c .a (.c .a (.c .a (.c .a (.c .a (.c .a (.c .a (.c .a (.c .a .n)))))))))))))))))))))))))))))))))))))))))))))))))))))))))))))))))) (.r n0 rfl (.r n1 rfl .n))⟩
                      ·
                        replace hm := cf h21 hm
                        refine skp ?_
                        replace hm := sj hm
                        subst hm
                        have hm := hq18
                        exact ⟨v1r6, hm, le [0, 1] (by decide) (.c (.e rfl rfl) (.c .a (.c .a (.c (.w n0) (.c (.e rfl rfl) (.c (.e rfl rfl) (.c (.w n1) (.c (.e rfl rfl) (.c .a (.c .a (.c .a (.c .a (.c .a (.c .a (.c .a (.c .a (.c .a (.c .a (.c .a (.c .a (.c .a (.c .a (.c .a (.c .a (.c .a (.c .a (.c .a (.c .a (.c .a (.c .a (.c .a (.c .a (.c .a (.c .a (.c .a (.c .a (.c .a (.c .a (.c .a (.c .a (.c .a (.c .a (.c .a (.c .a (.c .a (.c .a (.c .a (.c .a (.c .a (.c .a (.c .a (.c .a (.c .a (.c .a (.c .a (.c .a (.c .a (.c .a (.c .a (.c .a (.c .a (.c .a (.c .a (.c .a (.c .a (.c .a .n)))))))))))))))))))))))))))))))))))))))))))))))))))))))))))))))))) (.r n0 rfl (.r n1 rfl .n))⟩
                    ·
                      refine rg <| m (mv (.t n7)) u49 <| m (add (.t n49) (.i rfl)) u50 <| m (as_ (.t n50)) u7 <| e ?_
                      exact ⟨(i1 + 1, j5r6), hm, le [0, 1] (by decide) (.c (.e rfl rfl) (.c .a (.c .a (.c (.w n0) (.c (.e rfl rfl) (.c (.e rfl rfl) (.c (.w n1) (.c (.e (wi (by omega)) rfl) (.c .a (.c .a (.c .a (.c .a (.c .a (.c .a (.c .a (.c .a (.c .a (.c .a (.c .a (.c .a (.c .a (.c .a (.c .a (.c .a (.c .a (.c .a (.c .a (.c .a (.c .a (.c .a (.c .a (.c .a (.c .a (.c .a (.c .a (.c .a (.c .a (.c .a (.c .a (.c .a (.c .a (.c .a (.c .a (.c .a (.c .a (.c .a (.c .a (.c .a (.c .a (.c .a (.c .a (.c .a (.c .a (.c .a (.c .a (.c .a (.c .a (.c .a (.c .a (.c .a (.c .a (.c .a (.c .a (.c .a (.c .a (.c .a .n)))))))))))))))))))))))))))))))))))))))))))))))))))))))))))))))))) (.r n0 rfl (.r n1 rfl .n))⟩
                  ·
                    replace hm := cf h17 hm
                    have h17d := of_decide_eq_false h17
                    refine ex (x1 ?_)
                    replace hm := sj hm
                    subst hm
                    have hm := hq14
                    exact ⟨v1r6, hm, le [1] (by decide) (.c (.e rfl rfl) (.c .a (.c .a (.c .a (.c (.e rfl rfl) (.c .a (.c (.w n0) (.c .a (.c .a (.c .a (.c .a (.c .a (.c .a (.c .a (.c .a (.c .a (.c .a (.c .a (.c .a (.c .a (.c .a (.c .a (.c .a (.c .a (.c .a (.c .a (.c .a (.c .a (.c .a (.c .a (.c .a (.c .a (.c .a (.c .a (.c .a (.c .a (.c .a (.c .a (.c .a (.c .a (.c .a (.c .a (.c .a (.c .a (.c .a (.c .a (.c .a (.c .a (.c .a (.c .a (.c .a (.c .a (.c .a (.c .a (.c .a (.c .a (.c .a (.c .a (.c .a (.c .a (.c .a (.c .a (.c .a (.c .a (.c .a (.c .a .n)))))))))))))))))))))))))))))))))))))))))))))))))))))))))))))))))) (.r n1 rfl .n)⟩
                ·
                  refine rg <| m (mv (.t n6)) u64 <| m (as_ (.t n64)) u3 <| e ?_
                  replace hm := sj hm
                  subst hm
                  have hm := hq8
                  exact ⟨j4r6, hm, le [0] (by decide) (.c (.e rfl rfl) (.c .a (.c .a (.c (.w n0) (.c (.e rfl rfl) (.c .a (.c .a (.c .a (.c .a (.c .a (.c .a (.c .a (.c .a (.c .a (.c .a (.c .a (.c .a (.c .a (.c .a (.c .a (.c .a (.c .a (.c .a (.c .a (.c .a (.c .a (.c .a (.c .a (.c .a (.c .a (.c .a (.c .a (.c .a (.c .a (.c .a (.c .a (.c .a (.c .a (.c .a (.c .a (.c .a (.c .a (.c .a (.c .a (.c .a (.c .a (.c .a (.c .a (.c .a (.c .a (.c .a (.c .a (.c .a (.c .a (.c .a (.c .a (.c .a (.c .a (.c .a (.c .a (.c .a (.c .a (.c .a (.c .a (.c .a (.c .a .n)))))))))))))))))))))))))))))))))))))))))))))))))))))))))))))))))) (.r n0 rfl .n)⟩
              ·
                replace hm := cf h13 hm
                refine skp ?_
                replace hm := sj hm
                subst hm
                have hm := hq8
                exact ⟨v0_3r, hm, le [0] (by decide) (.c (.e rfl rfl) (.c .a (.c .a (.c (.w n0) (.c (.e rfl rfl) (.c .a (.c .a (.c .a (.c .a (.c .a (.c .a (.c .a (.c .a (.c .a (.c .a (.c .a (.c .a (.c .a (.c .a (.c .a (.c .a (.c .a (.c .a (.c .a (.c .a (.c .a (.c .a (.c .a (.c .a (.c .a (.c .a (.c .a (.c .a (.c .a (.c .a (.c .a (.c .a (.c .a (.c .a (.c .a (.c .a (.c .a (.c .a (.c .a (.c .a (.c .a (.c .a (.c .a (.c .a (.c .a (.c .a (.c .a (.c .a (.c .a (.c .a (.c .a (.c .a (.c .a (.c .a (.c .a (.c .a (.c .a (.c .a (.c .a (.c .a (.c .a .n)))))))))))))))))))))))))))))))))))))))))))))))))))))))))))))))))) (.r n0 rfl .n)⟩
        ·
          replace hm := sj hm
          subst hm
          have hm := hq5
          exact ⟨j2_3r, hm, le [0] (by decide) (.c (.e rfl rfl) (.c .a (.c .a (.c (.w n0) (.c (.e rfl rfl) (.c .a (.c .a (.c .a (.c .a (.c .a (.c .a (.c .a (.c .a (.c .a (.c .a (.c .a (.c .a (.c .a (.c .a (.c .a (.c .a (.c .a (.c .a (.c .a (.c .a (.c .a (.c .a (.c .a (.c .a (.c .a (.c .a (.c .a (.c .a (.c .a (.c .a (.c .a (.c .a (.c .a (.c .a (.c .a (.c .a (.c .a (.c .a (.c .a (.c .a (.c .a (.c .a (.c .a (.c .a (.c .a (.c .a (.c .a (.c .a (.c .a (.c .a (.c .a (.c .a (.c .a (.c .a (.c .a (.c .a (.c .a (.c .a (.c .a (.c .a (.c .a .n)))))))))))))))))))))))))))))))))))))))))))))))))))))))))))))))))) (.r n0 rfl .n)⟩
      ·
        refine rg <| m (mv (.t n4)) u13 <| m (add (.t n13) (.i rfl)) u14 <| m (as_ (.t n14)) u4 <| e ?_
        exact ⟨(i0 + 1, j1_3r), hm, le [0] (by decide) (.c (.e rfl rfl) (.c .a (.c .a (.c (.w n0) (.c (.e (wi (by omega)) rfl) (.c .a (.c .a (.c .a (.c .a (.c .a (.c .a (.c .a (.c .a (.c .a (.c .a (.c .a (.c .a (.c .a (.c .a (.c .a (.c .a (.c .a (.c .a (.c .a (.c .a (.c .a (.c .a (.c .a (.c .a (.c .a (.c .a (.c .a (.c .a (.c .a (.c .a (.c .a (.c .a (.c .a (.c .a (.c .a (.c .a (.c .a (.c .a (.c .a (.c .a (.c .a (.c .a (.c .a (.c .a (.c .a (.c .a (.c .a (.c .a (.c .a (.c .a (.c .a (.c .a (.c .a (.c .a (.c .a (.c .a (.c .a (.c .a (.c .a (.c .a (.c .a .n)))))))))))))))))))))))))))))))))))))))))))))))))))))))))))))))))) (.r n0 rfl .n)⟩
    ·
      replace hm := cf h4 hm
      have h4d := of_decide_eq_false h4
      refine ex (x1 ?_)
      replace hm := sj hm
      subst hm
      have hm := hq1
      exact ⟨v0_3r, hm, le [0] (by decide) (.c .a (.c .a (.c .a (.c (.w n0) (.c .a (.c .a (.c .a (.c .a (.c .a (.c .a (.c .a (.c .a (.c .a (.c .a (.c .a (.c .a (.c .a (.c .a (.c .a (.c .a (.c .a (.c .a (.c .a (.c .a (.c .a (.c .a (.c .a (.c .a (.c .a (.c .a (.c .a (.c .a (.c .a (.c .a (.c .a (.c .a (.c .a (.c .a (.c .a (.c .a (.c .a (.c .a (.c .a (.c .a (.c .a (.c .a (.c .a (.c .a (.c .a (.c .a (.c .a (.c .a (.c .a (.c .a (.c .a (.c .a (.c .a (.c .a (.c .a (.c .a (.c .a (.c .a (.c .a (.c .a (.c .a (.c .a .n)))))))))))))))))))))))))))))))))))))))))))))))))))))))))))))))))) (.r n0 rfl .n)⟩
  ·
    refine sr <| m (mv (.t n3)) u65 <| m (as_ (.t n65)) u2 <| e ?_
    replace hm := sj hm
    subst hm
    exact rt (ret1 (.t n2 (.o n0) .n) rfl)

theorem tot_spec_DevicesOf (log_ : List D.LogEntry) (hp0 : log_.length ≤ 34359738368) : Spec Tryz.prog G0 107 [.slice 6 (log_.map D.LogEntry.V)] (fun v => v = .slice 1 ((devicesOfF log_).map iV)) := sp_spec_DevicesOf log_ _ (t_spec_DevicesOf log_ hp0)

theorem sp_impl_has (l_ : List Int) (n_ : Int) (r : Bool) (hm : m_impl_has l_ n_ = some r) : Spec Tryz.prog G0 108 [.slice 1 (l_.map iV), .int .i64 n_] (fun v => v = .bool r) := by
  rw [m_impl_has] at hm
  refine enter (l := [.tmp 4]) Tryz.func108 rfl Tryz.ntmps108 rfl T.en108 fun E => ?_
  simp only [List.length_cons, List.length_nil, List.replicate_succ, List.replicate_zero, List.cons_append, List.nil_append, Nat.reduceAdd, Nat.reduceSub]
  refine sr <| m (as_ .b) u4 <| e ?_
  refine sq ?_
  refine sr <| m (mv (.t n0)) u7 <| m (lenm (l := l_) (f := iV) T.s95 (.t n7)) u8 <| m (mv (.i rfl)) u9 <| e ?_
  refine jmx hm (fun _ : Unit => ⟨[.any, .any, .any, .any, .any, .any, .any, .any, .any, .any, .any, .any, .any, .any, .any, .any, .any], []⟩) (fun _ hm hq1 => ?_) (fun _ hm => ?_)
  ·
    refine bk ?_
    refine lpf (m := m_impl_has_l0 l_ n_) hm (fun i0 : Nat => ⟨[.any, .int .i64 n_, .any, .any, .any, .any, .any, .slice 1 (l_.map iV), .int .i64 (l_.length : Int), .int .i64 (i0 : Int), .any, .any, .any, .any, .any, .any, .any], []⟩) (fun _ => rfl) (le [] (by decide) (.c .a (.c (.e rfl rfl) (.c .a (.c .a (.c .a (.c .a (.c .a (.c (.e rfl rfl) (.c (.e rfl rfl) (.c (.e rfl rfl) (.c .a (.c .a (.c .a (.c .a (.c .a (.c .a (.c .a .n))))))))))))))))) .n) ?_
    rintro f i0 hm
    rw [m_impl_has_l0] at hm
    refine sr <| m (lss (.t n9) (.t n8)) u10 <| e ?_
    refine rng n8 fun _ ra2 => ?_
    replace ra2 := (show (_ : Int) ≤ 9223372036854775807 from ra2)
    refine sq ?_
    refine cnd n10 (fun h3 => ?_) (fun h3 => ?_)
    ·
      replace hm := ct h3 hm
      have h3d := of_decide_eq_true h3
      refine skp ?_
      refine sq ?_
      refine bk ?_
      obtain ⟨z4, e5, hm⟩ := bd_some hm
      refine sr <| m (ixq (f := iV) e5 T.s95 (.t n7) (.t n9)) u11 <| m (lde T.o3 n0 (.t n11)) u12 <| m (as_ (.t n12)) u6 <| e ?_
      refine sr <| m (mv (.t n6)) u13 <| m (mv (.t n1)) u14 <| m (eql (.t n13) (.t n14)) u15 <| e ?_
      refine cnd n15 (fun h6 => ?_) (fun h6 => ?_)
      ·
        replace hm := ct h6 hm
        refine sr <| m (as_ .b) u4 <| e ?_
        replace hm := inl1 hm hq1
        subst hm
        exact rt (ret1 (.t n4 (.p rfl) .n) rfl)
      ·
        replace hm := cf h6 hm
        refine skp ?_
        refine rg <| m (add (.t n9) (.i rfl)) u16 <| m (mv (.t n16)) u9 <| e ?_
        exact ⟨i0 + 1, hm, le [] (by decide) (.c .a (.c (.e rfl rfl) (.c .a (.c .a (.c .a (.c .a (.c .a (.c (.e rfl rfl) (.c (.e rfl rfl) (.c (.e (wi (by omega)) rfl) (.c .a (.c .a (.c .a (.c .a (.c .a (.c .a (.c .a .n))))))))))))))))) .n⟩
    ·
      replace hm := cf h3 hm
      have h3d := of_decide_eq_false h3
      refine ex (x1 ?_)
      replace hm := inr1 hm hq1
      exact ⟨(), hm, le [] (by decide) (.c .a (.c .a (.c .a (.c .a (.c .a (.c .a (.c .a (.c .a (.c .a (.c .a (.c .a (.c .a (.c .a (.c .a (.c .a (.c .a (.c .a .n))))))))))))))))) .n⟩
  ·
    refine sr <| m (as_ .b) u4 <| e ?_
    replace hm := sj hm
    subst hm
    exact rt (ret1 (.t n4 (.p rfl) .n) rfl)

theorem tot_impl_has (l_ : List Int) (n_ : Int)  : Spec Tryz.prog G0 108 [.slice 1 (l_.map iV), .int .i64 n_] (fun v => v = .bool (hasF l_ n_)) := sp_impl_has l_ n_ _ (t_impl_has l_ n_)

theorem sp_impl_DevicesOf (log_ : List D.LogEntry) (r : (List Int)) (hm : m_impl_DevicesOf log_ = some r) : Spec Tryz.prog G0 109 [.slice 6 (log_.map D.LogEntry.V)] (fun v => v = .slice 1 (r.map iV)) := by
  rw [m_impl_DevicesOf] at hm
  refine enter (l := [.tmp 2]) Tryz.func109 rfl Tryz.ntmps109 rfl T.en109 fun E => ?_
  simp only [List.length_cons, List.length_nil, List.replicate_succ, List.replicate_zero, List.cons_append, List.nil_append, Nat.reduceAdd, Nat.reduceSub]
  refine sr <| m (as_ .n) u2 <| e ?_
  refine sr <| k (bom ([] : List Int) iV T.s95 rfl rfl .n rfl s0 u9) <| m (as_ (.t n9)) u3 <| e ?_
  refine sq ?_
  refine sr <| m (mv (.t n0)) u10 <| m (lenm (l := log_) (f := D.LogEntry.V) T.s43 (.t n10)) u11 <| m (mv (.i rfl)) u12 <| e ?_
  refine jmb hm (fun j0_3r : List Int => ⟨[.any, .any, .any, .own 0, .any, .any, .any, .any, .any, .any, .any, .any, .any, .any, .any, .any, .any, .any, .any, .any, .any, .any, .any, .any, .any, .any, .any, .any, .any, .any, .any, .any, .any, .any, .any, .any, .any, .any, .any, .any, .any, .any, .any, .any, .any, .any, .any, .any, .any, .any, .any], [.row 3 1 (j0_3r.map iV)]⟩) (fun _ hm hq1 => ?_) (fun j0_3r hm => ?_)
  ·
    refine bk ?_
    refine lpf (m := m_impl_DevicesOf_l0 log_) hm (fun yy2_ : Nat × (List Int) => ⟨[.any, .any, .any, .own 0, .any, .any, .any, .any, .any, .any, .slice 6 (log_.map D.LogEntry.V), .int .i64 (log_.length : Int), .int .i64 (yy2_.1 : Int), .any, .any, .any, .any, .any, .any, .any, .any, .any, .any, .any, .any, .any, .any, .any, .any, .any, .any, .any, .any, .any, .any, .any, .any, .any, .any, .any, .any, .any, .any, .any, .any, .any, .any, .any, .any, .any, .any], [.row 3 1 (yy2_.2.map iV)]⟩) (fun _ => rfl) (le [0] (by decide) (.c .a (.c .a (.c .a (.c (.w n0) (.c .a (.c .a (.c .a (.c .a (.c .a (.c .a (.c (.e rfl rfl) (.c (.e rfl rfl) (.c (.e rfl rfl) (.c .a (.c .a (.c .a (.c .a (.c .a (.c .a (.c .a (.c .a (.c .a (.c .a (.c .a (.c .a (.c .a (.c .a (.c .a (.c .a (.c .a (.c .a (.c .a (.c .a (.c .a (.c .a (.c .a (.c .a (.c .a (.c .a (.c .a (.c .a (.c .a (.c .a (.c .a (.c .a (.c .a (.c .a (.c .a (.c .a (.c .a (.c .a .n))))))))))))))))))))))))))))))))))))))))))))))))))) (.r n0 rfl .n)) ?_
    rintro f ⟨i0, v0_3r⟩ hm
    rw [m_impl_DevicesOf_l0] at hm
    dsimp only at hm ⊢
    refine sr <| m (lss (.t n12) (.t n11)) u13 <| e ?_
    refine rng n11 fun _ ra3 => ?_
    replace ra3 := (show (_ : Int) ≤ 9223372036854775807 from ra3)
    refine sq ?_
    refine cnd n13 (fun h4 => ?_) (fun h4 => ?_)
    ·
      replace hm := ct h4 hm
      have h4d := of_decide_eq_true h4
      refine skp ?_
      refine sq ?_
      refine jmb hm (fun j1_3r : List Int => ⟨[.any, .any, .any, .own 0, .any, .any, .any, .any, .any, .any, .slice 6 (log_.map D.LogEntry.V), .int .i64 (log_.length : Int), .int .i64 (i0 : Int), .any, .any, .any, .any, .any, .any, .any, .any, .any, .any, .any, .any, .any, .any, .any, .any, .any, .any, .any, .any, .any, .any, .any, .any, .any, .any, .any, .any, .any, .any, .any, .any, .any, .any, .any, .any, .any, .any], [.row 3 1 (j1_3r.map iV)]⟩) (fun _ hm hq5 => ?_) (fun j1_3r hm => ?_)
      ·
        refine bk ?_
        obtain ⟨z6, e7, hm⟩ := bd_some hm
        refine sr <| m (ixq (f := D.LogEntry.V) e7 T.s43 (.t n10) (.t n12)) u14 <| m (lae T.a106 k6 (.t n14)) u15 <| k (al T.z106 s1 u5) <| k (sta T.a106 rfl rfl n1 (.z (.z (.z (.z (.z (.z .n)))))) q1 (.t n5) (.t n15)) <| e ?_
        refine sr <| m (fab 1 rfl T.f106_1 (.t n5)) u16 <| m (ldb T.o3 n1 n1 (.t n16)) u17 <| e ?_
        refine jmb hm (fun j2_3r : List Int => ⟨[.any, .any, .any, .own 0, .any, .any, .any, .any, .any, .any, .slice 6 (log_.map D.LogEntry.V), .int .i64 (log_.length : Int), .int .i64 (i0 : Int), .any, .any, .any, .any, .any, .any, .any, .any, .any, .any, .any, .any, .any, .any, .any, .any, .any, .any, .any, .any, .any, .any, .any, .any, .any, .any, .any, .any, .any, .any, .any, .any, .any, .any, .any, .any, .any, .any], [.row 3 1 (j2_3r.map iV)]⟩) (fun _ hm hq8 => ?_) (fun j2_3r hm => ?_)
        ·
          refine bk ?_
          refine sr <| m (eql (.t n17) (.i rfl)) u19 <| m (as_ (.t n19)) u18 <| e ?_
          refine cnd n18 (fun h9 => ?_) (fun h9 => ?_)
          ·
            replace hm := ct h9 hm
            refine sr <| m (mv (.t n3)) u20 <| m (fab 2 rfl T.f106_2 (.t n5)) u21 <| m (ldb T.o3 n1 n2 (.t n21)) u22 <| c (callm (tot_impl_has v0_3r z6.Device) rfl (.c (.t n20) (.o n0) (.c (.t n22) (.p rfl) .n))) u23 <| m (not_ (.t n23)) u24 <| e ?_
            refine cnd n24 (fun h10 => ?_) (fun h10 => ?_)
            ·
              replace hm := ct h10 hm
              obtain ⟨c11, hm⟩ := gd_some hm
              refine rg <| m (mv (.t n3)) u25 <| m (fab 2 rfl T.f106_2 (.t n5)) u26 <| m (ldb T.o3 n1 n2 (.t n26)) u27 <| k (bsm ([z6.Device] : List Int) iV T.s95 rfl rfl (.c (.t n27) rfl rfl rfl .n) rfl u28) <| dr u3 <| dr u20 <| k (apm (l := v0_3r) (l2 := ([z6.Device] : List Int)) (f := iV) 25 c11 rfl (fun _ => rfl) T.s95 rfl n25 u25 n0 (.t n28) q0 rfl u29) <| m (as_ (.t n29)) u3 <| e ?_
              replace hm := sj hm
              subst hm
              have hm := hq8
              exact ⟨(v0_3r ++ ([z6.Device] : List Int)), hm, le [0] (by decide) (.c .a (.c .a (.c .a (.c (.w n0) (.c .a (.c .a (.c .a (.c .a (.c .a (.c .a (.c (.e rfl rfl) (.c (.e rfl rfl) (.c (.e rfl rfl) (.c .a (.c .a (.c .a (.c .a (.c .a (.c .a (.c .a (.c .a (.c .a (.c .a (.c .a (.c .a (.c .a (.c .a (.c .a (.c .a (.c .a (.c .a (.c .a (.c .a (.c .a (.c .a (.c .a (.c .a (.c .a (.c .a (.c .a (.c .a (.c .a (.c .a (.c .a (.c .a (.c .a (.c .a (.c .a (.c .a (.c .a (.c .a .n))))))))))))))))))))))))))))))))))))))))))))))))))) (.r n0 rfl .n)⟩
            ·
              replace hm := cf h10 hm
              refine skp ?_
              replace hm := sj hm
              subst hm
              have hm := hq8
              exact ⟨v0_3r, hm, le [0] (by decide) (.c .a (.c .a (.c .a (.c (.w n0) (.c .a (.c .a (.c .a (.c .a (.c .a (.c .a (.c (.e rfl rfl) (.c (.e rfl rfl) (.c (.e rfl rfl) (.c .a (.c .a (.c .a (.c .a (.c .a (.c .a (.c .a (.c .a (.c .a (.c .a (.c .a (.c .a (.c .a (.c .a (.c .a (.c .a (.c .a (.c .a (.c .a (.c .a (.c .a (.c .a (.c .a (.c .a (.c .a (.c .a (.c .a (.c .a (.c .a (.c .a (.c .a (.c .a (.c .a (.c .a (.c .a (.c .a (.c .a (.c .a .n))))))))))))))))))))))))))))))))))))))))))))))))))) (.r n0 rfl .n)⟩
          ·
            replace hm := cf h9 hm
            refine sr <| m (eql (.t n17) (.i rfl)) u31 <| m (as_ (.t n31)) u30 <| e ?_
            refine cnd n30 (fun h12 => ?_) (fun h12 => ?_)
            ·
              replace hm := ct h12 hm
              refine sr <| k (bom ([] : List Int) iV T.s95 rfl rfl .n rfl s2 u32) <| m (as_ (.t n32)) u6 <| e ?_
              refine sq ?_
              refine sr <| m (mv (.t n3)) u33 <| m (lenom (l := v0_3r) (f := iV) T.s95 n0 (.t n33)) u34 <| m (mv (.i rfl)) u35 <| e ?_
              refine jmb hm (fun j3r7 : List Int => ⟨[.any, .any, .any, .any, .any, .any, .own 0, .any, .any, .any, .slice 6 (log_.map D.LogEntry.V), .int .i64 (log_.length : Int), .int .i64 (i0 : Int), .any, .any, .any, .any, .any, .any, .any, .any, .any, .any, .any, .any, .any, .any, .any, .any, .any, .any, .any, .any, .any, .any, .any, .any, .any, .any, .any, .any, .any, .any, .any, .any, .any, .any, .any, .any, .any, .any], [.row 3 1 (j3r7.map iV)]⟩) (fun _ hm hq13 => ?_) (fun j3r7 hm => ?_)
              ·
                refine bk ?_
                refine lpf (m := m_impl_DevicesOf_l1 v0_3r z6) hm (fun yy14_ : Nat × (List Int) => ⟨[.any, .any, .any, .any, .any, .box 1 0, .own 2, .any, .any, .any, .slice 6 (log_.map D.LogEntry.V), .int .i64 (log_.length : Int), .int .i64 (i0 : Int), .any, .any, .any, .any, .any, .any, .any, .any, .any, .any, .any, .any, .any, .any, .any, .any, .any, .any, .any, .any, .own 0, .int .i64 (v0_3r.length : Int), .int .i64 (yy14_.1 : Int), .any, .any, .any, .any, .any, .any, .any, .any, .any, .any, .any, .any, .any, .any, .any], [.row 3 1 (v0_3r.map iV), .box 106 [.int .i64 z6.Index, .int .i64 z6.Kind, .int .i64 z6.Device, .int .i64 z6.By, .int .i64 z6.Previous, .int .i64 z6.Signature], .row 3 1 (yy14_.2.map iV)]⟩) (fun _ => rfl) (le [0, 1, 2] (by decide) (.c .a (.c .a (.c .a (.c .a (.c .a (.c (.b n1) (.c (.w n2) (.c .a (.c .a (.c .a (.c (.e rfl rfl) (.c (.e rfl rfl) (.c (.e rfl rfl) (.c .a (.c .a (.c .a (.c .a (.c .a (.c .a (.c .a (.c .a (.c .a (.c .a (.c .a (.c .a (.c .a (.c .a (.c .a (.c .a (.c .a (.c .a (.c .a (.c .a (.c (.w n0) (.c (.e rfl rfl) (.c (.e rfl rfl) (.c .a (.c .a (.c .a (.c .a (.c .a (.c .a (.c .a (.c .a (.c .a (.c .a (.c .a (.c .a (.c .a (.c .a (.c .a .n))))))))))))))))))))))))))))))))))))))))))))))))))) (.r n0 rfl (.b n1 (.c (.e rfl rfl) (.c (.e rfl rfl) (.c (.e rfl rfl) (.c (.e rfl rfl) (.c (.e rfl rfl) (.c (.e rfl rfl) .n)))))) (.r n2 rfl .n)))) ?_
                rintro f ⟨i1, v1r7⟩ hm
                rw [m_impl_DevicesOf_l1] at hm
                dsimp only at hm ⊢
                refine sr <| m (lss (.t n35) (.t n34)) u36 <| e ?_
                refine rng n34 fun _ ra15 => ?_
                replace ra15 := (show (_ : Int) ≤ 9223372036854775807 from ra15)
                refine sq ?_
                refine cnd n36 (fun h16 => ?_) (fun h16 => ?_)
                ·
                  replace hm := ct h16 hm
                  have h16d := of_decide_eq_true h16
                  refine skp ?_
                  refine sq ?_
                  refine jmb hm (fun j4r7 : List Int => ⟨[.any, .any, .any, .any, .any, .box 1 0, .own 2, .any, .any, .any, .slice 6 (log_.map D.LogEntry.V), .int .i64 (log_.length : Int), .int .i64 (i0 : Int), .any, .any, .any, .any, .any, .any, .any, .any, .any, .any, .any, .any, .any, .any, .any, .any, .any, .any, .any, .any, .own 0, .int .i64 (v0_3r.length : Int), .int .i64 (i1 : Int), .any, .any, .any, .any, .any, .any, .any, .any, .any, .any, .any, .any, .any, .any, .any], [.row 3 1 (v0_3r.map iV), .box 106 [.int .i64 z6.Index, .int .i64 z6.Kind, .int .i64 z6.Device, .int .i64 z6.By, .int .i64 z6.Previous, .int .i64 z6.Signature], .row 3 1 (j4r7.map iV)]⟩) (fun _ hm hq17 => ?_) (fun j4r7 hm => ?_)
                  ·
                    refine bk ?_
                    obtain ⟨z18, e19, hm⟩ := bd_some hm
                    refine sr <| m (oixq (f := iV) e19 T.s95 n0 (.t n33) (.t n35)) u37 <| m (ldm1 0 e19 T.o3 n0 rfl n0 (.t n37)) u38 <| m (as_ (.t n38)) u8 <| e ?_
                    refine sr <| m (mv (.t n8)) u39 <| m (fab 2 rfl T.f106_2 (.t n5)) u40 <| m (ldb T.o3 n1 n2 (.t n40)) u41 <| m (neq (.t n39) (.t n41)) u42 <| e ?_
                    refine cnd n42 (fun h20 => ?_) (fun h20 => ?_)
                    ·
                      replace hm := ct h20 hm
                      obtain ⟨c21, hm⟩ := gd_some hm
                      refine rg <| m (mv (.t n6)) u43 <| m (mv (.t n8)) u44 <| k (bsm ([z18] : List Int) iV T.s95 rfl rfl (.c (.t n44) rfl rfl rfl .n) rfl u45) <| dr u6 <| k (apm (l := v1r7) (l2 := ([z18] : List Int)) (f := iV) 43 c21 rfl (fun _ => rfl) T.s95 rfl n43 u43 n2 (.t n45) q2 rfl u46) <| m (as_ (.t n46)) u6 <| e ?_
                      replace hm := sj hm
                      subst hm
                      have hm := hq17
                      exact ⟨(v1r7 ++ ([z18] : List Int)), hm, le [0, 1, 2] (by decide) (.c .a (.c .a (.c .a (.c .a (.c .a (.c (.b n1) (.c (.w n2) (.c .a (.c .a (.c .a (.c (.e rfl rfl) (.c (.e rfl rfl) (.c (.e rfl rfl) (.c .a (.c .a (.c .a (.c .a (.c .a (.c .a (.c .a (.c .a (.c .a (.c .a (.c .a (.c .a (.c .a (.c .a (.c .a (.c .a (.c .a (.c .a (.c .a (.c .a (.c (.w n0) (.c (.e rfl rfl) (.c (.e rfl rfl) (.c .a (.c .a (.c .a (.c .a (.c .a (.c .a (.c .a (.c .a (.c .a (.c .a (.c .a (.c .a (.c .a (.c .a (.c .a .n))))))))))))))))))))))))))))))))))))))))))))))))))) (.r n0 rfl (.b n1 (.c (.e rfl rfl) (.c (.e rfl rfl) (.c (.e rfl rfl) (.c (.e rfl rfl) (.c (.e rfl rfl) (.c (.e rfl rfl) .n)))))) (.r n2 rfl .n)))⟩
                    ·
                      replace hm := cf h20 hm
                      refine skp ?_
                      replace hm := sj hm
                      subst hm
                      have hm := hq17
                      exact ⟨v1r7, hm, le [0, 1, 2] (by decide) (.c .a (.c .a (.c .a (.c .a (.c .a (.c (.b n1) (.c (.w n2) (.c .a (.c .a (.c .a (.c (.e rfl rfl) (.c (.e rfl rfl) (.c (.e rfl rfl) (.c .a (.c .a (.c .a (.c .a (.c .a (.c .a (.c .a (.c .a (.c .a (.c .a (.c .a (.c .a (.c .a (.c .a (.c .a (.c .a (.c .a (.c .a (.c .a (.c .a (.c (.w n0) (.c (.e rfl rfl) (.c (.e rfl rfl) (.c .a (.c .a (.c .a (.c .a (.c .a (.c .a (.c .a (.c .a (.c .a (.c .a (.c .a (.c .a (.c .a (.c .a (.c .a .n))))))))))))))))))))))))))))))))))))))))))))))))))) (.r n0 rfl (.b n1 (.c (.e rfl rfl) (.c (.e rfl rfl) (.c (.e rfl rfl) (.c (.e rfl rfl) (.c (.e rfl rfl) (.c (.e rfl rfl) .n)))))) (.r n2 rfl .n)))⟩
                  ·
                    refine rg <| m (add (.t n35) (.i rfl)) u47 <| m (mv (.t n47)) u35 <| e ?_
                    exact ⟨(i1 + 1, j4r7), hm, le [0, 1, 2] (by decide) (.c .a (.c .a (.c .a (.c .a (.c .a (.c (.b n1) (.c (.w n2) (.c .a (.c .a (.c .a (.c (.e rfl rfl) (.c (.e rfl rfl) (.c (.e rfl rfl) (.c .a (.c .a (.c .a (.c .a (.c .a (.c .a (.c .a (.c .a (.c .a (.c .a (.c .a (.c .a (.c .a (.c .a (.c .a (.c .a (.c .a (.c .a (.c .a (.c .a (.c (.w n0) (.c (.e rfl rfl) (.c (.e (wi (by omega)) rfl) (.c .a (.c .a (.c .a (.c .a (.c .a (.c .a (.c .a (.c .a (.c .a (.c .a (.c .a (.c .a (.c .a (.c .a (.c .a .n))))))))))))))))))))))))))))))))))))))))))))))))))) (.r n0 rfl (.b n1 (.c (.e rfl rfl) (.c (.e rfl rfl) (.c (.e rfl rfl) (.c (.e rfl rfl) (.c (.e rfl rfl) (.c (.e rfl rfl) .n)))))) (.r n2 rfl .n)))⟩
                ·
                  replace hm := cf h16 hm
                  have h16d := of_decide_eq_false h16
                  refine ex (x1 ?_)
                  replace hm := sj hm
                  subst hm
                  have hm := hq13
                  exact ⟨v1r7, hm, le [2] (by decide) (.c .a (.c .a (.c .a (.c .a (.c .a (.c .a (.c (.w n0) (.c .a (.c .a (.c .a (.c (.e rfl rfl) (.c (.e rfl rfl) (.c (.e rfl rfl) (.c .a (.c .a (.c .a (.c .a (.c .a (.c .a (.c .a (.c .a (.c .a (.c .a (.c .a (.c .a (.c .a (.c .a (.c .a (.c .a (.c .a (.c .a (.c .a (.c .a (.c .a (.c .a (.c .a (.c .a (.c .a (.c .a (.c .a (.c .a (.c .a (.c .a (.c .a (.c .a (.c .a (.c .a (.c .a (.c .a (.c .a (.c .a .n))))))))))))))))))))))))))))))))))))))))))))))))))) (.r n2 rfl .n)⟩
              ·
                refine rg <| m (mv (.t n6)) u48 <| m (as_ (.t n48)) u3 <| e ?_
                replace hm := sj hm
                subst hm
                have hm := hq8
                exact ⟨j3r7, hm, le [0] (by decide) (.c .a (.c .a (.c .a (.c (.w n0) (.c .a (.c .a (.c .a (.c .a (.c .a (.c .a (.c (.e rfl rfl) (.c (.e rfl rfl) (.c (.e rfl rfl) (.c .a (.c .a (.c .a (.c .a (.c .a (.c .a (.c .a (.c .a (.c .a (.c .a (.c .a (.c .a (.c .a (.c .a (.c .a (.c .a (.c .a (.c .a (.c .a (.c .a (.c .a (.c .a (.c .a (.c .a (.c .a (.c .a (.c .a (.c .a (.c .a (.c .a (.c .a (.c .a (.c .a (.c .a (.c .a (.c .a (.c .a (.c .a .n))))))))))))))))))))))))))))))))))))))))))))))))))) (.r n0 rfl .n)⟩
            ·
              replace hm := cf h12 hm
              refine skp ?_
              replace hm := sj hm
              subst hm
              have hm := hq8
              exact ⟨v0_3r, hm, le [0] (by decide) (.c .a (.c .a (.c .a (.c (.w n0) (.c .a (.c .a (.c .a (.c .a (.c .a (.c .a (.c (.e rfl rfl) (.c (.e rfl rfl) (.c (.e rfl rfl) (.c .a (.c .a (.c .a (.c .a (.c .a (.c .a (.c .a (.c .a (.c .a (.c .a (.c .a (.c .a (.c .a (.c .a (.c .a (.c .a (.c .a (.c .a (.c .a (.c .a (.c .a (.c .a (.c .a (.c .a (.c .a (.c .a (.c .a (.c .a (.c .a (.c .a (.c .a (.c .a (.c .a (.c .a (.c .a (.c .a (.c .a (.c .a .n))))))))))))))))))))))))))))))))))))))))))))))))))) (.r n0 rfl .n)⟩
        ·
          replace hm := sj hm
          subst hm
          have hm := hq5
          exact ⟨j2_3r, hm, le [0] (by decide) (.c .a (.c .a (.c .a (.c (.w n0) (.c .a (.c .a (.c .a (.c .a (.c .a (.c .a (.c (.e rfl rfl) (.c (.e rfl rfl) (.c (.e rfl rfl) (.c .a (.c .a (.c .a (.c .a (.c .a (.c .a (.c .a (.c .a (.c .a (.c .a (.c .a (.c .a (.c .a (.c .a (.c .a (.c .a (.c .a (.c .a (.c .a (.c .a (.c .a (.c .a (.c .a (.c .a (.c .a (.c .a (.c .a (.c .a (.c .a (.c .a (.c .a (.c .a (.c .a (.c .a (.c .a (.c .a (.c .a (.c .a .n))))))))))))))))))))))))))))))))))))))))))))))))))) (.r n0 rfl .n)⟩
      ·
        refine rg <| m (add (.t n12) (.i rfl)) u49 <| m (mv (.t n49)) u12 <| e ?_
        exact ⟨(i0 + 1, j1_3r), hm, le [0] (by decide) (.c .a (.c .a (.c .a (.c (.w n0) (.c .a (.c .a (.c .a (.c .a (.c .a (.c .a (.c (.e rfl rfl) (.c (.e rfl rfl) (.c (.e (wi (by omega)) rfl) (.c .a (.c .a (.c .a (.c .a (.c .a (.c .a (.c .a (.c .a (.c .a (.c .a (.c .a (.c .a (.c .a (.c .a (.c .a (.c .a (.c .a (.c .a (.c .a (.c .a (.c .a (.c .a (.c .a (.c .a (.c .a (.c .a (.c .a (.c .a (.c .a (.c .a (.c .a (.c .a (.c .a (.c .a (.c .a (.c .a (.c .a (.c .a .n))))))))))))))))))))))))))))))))))))))))))))))))))) (.r n0 rfl .n)⟩
    ·
      replace hm := cf h4 hm
      have h4d := of_decide_eq_false h4
      refine ex (x1 ?_)
      replace hm := sj hm
      subst hm
      have hm := hq1
      exact ⟨v0_3r, hm, le [0] (by decide) (.c .a (.c .a (.c .a (.c (.w n0) (.c .a (.c .a (.c .a (.c .a (.c .a (.c .a (.c .a (.c .a (.c .a (.c .a (.c .a (.c .a (.c .a (.c .a (.c .a (.c .a (.c .a (.c .a (.c .a (.c .a (.c .a (.c .a (.c .a (.c .a (.c .a (.c .a (.c .a (.c .a (.c .a (.c .a (.c .a (.c .a (.c .a (.c .a (.c .a (.c .a (.c .a (.c .a (.c .a (.c .a (.c .a (.c .a (.c .a (.c .a (.c .a (.c .a (.c .a .n))))))))))))))))))))))))))))))))))))))))))))))))))) (.r n0 rfl .n)⟩
  ·
    refine sr <| m (mv (.t n3)) u50 <| m (as_ (.t n50)) u2 <| e ?_
    replace hm := sj hm
    subst hm
    exact rt (ret1 (.t n2 (.o n0) .n) rfl)

theorem tot_impl_DevicesOf (log_ : List D.LogEntry) (hp0 : log_.length ≤ 34359738368) : Spec Tryz.prog G0 109 [.slice 6 (log_.map D.LogEntry.V)] (fun v => v = .slice 1 ((devicesOfF log_).map iV)) := sp_impl_DevicesOf log_ _ (t_impl_DevicesOf log_ hp0)

theorem sp_spec_InList (w_ : D.World) (device_ : Int) (r : Bool) (hm : m_spec_InList w_ device_ = some r) : Spec Tryz.prog G0 68 [.agg (D.World.V w_), .int .i64 device_] (fun v => v = .bool r) := by
  rw [m_spec_InList] at hm
  refine enter (l := [.tmp 4]) Tryz.func68 rfl Tryz.ntmps68 rfl T.en68 fun E => ?_
  simp only [List.length_cons, List.length_nil, List.replicate_succ, List.replicate_zero, List.cons_append, List.nil_append, Nat.reduceAdd, Nat.reduceSub]
  refine sr <| k (bx rfl s0 u2 (.t n0)) <| m (as_ .b) u4 <| e ?_
  refine sd none [(0, true), (1, true), (2, true), (3, true), (4, true), (5, false), (6, true), (7, true), (8, true), (9, true), (11, true), (12, true), (13, true), (14, true), (15, true), (16, true), (10, false), (17, false), (18, false), (19, true), (20, true)] T.mix (by kernel_rfl) <| rob hm (fun j0_4 : Bool => ⟨[.any, .any, .any, .any, .bool j0_4, .any, .any, .any, .any, .any, .any, .any, .any, .any, .any, .any, .any, .any, .any, .any, .any, .any, .any, .any, .any], []⟩) (fun _ hm hq1 => ?_) (fun j0_4 hm => ?_)
  ·
    refine om n0 (mv (.t n1)) u5 <| om n1 (fab 2 rfl T.f57_2 (.t n2)) u6 <| om n2 (ldb T.o42 n0 n2 (.t n6)) u7 <| om n3 (lenm (l := w_.Devices) (f := D.Device.V) T.s42 (.t n7)) u8 <| om n4 (sub (.t n8) (.i rfl)) u9 <| oc n5 (call (tot_spec_l1In device_ (0 : Int) (IntKind.i64.wrap ((w_.Devices.length : Int) - (1 : Int)))) (.c (.t n5) rfl (.c (.i rfl) rfl (.c (.t n9) rfl .n)))) u10 <| om n6 (mv (.t n10)) u11 <| osp n11 u11 u11 (fun h2 => ?_) (fun h2 => ?_)
    ·
      replace hm := ct h2 hm
      obtain ⟨z3, e4, hm⟩ := bd_some hm
      obtain ⟨c5, hm⟩ := gd_some hm
      refine omg n7 n6 rfl n11 (fab 4 rfl T.f57_4 (.t n2)) u12 <| omg n8 n6 rfl n11 (fab 4 rfl T.f49_0 (.t n12)) u13 <| omg n9 n6 rfl n11 (ldb T.o43 n0 n4 (.t n13)) u14 <| omg n11 n6 rfl n11 (fab 2 rfl T.f57_2 (.t n2)) u16 <| omg n12 n6 rfl n11 (ldb T.o42 n0 n2 (.t n16)) u17 <| omg n13 n6 rfl n11 (mv (.t n1)) u18 <| omg n14 n6 rfl n11 (ixq (f := D.Device.V) e4 T.s42 (.t n17) (.t n18)) u19 <| omg n15 n6 rfl n11 (fae T.f104_0 d0 (.t n19)) u20 <| omg n16 n6 rfl n11 (lae T.a99 k4 (.t n20)) u21 <| ocg n10 n6 rfl n11 (call (tot_spec_DevicesOf w_.Cloud.Log c5) (.c (.t n14) rfl .n)) u15 <| ocg n17 n6 rfl n11 (call (tot_spec_DevicePublic z3.Store) (.c (.t n21) rfl .n)) u22 <| ocg n18 n6 rfl n11 (call (tot_spec_l19Has (devicesOfF w_.Cloud.Log) (devPubF z3.Store)) (.c (.t n15) rfl (.c (.t n22) rfl .n))) u23 <| om n19 (pkt (.t n11) (.t n23)) u24 <| om n20 (as_ (.t n24)) u4 <| oe ?_
      replace hm := sj hm
      subst hm
      have hm := hq1
      exact ⟨(hasF (devicesOfF w_.Cloud.Log) (devPubF z3.Store)), hm, le [] (by decide) (.c .a (.c .a (.c .a (.c .a (.c (.e rfl rfl) (.c .a (.c .a (.c .a (.c .a (.c .a (.c .a (.c .a (.c .a (.c .a (.c .a (.c .a (.c .a (.c .a (.c .a (.c .a (.c .a (.c .a (.c .a (.c .a (.c .a .n))))))))))))))))))))))))) .n⟩
    ·
      replace hm := cf h2 hm
      refine os n7 n6 rfl n11 rfl u12 <| os n8 n6 rfl n11 rfl u13 <| os n9 n6 rfl n11 rfl u14 <| os n11 n6 rfl n11 rfl u16 <| os n12 n6 rfl n11 rfl u17 <| os n13 n6 rfl n11 rfl u18 <| os n14 n6 rfl n11 rfl u19 <| os n15 n6 rfl n11 rfl u20 <| os n16 n6 rfl n11 rfl u21 <| osf n10 n6 rfl n11 rfl u15 <| osf n17 n6 rfl n11 rfl u22 <| osf n18 n6 rfl n11 rfl u23 <| om n19 (pkf (.t n11) .b) u24 <| om n20 (as_ (.t n24)) u4 <| oe ?_
      replace hm := sj hm
      subst hm
      have hm := hq1
      exact ⟨false, hm, le [] (by decide) (.c .a (.c .a (.c .a (.c .a (.c (.e rfl rfl) (.c .a (.c .a (.c .a (.c .a (.c .a (.c .a (.c .a (.c .a (.c .a (.c .a (.c .a (.c .a (.c .a (.c .a (.c .a (.c .a (.c .a (.c .a (.c .a (.c .a .n))))))))))))))))))))))))) .n⟩
  ·
    replace hm := sj hm
    subst hm
    exact rt (ret1 (.t n4 (.p rfl) .n) rfl)

theorem tot_spec_InList (w_ : D.World) (device_ : Int) (hp0 : WOk w_) : Spec Tryz.prog G0 68 [.agg (D.World.V w_), .int .i64 device_] (fun v => v = .bool (inListF w_ device_)) := sp_spec_InList w_ device_ _ (t_spec_InList w_ device_ hp0)

theorem sp_impl_hasDevice (w_ : D.World) (device_ : Int) (r : Bool) (hm : m_impl_hasDevice w_ device_ = some r) : Spec Tryz.prog G0 56 [.agg (D.World.V w_), .int .i64 device_] (fun v => v = .bool r) := by
  rw [m_impl_hasDevice] at hm
  refine enter (l := [.tmp 4]) Tryz.func56 rfl Tryz.ntmps56 rfl T.en56 fun E => ?_
  simp only [List.length_cons, List.length_nil, List.replicate_succ, List.replicate_zero, List.cons_append, List.nil_append, Nat.reduceAdd, Nat.reduceSub]
  refine sr <| k (bx rfl s0 u2 (.t n0)) <| m (as_ .b) u4 <| e ?_
  refine sr <| rjb hm (fun j0_4 : Bool => ⟨[.any, .any, .any, .any, .bool j0_4, .any, .any, .any, .any, .any, .any, .any, .any, .any], []⟩) (fun _ hm hq1 => ?_) (fun j0_4 hm => ?_)
  ·
    refine m (mv (.t n1)) u5 <| m (geq (.t n5) (.i rfl)) u6 <| m (mv (.t n6)) u7 <| sp n7 u7 u7 (fun h2 => ?_) (fun h2 => ?_)
    ·
      replace hm := ct h2 hm
      refine mg n2 rfl n7 (mv (.t n1)) u8 <| mg n2 rfl n7 (fab 2 rfl T.f57_2 (.t n2)) u9 <| mg n2 rfl n7 (ldb T.o42 n0 n2 (.t n9)) u10 <| mg n2 rfl n7 (lenm (l := w_.Devices) (f := D.Device.V) T.s42 (.t n10)) u11 <| mg n2 rfl n7 (lss (.t n8) (.t n11)) u12 <| m (pkt (.t n7) (.t n12)) u13 <| m (as_ (.t n13)) u4 <| e ?_
      replace hm := sj hm
      subst hm
      have hm := hq1
      exact ⟨decide (device_ < (w_.Devices.length : Int)), hm, le [] (by decide) (.c .a (.c .a (.c .a (.c .a (.c (.e rfl rfl) (.c .a (.c .a (.c .a (.c .a (.c .a (.c .a (.c .a (.c .a (.c .a .n)))))))))))))) .n⟩
    ·
      replace hm := cf h2 hm
      refine sk n2 rfl n7 rfl u8 <| sk n2 rfl n7 rfl u9 <| sk n2 rfl n7 rfl u10 <| sk n2 rfl n7 rfl u11 <| sk n2 rfl n7 rfl u12 <| m (pkf (.t n7) .b) u13 <| m (as_ (.t n13)) u4 <| e ?_
      replace hm := sj hm
      subst hm
      have hm := hq1
      exact ⟨false, hm, le [] (by decide) (.c .a (.c .a (.c .a (.c .a (.c (.e rfl rfl) (.c .a (.c .a (.c .a (.c .a (.c .a (.c .a (.c .a (.c .a (.c .a .n)))))))))))))) .n⟩
  ·
    replace hm := sj hm
    subst hm
    exact rt (ret1 (.t n4 (.p rfl) .n) rfl)

theorem tot_impl_hasDevice (w_ : D.World) (device_ : Int)  : Spec Tryz.prog G0 56 [.agg (D.World.V w_), .int .i64 device_] (fun v => v = .bool (hasDevF w_ device_)) := sp_impl_hasDevice w_ device_ _ (t_impl_hasDevice w_ device_)

theorem sp_impl_InList (w_ : D.World) (device_ : Int) (r : Bool) (hm : m_impl_InList w_ device_ = some r) : Spec Tryz.prog G0 69 [.agg (D.World.V w_), .int .i64 device_] (fun v => v = .bool r) := by
  rw [m_impl_InList] at hm
  refine enter (l := [.tmp 4]) Tryz.func69 rfl Tryz.ntmps69 rfl T.en69 fun E => ?_
  simp only [List.length_cons, List.length_nil, List.replicate_succ, List.replicate_zero, List.cons_append, List.nil_append, Nat.reduceAdd, Nat.reduceSub]
  refine sr <| k (bx rfl s0 u2 (.t n0)) <| m (as_ .b) u4 <| e ?_
  refine sd none [(0, true), (1, true), (2, false), (3, true), (4, true), (5, true), (6, true), (8, true), (9, true), (10, true), (11, true), (12, true), (13, true), (7, false), (14, false), (15, false), (16, true), (17, true)] T.mix (by kernel_rfl) <| rob hm (fun j0_4 : Bool => ⟨[.any, .any, .any, .any, .bool j0_4, .any, .any, .any, .any, .any, .any, .any, .any, .any, .any, .any, .any, .any, .any, .any, .any, .any], []⟩) (fun _ hm hq1 => ?_) (fun j0_4 hm => ?_)
  ·
    refine om n0 (lab T.a57 n0 d0 k16 (.t n2)) u5 <| om n1 (mv (.t n1)) u6 <| oc n2 (call (tot_impl_hasDevice w_ device_) (.c (.t n5) rfl (.c (.t n6) rfl .n))) u7 <| om n3 (mv (.t n7)) u8 <| osp n8 u8 u8 (fun h2 => ?_) (fun h2 => ?_)
    ·
      replace hm := ct h2 hm
      obtain ⟨z3, e4, hm⟩ := bd_some hm
      obtain ⟨c5, hm⟩ := gd_some hm
      refine omg n4 n3 rfl n8 (fab 4 rfl T.f57_4 (.t n2)) u9 <| omg n5 n3 rfl n8 (fab 4 rfl T.f49_0 (.t n9)) u10 <| omg n6 n3 rfl n8 (ldb T.o43 n0 n4 (.t n10)) u11 <| omg n8 n3 rfl n8 (fab 2 rfl T.f57_2 (.t n2)) u13 <| omg n9 n3 rfl n8 (ldb T.o42 n0 n2 (.t n13)) u14 <| omg n10 n3 rfl n8 (mv (.t n1)) u15 <| omg n11 n3 rfl n8 (ixq (f := D.Device.V) e4 T.s42 (.t n14) (.t n15)) u16 <| omg n12 n3 rfl n8 (fae T.f104_0 d0 (.t n16)) u17 <| omg n13 n3 rfl n8 (lae T.a99 k4 (.t n17)) u18 <| ocg n7 n3 rfl n8 (call (tot_impl_DevicesOf w_.Cloud.Log c5) (.c (.t n11) rfl .n)) u12 <| ocg n14 n3 rfl n8 (call (tot_impl_DevicePublic z3.Store) (.c (.t n18) rfl .n)) u19 <| ocg n15 n3 rfl n8 (call (tot_impl_has (devicesOfF w_.Cloud.Log) (devPubF z3.Store)) (.c (.t n12) rfl (.c (.t n19) rfl .n))) u20 <| om n16 (pkt (.t n8) (.t n20)) u21 <| om n17 (as_ (.t n21)) u4 <| oe ?_
      replace hm := sj hm
      subst hm
      have hm := hq1
      exact ⟨(hasF (devicesOfF w_.Cloud.Log) (devPubF z3.Store)), hm, le [] (by decide) (.c .a (.c .a (.c .a (.c .a (.c (.e rfl rfl) (.c .a (.c .a (.c .a (.c .a (.c .a (.c .a (.c .a (.c .a (.c .a (.c .a (.c .a (.c .a (.c .a (.c .a (.c .a (.c .a (.c .a .n)))))))))))))))))))))) .n⟩
    ·
      replace hm := cf h2 hm
      refine os n4 n3 rfl n8 rfl u9 <| os n5 n3 rfl n8 rfl u10 <| os n6 n3 rfl n8 rfl u11 <| os n8 n3 rfl n8 rfl u13 <| os n9 n3 rfl n8 rfl u14 <| os n10 n3 rfl n8 rfl u15 <| os n11 n3 rfl n8 rfl u16 <| os n12 n3 rfl n8 rfl u17 <| os n13 n3 rfl n8 rfl u18 <| osf n7 n3 rfl n8 rfl u12 <| osf n14 n3 rfl n8 rfl u19 <| osf n15 n3 rfl n8 rfl u20 <| om n16 (pkf (.t n8) .b) u21 <| om n17 (as_ (.t n21)) u4 <| oe ?_
      replace hm := sj hm
      subst hm
      have hm := hq1
      exact ⟨false, hm, le [] (by decide) (.c .a (.c .a (.c .a (.c .a (.c (.e rfl rfl) (.c .a (.c .a (.c .a (.c .a (.c .a (.c .a (.c .a (.c .a (.c .a (.c .a (.c .a (.c .a (.c .a (.c .a (.c .a (.c .a (.c .a .n)))))))))))))))))))))) .n⟩
  ·
    replace hm := sj hm
    subst hm
    exact rt (ret1 (.t n4 (.p rfl) .n) rfl)

theorem tot_impl_InList (w_ : D.World) (device_ : Int) (hp0 : WOk w_) : Spec Tryz.prog G0 69 [.agg (D.World.V w_), .int .i64 device_] (fun v => v = .bool (inListF w_ device_)) := sp_impl_InList w_ device_ _ (t_impl_InList w_ device_ hp0)

theorem sp_spec_ReachableDevices (w_ : D.World) (r : (List Int)) (hm : m_spec_ReachableDevices w_ = some r) : Spec Tryz.prog G0 63 [.agg (D.World.V w_)] (fun v => v = .slice 1 (r.map iV)) := by
  rw [m_spec_ReachableDevices] at hm
  refine enter (l := [.tmp 2]) Tryz.func63 rfl Tryz.ntmps63 rfl T.en63 fun E => ?_
  simp only [List.length_cons, List.length_nil, List.replicate_succ, List.replicate_zero, List.cons_append, List.nil_append, Nat.reduceAdd, Nat.reduceSub]
  refine sr <| k (bx rfl s0 u1 (.t n0)) <| m (as_ .n) u2 <| e ?_
  refine sr <| k (bom ([] : List Int) iV T.s95 rfl rfl .n rfl s1 u5) <| m (as_ (.t n5)) u3 <| e ?_
  refine sq ?_
  refine sr <| m (as_ (.i rfl)) u4 <| e ?_
  refine jmb hm (fun j0r2 : List Int => ⟨[.any, .any, .any, .own 0, .any, .any, .any, .any, .any, .any, .any, .any, .any, .any, .any, .any, .any, .any, .any, .any, .any, .any, .any, .any, .any, .any, .any, .any, .any, .any, .any, .any, .any, .any, .any, .any], [.row 3 1 (j0r2.map iV)]⟩) (fun _ hm hq1 => ?_) (fun j0r2 hm => ?_)
  ·
    refine bk ?_
    refine lpf (m := m_spec_ReachableDevices_l0 w_) hm (fun yy2_ : Nat × (List Int) => ⟨[.any, .box 0 0, .any, .own 1, .int .i64 (yy2_.1 : Int), .any, .any, .any, .any, .any, .any, .any, .any, .any, .any, .any, .any, .any, .any, .any, .any, .any, .any, .any, .any, .any, .any, .any, .any, .any, .any, .any, .any, .any, .any, .any], [.box 57 [.int .i64 w_.Now, .int .i64 w_.Seed, .slice 9 (w_.Devices.map D.Device.V), .slice 1 (w_.Stolen.map bV), .slice 6 (w_.Cloud.Log.map D.LogEntry.V), .int .i64 w_.Cloud.Boxes.Epoch, .slice 4 (w_.Cloud.Boxes.Boxes.map D.Box.V), .slice 4 (w_.Cloud.History.map D.SealedBundle.V), .slice 6 (w_.Sites.map D.Site.V), .int .i64 w_.Vault.Salt, .int .i64 w_.Vault.Threshold, .int .i64 w_.Vault.Check, .int .i64 w_.Vault.Masked, .slice 7 (w_.Hosts.map D.KeeperHost.V), .int .i64 w_.Pin, .slice 4 (w_.Mail.Notices.map D.Notice.V)], .row 3 1 (yy2_.2.map iV)]⟩) (fun _ => rfl) (le [0, 1] (by decide) (.c .a (.c (.b n0) (.c .a (.c (.w n1) (.c (.e rfl rfl) (.c .a (.c .a (.c .a (.c .a (.c .a (.c .a (.c .a (.c .a (.c .a (.c .a (.c .a (.c .a (.c .a (.c .a (.c .a (.c .a (.c .a (.c .a (.c .a (.c .a (.c .a (.c .a (.c .a (.c .a (.c .a (.c .a (.c .a (.c .a (.c .a (.c .a (.c .a .n)))))))))))))))))))))))))))))))))))) (.b n0 (.c (.e rfl rfl) (.c (.e rfl rfl) (.c (.e rfl rfl) (.c (.e rfl rfl) (.c (.e rfl rfl) (.c (.e rfl rfl) (.c (.e rfl rfl) (.c (.e rfl rfl) (.c (.e rfl rfl) (.c (.e rfl rfl) (.c (.e rfl rfl) (.c (.e rfl rfl) (.c (.e rfl rfl) (.c (.e rfl rfl) (.c (.e rfl rfl) (.c (.e rfl rfl) .n)))))))))))))))) (.r n1 rfl .n))) ?_
    rintro f ⟨i0, v0r2⟩ hm
    rw [m_spec_ReachableDevices_l0] at hm
    dsimp only at hm ⊢
    refine sq ?_
    refine sr <| rjb hm (fun j1_17 : Bool => ⟨[.any, .box 0 0, .any, .own 1, .int .i64 (i0 : Int), .any, .any, .any, .any, .any, .any, .any, .any, .any, .any, .any, .any, .bool j1_17, .any, .any, .any, .any, .any, .any, .any, .any, .any, .any, .any, .any, .any, .any, .any, .any, .any, .any], [.box 57 [.int .i64 w_.Now, .int .i64 w_.Seed, .slice 9 (w_.Devices.map D.Device.V), .slice 1 (w_.Stolen.map bV), .slice 6 (w_.Cloud.Log.map D.LogEntry.V), .int .i64 w_.Cloud.Boxes.Epoch, .slice 4 (w_.Cloud.Boxes.Boxes.map D.Box.V), .slice 4 (w_.Cloud.History.map D.SealedBundle.V), .slice 6 (w_.Sites.map D.Site.V), .int .i64 w_.Vault.Salt, .int .i64 w_.Vault.Threshold, .int .i64 w_.Vault.Check, .int .i64 w_.Vault.Masked, .slice 7 (w_.Hosts.map D.KeeperHost.V), .int .i64 w_.Pin, .slice 4 (w_.Mail.Notices.map D.Notice.V)], .row 3 1 (v0r2.map iV)]⟩) (fun _ hm hq3 => ?_) (fun j1_17 hm => ?_)
    ·
      refine m (mv (.t n4)) u6 <| m (fab 2 rfl T.f57_2 (.t n1)) u7 <| m (ldb T.o42 n0 n2 (.t n7)) u8 <| m (lenm (l := w_.Devices) (f := D.Device.V) T.s42 (.t n8)) u9 <| m (lss (.t n6) (.t n9)) u10 <| m (mv (.t n10)) u11 <| sp n11 u11 u11 (fun h4 => ?_) (fun h4 => ?_)
      ·
        replace hm := ct h4 hm
        refine mg n5 rfl n11 (mv (.t n4)) u12 <| mg n5 rfl n11 (fab 3 rfl T.f57_3 (.t n1)) u13 <| mg n5 rfl n11 (ldb T.o23 n0 n3 (.t n13)) u14 <| mg n5 rfl n11 (lenm (l := w_.Stolen) (f := bV) T.s23 (.t n14)) u15 <| mg n5 rfl n11 (lss (.t n12) (.t n15)) u16 <| m (pkt (.t n11) (.t n16)) u17 <| e ?_
        replace hm := sj hm
        subst hm
        have hm := hq3
        exact ⟨decide ((i0 : Int) < (w_.Stolen.length : Int)), hm, le [0, 1] (by decide) (.c .a (.c (.b n0) (.c .a (.c (.w n1) (.c (.e rfl rfl) (.c .a (.c .a (.c .a (.c .a (.c .a (.c .a (.c .a (.c .a (.c .a (.c .a (.c .a (.c .a (.c (.e rfl rfl) (.c .a (.c .a (.c .a (.c .a (.c .a (.c .a (.c .a (.c .a (.c .a (.c .a (.c .a (.c .a (.c .a (.c .a (.c .a (.c .a (.c .a (.c .a .n)))))))))))))))))))))))))))))))))))) (.b n0 (.c (.e rfl rfl) (.c (.e rfl rfl) (.c (.e rfl rfl) (.c (.e rfl rfl) (.c (.e rfl rfl) (.c (.e rfl rfl) (.c (.e rfl rfl) (.c (.e rfl rfl) (.c (.e rfl rfl) (.c (.e rfl rfl) (.c (.e rfl rfl) (.c (.e rfl rfl) (.c (.e rfl rfl) (.c (.e rfl rfl) (.c (.e rfl rfl) (.c (.e rfl rfl) .n)))))))))))))))) (.r n1 rfl .n))⟩
      ·
        replace hm := cf h4 hm
        refine sk n5 rfl n11 rfl u12 <| sk n5 rfl n11 rfl u13 <| sk n5 rfl n11 rfl u14 <| sk n5 rfl n11 rfl u15 <| sk n5 rfl n11 rfl u16 <| m (pkf (.t n11) .b) u17 <| e ?_
        replace hm := sj hm
        subst hm
        have hm := hq3
        exact ⟨false, hm, le [0, 1] (by decide) (.c .a (.c (.b n0) (.c .a (.c (.w n1) (.c (.e rfl rfl) (.c .a (.c .a (.c .a (.c .a (.c .a (.c .a (.c .a (.c .a (.c .a (.c .a (.c .a (.c .a (.c (.e rfl rfl) (.c .a (.c .a (.c .a (.c .a (.c .a (.c .a (.c .a (.c .a (.c .a (.c .a (.c .a (.c .a (.c .a (.c .a (.c .a (.c .a (.c .a (.c .a .n)))))))))))))))))))))))))))))))))))) (.b n0 (.c (.e rfl rfl) (.c (.e rfl rfl) (.c (.e rfl rfl) (.c (.e rfl rfl) (.c (.e rfl rfl) (.c (.e rfl rfl) (.c (.e rfl rfl) (.c (.e rfl rfl) (.c (.e rfl rfl) (.c (.e rfl rfl) (.c (.e rfl rfl) (.c (.e rfl rfl) (.c (.e rfl rfl) (.c (.e rfl rfl) (.c (.e rfl rfl) (.c (.e rfl rfl) .n)))))))))))))))) (.r n1 rfl .n))⟩
    ·
      refine cnd n17 (fun h5 => ?_) (fun h5 => ?_)
      ·
        replace hm := ct h5 hm
        refine skp ?_
        refine sq ?_
        refine jmb hm (fun j2r2 : List Int => ⟨[.any, .box 0 0, .any, .own 1, .int .i64 (i0 : Int), .any, .any, .any, .any, .any, .any, .any, .any, .any, .any, .any, .any, .any, .any, .any, .any, .any, .any, .any, .any, .any, .any, .any, .any, .any, .any, .any, .any, .any, .any, .any], [.box 57 [.int .i64 w_.Now, .int .i64 w_.Seed, .slice 9 (w_.Devices.map D.Device.V), .slice 1 (w_.Stolen.map bV), .slice 6 (w_.Cloud.Log.map D.LogEntry.V), .int .i64 w_.Cloud.Boxes.Epoch, .slice 4 (w_.Cloud.Boxes.Boxes.map D.Box.V), .slice 4 (w_.Cloud.History.map D.SealedBundle.V), .slice 6 (w_.Sites.map D.Site.V), .int .i64 w_.Vault.Salt, .int .i64 w_.Vault.Threshold, .int .i64 w_.Vault.Check, .int .i64 w_.Vault.Masked, .slice 7 (w_.Hosts.map D.KeeperHost.V), .int .i64 w_.Pin, .slice 4 (w_.Mail.Notices.map D.Notice.V)], .row 3 1 (j2r2.map iV)]⟩) (fun _ hm hq6 => ?_) (fun j2r2 hm => ?_)
        ·
          refine bk ?_
          refine sr <| rjb hm (fun j3_30 : Bool => ⟨[.any, .box 0 0, .any, .own 1, .int .i64 (i0 : Int), .any, .any, .any, .any, .any, .any, .any, .any, .any, .any, .any, .any, .any, .any, .any, .any, .any, .any, .any, .any, .any, .any, .any, .any, .any, .bool j3_30, .any, .any, .any, .any, .any], [.box 57 [.int .i64 w_.Now, .int .i64 w_.Seed, .slice 9 (w_.Devices.map D.Device.V), .slice 1 (w_.Stolen.map bV), .slice 6 (w_.Cloud.Log.map D.LogEntry.V), .int .i64 w_.Cloud.Boxes.Epoch, .slice 4 (w_.Cloud.Boxes.Boxes.map D.Box.V), .slice 4 (w_.Cloud.History.map D.SealedBundle.V), .slice 6 (w_.Sites.map D.Site.V), .int .i64 w_.Vault.Salt, .int .i64 w_.Vault.Threshold, .int .i64 w_.Vault.Check, .int .i64 w_.Vault.Masked, .slice 7 (w_.Hosts.map D.KeeperHost.V), .int .i64 w_.Pin, .slice 4 (w_.Mail.Notices.map D.Notice.V)], .row 3 1 (v0r2.map iV)]⟩) (fun _ hm hq7 => ?_) (fun j3_30 hm => ?_)
          ·
            obtain ⟨c8, hm⟩ := gd_some hm
            refine m (lab T.a57 n0 d0 k16 (.t n1)) u20 <| m (mv (.t n4)) u21 <| c (call (tot_spec_InList w_ (i0 : Int) c8) (.c (.t n20) rfl (.c (.t n21) rfl .n))) u22 <| m (mv (.t n22)) u23 <| sp n23 u23 u23 (fun h9 => ?_) (fun h9 => ?_)
            ·
              replace hm := ct h9 hm
              obtain ⟨z10, e11, hm⟩ := bd_some hm
              refine mg n3 rfl n23 (fab 3 rfl T.f57_3 (.t n1)) u24 <| mg n3 rfl n23 (ldb T.o23 n0 n3 (.t n24)) u25 <| mg n3 rfl n23 (mv (.t n4)) u26 <| mg n3 rfl n23 (ixq (f := bV) e11 T.s23 (.t n25) (.t n26)) u27 <| mg n3 rfl n23 (lde T.o4 n0 (.t n27)) u28 <| mg n3 rfl n23 (not_ (.t n28)) u29 <| m (pkt (.t n23) (.t n29)) u30 <| e ?_
              replace hm := sj hm
              subst hm
              have hm := hq7
              exact ⟨(!z10), hm, le [0, 1] (by decide) (.c .a (.c (.b n0) (.c .a (.c (.w n1) (.c (.e rfl rfl) (.c .a (.c .a (.c .a (.c .a (.c .a (.c .a (.c .a (.c .a (.c .a (.c .a (.c .a (.c .a (.c .a (.c .a (.c .a (.c .a (.c .a (.c .a (.c .a (.c .a (.c .a (.c .a (.c .a (.c .a (.c .a (.c (.e rfl rfl) (.c .a (.c .a (.c .a (.c .a (.c .a .n)))))))))))))))))))))))))))))))))))) (.b n0 (.c (.e rfl rfl) (.c (.e rfl rfl) (.c (.e rfl rfl) (.c (.e rfl rfl) (.c (.e rfl rfl) (.c (.e rfl rfl) (.c (.e rfl rfl) (.c (.e rfl rfl) (.c (.e rfl rfl) (.c (.e rfl rfl) (.c (.e rfl rfl) (.c (.e rfl rfl) (.c (.e rfl rfl) (.c (.e rfl rfl) (.c (.e rfl rfl) (.c (.e rfl rfl) .n)))))))))))))))) (.r n1 rfl .n))⟩
            ·
              replace hm := cf h9 hm
              refine sk n3 rfl n23 rfl u24 <| sk n3 rfl n23 rfl u25 <| sk n3 rfl n23 rfl u26 <| sk n3 rfl n23 rfl u27 <| sk n3 rfl n23 rfl u28 <| sk n3 rfl n23 rfl u29 <| m (pkf (.t n23) .b) u30 <| e ?_
              replace hm := sj hm
              subst hm
              have hm := hq7
              exact ⟨false, hm, le [0, 1] (by decide) (.c .a (.c (.b n0) (.c .a (.c (.w n1) (.c (.e rfl rfl) (.c .a (.c .a (.c .a (.c .a (.c .a (.c .a (.c .a (.c .a (.c .a (.c .a (.c .a (.c .a (.c .a (.c .a (.c .a (.c .a (.c .a (.c .a (.c .a (.c .a (.c .a (.c .a (.c .a (.c .a (.c .a (.c (.e rfl rfl) (.c .a (.c .a (.c .a (.c .a (.c .a .n)))))))))))))))))))))))))))))))))))) (.b n0 (.c (.e rfl rfl) (.c (.e rfl rfl) (.c (.e rfl rfl) (.c (.e rfl rfl) (.c (.e rfl rfl) (.c (.e rfl rfl) (.c (.e rfl rfl) (.c (.e rfl rfl) (.c (.e rfl rfl) (.c (.e rfl rfl) (.c (.e rfl rfl) (.c (.e rfl rfl) (.c (.e rfl rfl) (.c (.e rfl rfl) (.c (.e rfl rfl) (.c (.e rfl rfl) .n)))))))))))))))) (.r n1 rfl .n))⟩
          ·
            refine cnd n30 (fun h12 => ?_) (fun h12 => ?_)
            ·
              replace hm := ct h12 hm
              obtain ⟨c13, hm⟩ := gd_some hm
              refine rg <| m (mv (.t n3)) u31 <| m (mv (.t n4)) u32 <| k (bsm ([(i0 : Int)] : List Int) iV T.s95 rfl rfl (.c (.t n32) rfl rfl rfl .n) rfl u33) <| dr u3 <| k (apm (l := v0r2) (l2 := ([(i0 : Int)] : List Int)) (f := iV) 31 c13 rfl (fun _ => rfl) T.s95 rfl n31 u31 n1 (.t n33) q1 rfl u34) <| m (as_ (.t n34)) u3 <| e ?_
              replace hm := sj hm
              subst hm
              have hm := hq6
              exact ⟨(v0r2 ++ ([(i0 : Int)] : List Int)), hm, le [0, 1] (by decide) (.c .a (.c (.b n0) (.c .a (.c (.w n1) (.c (.e rfl rfl) (.c .a (.c .a (.c .a (.c .a (.c .a (.c .a (.c .a (.c .a (.c .a (.c .a (.c .a (.c .a (.c .a (.c .a (.c .a (.c .a (.c .a (.c .a (.c .a (.c .a (.c .a (.c .a (.c .a (.c .a (.c .a (.c .a (.c .a (.c .a (.c .a (.c .a (.c .a .n)))))))))))))))))))))))))))))))))))) (.b n0 (.c (.e rfl rfl) (.c (.e rfl rfl) (.c (.e rfl rfl) (.c (.e rfl rfl) (.c (.e rfl rfl) (.c (.e rfl rfl) (.c (.e rfl rfl) (.c (.e rfl rfl) (.c (.e rfl rfl) (.c (.e rfl rfl) (.c (.e rfl rfl) (.c (.e rfl rfl) (.c (.e rfl rfl) (.c (.e rfl rfl) (.c (.e rfl rfl) (.c (.e rfl rfl) .n)))))))))))))))) (.r n1 rfl .n))⟩
            ·
              replace hm := cf h12 hm
              refine skp ?_
              replace hm := sj hm
              subst hm
              have hm := hq6
              exact ⟨v0r2, hm, le [0, 1] (by decide) (.c .a (.c (.b n0) (.c .a (.c (.w n1) (.c (.e rfl rfl) (.c .a (.c .a (.c .a (.c .a (.c .a (.c .a (.c .a (.c .a (.c .a (.c .a (.c .a (.c .a (.c .a (.c .a (.c .a (.c .a (.c .a (.c .a (.c .a (.c .a (.c .a (.c .a (.c .a (.c .a (.c .a (.c .a (.c .a (.c .a (.c .a (.c .a (.c .a .n)))))))))))))))))))))))))))))))))))) (.b n0 (.c (.e rfl rfl) (.c (.e rfl rfl) (.c (.e rfl rfl) (.c (.e rfl rfl) (.c (.e rfl rfl) (.c (.e rfl rfl) (.c (.e rfl rfl) (.c (.e rfl rfl) (.c (.e rfl rfl) (.c (.e rfl rfl) (.c (.e rfl rfl) (.c (.e rfl rfl) (.c (.e rfl rfl) (.c (.e rfl rfl) (.c (.e rfl rfl) (.c (.e rfl rfl) .n)))))))))))))))) (.r n1 rfl .n))⟩
        ·
          refine rg <| m (mv (.t n4)) u18 <| m (add (.t n18) (.i rfl)) u19 <| m (as_ (.t n19)) u4 <| e ?_
          obtain ⟨c14, hm⟩ := gd_some hm
          exact ⟨(i0 + 1, j2r2), hm, le [0, 1] (by decide) (.c .a (.c (.b n0) (.c .a (.c (.w n1) (.c (.e (wi c14) rfl) (.c .a (.c .a (.c .a (.c .a (.c .a (.c .a (.c .a (.c .a (.c .a (.c .a (.c .a (.c .a (.c .a (.c .a (.c .a (.c .a (.c .a (.c .a (.c .a (.c .a (.c .a (.c .a (.c .a (.c .a (.c .a (.c .a (.c .a (.c .a (.c .a (.c .a (.c .a .n)))))))))))))))))))))))))))))))))))) (.b n0 (.c (.e rfl rfl) (.c (.e rfl rfl) (.c (.e rfl rfl) (.c (.e rfl rfl) (.c (.e rfl rfl) (.c (.e rfl rfl) (.c (.e rfl rfl) (.c (.e rfl rfl) (.c (.e rfl rfl) (.c (.e rfl rfl) (.c (.e rfl rfl) (.c (.e rfl rfl) (.c (.e rfl rfl) (.c (.e rfl rfl) (.c (.e rfl rfl) (.c (.e rfl rfl) .n)))))))))))))))) (.r n1 rfl .n))⟩
      ·
        replace hm := cf h5 hm
        refine ex (x1 ?_)
        replace hm := sj hm
        subst hm
        have hm := hq1
        exact ⟨v0r2, hm, le [1] (by decide) (.c .a (.c .a (.c .a (.c (.w n0) (.c .a (.c .a (.c .a (.c .a (.c .a (.c .a (.c .a (.c .a (.c .a (.c .a (.c .a (.c .a (.c .a (.c .a (.c .a (.c .a (.c .a (.c .a (.c .a (.c .a (.c .a (.c .a (.c .a (.c .a (.c .a (.c .a (.c .a (.c .a (.c .a (.c .a (.c .a (.c .a .n)))))))))))))))))))))))))))))))))))) (.r n1 rfl .n)⟩
  ·
    refine sr <| m (mv (.t n3)) u35 <| m (as_ (.t n35)) u2 <| e ?_
    replace hm := sj hm
    subst hm
    exact rt (ret1 (.t n2 (.o n0) .n) rfl)

theorem tot_spec_ReachableDevices (w_ : D.World) (hp0 : WOk w_) : Spec Tryz.prog G0 63 [.agg (D.World.V w_)] (fun v => v = .slice 1 ((reachF w_).map iV)) := sp_spec_ReachableDevices w_ _ (t_spec_ReachableDevices w_ hp0)

theorem sp_impl_ReachableDevices (w_ : D.World) (r : (List Int)) (hm : m_impl_ReachableDevices w_ = some r) : Spec Tryz.prog G0 64 [.agg (D.World.V w_)] (fun v => v = .slice 1 (r.map iV)) := by
  rw [m_impl_ReachableDevices] at hm
  refine enter (l := [.tmp 2]) Tryz.func64 rfl Tryz.ntmps64 rfl T.en64 fun E => ?_
  simp only [List.length_cons, List.length_nil, List.replicate_succ, List.replicate_zero, List.cons_append, List.nil_append, Nat.reduceAdd, Nat.reduceSub]
  refine sr <| k (bx rfl s0 u1 (.t n0)) <| m (as_ .n) u2 <| e ?_
  refine sr <| k (bom ([] : List Int) iV T.s95 rfl rfl .n rfl s1 u5) <| m (as_ (.t n5)) u3 <| e ?_
  refine sq ?_
  refine sr <| m (fab 2 rfl T.f57_2 (.t n1)) u6 <| m (ldb T.o42 n0 n2 (.t n6)) u7 <| m (lenm (l := w_.Devices) (f := D.Device.V) T.s42 (.t n7)) u8 <| m (mv (.i rfl)) u9 <| e ?_
  refine jmb hm (fun j0r2 : List Int => ⟨[.any, .any, .any, .own 0, .any, .any, .any, .any, .any, .any, .any, .any, .any, .any, .any, .any, .any, .any, .any, .any, .any, .any, .any, .any, .any, .any, .any, .any, .any, .any, .any, .any, .any, .any, .any, .any], [.row 3 1 (j0r2.map iV)]⟩) (fun _ hm hq1 => ?_) (fun j0r2 hm => ?_)
  ·
    refine bk ?_
    refine lpf (m := m_impl_ReachableDevices_l0 w_) hm (fun yy2_ : Nat × (List Int) => ⟨[.any, .box 0 0, .any, .own 1, .any, .any, .any, .any, .int .i64 (w_.Devices.length : Int), .int .i64 (yy2_.1 : Int), .any, .any, .any, .any, .any, .any, .any, .any, .any, .any, .any, .any, .any, .any, .any, .any, .any, .any, .any, .any, .any, .any, .any, .any, .any, .any], [.box 57 [.int .i64 w_.Now, .int .i64 w_.Seed, .slice 9 (w_.Devices.map D.Device.V), .slice 1 (w_.Stolen.map bV), .slice 6 (w_.Cloud.Log.map D.LogEntry.V), .int .i64 w_.Cloud.Boxes.Epoch, .slice 4 (w_.Cloud.Boxes.Boxes.map D.Box.V), .slice 4 (w_.Cloud.History.map D.SealedBundle.V), .slice 6 (w_.Sites.map D.Site.V), .int .i64 w_.Vault.Salt, .int .i64 w_.Vault.Threshold, .int .i64 w_.Vault.Check, .int .i64 w_.Vault.Masked, .slice 7 (w_.Hosts.map D.KeeperHost.V), .int .i64 w_.Pin, .slice 4 (w_.Mail.Notices.map D.Notice.V)], .row 3 1 (yy2_.2.map iV)]⟩) (fun _ => rfl) (le [0, 1] (by decide) (.c .a (.c (.b n0) (.c .a (.c (.w n1) (.c .a (.c .a (.c .a (.c .a (.c (.e rfl rfl) (.c (.e rfl rfl) (.c .a (.c .a (.c .a (.c .a (.c .a (.c .a (.c .a (.c .a (.c .a (.c .a (.c .a (.c .a (.c .a (.c .a (.c .a (.c .a (.c .a (.c .a (.c .a (.c .a (.c .a (.c .a (.c .a (.c .a (.c .a (.c .a .n)))))))))))))))))))))))))))))))))))) (.b n0 (.c (.e rfl rfl) (.c (.e rfl rfl) (.c (.e rfl rfl) (.c (.e rfl rfl) (.c (.e rfl rfl) (.c (.e rfl rfl) (.c (.e rfl rfl) (.c (.e rfl rfl) (.c (.e rfl rfl) (.c (.e rfl rfl) (.c (.e rfl rfl) (.c (.e rfl rfl) (.c (.e rfl rfl) (.c (.e rfl rfl) (.c (.e rfl rfl) (.c (.e rfl rfl) .n)))))))))))))))) (.r n1 rfl .n))) ?_
    rintro f ⟨i0, v0r2⟩ hm
    rw [m_impl_ReachableDevices_l0] at hm
    dsimp only at hm ⊢
    refine sr <| m (lss (.t n9) (.t n8)) u10 <| e ?_
    refine rng n8 fun _ ra3 => ?_
    replace ra3 := (show (_ : Int) ≤ 9223372036854775807 from ra3)
    refine sq ?_
    refine cnd n10 (fun h4 => ?_) (fun h4 => ?_)
    ·
      replace hm := ct h4 hm
      have h4d := of_decide_eq_true h4
      refine skp ?_
      refine sq ?_
      refine jmb hm (fun j1r2 : List Int => ⟨[.any, .box 0 0, .any, .own 1, .any, .any, .any, .any, .int .i64 (w_.Devices.length : Int), .int .i64 (i0 : Int), .any, .any, .any, .any, .any, .any, .any, .any, .any, .any, .any, .any, .any, .any, .any, .any, .any, .any, .any, .any, .any, .any, .any, .any, .any, .any], [.box 57 [.int .i64 w_.Now, .int .i64 w_.Seed, .slice 9 (w_.Devices.map D.Device.V), .slice 1 (w_.Stolen.map bV), .slice 6 (w_.Cloud.Log.map D.LogEntry.V), .int .i64 w_.Cloud.Boxes.Epoch, .slice 4 (w_.Cloud.Boxes.Boxes.map D.Box.V), .slice 4 (w_.Cloud.History.map D.SealedBundle.V), .slice 6 (w_.Sites.map D.Site.V), .int .i64 w_.Vault.Salt, .int .i64 w_.Vault.Threshold, .int .i64 w_.Vault.Check, .int .i64 w_.Vault.Masked, .slice 7 (w_.Hosts.map D.KeeperHost.V), .int .i64 w_.Pin, .slice 4 (w_.Mail.Notices.map D.Notice.V)], .row 3 1 (j1r2.map iV)]⟩) (fun _ hm hq5 => ?_) (fun j1r2 hm => ?_)
      ·
        refine bk ?_
        refine sr <| m (mv (.t n9)) u11 <| m (as_ (.t n11)) u4 <| e ?_
        refine sr <| rjb hm (fun j2_29 : Bool => ⟨[.any, .box 0 0, .any, .own 1, .int .i64 (i0 : Int), .any, .any, .any, .int .i64 (w_.Devices.length : Int), .int .i64 (i0 : Int), .any, .any, .any, .any, .any, .any, .any, .any, .any, .any, .any, .any, .any, .any, .any, .any, .any, .any, .any, .bool j2_29, .any, .any, .any, .any, .any, .any], [.box 57 [.int .i64 w_.Now, .int .i64 w_.Seed, .slice 9 (w_.Devices.map D.Device.V), .slice 1 (w_.Stolen.map bV), .slice 6 (w_.Cloud.Log.map D.LogEntry.V), .int .i64 w_.Cloud.Boxes.Epoch, .slice 4 (w_.Cloud.Boxes.Boxes.map D.Box.V), .slice 4 (w_.Cloud.History.map D.SealedBundle.V), .slice 6 (w_.Sites.map D.Site.V), .int .i64 w_.Vault.Salt, .int .i64 w_.Vault.Threshold, .int .i64 w_.Vault.Check, .int .i64 w_.Vault.Masked, .slice 7 (w_.Hosts.map D.KeeperHost.V), .int .i64 w_.Pin, .slice 4 (w_.Mail.Notices.map D.Notice.V)], .row 3 1 (v0r2.map iV)]⟩) (fun _ hm hq6 => ?_) (fun j2_29 hm => ?_)
        ·
          obtain ⟨c7, hm⟩ := gd_some hm
          refine m (lab T.a57 n0 d0 k16 (.t n1)) u12 <| m (mv (.t n4)) u13 <| c (call (tot_impl_InList w_ (i0 : Int) c7) (.c (.t n12) rfl (.c (.t n13) rfl .n))) u14 <| m (mv (.t n14)) u15 <| sp n15 u15 u15 (fun h8 => ?_) (fun h8 => ?_)
          ·
            replace hm := ct h8 hm
            refine mg n3 rfl n15 (mv (.t n4)) u16 <| mg n3 rfl n15 (fab 3 rfl T.f57_3 (.t n1)) u17 <| mg n3 rfl n15 (ldb T.o23 n0 n3 (.t n17)) u18 <| mg n3 rfl n15 (lenm (l := w_.Stolen) (f := bV) T.s23 (.t n18)) u19 <| mg n3 rfl n15 (lss (.t n16) (.t n19)) u20 <| m (pkt (.t n15) (.t n20)) u21 <| m (mv (.t n21)) u22 <| sp n22 u22 u22 (fun h9 => ?_) (fun h9 => ?_)
            ·
              replace hm := ct h9 hm
              obtain ⟨z10, e11, hm⟩ := bd_some hm
              refine mg n10 rfl n22 (fab 3 rfl T.f57_3 (.t n1)) u23 <| mg n10 rfl n22 (ldb T.o23 n0 n3 (.t n23)) u24 <| mg n10 rfl n22 (mv (.t n4)) u25 <| mg n10 rfl n22 (ixq (f := bV) e11 T.s23 (.t n24) (.t n25)) u26 <| mg n10 rfl n22 (lde T.o4 n0 (.t n26)) u27 <| mg n10 rfl n22 (not_ (.t n27)) u28 <| m (pkt (.t n22) (.t n28)) u29 <| e ?_
              replace hm := sj hm
              subst hm
              have hm := hq6
              exact ⟨(!z10), hm, le [0, 1] (by decide) (.c .a (.c (.b n0) (.c .a (.c (.w n1) (.c (.e rfl rfl) (.c .a (.c .a (.c .a (.c (.e rfl rfl) (.c (.e rfl rfl) (.c .a (.c .a (.c .a (.c .a (.c .a (.c .a (.c .a (.c .a (.c .a (.c .a (.c .a (.c .a (.c .a (.c .a (.c .a (.c .a (.c .a (.c .a (.c .a (.c (.e rfl rfl) (.c .a (.c .a (.c .a (.c .a (.c .a (.c .a .n)))))))))))))))))))))))))))))))))))) (.b n0 (.c (.e rfl rfl) (.c (.e rfl rfl) (.c (.e rfl rfl) (.c (.e rfl rfl) (.c (.e rfl rfl) (.c (.e rfl rfl) (.c (.e rfl rfl) (.c (.e rfl rfl) (.c (.e rfl rfl) (.c (.e rfl rfl) (.c (.e rfl rfl) (.c (.e rfl rfl) (.c (.e rfl rfl) (.c (.e rfl rfl) (.c (.e rfl rfl) (.c (.e rfl rfl) .n)))))))))))))))) (.r n1 rfl .n))⟩
            ·
              replace hm := cf h9 hm
              refine sk n10 rfl n22 rfl u23 <| sk n10 rfl n22 rfl u24 <| sk n10 rfl n22 rfl u25 <| sk n10 rfl n22 rfl u26 <| sk n10 rfl n22 rfl u27 <| sk n10 rfl n22 rfl u28 <| m (pkf (.t n22) .b) u29 <| e ?_
              replace hm := sj hm
              subst hm
              have hm := hq6
              exact ⟨false, hm, le [0, 1] (by decide) (.c .a (.c (.b n0) (.c .a (.c (.w n1) (.c (.e rfl rfl) (.c .a (.c .a (.c .a (.c (.e rfl rfl) (.c (.e rfl rfl) (.c .a (.c .a (.c .a (.c .a (.c .a (.c .a (.c .a (.c .a (.c .a (.c .a (.c .a (.c .a (.c .a (.c .a (.c .a (.c .a (.c .a (.c .a (.c .a (.c (.e rfl rfl) (.c .a (.c .a (.c .a (.c .a (.c .a (.c .a .n)))))))))))))))))))))))))))))))))))) (.b n0 (.c (.e rfl rfl) (.c (.e rfl rfl) (.c (.e rfl rfl) (.c (.e rfl rfl) (.c (.e rfl rfl) (.c (.e rfl rfl) (.c (.e rfl rfl) (.c (.e rfl rfl) (.c (.e rfl rfl) (.c (.e rfl rfl) (.c (.e rfl rfl) (.c (.e rfl rfl) (.c (.e rfl rfl) (.c (.e rfl rfl) (.c (.e rfl rfl) (.c (.e rfl rfl) .n)))))))))))))))) (.r n1 rfl .n))⟩
          ·
            replace hm := cf h8 hm
            refine sk n3 rfl n15 rfl u16 <| sk n3 rfl n15 rfl u17 <| sk n3 rfl n15 rfl u18 <| sk n3 rfl n15 rfl u19 <| sk n3 rfl n15 rfl u20 <| m (pkf (.t n15) .b) u21 <| m (mv (.t n21)) u22 <| sk n10 rfl n22 rfl u23 <| sk n10 rfl n22 rfl u24 <| sk n10 rfl n22 rfl u25 <| sk n10 rfl n22 rfl u26 <| sk n10 rfl n22 rfl u27 <| sk n10 rfl n22 rfl u28 <| m (pkf (.t n22) .b) u29 <| e ?_
            replace hm := sj hm
            subst hm
            have hm := hq6
            exact ⟨false, hm, le [0, 1] (by decide) (.c .a (.c (.b n0) (.c .a (.c (.w n1) (.c (.e rfl rfl) (.c .a (.c .a (.c .a (.c (.e rfl rfl) (.c (.e rfl rfl) (.c .a (.c .a (.c .a (.c .a (.c .a (.c .a (.c .a (.c .a (.c .a (.c .a (.c .a (.c .a (.c .a (.c .a (.c .a (.c .a (.c .a (.c .a (.c .a (.c (.e rfl rfl) (.c .a (.c .a (.c .a (.c .a (.c .a (.c .a .n)))))))))))))))))))))))))))))))))))) (.b n0 (.c (.e rfl rfl) (.c (.e rfl rfl) (.c (.e rfl rfl) (.c (.e rfl rfl) (.c (.e rfl rfl) (.c (.e rfl rfl) (.c (.e rfl rfl) (.c (.e rfl rfl) (.c (.e rfl rfl) (.c (.e rfl rfl) (.c (.e rfl rfl) (.c (.e rfl rfl) (.c (.e rfl rfl) (.c (.e rfl rfl) (.c (.e rfl rfl) (.c (.e rfl rfl) .n)))))))))))))))) (.r n1 rfl .n))⟩
        ·
          refine cnd n29 (fun h12 => ?_) (fun h12 => ?_)
          ·
            replace hm := ct h12 hm
            obtain ⟨c13, hm⟩ := gd_some hm
            refine rg <| m (mv (.t n3)) u30 <| m (mv (.t n4)) u31 <| k (bsm ([(i0 : Int)] : List Int) iV T.s95 rfl rfl (.c (.t n31) rfl rfl rfl .n) rfl u32) <| dr u3 <| k (apm (l := v0r2) (l2 := ([(i0 : Int)] : List Int)) (f := iV) 30 c13 rfl (fun _ => rfl) T.s95 rfl n30 u30 n1 (.t n32) q1 rfl u33) <| m (as_ (.t n33)) u3 <| e ?_
            replace hm := sj hm
            subst hm
            have hm := hq5
            exact ⟨(v0r2 ++ ([(i0 : Int)] : List Int)), hm, le [0, 1] (by decide) (.c .a (.c (.b n0) (.c .a (.c (.w n1) (.c .a (.c .a (.c .a (.c .a (.c (.e rfl rfl) (.c (.e rfl rfl) (.c .a (.c .a (.c .a (.c .a (.c .a (.c .a (.c .a (.c .a (.c .a (.c .a (.c .a (.c .a (.c .a (.c .a (.c .a (.c .a (.c .a (.c .a (.c .a (.c .a (.c .a (.c .a (.c .a (.c .a (.c .a (.c .a .n)))))))))))))))))))))))))))))))))))) (.b n0 (.c (.e rfl rfl) (.c (.e rfl rfl) (.c (.e rfl rfl) (.c (.e rfl rfl) (.c (.e rfl rfl) (.c (.e rfl rfl) (.c (.e rfl rfl) (.c (.e rfl rfl) (.c (.e rfl rfl) (.c (.e rfl rfl) (.c (.e rfl rfl) (.c (.e rfl rfl) (.c (.e rfl rfl) (.c (.e rfl rfl) (.c (.e rfl rfl) (.c (.e rfl rfl) .n)))))))))))))))) (.r n1 rfl .n))⟩
          ·
            replace hm := cf h12 hm
            refine skp ?_
            replace hm := sj hm
            subst hm
            have hm := hq5
            exact ⟨v0r2, hm, le [0, 1] (by decide) (.c .a (.c (.b n0) (.c .a (.c (.w n1) (.c .a (.c .a (.c .a (.c .a (.c (.e rfl rfl) (.c (.e rfl rfl) (.c .a (.c .a (.c .a (.c .a (.c .a (.c .a (.c .a (.c .a (.c .a (.c .a (.c .a (.c .a (.c .a (.c .a (.c .a (.c .a (.c .a (.c .a (.c .a (.c .a (.c .a (.c .a (.c .a (.c .a (.c .a (.c .a .n)))))))))))))))))))))))))))))))))))) (.b n0 (.c (.e rfl rfl) (.c (.e rfl rfl) (.c (.e rfl rfl) (.c (.e rfl rfl) (.c (.e rfl rfl) (.c (.e rfl rfl) (.c (.e rfl rfl) (.c (.e rfl rfl) (.c (.e rfl rfl) (.c (.e rfl rfl) (.c (.e rfl rfl) (.c (.e rfl rfl) (.c (.e rfl rfl) (.c (.e rfl rfl) (.c (.e rfl rfl) (.c (.e rfl rfl) .n)))))))))))))))) (.r n1 rfl .n))⟩
      ·
        refine rg <| m (add (.t n9) (.i rfl)) u34 <| m (mv (.t n34)) u9 <| e ?_
        exact ⟨(i0 + 1, j1r2), hm, le [0, 1] (by decide) (.c .a (.c (.b n0) (.c .a (.c (.w n1) (.c .a (.c .a (.c .a (.c .a (.c (.e rfl rfl) (.c (.e (wi (by omega)) rfl) (.c .a (.c .a (.c .a (.c .a (.c .a (.c .a (.c .a (.c .a (.c .a (.c .a (.c .a (.c .a (.c .a (.c .a (.c .a (.c .a (.c .a (.c .a (.c .a (.c .a (.c .a (.c .a (.c .a (.c .a (.c .a (.c .a .n)))))))))))))))))))))))))))))))))))) (.b n0 (.c (.e rfl rfl) (.c (.e rfl rfl) (.c (.e rfl rfl) (.c (.e rfl rfl) (.c (.e rfl rfl) (.c (.e rfl rfl) (.c (.e rfl rfl) (.c (.e rfl rfl) (.c (.e rfl rfl) (.c (.e rfl rfl) (.c (.e rfl rfl) (.c (.e rfl rfl) (.c (.e rfl rfl) (.c (.e rfl rfl) (.c (.e rfl rfl) (.c (.e rfl rfl) .n)))))))))))))))) (.r n1 rfl .n))⟩
    ·
      replace hm := cf h4 hm
      have h4d := of_decide_eq_false h4
      refine ex (x1 ?_)
      replace hm := sj hm
      subst hm
      have hm := hq1
      exact ⟨v0r2, hm, le [1] (by decide) (.c .a (.c .a (.c .a (.c (.w n0) (.c .a (.c .a (.c .a (.c .a (.c .a (.c .a (.c .a (.c .a (.c .a (.c .a (.c .a (.c .a (.c .a (.c .a (.c .a (.c .a (.c .a (.c .a (.c .a (.c .a (.c .a (.c .a (.c .a (.c .a (.c .a (.c .a (.c .a (.c .a (.c .a (.c .a (.c .a (.c .a .n)))))))))))))))))))))))))))))))))))) (.r n1 rfl .n)⟩
  ·
    refine sr <| m (mv (.t n3)) u35 <| m (as_ (.t n35)) u2 <| e ?_
    replace hm := sj hm
    subst hm
    exact rt (ret1 (.t n2 (.o n0) .n) rfl)

theorem tot_impl_ReachableDevices (w_ : D.World) (hp0 : WOk w_) : Spec Tryz.prog G0 64 [.agg (D.World.V w_)] (fun v => v = .slice 1 ((reachF w_).map iV)) := sp_impl_ReachableDevices w_ _ (t_impl_ReachableDevices w_ hp0)

theorem sp_spec_IsConverged (w_ : D.World) (r : Bool) (hm : m_spec_IsConverged w_ = some r) : Spec Tryz.prog G0 24 [.agg (D.World.V w_)] (fun v => v = .bool r) := by
  rw [m_spec_IsConverged] at hm
  refine enter (l := [.tmp 2]) Tryz.func24 rfl Tryz.ntmps24 rfl T.en24 fun E => ?_
  simp only [List.length_cons, List.length_nil, List.replicate_succ, List.replicate_zero, List.cons_append, List.nil_append, Nat.reduceAdd, Nat.reduceSub]
  refine sr <| k (bx rfl s0 u1 (.t n0)) <| m (as_ .b) u2 <| e ?_
  obtain ⟨c1, hm⟩ := gd_some hm
  refine sr <| m (lab T.a57 n0 d0 k16 (.t n1)) u7 <| c (call (tot_spec_ReachableDevices w_ c1) (.c (.t n7) rfl .n)) u8 <| m (as_ (.t n8)) u3 <| e ?_
  refine sq ?_
  refine sr <| m (as_ (.i rfl)) u4 <| e ?_
  refine jmx hm (fun _ : Unit => ⟨[.any, .any, .any, .any, .any, .any, .any, .any, .any, .any, .any, .any, .any, .any, .any, .any, .any, .any, .any, .any, .any, .any, .any, .any, .any, .any, .any, .any, .any, .any, .any, .any, .any, .any, .any, .any, .any, .any, .any, .any, .any, .any, .any, .any, .any, .any, .any, .any, .any, .any, .any, .any, .any, .any, .any, .any, .any], []⟩) (fun _ hm hq2 => ?_) (fun _ hm => ?_)
  ·
    refine bk ?_
    refine lpf (m := m_spec_IsConverged_l0 w_) hm (fun i0 : Nat => ⟨[.any, .box 0 0, .any, .slice 1 ((reachF w_).map iV), .int .i64 (i0 : Int), .any, .any, .any, .any, .any, .any, .any, .any, .any, .any, .any, .any, .any, .any, .any, .any, .any, .any, .any, .any, .any, .any, .any, .any, .any, .any, .any, .any, .any, .any, .any, .any, .any, .any, .any, .any, .any, .any, .any, .any, .any, .any, .any, .any, .any, .any, .any, .any, .any, .any, .any, .any], [.box 57 [.int .i64 w_.Now, .int .i64 w_.Seed, .slice 9 (w_.Devices.map D.Device.V), .slice 1 (w_.Stolen.map bV), .slice 6 (w_.Cloud.Log.map D.LogEntry.V), .int .i64 w_.Cloud.Boxes.Epoch, .slice 4 (w_.Cloud.Boxes.Boxes.map D.Box.V), .slice 4 (w_.Cloud.History.map D.SealedBundle.V), .slice 6 (w_.Sites.map D.Site.V), .int .i64 w_.Vault.Salt, .int .i64 w_.Vault.Threshold, .int .i64 w_.Vault.Check, .int .i64 w_.Vault.Masked, .slice 7 (w_.Hosts.map D.KeeperHost.V), .int .i64 w_.Pin, .slice 4 (w_.Mail.Notices.map D.Notice.V)]]⟩) (fun _ => rfl) (le [0] (by decide) (.c .a (.c (.b n0) (.c .a (.c (.e rfl rfl) (.c (.e rfl rfl) (.c .a (.c .a (.c .a (.c .a (.c .a (.c .a (.c .a (.c .a (.c .a (.c .a (.c .a (.c .a (.c .a (.c .a (.c .a (.c .a (.c .a (.c .a (.c .a (.c .a (.c .a (.c .a (.c .a (.c .a (.c .a (.c .a (.c .a (.c .a (.c .a (.c .a (.c .a (.c .a (.c .a (.c .a (.c .a (.c .a (.c .a (.c .a (.c .a (.c .a (.c .a (.c .a (.c .a (.c .a (.c .a (.c .a (.c .a (.c .a (.c .a (.c .a (.c .a (.c .a .n))))))))))))))))))))))))))))))))))))))))))))))))))))))))) (.b n0 (.c (.e rfl rfl) (.c (.e rfl rfl) (.c (.e rfl rfl) (.c (.e rfl rfl) (.c (.e rfl rfl) (.c (.e rfl rfl) (.c (.e rfl rfl) (.c (.e rfl rfl) (.c (.e rfl rfl) (.c (.e rfl rfl) (.c (.e rfl rfl) (.c (.e rfl rfl) (.c (.e rfl rfl) (.c (.e rfl rfl) (.c (.e rfl rfl) (.c (.e rfl rfl) .n)))))))))))))))) .n)) ?_
    rintro f i0 hm
    rw [m_spec_IsConverged_l0] at hm
    refine sq ?_
    refine sr <| m (mv (.t n4)) u9 <| m (mv (.t n3)) u10 <| m (lenm (l := (reachF w_)) (f := iV) T.s95 (.t n10)) u11 <| m (lss (.t n9) (.t n11)) u12 <| e ?_
    refine rng n11 fun _ ra3 => ?_
    replace ra3 := (show (_ : Int) ≤ 9223372036854775807 from ra3)
    refine cnd n12 (fun h4 => ?_) (fun h4 => ?_)
    ·
      replace hm := ct h4 hm
      have h4d := of_decide_eq_true h4
      refine skp ?_
      refine sq ?_
      refine bk ?_
      obtain ⟨z5, e6, hm⟩ := bd_some hm
      obtain ⟨z7, e8, hm⟩ := bd_some hm
      refine sd (some 8) [(0, true), (1, true), (2, true), (3, true), (4, true), (5, true), (6, true), (7, false), (8, false)] T.mix (by kernel_rfl) <| om n0 (fab 2 rfl T.f57_2 (.t n1)) u15 <| om n1 (ldb T.o42 n0 n2 (.t n15)) u16 <| om n2 (mv (.t n3)) u17 <| om n3 (ixq (f := iV) e6 T.s95 (.t n17) (.i rfl)) u18 <| om n4 (lde T.o3 n0 (.t n18)) u19 <| om n5 (ixq (f := D.Device.V) e8 T.s42 (.t n16) (.t n19)) u20 <| om n6 (lae T.a104 k9 (.t n20)) u21 <| ok_ n7 (al T.z104 s1 u5) <| oka n8 (sta T.a104 rfl rfl n1 (.z (.z (.z (.z (.z (.z (.z (.z (.z .n))))))))) q1 (.t n5) (.t n21)) hz0 <| ze ?_
      obtain ⟨z9, e10, hm⟩ := bd_some hm
      obtain ⟨z11, e12, hm⟩ := bd_some hm
      refine sd (some 9) [(0, true), (1, true), (2, true), (3, true), (4, true), (5, true), (6, true), (7, true), (8, false), (9, false)] T.mix (by kernel_rfl) <| om n0 (fab 2 rfl T.f57_2 (.t n1)) u22 <| om n1 (ldb T.o42 n0 n2 (.t n22)) u23 <| om n2 (mv (.t n3)) u24 <| om n3 (mv (.t n4)) u25 <| om n4 (ixq (f := iV) e10 T.s95 (.t n24) (.t n25)) u26 <| om n5 (lde T.o3 n0 (.t n26)) u27 <| om n6 (ixq (f := D.Device.V) e12 T.s42 (.t n23) (.t n27)) u28 <| om n7 (lae T.a104 k9 (.t n28)) u29 <| ok_ n8 (al T.z104 s2 u6) <| oka n9 (sta T.a104 rfl rfl n2 (.z (.z (.z (.z (.z (.z (.z (.z (.z .n))))))))) q2 (.t n6) (.t n29)) hz0 <| ze ?_
      refine sr <| rjb hm (fun j1_56 : Bool => ⟨[.any, .box 0 0, .any, .slice 1 ((reachF w_).map iV), .int .i64 (i0 : Int), .any, .any, .any, .any, .any, .any, .any, .any, .any, .any, .any, .any, .any, .any, .any, .any, .any, .any, .any, .any, .any, .any, .any, .any, .any, .any, .any, .any, .any, .any, .any, .any, .any, .any, .any, .any, .any, .any, .any, .any, .any, .any, .any, .any, .any, .any, .any, .any, .any, .any, .any, .bool j1_56], [.box 57 [.int .i64 w_.Now, .int .i64 w_.Seed, .slice 9 (w_.Devices.map D.Device.V), .slice 1 (w_.Stolen.map bV), .slice 6 (w_.Cloud.Log.map D.LogEntry.V), .int .i64 w_.Cloud.Boxes.Epoch, .slice 4 (w_.Cloud.Boxes.Boxes.map D.Box.V), .slice 4 (w_.Cloud.History.map D.SealedBundle.V), .slice 6 (w_.Sites.map D.Site.V), .int .i64 w_.Vault.Salt, .int .i64 w_.Vault.Threshold, .int .i64 w_.Vault.Check, .int .i64 w_.Vault.Masked, .slice 7 (w_.Hosts.map D.KeeperHost.V), .int .i64 w_.Pin, .slice 4 (w_.Mail.Notices.map D.Notice.V)]]⟩) (fun _ hm hq13 => ?_) (fun j1_56 hm => ?_)
      ·
        refine m (fab 8 rfl T.f104_5 (.t n5)) u30 <| m (lab T.a102 n1 d8 k1 (.t n30)) u31 <| m (fab 8 rfl T.f104_5 (.t n6)) u32 <| m (lab T.a102 n2 d8 k1 (.t n32)) u33 <| c (call (tot_spec_EqualBundles z7.Bundle z11.Bundle) (.c (.t n31) rfl (.c (.t n33) rfl .n))) u34 <| m (not_ (.t n34)) u35 <| m (mv (.t n35)) u36 <| sp n36 u36 u36 (fun h14 => ?_) (fun h14 => ?_)
        ·
          replace hm := ct h14 hm
          refine sk n6 rfl n36 rfl u37 <| sk n6 rfl n36 rfl u38 <| sk n6 rfl n36 rfl u39 <| sk n6 rfl n36 rfl u40 <| sk n6 rfl n36 rfl u41 <| m (pkt (.t n36) .b) u42 <| m (mv (.t n42)) u43 <| sk n13 rfl n43 rfl u44 <| sk n13 rfl n43 rfl u45 <| sk n13 rfl n43 rfl u46 <| sk n13 rfl n43 rfl u47 <| sk n13 rfl n43 rfl u48 <| m (pkt (.t n43) .b) u49 <| m (mv (.t n49)) u50 <| sk n20 rfl n50 rfl u51 <| sk n20 rfl n50 rfl u52 <| sk n20 rfl n50 rfl u53 <| sk n20 rfl n50 rfl u54 <| sk n20 rfl n50 rfl u55 <| m (pkt (.t n50) .b) u56 <| e ?_
          replace hm := sj hm
          subst hm
          have hm := hq13
          exact ⟨true, hm, le [0] (by decide) (.c .a (.c (.b n0) (.c .a (.c (.e rfl rfl) (.c (.e rfl rfl) (.c .a (.c .a (.c .a (.c .a (.c .a (.c .a (.c .a (.c .a (.c .a (.c .a (.c .a (.c .a (.c .a (.c .a (.c .a (.c .a (.c .a (.c .a (.c .a (.c .a (.c .a (.c .a (.c .a (.c .a (.c .a (.c .a (.c .a (.c .a (.c .a (.c .a (.c .a (.c .a (.c .a (.c .a (.c .a (.c .a (.c .a (.c .a (.c .a (.c .a (.c .a (.c .a (.c .a (.c .a (.c .a (.c .a (.c .a (.c .a (.c .a (.c .a (.c .a (.c (.e rfl rfl) .n))))))))))))))))))))))))))))))))))))))))))))))))))))))))) (.b n0 (.c (.e rfl rfl) (.c (.e rfl rfl) (.c (.e rfl rfl) (.c (.e rfl rfl) (.c (.e rfl rfl) (.c (.e rfl rfl) (.c (.e rfl rfl) (.c (.e rfl rfl) (.c (.e rfl rfl) (.c (.e rfl rfl) (.c (.e rfl rfl) (.c (.e rfl rfl) (.c (.e rfl rfl) (.c (.e rfl rfl) (.c (.e rfl rfl) (.c (.e rfl rfl) .n)))))))))))))))) .n)⟩
        ·
          replace hm := cf h14 hm
          refine mg n6 rfl n36 (fab 6 rfl T.f104_3 (.t n5)) u37 <| mg n6 rfl n36 (ldb T.o3 n1 n6 (.t n37)) u38 <| mg n6 rfl n36 (fab 6 rfl T.f104_3 (.t n6)) u39 <| mg n6 rfl n36 (ldb T.o3 n2 n6 (.t n39)) u40 <| mg n6 rfl n36 (neq (.t n38) (.t n40)) u41 <| m (pkf (.t n36) (.t n41)) u42 <| m (mv (.t n42)) u43 <| sp n43 u43 u43 (fun h15 => ?_) (fun h15 => ?_)
          ·
            replace hm := ct h15 hm
            refine sk n13 rfl n43 rfl u44 <| sk n13 rfl n43 rfl u45 <| sk n13 rfl n43 rfl u46 <| sk n13 rfl n43 rfl u47 <| sk n13 rfl n43 rfl u48 <| m (pkt (.t n43) .b) u49 <| m (mv (.t n49)) u50 <| sk n20 rfl n50 rfl u51 <| sk n20 rfl n50 rfl u52 <| sk n20 rfl n50 rfl u53 <| sk n20 rfl n50 rfl u54 <| sk n20 rfl n50 rfl u55 <| m (pkt (.t n50) .b) u56 <| e ?_
            replace hm := sj hm
            subst hm
            have hm := hq13
            exact ⟨true, hm, le [0] (by decide) (.c .a (.c (.b n0) (.c .a (.c (.e rfl rfl) (.c (.e rfl rfl) (.c .a (.c .a (.c .a (.c .a (.c .a (.c .a (.c .a (.c .a (.c .a (.c .a (.c .a (.c .a (.c .a (.c .a (.c .a (.c .a (.c .a (.c .a (.c .a (.c .a (.c .a (.c .a (.c .a (.c .a (.c .a (.c .a (.c .a (.c .a (.c .a (.c .a (.c .a (.c .a (.c .a (.c .a (.c .a (.c .a (.c .a (.c .a (.c .a (.c .a (.c .a (.c .a (.c .a (.c .a (.c .a (.c .a (.c .a (.c .a (.c .a (.c .a (.c .a (.c (.e rfl rfl) .n))))))))))))))))))))))))))))))))))))))))))))))))))))))))) (.b n0 (.c (.e rfl rfl) (.c (.e rfl rfl) (.c (.e rfl rfl) (.c (.e rfl rfl) (.c (.e rfl rfl) (.c (.e rfl rfl) (.c (.e rfl rfl) (.c (.e rfl rfl) (.c (.e rfl rfl) (.c (.e rfl rfl) (.c (.e rfl rfl) (.c (.e rfl rfl) (.c (.e rfl rfl) (.c (.e rfl rfl) (.c (.e rfl rfl) (.c (.e rfl rfl) .n)))))))))))))))) .n)⟩
          ·
            replace hm := cf h15 hm
            refine mg n13 rfl n43 (fab 7 rfl T.f104_4 (.t n5)) u44 <| mg n13 rfl n43 (ldb T.o3 n1 n7 (.t n44)) u45 <| mg n13 rfl n43 (fab 7 rfl T.f104_4 (.t n6)) u46 <| mg n13 rfl n43 (ldb T.o3 n2 n7 (.t n46)) u47 <| mg n13 rfl n43 (neq (.t n45) (.t n47)) u48 <| m (pkf (.t n43) (.t n48)) u49 <| m (mv (.t n49)) u50 <| sp n50 u50 u50 (fun h16 => ?_) (fun h16 => ?_)
            ·
              replace hm := ct h16 hm
              refine sk n20 rfl n50 rfl u51 <| sk n20 rfl n50 rfl u52 <| sk n20 rfl n50 rfl u53 <| sk n20 rfl n50 rfl u54 <| sk n20 rfl n50 rfl u55 <| m (pkt (.t n50) .b) u56 <| e ?_
              replace hm := sj hm
              subst hm
              have hm := hq13
              exact ⟨true, hm, le [0] (by decide) (.c .a (.c (.b n0) (.c .a (.c (.e rfl rfl) (.c (.e rfl rfl) (.c .a (.c .a (.c .a (.c .a (.c .a (.c .a (.c .a (.c .a (.c .a (.c .a (.c .a (.c .a (.c .a (.c .a (.c .a (.c .a (.c .a (.c .a (.c .a (.c .a (.c .a (.c .a (.c .a (.c .a (.c .a (.c .a (.c .a (.c .a (.c .a (.c .a (.c .a (.c .a (.c .a (.c .a (.c .a (.c .a (.c .a (.c .a (.c .a (.c .a (.c .a (.c .a (.c .a (.c .a (.c .a (.c .a (.c .a (.c .a (.c .a (.c .a (.c .a (.c (.e rfl rfl) .n))))))))))))))))))))))))))))))))))))))))))))))))))))))))) (.b n0 (.c (.e rfl rfl) (.c (.e rfl rfl) (.c (.e rfl rfl) (.c (.e rfl rfl) (.c (.e rfl rfl) (.c (.e rfl rfl) (.c (.e rfl rfl) (.c (.e rfl rfl) (.c (.e rfl rfl) (.c (.e rfl rfl) (.c (.e rfl rfl) (.c (.e rfl rfl) (.c (.e rfl rfl) (.c (.e rfl rfl) (.c (.e rfl rfl) (.c (.e rfl rfl) .n)))))))))))))))) .n)⟩
            ·
              replace hm := cf h16 hm
              refine mg n20 rfl n50 (fab 5 rfl T.f104_2 (.t n5)) u51 <| mg n20 rfl n50 (ldb T.o3 n1 n5 (.t n51)) u52 <| mg n20 rfl n50 (fab 5 rfl T.f104_2 (.t n6)) u53 <| mg n20 rfl n50 (ldb T.o3 n2 n5 (.t n53)) u54 <| mg n20 rfl n50 (neq (.t n52) (.t n54)) u55 <| m (pkf (.t n50) (.t n55)) u56 <| e ?_
              replace hm := sj hm
              subst hm
              have hm := hq13
              exact ⟨(z7.Key != z11.Key), hm, le [0] (by decide) (.c .a (.c (.b n0) (.c .a (.c (.e rfl rfl) (.c (.e rfl rfl) (.c .a (.c .a (.c .a (.c .a (.c .a (.c .a (.c .a (.c .a (.c .a (.c .a (.c .a (.c .a (.c .a (.c .a (.c .a (.c .a (.c .a (.c .a (.c .a (.c .a (.c .a (.c .a (.c .a (.c .a (.c .a (.c .a (.c .a (.c .a (.c .a (.c .a (.c .a (.c .a (.c .a (.c .a (.c .a (.c .a (.c .a (.c .a (.c .a (.c .a (.c .a (.c .a (.c .a (.c .a (.c .a (.c .a (.c .a (.c .a (.c .a (.c .a (.c .a (.c (.e rfl rfl) .n))))))))))))))))))))))))))))))))))))))))))))))))))))))))) (.b n0 (.c (.e rfl rfl) (.c (.e rfl rfl) (.c (.e rfl rfl) (.c (.e rfl rfl) (.c (.e rfl rfl) (.c (.e rfl rfl) (.c (.e rfl rfl) (.c (.e rfl rfl) (.c (.e rfl rfl) (.c (.e rfl rfl) (.c (.e rfl rfl) (.c (.e rfl rfl) (.c (.e rfl rfl) (.c (.e rfl rfl) (.c (.e rfl rfl) (.c (.e rfl rfl) .n)))))))))))))))) .n)⟩
      ·
        refine cnd n56 (fun h17 => ?_) (fun h17 => ?_)
        ·
          replace hm := ct h17 hm
          refine sr <| m (as_ .b) u2 <| e ?_
          replace hm := inl1 hm hq2
          subst hm
          exact rt (ret1 (.t n2 (.p rfl) .n) rfl)
        ·
          replace hm := cf h17 hm
          refine skp ?_
          refine rg <| m (mv (.t n4)) u13 <| m (add (.t n13) (.i rfl)) u14 <| m (as_ (.t n14)) u4 <| e ?_
          exact ⟨i0 + 1, hm, le [0] (by decide) (.c .a (.c (.b n0) (.c .a (.c (.e rfl rfl) (.c (.e (wi (by omega)) rfl) (.c .a (.c .a (.c .a (.c .a (.c .a (.c .a (.c .a (.c .a (.c .a (.c .a (.c .a (.c .a (.c .a (.c .a (.c .a (.c .a (.c .a (.c .a (.c .a (.c .a (.c .a (.c .a (.c .a (.c .a (.c .a (.c .a (.c .a (.c .a (.c .a (.c .a (.c .a (.c .a (.c .a (.c .a (.c .a (.c .a (.c .a (.c .a (.c .a (.c .a (.c .a (.c .a (.c .a (.c .a (.c .a (.c .a (.c .a (.c .a (.c .a (.c .a (.c .a (.c .a .n))))))))))))))))))))))))))))))))))))))))))))))))))))))))) (.b n0 (.c (.e rfl rfl) (.c (.e rfl rfl) (.c (.e rfl rfl) (.c (.e rfl rfl) (.c (.e rfl rfl) (.c (.e rfl rfl) (.c (.e rfl rfl) (.c (.e rfl rfl) (.c (.e rfl rfl) (.c (.e rfl rfl) (.c (.e rfl rfl) (.c (.e rfl rfl) (.c (.e rfl rfl) (.c (.e rfl rfl) (.c (.e rfl rfl) (.c (.e rfl rfl) .n)))))))))))))))) .n)⟩
    ·
      replace hm := cf h4 hm
      have h4d := of_decide_eq_false h4
      refine ex (x1 ?_)
      replace hm := inr1 hm hq2
      exact ⟨(), hm, le [] (by decide) (.c .a (.c .a (.c .a (.c .a (.c .a (.c .a (.c .a (.c .a (.c .a (.c .a (.c .a (.c .a (.c .a (.c .a (.c .a (.c .a (.c .a (.c .a (.c .a (.c .a (.c .a (.c .a (.c .a (.c .a (.c .a (.c .a (.c .a (.c .a (.c .a (.c .a (.c .a (.c .a (.c .a (.c .a (.c .a (.c .a (.c .a (.c .a (.c .a (.c .a (.c .a (.c .a (.c .a (.c .a (.c .a (.c .a (.c .a (.c .a (.c .a (.c .a (.c .a (.c .a (.c .a (.c .a (.c .a (.c .a (.c .a .n))))))))))))))))))))))))))))))))))))))))))))))))))))))))) .n⟩
  ·
    refine sr <| m (as_ .b) u2 <| e ?_
    replace hm := sj hm
    subst hm
    exact rt (ret1 (.t n2 (.p rfl) .n) rfl)

theorem tot_spec_IsConverged (w_ : D.World) (hp0 : WOk w_) : Spec Tryz.prog G0 24 [.agg (D.World.V w_)] (fun v => v = .bool (convF w_)) := sp_spec_IsConverged w_ _ (t_spec_IsConverged w_ hp0)

theorem sp_impl_IsConverged (w_ : D.World) (r : Bool) (hm : m_impl_IsConverged w_ = some r) : Spec Tryz.prog G0 25 [.agg (D.World.V w_)] (fun v => v = .bool r) := by
  rw [m_impl_IsConverged] at hm
  refine enter (l := [.tmp 2]) Tryz.func25 rfl Tryz.ntmps25 rfl T.en25 fun E => ?_
  simp only [List.length_cons, List.length_nil, List.replicate_succ, List.replicate_zero, List.cons_append, List.nil_append, Nat.reduceAdd, Nat.reduceSub]
  refine sr <| k (bx rfl s0 u1 (.t n0)) <| m (as_ .b) u2 <| e ?_
  obtain ⟨c1, hm⟩ := gd_some hm
  refine sr <| m (lab T.a57 n0 d0 k16 (.t n1)) u8 <| c (call (tot_impl_ReachableDevices w_ c1) (.c (.t n8) rfl .n)) u9 <| m (as_ (.t n9)) u3 <| e ?_
  refine sq ?_
  refine sr <| m (mv (.t n3)) u10 <| m (lenm (l := (reachF w_)) (f := iV) T.s95 (.t n10)) u11 <| m (mv (.i rfl)) u12 <| e ?_
  refine jmx hm (fun _ : Unit => ⟨[.any, .any, .any, .any, .any, .any, .any, .any, .any, .any, .any, .any, .any, .any, .any, .any, .any, .any, .any, .any, .any, .any, .any, .any, .any, .any, .any, .any, .any, .any, .any, .any, .any, .any, .any, .any, .any, .any, .any, .any, .any, .any, .any, .any, .any, .any, .any, .any, .any, .any, .any, .any, .any, .any, .any, .any], []⟩) (fun _ hm hq2 => ?_) (fun _ hm => ?_)
  ·
    refine bk ?_
    refine lpf (m := m_impl_IsConverged_l0 w_) hm (fun i0 : Nat => ⟨[.any, .box 0 0, .any, .slice 1 ((reachF w_).map iV), .any, .any, .any, .any, .any, .any, .slice 1 ((reachF w_).map iV), .int .i64 ((reachF w_).length : Int), .int .i64 (i0 : Int), .any, .any, .any, .any, .any, .any, .any, .any, .any, .any, .any, .any, .any, .any, .any, .any, .any, .any, .any, .any, .any, .any, .any, .any, .any, .any, .any, .any, .any, .any, .any, .any, .any, .any, .any, .any, .any, .any, .any, .any, .any, .any, .any], [.box 57 [.int .i64 w_.Now, .int .i64 w_.Seed, .slice 9 (w_.Devices.map D.Device.V), .slice 1 (w_.Stolen.map bV), .slice 6 (w_.Cloud.Log.map D.LogEntry.V), .int .i64 w_.Cloud.Boxes.Epoch, .slice 4 (w_.Cloud.Boxes.Boxes.map D.Box.V), .slice 4 (w_.Cloud.History.map D.SealedBundle.V), .slice 6 (w_.Sites.map D.Site.V), .int .i64 w_.Vault.Salt, .int .i64 w_.Vault.Threshold, .int .i64 w_.Vault.Check, .int .i64 w_.Vault.Masked, .slice 7 (w_.Hosts.map D.KeeperHost.V), .int .i64 w_.Pin, .slice 4 (w_.Mail.Notices.map D.Notice.V)]]⟩) (fun _ => rfl) (le [0] (by decide) (.c .a (.c (.b n0) (.c .a (.c (.e rfl rfl) (.c .a (.c .a (.c .a (.c .a (.c .a (.c .a (.c (.e rfl rfl) (.c (.e rfl rfl) (.c (.e rfl rfl) (.c .a (.c .a (.c .a (.c .a (.c .a (.c .a (.c .a (.c .a (.c .a (.c .a (.c .a (.c .a (.c .a (.c .a (.c .a (.c .a (.c .a (.c .a (.c .a (.c .a (.c .a (.c .a (.c .a (.c .a (.c .a (.c .a (.c .a (.c .a (.c .a (.c .a (.c .a (.c .a (.c .a (.c .a (.c .a (.c .a (.c .a (.c .a (.c .a (.c .a (.c .a (.c .a (.c .a .n)))))))))))))))))))))))))))))))))))))))))))))))))))))))) (.b n0 (.c (.e rfl rfl) (.c (.e rfl rfl) (.c (.e rfl rfl) (.c (.e rfl rfl) (.c (.e rfl rfl) (.c (.e rfl rfl) (.c (.e rfl rfl) (.c (.e rfl rfl) (.c (.e rfl rfl) (.c (.e rfl rfl) (.c (.e rfl rfl) (.c (.e rfl rfl) (.c (.e rfl rfl) (.c (.e rfl rfl) (.c (.e rfl rfl) (.c (.e rfl rfl) .n)))))))))))))))) .n)) ?_
    rintro f i0 hm
    rw [m_impl_IsConverged_l0] at hm
    refine sr <| m (lss (.t n12) (.t n11)) u13 <| e ?_
    refine rng n11 fun _ ra3 => ?_
    replace ra3 := (show (_ : Int) ≤ 9223372036854775807 from ra3)
    refine sq ?_
    refine cnd n13 (fun h4 => ?_) (fun h4 => ?_)
    ·
      replace hm := ct h4 hm
      have h4d := of_decide_eq_true h4
      refine skp ?_
      refine sq ?_
      refine bk ?_
      obtain ⟨z5, e6, hm⟩ := bd_some hm
      refine sr <| m (ixq (f := iV) e6 T.s95 (.t n10) (.t n12)) u14 <| m (lde T.o3 n0 (.t n14)) u15 <| m (as_ (.t n15)) u5 <| e ?_
      obtain ⟨z7, e8, hm⟩ := bd_some hm
      obtain ⟨z9, e10, hm⟩ := bd_some hm
      refine sd (some 8) [(0, true), (1, true), (2, true), (3, true), (4, true), (5, true), (6, true), (7, false), (8, false)] T.mix (by kernel_rfl) <| om n0 (fab 2 rfl T.f57_2 (.t n1)) u16 <| om n1 (ldb T.o42 n0 n2 (.t n16)) u17 <| om n2 (mv (.t n3)) u18 <| om n3 (ixq (f := iV) e8 T.s95 (.t n18) (.i rfl)) u19 <| om n4 (lde T.o3 n0 (.t n19)) u20 <| om n5 (ixq (f := D.Device.V) e10 T.s42 (.t n17) (.t n20)) u21 <| om n6 (lae T.a104 k9 (.t n21)) u22 <| ok_ n7 (al T.z104 s1 u6) <| oka n8 (sta T.a104 rfl rfl n1 (.z (.z (.z (.z (.z (.z (.z (.z (.z .n))))))))) q1 (.t n6) (.t n22)) hz0 <| ze ?_
      obtain ⟨z11, e12, hm⟩ := bd_some hm
      refine sr <| m (fab 2 rfl T.f57_2 (.t n1)) u23 <| m (ldb T.o42 n0 n2 (.t n23)) u24 <| m (mv (.t n5)) u25 <| m (ixq (f := D.Device.V) e12 T.s42 (.t n24) (.t n25)) u26 <| m (lae T.a104 k9 (.t n26)) u27 <| k (al T.z104 s2 u7) <| k (sta T.a104 rfl rfl n2 (.z (.z (.z (.z (.z (.z (.z (.z (.z .n))))))))) q2 (.t n7) (.t n27)) <| e ?_
      refine sr <| rjb hm (fun j1_54 : Bool => ⟨[.any, .box 0 0, .any, .slice 1 ((reachF w_).map iV), .any, .any, .any, .any, .any, .any, .slice 1 ((reachF w_).map iV), .int .i64 ((reachF w_).length : Int), .int .i64 (i0 : Int), .any, .any, .any, .any, .any, .any, .any, .any, .any, .any, .any, .any, .any, .any, .any, .any, .any, .any, .any, .any, .any, .any, .any, .any, .any, .any, .any, .any, .any, .any, .any, .any, .any, .any, .any, .any, .any, .any, .any, .any, .any, .bool j1_54, .any], [.box 57 [.int .i64 w_.Now, .int .i64 w_.Seed, .slice 9 (w_.Devices.map D.Device.V), .slice 1 (w_.Stolen.map bV), .slice 6 (w_.Cloud.Log.map D.LogEntry.V), .int .i64 w_.Cloud.Boxes.Epoch, .slice 4 (w_.Cloud.Boxes.Boxes.map D.Box.V), .slice 4 (w_.Cloud.History.map D.SealedBundle.V), .slice 6 (w_.Sites.map D.Site.V), .int .i64 w_.Vault.Salt, .int .i64 w_.Vault.Threshold, .int .i64 w_.Vault.Check, .int .i64 w_.Vault.Masked, .slice 7 (w_.Hosts.map D.KeeperHost.V), .int .i64 w_.Pin, .slice 4 (w_.Mail.Notices.map D.Notice.V)]]⟩) (fun _ hm hq13 => ?_) (fun j1_54 hm => ?_)
      ·
        refine m (fab 8 rfl T.f104_5 (.t n6)) u28 <| m (lab T.a102 n1 d8 k1 (.t n28)) u29 <| m (fab 8 rfl T.f104_5 (.t n7)) u30 <| m (lab T.a102 n2 d8 k1 (.t n30)) u31 <| c (call (tot_impl_EqualBundles z9.Bundle z11.Bundle) (.c (.t n29) rfl (.c (.t n31) rfl .n))) u32 <| m (not_ (.t n32)) u33 <| m (mv (.t n33)) u34 <| sp n34 u34 u34 (fun h14 => ?_) (fun h14 => ?_)
        ·
          replace hm := ct h14 hm
          refine sk n6 rfl n34 rfl u35 <| sk n6 rfl n34 rfl u36 <| sk n6 rfl n34 rfl u37 <| sk n6 rfl n34 rfl u38 <| sk n6 rfl n34 rfl u39 <| m (pkt (.t n34) .b) u40 <| m (mv (.t n40)) u41 <| sk n13 rfl n41 rfl u42 <| sk n13 rfl n41 rfl u43 <| sk n13 rfl n41 rfl u44 <| sk n13 rfl n41 rfl u45 <| sk n13 rfl n41 rfl u46 <| m (pkt (.t n41) .b) u47 <| m (mv (.t n47)) u48 <| sk n20 rfl n48 rfl u49 <| sk n20 rfl n48 rfl u50 <| sk n20 rfl n48 rfl u51 <| sk n20 rfl n48 rfl u52 <| sk n20 rfl n48 rfl u53 <| m (pkt (.t n48) .b) u54 <| e ?_
          replace hm := sj hm
          subst hm
          have hm := hq13
          exact ⟨true, hm, le [0] (by decide) (.c .a (.c (.b n0) (.c .a (.c (.e rfl rfl) (.c .a (.c .a (.c .a (.c .a (.c .a (.c .a (.c (.e rfl rfl) (.c (.e rfl rfl) (.c (.e rfl rfl) (.c .a (.c .a (.c .a (.c .a (.c .a (.c .a (.c .a (.c .a (.c .a (.c .a (.c .a (.c .a (.c .a (.c .a (.c .a (.c .a (.c .a (.c .a (.c .a (.c .a (.c .a (.c .a (.c .a (.c .a (.c .a (.c .a (.c .a (.c .a (.c .a (.c .a (.c .a (.c .a (.c .a (.c .a (.c .a (.c .a (.c .a (.c .a (.c .a (.c .a (.c .a (.c (.e rfl rfl) (.c .a .n)))))))))))))))))))))))))))))))))))))))))))))))))))))))) (.b n0 (.c (.e rfl rfl) (.c (.e rfl rfl) (.c (.e rfl rfl) (.c (.e rfl rfl) (.c (.e rfl rfl) (.c (.e rfl rfl) (.c (.e rfl rfl) (.c (.e rfl rfl) (.c (.e rfl rfl) (.c (.e rfl rfl) (.c (.e rfl rfl) (.c (.e rfl rfl) (.c (.e rfl rfl) (.c (.e rfl rfl) (.c (.e rfl rfl) (.c (.e rfl rfl) .n)))))))))))))))) .n)⟩
        ·
          replace hm := cf h14 hm
          refine mg n6 rfl n34 (fab 6 rfl T.f104_3 (.t n6)) u35 <| mg n6 rfl n34 (ldb T.o3 n1 n6 (.t n35)) u36 <| mg n6 rfl n34 (fab 6 rfl T.f104_3 (.t n7)) u37 <| mg n6 rfl n34 (ldb T.o3 n2 n6 (.t n37)) u38 <| mg n6 rfl n34 (neq (.t n36) (.t n38)) u39 <| m (pkf (.t n34) (.t n39)) u40 <| m (mv (.t n40)) u41 <| sp n41 u41 u41 (fun h15 => ?_) (fun h15 => ?_)
          ·
            replace hm := ct h15 hm
            refine sk n13 rfl n41 rfl u42 <| sk n13 rfl n41 rfl u43 <| sk n13 rfl n41 rfl u44 <| sk n13 rfl n41 rfl u45 <| sk n13 rfl n41 rfl u46 <| m (pkt (.t n41) .b) u47 <| m (mv (.t n47)) u48 <| sk n20 rfl n48 rfl u49 <| sk n20 rfl n48 rfl u50 <| sk n20 rfl n48 rfl u51 <| sk n20 rfl n48 rfl u52 <| sk n20 rfl n48 rfl u53 <| m (pkt (.t n48) .b) u54 <| e ?_
            replace hm := sj hm
            subst hm
            have hm := hq13
            exact ⟨true, hm, le [0] (by decide) (.c .a (.c (.b n0) (.c .a (.c (.e rfl rfl) (.c .a (.c .a (.c .a (.c .a (.c .a (.c .a (.c (.e rfl rfl) (.c (.e rfl rfl) (.c (.e rfl rfl) (.c .a (.c .a (.c .a (.c .a (.c .a (.c .a (.c .a (.c .a (.c .a (.c .a (.c .a (.c .a (.c .a (.c .a (.c .a (.c .a (.c .a (.c .a (.c .a (.c .a (.c .a (.c .a (.c .a (.c .a (.c .a (.c .a (.c .a (.c .a (.c .a (.c .a (.c .a (.c .a (.c .a (.c .a (.c .a (.c .a (.c .a (.c .a (.c .a (.c .a (.c .a (.c (.e rfl rfl) (.c .a .n)))))))))))))))))))))))))))))))))))))))))))))))))))))))) (.b n0 (.c (.e rfl rfl) (.c (.e rfl rfl) (.c (.e rfl rfl) (.c (.e rfl rfl) (.c (.e rfl rfl) (.c (.e rfl rfl) (.c (.e rfl rfl) (.c (.e rfl rfl) (.c (.e rfl rfl) (.c (.e rfl rfl) (.c (.e rfl rfl) (.c (.e rfl rfl) (.c (.e rfl rfl) (.c (.e rfl rfl) (.c (.e rfl rfl) (.c (.e rfl rfl) .n)))))))))))))))) .n)⟩
          ·
            replace hm := cf h15 hm
            refine mg n13 rfl n41 (fab 7 rfl T.f104_4 (.t n6)) u42 <| mg n13 rfl n41 (ldb T.o3 n1 n7 (.t n42)) u43 <| mg n13 rfl n41 (fab 7 rfl T.f104_4 (.t n7)) u44 <| mg n13 rfl n41 (ldb T.o3 n2 n7 (.t n44)) u45 <| mg n13 rfl n41 (neq (.t n43) (.t n45)) u46 <| m (pkf (.t n41) (.t n46)) u47 <| m (mv (.t n47)) u48 <| sp n48 u48 u48 (fun h16 => ?_) (fun h16 => ?_)
            ·
              replace hm := ct h16 hm
              refine sk n20 rfl n48 rfl u49 <| sk n20 rfl n48 rfl u50 <| sk n20 rfl n48 rfl u51 <| sk n20 rfl n48 rfl u52 <| sk n20 rfl n48 rfl u53 <| m (pkt (.t n48) .b) u54 <| e ?_
              replace hm := sj hm
              subst hm
              have hm := hq13
              exact ⟨true, hm, le [0] (by decide) (.c .a (.c (.b n0) (.c .a (.c (.e rfl rfl) (.c .a (.c .a (.c .a (.c .a (.c .a (.c .a (.c (.e rfl rfl) (.c (.e rfl rfl) (.c (.e rfl rfl) (.c .a (.c .a (.c .a (.c .a (.c .a (.c .a (.c .a (.c .a (.c .a (.c .a (.c .a (.c .a (.c .a (.c .a (.c .a (.c .a (.c .a (.c .a (.c .a (.c .a (.c .a (.c .a (.c .a (.c .a (.c .a (.c .a (.c .a (.c .a (.c .a (.c .a (.c .a (.c .a (.c .a (.c .a (.c .a (.c .a (.c .a (.c .a (.c .a (.c .a (.c .a (.c (.e rfl rfl) (.c .a .n)))))))))))))))))))))))))))))))))))))))))))))))))))))))) (.b n0 (.c (.e rfl rfl) (.c (.e rfl rfl) (.c (.e rfl rfl) (.c (.e rfl rfl) (.c (.e rfl rfl) (.c (.e rfl rfl) (.c (.e rfl rfl) (.c (.e rfl rfl) (.c (.e rfl rfl) (.c (.e rfl rfl) (.c (.e rfl rfl) (.c (.e rfl rfl) (.c (.e rfl rfl) (.c (.e rfl rfl) (.c (.e rfl rfl) (.c (.e rfl rfl) .n)))))))))))))))) .n)⟩
            ·
              replace hm := cf h16 hm
              refine mg n20 rfl n48 (fab 5 rfl T.f104_2 (.t n6)) u49 <| mg n20 rfl n48 (ldb T.o3 n1 n5 (.t n49)) u50 <| mg n20 rfl n48 (fab 5 rfl T.f104_2 (.t n7)) u51 <| mg n20 rfl n48 (ldb T.o3 n2 n5 (.t n51)) u52 <| mg n20 rfl n48 (neq (.t n50) (.t n52)) u53 <| m (pkf (.t n48) (.t n53)) u54 <| e ?_
              replace hm := sj hm
              subst hm
              have hm := hq13
              exact ⟨(z9.Key != z11.Key), hm, le [0] (by decide) (.c .a (.c (.b n0) (.c .a (.c (.e rfl rfl) (.c .a (.c .a (.c .a (.c .a (.c .a (.c .a (.c (.e rfl rfl) (.c (.e rfl rfl) (.c (.e rfl rfl) (.c .a (.c .a (.c .a (.c .a (.c .a (.c .a (.c .a (.c .a (.c .a (.c .a (.c .a (.c .a (.c .a (.c .a (.c .a (.c .a (.c .a (.c .a (.c .a (.c .a (.c .a (.c .a (.c .a (.c .a (.c .a (.c .a (.c .a (.c .a (.c .a (.c .a (.c .a (.c .a (.c .a (.c .a (.c .a (.c .a (.c .a (.c .a (.c .a (.c .a (.c .a (.c (.e rfl rfl) (.c .a .n)))))))))))))))))))))))))))))))))))))))))))))))))))))))) (.b n0 (.c (.e rfl rfl) (.c (.e rfl rfl) (.c (.e rfl rfl) (.c (.e rfl rfl) (.c (.e rfl rfl) (.c (.e rfl rfl) (.c (.e rfl rfl) (.c (.e rfl rfl) (.c (.e rfl rfl) (.c (.e rfl rfl) (.c (.e rfl rfl) (.c (.e rfl rfl) (.c (.e rfl rfl) (.c (.e rfl rfl) (.c (.e rfl rfl) (.c (.e rfl rfl) .n)))))))))))))))) .n)⟩
      ·
        refine cnd n54 (fun h17 => ?_) (fun h17 => ?_)
        ·
          replace hm := ct h17 hm
          refine sr <| m (as_ .b) u2 <| e ?_
          replace hm := inl1 hm hq2
          subst hm
          exact rt (ret1 (.t n2 (.p rfl) .n) rfl)
        ·
          replace hm := cf h17 hm
          refine skp ?_
          refine rg <| m (add (.t n12) (.i rfl)) u55 <| m (mv (.t n55)) u12 <| e ?_
          exact ⟨i0 + 1, hm, le [0] (by decide) (.c .a (.c (.b n0) (.c .a (.c (.e rfl rfl) (.c .a (.c .a (.c .a (.c .a (.c .a (.c .a (.c (.e rfl rfl) (.c (.e rfl rfl) (.c (.e (wi (by omega)) rfl) (.c .a (.c .a (.c .a (.c .a (.c .a (.c .a (.c .a (.c .a (.c .a (.c .a (.c .a (.c .a (.c .a (.c .a (.c .a (.c .a (.c .a (.c .a (.c .a (.c .a (.c .a (.c .a (.c .a (.c .a (.c .a (.c .a (.c .a (.c .a (.c .a (.c .a (.c .a (.c .a (.c .a (.c .a (.c .a (.c .a (.c .a (.c .a (.c .a (.c .a (.c .a (.c .a (.c .a .n)))))))))))))))))))))))))))))))))))))))))))))))))))))))) (.b n0 (.c (.e rfl rfl) (.c (.e rfl rfl) (.c (.e rfl rfl) (.c (.e rfl rfl) (.c (.e rfl rfl) (.c (.e rfl rfl) (.c (.e rfl rfl) (.c (.e rfl rfl) (.c (.e rfl rfl) (.c (.e rfl rfl) (.c (.e rfl rfl) (.c (.e rfl rfl) (.c (.e rfl rfl) (.c (.e rfl rfl) (.c (.e rfl rfl) (.c (.e rfl rfl) .n)))))))))))))))) .n)⟩
    ·
      replace hm := cf h4 hm
      have h4d := of_decide_eq_false h4
      refine ex (x1 ?_)
      replace hm := inr1 hm hq2
      exact ⟨(), hm, le [] (by decide) (.c .a (.c .a (.c .a (.c .a (.c .a (.c .a (.c .a (.c .a (.c .a (.c .a (.c .a (.c .a (.c .a (.c .a (.c .a (.c .a (.c .a (.c .a (.c .a (.c .a (.c .a (.c .a (.c .a (.c .a (.c .a (.c .a (.c .a (.c .a (.c .a (.c .a (.c .a (.c .a (.c .a (.c .a (.c .a (.c .a (.c .a (.c .a (.c .a (.c .a (.c .a (.c .a (.c .a (.c .a (.c .a (.c .a (.c .a (.c .a (.c .a (.c .a (.c .a (.c .a (.c .a (.c .a (.c .a (.c .a .n)))))))))))))))))))))))))))))))))))))))))))))))))))))))) .n⟩
  ·
    refine sr <| m (as_ .b) u2 <| e ?_
    replace hm := sj hm
    subst hm
    exact rt (ret1 (.t n2 (.p rfl) .n) rfl)

theorem tot_impl_IsConverged (w_ : D.World) (hp0 : WOk w_) : Spec Tryz.prog G0 25 [.agg (D.World.V w_)] (fun v => v = .bool (convF w_)) := sp_impl_IsConverged w_ _ (t_impl_IsConverged w_ hp0)
end Go.VK
