/-
  Printed by wip/tools (own work of this part): models of functions, walks over the value kit, and proofs.
-/
import Derived.Test.YtpblmeojgboagaaGreatXmKnowsAccount
import Derived.Test.YtpblmeojgboagaaGreatProg
set_option linter.unusedVariables false
set_option linter.unusedSimpArgs false
set_option maxRecDepth 100000
set_option maxHeartbeats 4000000
namespace Go.VK
open Go.RowKit Go.Proofs
abbrev G0 : GI := GTriv
theorem T.a102 : aggB Tryz.prog 102 1 = true := by kernel_rfl
theorem T.a104 : aggB Tryz.prog 104 9 = true := by kernel_rfl
theorem T.a106 : aggB Tryz.prog 106 6 = true := by kernel_rfl
theorem T.a111 : aggB Tryz.prog 111 4 = true := by kernel_rfl
theorem T.a118 : aggB Tryz.prog 118 3 = true := by kernel_rfl
theorem T.a120 : aggB Tryz.prog 120 6 = true := by kernel_rfl
theorem T.a123 : aggB Tryz.prog 123 3 = true := by kernel_rfl
theorem T.a125 : aggB Tryz.prog 125 4 = true := by kernel_rfl
theorem T.a130 : aggB Tryz.prog 130 4 = true := by kernel_rfl
theorem T.a133 : aggB Tryz.prog 133 1 = true := by kernel_rfl
theorem T.a135 : aggB Tryz.prog 135 9 = true := by kernel_rfl
theorem T.a143 : aggB Tryz.prog 143 3 = true := by kernel_rfl
theorem T.a145 : aggB Tryz.prog 145 6 = true := by kernel_rfl
theorem T.a147 : aggB Tryz.prog 147 2 = true := by kernel_rfl
theorem T.a149 : aggB Tryz.prog 149 5 = true := by kernel_rfl
theorem T.a152 : aggB Tryz.prog 152 7 = true := by kernel_rfl
theorem T.a184 : aggB Tryz.prog 184 4 = true := by kernel_rfl
theorem T.a192 : aggB Tryz.prog 192 6 = true := by kernel_rfl
theorem T.a194 : aggB Tryz.prog 194 4 = true := by kernel_rfl
theorem T.a202 : aggB Tryz.prog 202 4 = true := by kernel_rfl
theorem T.a204 : aggB Tryz.prog 204 4 = true := by kernel_rfl
theorem T.a220 : aggB Tryz.prog 220 4 = true := by kernel_rfl
theorem T.a225 : aggB Tryz.prog 225 4 = true := by kernel_rfl
theorem T.a230 : aggB Tryz.prog 230 3 = true := by kernel_rfl
theorem T.a248 : aggB Tryz.prog 248 4 = true := by kernel_rfl
theorem T.a251 : aggB Tryz.prog 251 3 = true := by kernel_rfl
theorem T.a253 : aggB Tryz.prog 253 3 = true := by kernel_rfl
theorem T.a258 : aggB Tryz.prog 258 4 = true := by kernel_rfl
theorem T.a27 : aggB Tryz.prog 27 2 = true := by kernel_rfl
theorem T.a30 : aggB Tryz.prog 30 4 = true := by kernel_rfl
theorem T.a33 : aggB Tryz.prog 33 4 = true := by kernel_rfl
theorem T.a37 : aggB Tryz.prog 37 1 = true := by kernel_rfl
theorem T.a39 : aggB Tryz.prog 39 16 = true := by kernel_rfl
theorem T.a46 : aggB Tryz.prog 46 2 = true := by kernel_rfl
theorem T.a49 : aggB Tryz.prog 49 4 = true := by kernel_rfl
theorem T.a51 : aggB Tryz.prog 51 4 = true := by kernel_rfl
theorem T.a55 : aggB Tryz.prog 55 1 = true := by kernel_rfl
theorem T.a57 : aggB Tryz.prog 57 16 = true := by kernel_rfl
theorem T.a73 : aggB Tryz.prog 73 2 = true := by kernel_rfl
theorem T.a75 : aggB Tryz.prog 75 5 = true := by kernel_rfl
theorem T.a78 : aggB Tryz.prog 78 7 = true := by kernel_rfl
theorem T.a99 : aggB Tryz.prog 99 4 = true := by kernel_rfl
theorem T.en100 (args : Array Value) (w : World) : (callFunc 100 args).run Tryz.prog w = .ok (.enter 100 args) w := by kernel_rfl
theorem T.en104 (args : Array Value) (w : World) : (callFunc 104 args).run Tryz.prog w = .ok (.enter 104 args) w := by kernel_rfl
theorem T.en105 (args : Array Value) (w : World) : (callFunc 105 args).run Tryz.prog w = .ok (.enter 105 args) w := by kernel_rfl
theorem T.en11 (args : Array Value) (w : World) : (callFunc 11 args).run Tryz.prog w = .ok (.enter 11 args) w := by kernel_rfl
theorem T.en116 (args : Array Value) (w : World) : (callFunc 116 args).run Tryz.prog w = .ok (.enter 116 args) w := by kernel_rfl
theorem T.en117 (args : Array Value) (w : World) : (callFunc 117 args).run Tryz.prog w = .ok (.enter 117 args) w := by kernel_rfl
theorem T.en118 (args : Array Value) (w : World) : (callFunc 118 args).run Tryz.prog w = .ok (.enter 118 args) w := by kernel_rfl
theorem T.en119 (args : Array Value) (w : World) : (callFunc 119 args).run Tryz.prog w = .ok (.enter 119 args) w := by kernel_rfl
theorem T.en120 (args : Array Value) (w : World) : (callFunc 120 args).run Tryz.prog w = .ok (.enter 120 args) w := by kernel_rfl
theorem T.en121 (args : Array Value) (w : World) : (callFunc 121 args).run Tryz.prog w = .ok (.enter 121 args) w := by kernel_rfl
theorem T.en122 (args : Array Value) (w : World) : (callFunc 122 args).run Tryz.prog w = .ok (.enter 122 args) w := by kernel_rfl
theorem T.en123 (args : Array Value) (w : World) : (callFunc 123 args).run Tryz.prog w = .ok (.enter 123 args) w := by kernel_rfl
theorem T.en124 (args : Array Value) (w : World) : (callFunc 124 args).run Tryz.prog w = .ok (.enter 124 args) w := by kernel_rfl
theorem T.en125 (args : Array Value) (w : World) : (callFunc 125 args).run Tryz.prog w = .ok (.enter 125 args) w := by kernel_rfl
theorem T.en126 (args : Array Value) (w : World) : (callFunc 126 args).run Tryz.prog w = .ok (.enter 126 args) w := by kernel_rfl
theorem T.en127 (args : Array Value) (w : World) : (callFunc 127 args).run Tryz.prog w = .ok (.enter 127 args) w := by kernel_rfl
theorem T.en128 (args : Array Value) (w : World) : (callFunc 128 args).run Tryz.prog w = .ok (.enter 128 args) w := by kernel_rfl
theorem T.en129 (args : Array Value) (w : World) : (callFunc 129 args).run Tryz.prog w = .ok (.enter 129 args) w := by kernel_rfl
theorem T.en13 (args : Array Value) (w : World) : (callFunc 13 args).run Tryz.prog w = .ok (.enter 13 args) w := by kernel_rfl
theorem T.en130 (args : Array Value) (w : World) : (callFunc 130 args).run Tryz.prog w = .ok (.enter 130 args) w := by kernel_rfl
theorem T.en131 (args : Array Value) (w : World) : (callFunc 131 args).run Tryz.prog w = .ok (.enter 131 args) w := by kernel_rfl
theorem T.en132 (args : Array Value) (w : World) : (callFunc 132 args).run Tryz.prog w = .ok (.enter 132 args) w := by kernel_rfl
theorem T.en133 (args : Array Value) (w : World) : (callFunc 133 args).run Tryz.prog w = .ok (.enter 133 args) w := by kernel_rfl
theorem T.en134 (args : Array Value) (w : World) : (callFunc 134 args).run Tryz.prog w = .ok (.enter 134 args) w := by kernel_rfl
theorem T.en135 (args : Array Value) (w : World) : (callFunc 135 args).run Tryz.prog w = .ok (.enter 135 args) w := by kernel_rfl
theorem T.en136 (args : Array Value) (w : World) : (callFunc 136 args).run Tryz.prog w = .ok (.enter 136 args) w := by kernel_rfl
theorem T.en137 (args : Array Value) (w : World) : (callFunc 137 args).run Tryz.prog w = .ok (.enter 137 args) w := by kernel_rfl
theorem T.en138 (args : Array Value) (w : World) : (callFunc 138 args).run Tryz.prog w = .ok (.enter 138 args) w := by kernel_rfl
theorem T.en139 (args : Array Value) (w : World) : (callFunc 139 args).run Tryz.prog w = .ok (.enter 139 args) w := by kernel_rfl
theorem T.en140 (args : Array Value) (w : World) : (callFunc 140 args).run Tryz.prog w = .ok (.enter 140 args) w := by kernel_rfl
theorem T.en141 (args : Array Value) (w : World) : (callFunc 141 args).run Tryz.prog w = .ok (.enter 141 args) w := by kernel_rfl
theorem T.en142 (args : Array Value) (w : World) : (callFunc 142 args).run Tryz.prog w = .ok (.enter 142 args) w := by kernel_rfl
theorem T.en143 (args : Array Value) (w : World) : (callFunc 143 args).run Tryz.prog w = .ok (.enter 143 args) w := by kernel_rfl
theorem T.en144 (args : Array Value) (w : World) : (callFunc 144 args).run Tryz.prog w = .ok (.enter 144 args) w := by kernel_rfl
theorem T.en145 (args : Array Value) (w : World) : (callFunc 145 args).run Tryz.prog w = .ok (.enter 145 args) w := by kernel_rfl
theorem T.en146 (args : Array Value) (w : World) : (callFunc 146 args).run Tryz.prog w = .ok (.enter 146 args) w := by kernel_rfl
theorem T.en147 (args : Array Value) (w : World) : (callFunc 147 args).run Tryz.prog w = .ok (.enter 147 args) w := by kernel_rfl
theorem T.en148 (args : Array Value) (w : World) : (callFunc 148 args).run Tryz.prog w = .ok (.enter 148 args) w := by kernel_rfl
theorem T.en15 (args : Array Value) (w : World) : (callFunc 15 args).run Tryz.prog w = .ok (.enter 15 args) w := by kernel_rfl
theorem T.en154 (args : Array Value) (w : World) : (callFunc 154 args).run Tryz.prog w = .ok (.enter 154 args) w := by kernel_rfl
theorem T.en155 (args : Array Value) (w : World) : (callFunc 155 args).run Tryz.prog w = .ok (.enter 155 args) w := by kernel_rfl
theorem T.en156 (args : Array Value) (w : World) : (callFunc 156 args).run Tryz.prog w = .ok (.enter 156 args) w := by kernel_rfl
theorem T.en157 (args : Array Value) (w : World) : (callFunc 157 args).run Tryz.prog w = .ok (.enter 157 args) w := by kernel_rfl
theorem T.en158 (args : Array Value) (w : World) : (callFunc 158 args).run Tryz.prog w = .ok (.enter 158 args) w := by kernel_rfl
theorem T.en159 (args : Array Value) (w : World) : (callFunc 159 args).run Tryz.prog w = .ok (.enter 159 args) w := by kernel_rfl
theorem T.en160 (args : Array Value) (w : World) : (callFunc 160 args).run Tryz.prog w = .ok (.enter 160 args) w := by kernel_rfl
theorem T.en161 (args : Array Value) (w : World) : (callFunc 161 args).run Tryz.prog w = .ok (.enter 161 args) w := by kernel_rfl
theorem T.en162 (args : Array Value) (w : World) : (callFunc 162 args).run Tryz.prog w = .ok (.enter 162 args) w := by kernel_rfl
theorem T.en163 (args : Array Value) (w : World) : (callFunc 163 args).run Tryz.prog w = .ok (.enter 163 args) w := by kernel_rfl
theorem T.en164 (args : Array Value) (w : World) : (callFunc 164 args).run Tryz.prog w = .ok (.enter 164 args) w := by kernel_rfl
theorem T.en165 (args : Array Value) (w : World) : (callFunc 165 args).run Tryz.prog w = .ok (.enter 165 args) w := by kernel_rfl
theorem T.en166 (args : Array Value) (w : World) : (callFunc 166 args).run Tryz.prog w = .ok (.enter 166 args) w := by kernel_rfl
theorem T.en167 (args : Array Value) (w : World) : (callFunc 167 args).run Tryz.prog w = .ok (.enter 167 args) w := by kernel_rfl
theorem T.en168 (args : Array Value) (w : World) : (callFunc 168 args).run Tryz.prog w = .ok (.enter 168 args) w := by kernel_rfl
theorem T.en169 (args : Array Value) (w : World) : (callFunc 169 args).run Tryz.prog w = .ok (.enter 169 args) w := by kernel_rfl
theorem T.en170 (args : Array Value) (w : World) : (callFunc 170 args).run Tryz.prog w = .ok (.enter 170 args) w := by kernel_rfl
theorem T.en171 (args : Array Value) (w : World) : (callFunc 171 args).run Tryz.prog w = .ok (.enter 171 args) w := by kernel_rfl
theorem T.en172 (args : Array Value) (w : World) : (callFunc 172 args).run Tryz.prog w = .ok (.enter 172 args) w := by kernel_rfl
theorem T.en179 (args : Array Value) (w : World) : (callFunc 179 args).run Tryz.prog w = .ok (.enter 179 args) w := by kernel_rfl
theorem T.en180 (args : Array Value) (w : World) : (callFunc 180 args).run Tryz.prog w = .ok (.enter 180 args) w := by kernel_rfl
theorem T.en181 (args : Array Value) (w : World) : (callFunc 181 args).run Tryz.prog w = .ok (.enter 181 args) w := by kernel_rfl
theorem T.en182 (args : Array Value) (w : World) : (callFunc 182 args).run Tryz.prog w = .ok (.enter 182 args) w := by kernel_rfl
theorem T.en183 (args : Array Value) (w : World) : (callFunc 183 args).run Tryz.prog w = .ok (.enter 183 args) w := by kernel_rfl
theorem T.en184 (args : Array Value) (w : World) : (callFunc 184 args).run Tryz.prog w = .ok (.enter 184 args) w := by kernel_rfl
theorem T.en185 (args : Array Value) (w : World) : (callFunc 185 args).run Tryz.prog w = .ok (.enter 185 args) w := by kernel_rfl
theorem T.en186 (args : Array Value) (w : World) : (callFunc 186 args).run Tryz.prog w = .ok (.enter 186 args) w := by kernel_rfl
theorem T.en187 (args : Array Value) (w : World) : (callFunc 187 args).run Tryz.prog w = .ok (.enter 187 args) w := by kernel_rfl
theorem T.en20 (args : Array Value) (w : World) : (callFunc 20 args).run Tryz.prog w = .ok (.enter 20 args) w := by kernel_rfl
theorem T.en21 (args : Array Value) (w : World) : (callFunc 21 args).run Tryz.prog w = .ok (.enter 21 args) w := by kernel_rfl
theorem T.en30 (args : Array Value) (w : World) : (callFunc 30 args).run Tryz.prog w = .ok (.enter 30 args) w := by kernel_rfl
theorem T.en31 (args : Array Value) (w : World) : (callFunc 31 args).run Tryz.prog w = .ok (.enter 31 args) w := by kernel_rfl
theorem T.en32 (args : Array Value) (w : World) : (callFunc 32 args).run Tryz.prog w = .ok (.enter 32 args) w := by kernel_rfl
theorem T.en33 (args : Array Value) (w : World) : (callFunc 33 args).run Tryz.prog w = .ok (.enter 33 args) w := by kernel_rfl
theorem T.en34 (args : Array Value) (w : World) : (callFunc 34 args).run Tryz.prog w = .ok (.enter 34 args) w := by kernel_rfl
theorem T.en35 (args : Array Value) (w : World) : (callFunc 35 args).run Tryz.prog w = .ok (.enter 35 args) w := by kernel_rfl
theorem T.en37 (args : Array Value) (w : World) : (callFunc 37 args).run Tryz.prog w = .ok (.enter 37 args) w := by kernel_rfl
theorem T.en38 (args : Array Value) (w : World) : (callFunc 38 args).run Tryz.prog w = .ok (.enter 38 args) w := by kernel_rfl
theorem T.en39 (args : Array Value) (w : World) : (callFunc 39 args).run Tryz.prog w = .ok (.enter 39 args) w := by kernel_rfl
theorem T.en40 (args : Array Value) (w : World) : (callFunc 40 args).run Tryz.prog w = .ok (.enter 40 args) w := by kernel_rfl
theorem T.en41 (args : Array Value) (w : World) : (callFunc 41 args).run Tryz.prog w = .ok (.enter 41 args) w := by kernel_rfl
theorem T.en42 (args : Array Value) (w : World) : (callFunc 42 args).run Tryz.prog w = .ok (.enter 42 args) w := by kernel_rfl
theorem T.en43 (args : Array Value) (w : World) : (callFunc 43 args).run Tryz.prog w = .ok (.enter 43 args) w := by kernel_rfl
theorem T.en45 (args : Array Value) (w : World) : (callFunc 45 args).run Tryz.prog w = .ok (.enter 45 args) w := by kernel_rfl
theorem T.en46 (args : Array Value) (w : World) : (callFunc 46 args).run Tryz.prog w = .ok (.enter 46 args) w := by kernel_rfl
theorem T.en47 (args : Array Value) (w : World) : (callFunc 47 args).run Tryz.prog w = .ok (.enter 47 args) w := by kernel_rfl
theorem T.en48 (args : Array Value) (w : World) : (callFunc 48 args).run Tryz.prog w = .ok (.enter 48 args) w := by kernel_rfl
theorem T.en49 (args : Array Value) (w : World) : (callFunc 49 args).run Tryz.prog w = .ok (.enter 49 args) w := by kernel_rfl
theorem T.en50 (args : Array Value) (w : World) : (callFunc 50 args).run Tryz.prog w = .ok (.enter 50 args) w := by kernel_rfl
theorem T.en51 (args : Array Value) (w : World) : (callFunc 51 args).run Tryz.prog w = .ok (.enter 51 args) w := by kernel_rfl
theorem T.en54 (args : Array Value) (w : World) : (callFunc 54 args).run Tryz.prog w = .ok (.enter 54 args) w := by kernel_rfl
theorem T.en56 (args : Array Value) (w : World) : (callFunc 56 args).run Tryz.prog w = .ok (.enter 56 args) w := by kernel_rfl
theorem T.en59 (args : Array Value) (w : World) : (callFunc 59 args).run Tryz.prog w = .ok (.enter 59 args) w := by kernel_rfl
theorem T.en6 (args : Array Value) (w : World) : (callFunc 6 args).run Tryz.prog w = .ok (.enter 6 args) w := by kernel_rfl
theorem T.en60 (args : Array Value) (w : World) : (callFunc 60 args).run Tryz.prog w = .ok (.enter 60 args) w := by kernel_rfl
theorem T.en61 (args : Array Value) (w : World) : (callFunc 61 args).run Tryz.prog w = .ok (.enter 61 args) w := by kernel_rfl
theorem T.en62 (args : Array Value) (w : World) : (callFunc 62 args).run Tryz.prog w = .ok (.enter 62 args) w := by kernel_rfl
theorem T.en75 (args : Array Value) (w : World) : (callFunc 75 args).run Tryz.prog w = .ok (.enter 75 args) w := by kernel_rfl
theorem T.en76 (args : Array Value) (w : World) : (callFunc 76 args).run Tryz.prog w = .ok (.enter 76 args) w := by kernel_rfl
theorem T.en77 (args : Array Value) (w : World) : (callFunc 77 args).run Tryz.prog w = .ok (.enter 77 args) w := by kernel_rfl
theorem T.en78 (args : Array Value) (w : World) : (callFunc 78 args).run Tryz.prog w = .ok (.enter 78 args) w := by kernel_rfl
theorem T.en79 (args : Array Value) (w : World) : (callFunc 79 args).run Tryz.prog w = .ok (.enter 79 args) w := by kernel_rfl
theorem T.en80 (args : Array Value) (w : World) : (callFunc 80 args).run Tryz.prog w = .ok (.enter 80 args) w := by kernel_rfl
theorem T.en81 (args : Array Value) (w : World) : (callFunc 81 args).run Tryz.prog w = .ok (.enter 81 args) w := by kernel_rfl
theorem T.en82 (args : Array Value) (w : World) : (callFunc 82 args).run Tryz.prog w = .ok (.enter 82 args) w := by kernel_rfl
theorem T.en83 (args : Array Value) (w : World) : (callFunc 83 args).run Tryz.prog w = .ok (.enter 83 args) w := by kernel_rfl
theorem T.en84 (args : Array Value) (w : World) : (callFunc 84 args).run Tryz.prog w = .ok (.enter 84 args) w := by kernel_rfl
theorem T.en85 (args : Array Value) (w : World) : (callFunc 85 args).run Tryz.prog w = .ok (.enter 85 args) w := by kernel_rfl
theorem T.en86 (args : Array Value) (w : World) : (callFunc 86 args).run Tryz.prog w = .ok (.enter 86 args) w := by kernel_rfl
theorem T.en87 (args : Array Value) (w : World) : (callFunc 87 args).run Tryz.prog w = .ok (.enter 87 args) w := by kernel_rfl
theorem T.en88 (args : Array Value) (w : World) : (callFunc 88 args).run Tryz.prog w = .ok (.enter 88 args) w := by kernel_rfl
theorem T.en89 (args : Array Value) (w : World) : (callFunc 89 args).run Tryz.prog w = .ok (.enter 89 args) w := by kernel_rfl
theorem T.en90 (args : Array Value) (w : World) : (callFunc 90 args).run Tryz.prog w = .ok (.enter 90 args) w := by kernel_rfl
theorem T.en91 (args : Array Value) (w : World) : (callFunc 91 args).run Tryz.prog w = .ok (.enter 91 args) w := by kernel_rfl
theorem T.en92 (args : Array Value) (w : World) : (callFunc 92 args).run Tryz.prog w = .ok (.enter 92 args) w := by kernel_rfl
theorem T.en93 (args : Array Value) (w : World) : (callFunc 93 args).run Tryz.prog w = .ok (.enter 93 args) w := by kernel_rfl
theorem T.en94 (args : Array Value) (w : World) : (callFunc 94 args).run Tryz.prog w = .ok (.enter 94 args) w := by kernel_rfl
theorem T.en95 (args : Array Value) (w : World) : (callFunc 95 args).run Tryz.prog w = .ok (.enter 95 args) w := by kernel_rfl
theorem T.en96 (args : Array Value) (w : World) : (callFunc 96 args).run Tryz.prog w = .ok (.enter 96 args) w := by kernel_rfl
theorem T.en97 (args : Array Value) (w : World) : (callFunc 97 args).run Tryz.prog w = .ok (.enter 97 args) w := by kernel_rfl
theorem T.en98 (args : Array Value) (w : World) : (callFunc 98 args).run Tryz.prog w = .ok (.enter 98 args) w := by kernel_rfl
theorem T.en99 (args : Array Value) (w : World) : (callFunc 99 args).run Tryz.prog w = .ok (.enter 99 args) w := by kernel_rfl
theorem T.f102_0 : fldB Tryz.prog 102 0 0 = true := by kernel_rfl
theorem T.f104_0 : fldB Tryz.prog 104 0 0 = true := by kernel_rfl
theorem T.f104_1 : fldB Tryz.prog 104 1 4 = true := by kernel_rfl
theorem T.f104_2 : fldB Tryz.prog 104 2 5 = true := by kernel_rfl
theorem T.f104_3 : fldB Tryz.prog 104 3 6 = true := by kernel_rfl
theorem T.f104_4 : fldB Tryz.prog 104 4 7 = true := by kernel_rfl
theorem T.f104_5 : fldB Tryz.prog 104 5 8 = true := by kernel_rfl
theorem T.f106_0 : fldB Tryz.prog 106 0 0 = true := by kernel_rfl
theorem T.f106_1 : fldB Tryz.prog 106 1 1 = true := by kernel_rfl
theorem T.f106_2 : fldB Tryz.prog 106 2 2 = true := by kernel_rfl
theorem T.f106_3 : fldB Tryz.prog 106 3 3 = true := by kernel_rfl
theorem T.f106_4 : fldB Tryz.prog 106 4 4 = true := by kernel_rfl
theorem T.f106_5 : fldB Tryz.prog 106 5 5 = true := by kernel_rfl
theorem T.f111_0 : fldB Tryz.prog 111 0 0 = true := by kernel_rfl
theorem T.f111_1 : fldB Tryz.prog 111 1 1 = true := by kernel_rfl
theorem T.f111_2 : fldB Tryz.prog 111 2 2 = true := by kernel_rfl
theorem T.f111_3 : fldB Tryz.prog 111 3 3 = true := by kernel_rfl
theorem T.f118_0 : fldB Tryz.prog 118 0 0 = true := by kernel_rfl
theorem T.f118_1 : fldB Tryz.prog 118 1 1 = true := by kernel_rfl
theorem T.f118_2 : fldB Tryz.prog 118 2 2 = true := by kernel_rfl
theorem T.f120_0 : fldB Tryz.prog 120 0 0 = true := by kernel_rfl
theorem T.f120_1 : fldB Tryz.prog 120 1 1 = true := by kernel_rfl
theorem T.f120_2 : fldB Tryz.prog 120 2 2 = true := by kernel_rfl
theorem T.f120_3 : fldB Tryz.prog 120 3 5 = true := by kernel_rfl
theorem T.f123_0 : fldB Tryz.prog 123 0 0 = true := by kernel_rfl
theorem T.f123_1 : fldB Tryz.prog 123 1 1 = true := by kernel_rfl
theorem T.f123_2 : fldB Tryz.prog 123 2 2 = true := by kernel_rfl
theorem T.f125_0 : fldB Tryz.prog 125 0 0 = true := by kernel_rfl
theorem T.f125_1 : fldB Tryz.prog 125 1 1 = true := by kernel_rfl
theorem T.f125_2 : fldB Tryz.prog 125 2 2 = true := by kernel_rfl
theorem T.f125_3 : fldB Tryz.prog 125 3 3 = true := by kernel_rfl
theorem T.f130_0 : fldB Tryz.prog 130 0 0 = true := by kernel_rfl
theorem T.f130_1 : fldB Tryz.prog 130 1 1 = true := by kernel_rfl
theorem T.f130_2 : fldB Tryz.prog 130 2 2 = true := by kernel_rfl
theorem T.f130_3 : fldB Tryz.prog 130 3 3 = true := by kernel_rfl
theorem T.f133_0 : fldB Tryz.prog 133 0 0 = true := by kernel_rfl
theorem T.f135_0 : fldB Tryz.prog 135 0 0 = true := by kernel_rfl
theorem T.f135_1 : fldB Tryz.prog 135 1 4 = true := by kernel_rfl
theorem T.f135_2 : fldB Tryz.prog 135 2 5 = true := by kernel_rfl
theorem T.f135_3 : fldB Tryz.prog 135 3 6 = true := by kernel_rfl
theorem T.f135_4 : fldB Tryz.prog 135 4 7 = true := by kernel_rfl
theorem T.f135_5 : fldB Tryz.prog 135 5 8 = true := by kernel_rfl
theorem T.f143_0 : fldB Tryz.prog 143 0 0 = true := by kernel_rfl
theorem T.f143_1 : fldB Tryz.prog 143 1 1 = true := by kernel_rfl
theorem T.f143_2 : fldB Tryz.prog 143 2 2 = true := by kernel_rfl
theorem T.f145_0 : fldB Tryz.prog 145 0 0 = true := by kernel_rfl
theorem T.f145_1 : fldB Tryz.prog 145 1 1 = true := by kernel_rfl
theorem T.f145_2 : fldB Tryz.prog 145 2 2 = true := by kernel_rfl
theorem T.f145_3 : fldB Tryz.prog 145 3 5 = true := by kernel_rfl
theorem T.f147_0 : fldB Tryz.prog 147 0 0 = true := by kernel_rfl
theorem T.f147_1 : fldB Tryz.prog 147 1 1 = true := by kernel_rfl
theorem T.f149_0 : fldB Tryz.prog 149 0 0 = true := by kernel_rfl
theorem T.f149_1 : fldB Tryz.prog 149 1 2 = true := by kernel_rfl
theorem T.f149_2 : fldB Tryz.prog 149 2 3 = true := by kernel_rfl
theorem T.f149_3 : fldB Tryz.prog 149 3 4 = true := by kernel_rfl
theorem T.f152_0 : fldB Tryz.prog 152 0 0 = true := by kernel_rfl
theorem T.f152_1 : fldB Tryz.prog 152 1 5 = true := by kernel_rfl
theorem T.f152_2 : fldB Tryz.prog 152 2 6 = true := by kernel_rfl
theorem T.f184_0 : fldB Tryz.prog 184 0 0 = true := by kernel_rfl
theorem T.f184_1 : fldB Tryz.prog 184 1 1 = true := by kernel_rfl
theorem T.f184_2 : fldB Tryz.prog 184 2 2 = true := by kernel_rfl
theorem T.f184_3 : fldB Tryz.prog 184 3 3 = true := by kernel_rfl
theorem T.f192_0 : fldB Tryz.prog 192 0 0 = true := by kernel_rfl
theorem T.f192_1 : fldB Tryz.prog 192 1 1 = true := by kernel_rfl
theorem T.f192_2 : fldB Tryz.prog 192 2 2 = true := by kernel_rfl
theorem T.f192_3 : fldB Tryz.prog 192 3 3 = true := by kernel_rfl
theorem T.f192_4 : fldB Tryz.prog 192 4 4 = true := by kernel_rfl
theorem T.f192_5 : fldB Tryz.prog 192 5 5 = true := by kernel_rfl
theorem T.f194_0 : fldB Tryz.prog 194 0 0 = true := by kernel_rfl
theorem T.f194_1 : fldB Tryz.prog 194 1 1 = true := by kernel_rfl
theorem T.f194_2 : fldB Tryz.prog 194 2 2 = true := by kernel_rfl
theorem T.f194_3 : fldB Tryz.prog 194 3 3 = true := by kernel_rfl
theorem T.f202_0 : fldB Tryz.prog 202 0 0 = true := by kernel_rfl
theorem T.f202_1 : fldB Tryz.prog 202 1 1 = true := by kernel_rfl
theorem T.f202_2 : fldB Tryz.prog 202 2 2 = true := by kernel_rfl
theorem T.f202_3 : fldB Tryz.prog 202 3 3 = true := by kernel_rfl
theorem T.f204_0 : fldB Tryz.prog 204 0 0 = true := by kernel_rfl
theorem T.f204_1 : fldB Tryz.prog 204 1 1 = true := by kernel_rfl
theorem T.f204_2 : fldB Tryz.prog 204 2 2 = true := by kernel_rfl
theorem T.f204_3 : fldB Tryz.prog 204 3 3 = true := by kernel_rfl
theorem T.f220_0 : fldB Tryz.prog 220 0 0 = true := by kernel_rfl
theorem T.f220_1 : fldB Tryz.prog 220 1 1 = true := by kernel_rfl
theorem T.f220_2 : fldB Tryz.prog 220 2 2 = true := by kernel_rfl
theorem T.f220_3 : fldB Tryz.prog 220 3 3 = true := by kernel_rfl
theorem T.f225_0 : fldB Tryz.prog 225 0 0 = true := by kernel_rfl
theorem T.f225_1 : fldB Tryz.prog 225 1 1 = true := by kernel_rfl
theorem T.f225_2 : fldB Tryz.prog 225 2 2 = true := by kernel_rfl
theorem T.f225_3 : fldB Tryz.prog 225 3 3 = true := by kernel_rfl
theorem T.f230_0 : fldB Tryz.prog 230 0 0 = true := by kernel_rfl
theorem T.f230_1 : fldB Tryz.prog 230 1 1 = true := by kernel_rfl
theorem T.f230_2 : fldB Tryz.prog 230 2 2 = true := by kernel_rfl
theorem T.f248_0 : fldB Tryz.prog 248 0 0 = true := by kernel_rfl
theorem T.f248_1 : fldB Tryz.prog 248 1 1 = true := by kernel_rfl
theorem T.f248_2 : fldB Tryz.prog 248 2 2 = true := by kernel_rfl
theorem T.f248_3 : fldB Tryz.prog 248 3 3 = true := by kernel_rfl
theorem T.f251_0 : fldB Tryz.prog 251 0 0 = true := by kernel_rfl
theorem T.f251_1 : fldB Tryz.prog 251 1 1 = true := by kernel_rfl
theorem T.f251_2 : fldB Tryz.prog 251 2 2 = true := by kernel_rfl
theorem T.f253_0 : fldB Tryz.prog 253 0 0 = true := by kernel_rfl
theorem T.f253_1 : fldB Tryz.prog 253 1 1 = true := by kernel_rfl
theorem T.f253_2 : fldB Tryz.prog 253 2 2 = true := by kernel_rfl
theorem T.f258_0 : fldB Tryz.prog 258 0 0 = true := by kernel_rfl
theorem T.f258_1 : fldB Tryz.prog 258 1 1 = true := by kernel_rfl
theorem T.f258_2 : fldB Tryz.prog 258 2 2 = true := by kernel_rfl
theorem T.f258_3 : fldB Tryz.prog 258 3 3 = true := by kernel_rfl
theorem T.f27_0 : fldB Tryz.prog 27 0 0 = true := by kernel_rfl
theorem T.f27_1 : fldB Tryz.prog 27 1 1 = true := by kernel_rfl
theorem T.f30_0 : fldB Tryz.prog 30 0 0 = true := by kernel_rfl
theorem T.f30_1 : fldB Tryz.prog 30 1 1 = true := by kernel_rfl
theorem T.f30_2 : fldB Tryz.prog 30 2 3 = true := by kernel_rfl
theorem T.f33_0 : fldB Tryz.prog 33 0 0 = true := by kernel_rfl
theorem T.f33_1 : fldB Tryz.prog 33 1 1 = true := by kernel_rfl
theorem T.f33_2 : fldB Tryz.prog 33 2 2 = true := by kernel_rfl
theorem T.f33_3 : fldB Tryz.prog 33 3 3 = true := by kernel_rfl
theorem T.f37_0 : fldB Tryz.prog 37 0 0 = true := by kernel_rfl
theorem T.f39_0 : fldB Tryz.prog 39 0 0 = true := by kernel_rfl
theorem T.f39_1 : fldB Tryz.prog 39 1 1 = true := by kernel_rfl
theorem T.f39_2 : fldB Tryz.prog 39 2 2 = true := by kernel_rfl
theorem T.f39_3 : fldB Tryz.prog 39 3 3 = true := by kernel_rfl
theorem T.f39_4 : fldB Tryz.prog 39 4 4 = true := by kernel_rfl
theorem T.f39_5 : fldB Tryz.prog 39 5 8 = true := by kernel_rfl
theorem T.f39_6 : fldB Tryz.prog 39 6 9 = true := by kernel_rfl
theorem T.f39_7 : fldB Tryz.prog 39 7 13 = true := by kernel_rfl
theorem T.f39_8 : fldB Tryz.prog 39 8 14 = true := by kernel_rfl
theorem T.f39_9 : fldB Tryz.prog 39 9 15 = true := by kernel_rfl
theorem T.f46_0 : fldB Tryz.prog 46 0 0 = true := by kernel_rfl
theorem T.f46_1 : fldB Tryz.prog 46 1 1 = true := by kernel_rfl
theorem T.f49_0 : fldB Tryz.prog 49 0 0 = true := by kernel_rfl
theorem T.f49_1 : fldB Tryz.prog 49 1 1 = true := by kernel_rfl
theorem T.f49_2 : fldB Tryz.prog 49 2 3 = true := by kernel_rfl
theorem T.f51_0 : fldB Tryz.prog 51 0 0 = true := by kernel_rfl
theorem T.f51_1 : fldB Tryz.prog 51 1 1 = true := by kernel_rfl
theorem T.f51_2 : fldB Tryz.prog 51 2 2 = true := by kernel_rfl
theorem T.f51_3 : fldB Tryz.prog 51 3 3 = true := by kernel_rfl
theorem T.f55_0 : fldB Tryz.prog 55 0 0 = true := by kernel_rfl
theorem T.f57_0 : fldB Tryz.prog 57 0 0 = true := by kernel_rfl
theorem T.f57_1 : fldB Tryz.prog 57 1 1 = true := by kernel_rfl
theorem T.f57_2 : fldB Tryz.prog 57 2 2 = true := by kernel_rfl
theorem T.f57_3 : fldB Tryz.prog 57 3 3 = true := by kernel_rfl
theorem T.f57_4 : fldB Tryz.prog 57 4 4 = true := by kernel_rfl
theorem T.f57_5 : fldB Tryz.prog 57 5 8 = true := by kernel_rfl
theorem T.f57_6 : fldB Tryz.prog 57 6 9 = true := by kernel_rfl
theorem T.f57_7 : fldB Tryz.prog 57 7 13 = true := by kernel_rfl
theorem T.f57_8 : fldB Tryz.prog 57 8 14 = true := by kernel_rfl
theorem T.f57_9 : fldB Tryz.prog 57 9 15 = true := by kernel_rfl
theorem T.f73_0 : fldB Tryz.prog 73 0 0 = true := by kernel_rfl
theorem T.f73_1 : fldB Tryz.prog 73 1 1 = true := by kernel_rfl
theorem T.f75_0 : fldB Tryz.prog 75 0 0 = true := by kernel_rfl
theorem T.f75_1 : fldB Tryz.prog 75 1 2 = true := by kernel_rfl
theorem T.f75_2 : fldB Tryz.prog 75 2 3 = true := by kernel_rfl
theorem T.f75_3 : fldB Tryz.prog 75 3 4 = true := by kernel_rfl
theorem T.f78_0 : fldB Tryz.prog 78 0 0 = true := by kernel_rfl
theorem T.f78_1 : fldB Tryz.prog 78 1 5 = true := by kernel_rfl
theorem T.f78_2 : fldB Tryz.prog 78 2 6 = true := by kernel_rfl
theorem T.f99_0 : fldB Tryz.prog 99 0 0 = true := by kernel_rfl
theorem T.f99_1 : fldB Tryz.prog 99 1 1 = true := by kernel_rfl
theorem T.f99_2 : fldB Tryz.prog 99 2 2 = true := by kernel_rfl
theorem T.f99_3 : fldB Tryz.prog 99 3 3 = true := by kernel_rfl
theorem T.is5 : (Tryz.prog.underlying 5).isSome = true := by kernel_rfl
theorem T.mix : Tryz.prog.follows .mixedOrders = true := by kernel_rfl
theorem T.o100 : oneB Tryz.prog 100 = true := by kernel_rfl
theorem T.o115 : oneB Tryz.prog 115 = true := by kernel_rfl
theorem T.o116 : oneB Tryz.prog 116 = true := by kernel_rfl
theorem T.o121 : oneB Tryz.prog 121 = true := by kernel_rfl
theorem T.o131 : oneB Tryz.prog 131 = true := by kernel_rfl
theorem T.o140 : oneB Tryz.prog 140 = true := by kernel_rfl
theorem T.o141 : oneB Tryz.prog 141 = true := by kernel_rfl
theorem T.o150 : oneB Tryz.prog 150 = true := by kernel_rfl
theorem T.o174 : oneB Tryz.prog 174 = true := by kernel_rfl
theorem T.o22 : oneB Tryz.prog 22 = true := by kernel_rfl
theorem T.o228 : oneB Tryz.prog 228 = true := by kernel_rfl
theorem T.o23 : oneB Tryz.prog 23 = true := by kernel_rfl
theorem T.o24 : oneB Tryz.prog 24 = true := by kernel_rfl
theorem T.o25 : oneB Tryz.prog 25 = true := by kernel_rfl
theorem T.o28 : oneB Tryz.prog 28 = true := by kernel_rfl
theorem T.o3 : oneB Tryz.prog 3 = true := by kernel_rfl
theorem T.o31 : oneB Tryz.prog 31 = true := by kernel_rfl
theorem T.o34 : oneB Tryz.prog 34 = true := by kernel_rfl
theorem T.o35 : oneB Tryz.prog 35 = true := by kernel_rfl
theorem T.o4 : oneB Tryz.prog 4 = true := by kernel_rfl
theorem T.o42 : oneB Tryz.prog 42 = true := by kernel_rfl
theorem T.o43 : oneB Tryz.prog 43 = true := by kernel_rfl
theorem T.o44 : oneB Tryz.prog 44 = true := by kernel_rfl
theorem T.o47 : oneB Tryz.prog 47 = true := by kernel_rfl
theorem T.o5 : oneB Tryz.prog 5 = true := by kernel_rfl
theorem T.o50 : oneB Tryz.prog 50 = true := by kernel_rfl
theorem T.o52 : oneB Tryz.prog 52 = true := by kernel_rfl
theorem T.o53 : oneB Tryz.prog 53 = true := by kernel_rfl
theorem T.o76 : oneB Tryz.prog 76 = true := by kernel_rfl
theorem T.o9 : oneB Tryz.prog 9 = true := by kernel_rfl
theorem T.o95 : oneB Tryz.prog 95 = true := by kernel_rfl
theorem T.s100 : slB Tryz.prog 100 111 4 32 = true := by kernel_rfl
theorem T.s115 : slB Tryz.prog 115 123 3 40 = true := by kernel_rfl
theorem T.s116 : slB Tryz.prog 116 251 3 24 = true := by kernel_rfl
theorem T.s121 : slB Tryz.prog 121 125 4 32 = true := by kernel_rfl
theorem T.s131 : slB Tryz.prog 131 248 4 32 = true := by kernel_rfl
theorem T.s140 : slB Tryz.prog 140 230 3 40 = true := by kernel_rfl
theorem T.s141 : slB Tryz.prog 141 253 3 24 = true := by kernel_rfl
theorem T.s150 : slB Tryz.prog 150 149 5 40 = true := by kernel_rfl
theorem T.s174 : slB Tryz.prog 174 5 1 1 = true := by kernel_rfl
theorem T.s216 : slB Tryz.prog 216 95 1 24 = true := by kernel_rfl
theorem T.s22 : slB Tryz.prog 22 135 9 104 = true := by kernel_rfl
theorem T.s228 : slB Tryz.prog 228 258 4 32 = true := by kernel_rfl
theorem T.s23 : slB Tryz.prog 23 4 1 1 = true := by kernel_rfl
theorem T.s24 : slB Tryz.prog 24 192 6 48 = true := by kernel_rfl
theorem T.s25 : slB Tryz.prog 25 225 4 48 = true := by kernel_rfl
theorem T.s28 : slB Tryz.prog 28 184 4 48 = true := by kernel_rfl
theorem T.s31 : slB Tryz.prog 31 145 6 104 = true := by kernel_rfl
theorem T.s34 : slB Tryz.prog 34 152 7 72 = true := by kernel_rfl
theorem T.s35 : slB Tryz.prog 35 204 4 32 = true := by kernel_rfl
theorem T.s42 : slB Tryz.prog 42 104 9 104 = true := by kernel_rfl
theorem T.s43 : slB Tryz.prog 43 106 6 48 = true := by kernel_rfl
theorem T.s44 : slB Tryz.prog 44 220 4 48 = true := by kernel_rfl
theorem T.s47 : slB Tryz.prog 47 194 4 48 = true := by kernel_rfl
theorem T.s50 : slB Tryz.prog 50 120 6 104 = true := by kernel_rfl
theorem T.s52 : slB Tryz.prog 52 78 7 72 = true := by kernel_rfl
theorem T.s53 : slB Tryz.prog 53 202 4 32 = true := by kernel_rfl
theorem T.s76 : slB Tryz.prog 76 75 5 40 = true := by kernel_rfl
theorem T.s95 : slB Tryz.prog 95 3 1 8 = true := by kernel_rfl
theorem T.z102 : zerosOf Tryz.prog 102 = some [.nil] := by kernel_rfl
theorem T.z104 : zerosOf Tryz.prog 104 = some [.int .i64 0, .int .i64 0, .int .i64 0, .int .i64 0, .nil, .int .i64 0, .int .i64 0, .int .i64 0, .nil] := by kernel_rfl
theorem T.z106 : zerosOf Tryz.prog 106 = some [.int .i64 0, .int .i64 0, .int .i64 0, .int .i64 0, .int .i64 0, .int .i64 0] := by kernel_rfl
theorem T.z111 : zerosOf Tryz.prog 111 = some [.int .i64 0, .int .i64 0, .int .i64 0, .bool false] := by kernel_rfl
theorem T.z118 : zerosOf Tryz.prog 118 = some [.int .i64 0, .int .i64 0, .nil] := by kernel_rfl
theorem T.z120 : zerosOf Tryz.prog 120 = some [.str ⟨#[]⟩, .nil, .int .i64 0, .int .i64 0, .nil, .nil] := by kernel_rfl
theorem T.z123 : zerosOf Tryz.prog 123 = some [.int .i64 0, .int .i64 0, .nil] := by kernel_rfl
theorem T.z125 : zerosOf Tryz.prog 125 = some [.int .i64 0, .int .i64 0, .int .i64 0, .bool false] := by kernel_rfl
theorem T.z194 : zerosOf Tryz.prog 194 = some [.int .i64 0, .int .i64 0, .nil, .int .i64 0] := by kernel_rfl
theorem T.z202 : zerosOf Tryz.prog 202 = some [.int .i64 0, .int .i64 0, .int .i64 0, .bool false] := by kernel_rfl
theorem T.z220 : zerosOf Tryz.prog 220 = some [.int .i64 0, .int .i64 0, .nil, .int .i64 0] := by kernel_rfl
theorem T.z251 : zerosOf Tryz.prog 251 = some [.int .i64 0, .int .i64 0, .int .i64 0] := by kernel_rfl
theorem T.z3 : zerosOf Tryz.prog 3 = some [.int .i64 0] := by kernel_rfl
theorem T.z4 : zerosOf Tryz.prog 4 = some [.bool false] := by kernel_rfl
theorem T.z46 : zerosOf Tryz.prog 46 = some [.int .i64 0, .nil] := by kernel_rfl
theorem T.z49 : zerosOf Tryz.prog 49 = some [.nil, .int .i64 0, .nil, .nil] := by kernel_rfl
theorem T.z5 : zerosOf Tryz.prog 5 = some [.int .u8 0] := by kernel_rfl
theorem T.z51 : zerosOf Tryz.prog 51 = some [.int .i64 0, .int .i64 0, .int .i64 0, .int .i64 0] := by kernel_rfl
theorem T.z55 : zerosOf Tryz.prog 55 = some [.nil] := by kernel_rfl
theorem T.z57 : zerosOf Tryz.prog 57 = some [.int .i64 0, .int .i64 0, .nil, .nil, .nil, .int .i64 0, .nil, .nil, .nil, .int .i64 0, .int .i64 0, .int .i64 0, .int .i64 0, .nil, .int .i64 0, .nil] := by kernel_rfl
theorem T.z73 : zerosOf Tryz.prog 73 = some [.int .i64 0, .int .i64 0] := by kernel_rfl
theorem T.z75 : zerosOf Tryz.prog 75 = some [.int .i64 0, .int .i64 0, .int .i64 0, .int .i64 0, .int .i64 0] := by kernel_rfl
theorem T.z78 : zerosOf Tryz.prog 78 = some [.int .i64 0, .int .i64 0, .int .i64 0, .int .i64 0, .int .i64 0, .nil, .int .i64 0] := by kernel_rfl
theorem T.z99 : zerosOf Tryz.prog 99 = some [.int .i64 0, .int .i64 0, .int .i64 0, .int .i64 0] := by kernel_rfl
theorem sp_spec_l1In (x_ : Int) (least_ : Int) (most_ : Int) (r : Bool) (hm : m_spec_l1In x_ least_ most_ = some r) : Spec Tryz.prog G0 54 [.int .i64 x_, .int .i64 least_, .int .i64 most_] (fun v => v = .bool r) := by
  rw [m_spec_l1In] at hm
  refine enter (l := [.tmp 6]) Tryz.func54 rfl Tryz.ntmps54 rfl T.en54 fun E => ?_
  simp only [List.length_cons, List.length_nil, List.replicate_succ, List.replicate_zero, List.cons_append, List.nil_append, Nat.reduceAdd, Nat.reduceSub]
  refine sr <| m (as_ .b) u6 <| e ?_
  refine sr <| rjb hm (fun j0_6 : Bool => ⟨[.any, .any, .any, .any, .any, .any, .bool j0_6, .any, .any, .any, .any, .any, .any, .any, .any], []⟩) (fun _ hm hq1 => ?_) (fun j0_6 hm => ?_)
  ·
    refine m (mv (.t n0)) u7 <| m (mv (.t n1)) u8 <| m (geq (.t n7) (.t n8)) u9 <| m (mv (.t n9)) u10 <| sp n10 u10 u10 (fun h2 => ?_) (fun h2 => ?_)
    ·
      replace hm := ct h2 hm
      refine mg n3 rfl n10 (mv (.t n0)) u11 <| mg n3 rfl n10 (mv (.t n2)) u12 <| mg n3 rfl n10 (leq (.t n11) (.t n12)) u13 <| m (pkt (.t n10) (.t n13)) u14 <| m (as_ (.t n14)) u6 <| e ?_
      replace hm := sj hm
      subst hm
      have hm := hq1
      exact ⟨decide (x_ ≤ most_), hm, le [] (by decide) (.c .a (.c .a (.c .a (.c .a (.c .a (.c .a (.c (.e rfl rfl) (.c .a (.c .a (.c .a (.c .a (.c .a (.c .a (.c .a (.c .a .n))))))))))))))) .n⟩
    ·
      replace hm := cf h2 hm
      refine sk n3 rfl n10 rfl u11 <| sk n3 rfl n10 rfl u12 <| sk n3 rfl n10 rfl u13 <| m (pkf (.t n10) .b) u14 <| m (as_ (.t n14)) u6 <| e ?_
      replace hm := sj hm
      subst hm
      have hm := hq1
      exact ⟨false, hm, le [] (by decide) (.c .a (.c .a (.c .a (.c .a (.c .a (.c .a (.c (.e rfl rfl) (.c .a (.c .a (.c .a (.c .a (.c .a (.c .a (.c .a (.c .a .n))))))))))))))) .n⟩
  ·
    replace hm := sj hm
    subst hm
    exact rt (ret1 (.t n6 (.p rfl) .n) rfl)

theorem tot_spec_l1In (x_ : Int) (least_ : Int) (most_ : Int)  : Spec Tryz.prog G0 54 [.int .i64 x_, .int .i64 least_, .int .i64 most_] (fun v => v = .bool (inR x_ least_ most_)) := sp_spec_l1In x_ least_ most_ _ (t_spec_l1In x_ least_ most_)

theorem sp_spec_Mod (n_ : Int) (m_ : Int) (r : Int) (hm : m_spec_Mod n_ m_ = some r) : Spec Tryz.prog G0 171 [.int .i64 n_, .int .i64 m_] (fun v => v = .int .i64 r) := by
  rw [m_spec_Mod] at hm
  refine enter (l := [.tmp 4]) Tryz.func171 rfl Tryz.ntmps171 rfl T.en171 fun E => ?_
  simp only [List.length_cons, List.length_nil, List.replicate_succ, List.replicate_zero, List.cons_append, List.nil_append, Nat.reduceAdd, Nat.reduceSub]
  refine sr <| m (as_ (.i rfl)) u4 <| e ?_
  refine sq ?_
  refine sr <| m (mv (.t n1)) u5 <| c (call (tot_spec_l1In m_ (1 : Int) (1000000000000 : Int)) (.c (.t n5) rfl (.c (.i rfl) rfl (.c (.i rfl) rfl .n)))) u6 <| m (not_ (.t n6)) u7 <| e ?_
  refine cnd n7 (fun h1 => ?_) (fun h1 => ?_)
  ·
    replace hm := ct h1 hm
    refine sr <| m (as_ (.i rfl)) u4 <| e ?_
    replace hm := sj hm
    subst hm
    exact rt (ret1 (.t n4 (.p rfl) .n) rfl)
  ·
    replace hm := cf h1 hm
    refine skp ?_
    obtain ⟨c2, hm⟩ := gd_some hm
    obtain ⟨c3, hm⟩ := gd_some hm
    refine sr <| m (mv (.t n0)) u8 <| m (mv (.t n1)) u9 <| m (rem c2 (.t n8) (.t n9)) u10 <| m (mv (.t n1)) u11 <| m (add (.t n10) (.t n11)) u12 <| m (mv (.t n1)) u13 <| m (rem c3 (.t n12) (.t n13)) u14 <| m (as_ (.t n14)) u4 <| e ?_
    replace hm := sj hm
    subst hm
    exact rt (ret1 (.t n4 (.p rfl) .n) rfl)

theorem tot_spec_Mod (n_ : Int) (m_ : Int)  : Spec Tryz.prog G0 171 [.int .i64 n_, .int .i64 m_] (fun v => v = .int .i64 (modI n_ m_)) := sp_spec_Mod n_ m_ _ (t_spec_Mod n_ m_)

theorem sp_spec_Max (a_ : Int) (b_ : Int) (r : Int) (hm : m_spec_Max a_ b_ = some r) : Spec Tryz.prog G0 96 [.int .i64 a_, .int .i64 b_] (fun v => v = .int .i64 r) := by
  rw [m_spec_Max] at hm
  refine enter (l := [.tmp 4]) Tryz.func96 rfl Tryz.ntmps96 rfl T.en96 fun E => ?_
  simp only [List.length_cons, List.length_nil, List.replicate_succ, List.replicate_zero, List.cons_append, List.nil_append, Nat.reduceAdd, Nat.reduceSub]
  refine sr <| m (as_ (.i rfl)) u4 <| e ?_
  refine sq ?_
  refine sr <| m (mv (.t n1)) u5 <| m (mv (.t n0)) u6 <| m (gtr (.t n5) (.t n6)) u7 <| e ?_
  refine cnd n7 (fun h1 => ?_) (fun h1 => ?_)
  ·
    replace hm := ct h1 hm
    refine sr <| m (mv (.t n1)) u8 <| m (as_ (.t n8)) u4 <| e ?_
    replace hm := sj hm
    subst hm
    exact rt (ret1 (.t n4 (.p rfl) .n) rfl)
  ·
    replace hm := cf h1 hm
    refine skp ?_
    refine sr <| m (mv (.t n0)) u9 <| m (as_ (.t n9)) u4 <| e ?_
    replace hm := sj hm
    subst hm
    exact rt (ret1 (.t n4 (.p rfl) .n) rfl)

theorem tot_spec_Max (a_ : Int) (b_ : Int)  : Spec Tryz.prog G0 96 [.int .i64 a_, .int .i64 b_] (fun v => v = .int .i64 (maxF a_ b_)) := sp_spec_Max a_ b_ _ (t_spec_Max a_ b_)

theorem sp_impl_Mod (p_ : Int) (q_ : Int) (r : Int) (hm : m_impl_Mod p_ q_ = some r) : Spec Tryz.prog G0 172 [.int .i64 p_, .int .i64 q_] (fun v => v = .int .i64 r) := by
  rw [m_impl_Mod] at hm
  refine enter (l := [.tmp 4]) Tryz.func172 rfl Tryz.ntmps172 rfl T.en172 fun E => ?_
  simp only [List.length_cons, List.length_nil, List.replicate_succ, List.replicate_zero, List.cons_append, List.nil_append, Nat.reduceAdd, Nat.reduceSub]
  refine sr <| m (as_ (.i rfl)) u4 <| e ?_
  refine sq ?_
  refine sr <| rjb hm (fun j0_11 : Bool => ⟨[.int .i64 p_, .int .i64 q_, .any, .any, .any, .any, .any, .any, .any, .any, .any, .bool j0_11, .any, .any, .any, .any, .any, .any, .any, .any, .any], []⟩) (fun _ hm hq1 => ?_) (fun j0_11 hm => ?_)
  ·
    refine m (mv (.t n1)) u6 <| m (lss (.t n6) (.i rfl)) u7 <| m (mv (.t n7)) u8 <| sp n8 u8 u8 (fun h2 => ?_) (fun h2 => ?_)
    ·
      replace hm := ct h2 hm
      refine sk n2 rfl n8 rfl u9 <| sk n2 rfl n8 rfl u10 <| m (pkt (.t n8) .b) u11 <| e ?_
      replace hm := sj hm
      subst hm
      have hm := hq1
      exact ⟨true, hm, le [] (by decide) (.c (.e rfl rfl) (.c (.e rfl rfl) (.c .a (.c .a (.c .a (.c .a (.c .a (.c .a (.c .a (.c .a (.c .a (.c (.e rfl rfl) (.c .a (.c .a (.c .a (.c .a (.c .a (.c .a (.c .a (.c .a (.c .a .n))))))))))))))))))))) .n⟩
    ·
      replace hm := cf h2 hm
      refine mg n2 rfl n8 (mv (.t n1)) u9 <| mg n2 rfl n8 (gtr (.t n9) (.i rfl)) u10 <| m (pkf (.t n8) (.t n10)) u11 <| e ?_
      replace hm := sj hm
      subst hm
      have hm := hq1
      exact ⟨decide (q_ > (1000000000000 : Int)), hm, le [] (by decide) (.c (.e rfl rfl) (.c (.e rfl rfl) (.c .a (.c .a (.c .a (.c .a (.c .a (.c .a (.c .a (.c .a (.c .a (.c (.e rfl rfl) (.c .a (.c .a (.c .a (.c .a (.c .a (.c .a (.c .a (.c .a (.c .a .n))))))))))))))))))))) .n⟩
  ·
    refine cnd n11 (fun h3 => ?_) (fun h3 => ?_)
    ·
      replace hm := ct h3 hm
      refine sr <| m (as_ (.i rfl)) u4 <| e ?_
      replace hm := sj hm
      subst hm
      exact rt (ret1 (.t n4 (.p rfl) .n) rfl)
    ·
      replace hm := cf h3 hm
      refine skp ?_
      obtain ⟨c4, hm⟩ := gd_some hm
      refine sr <| m (mv (.t n0)) u12 <| m (mv (.t n1)) u13 <| m (rem c4 (.t n12) (.t n13)) u14 <| m (as_ (.t n14)) u5 <| e ?_
      refine sq ?_
      refine sr <| m (mv (.t n5)) u15 <| m (lss (.t n15) (.i rfl)) u16 <| e ?_
      refine jmb hm (fun j1_5 : Int => ⟨[.any, .any, .any, .any, .any, .int .i64 j1_5, .any, .any, .any, .any, .any, .any, .any, .any, .any, .any, .any, .any, .any, .any, .any], []⟩) (fun _ hm hq5 => ?_) (fun j1_5 hm => ?_)
      ·
        refine cnd n16 (fun h6 => ?_) (fun h6 => ?_)
        ·
          replace hm := ct h6 hm
          refine rg <| m (mv (.t n5)) u17 <| m (mv (.t n1)) u18 <| m (add (.t n17) (.t n18)) u19 <| m (as_ (.t n19)) u5 <| e ?_
          replace hm := sj hm
          subst hm
          have hm := hq5
          exact ⟨IntKind.i64.wrap (p_.tmod q_ + q_), hm, le [] (by decide) (.c .a (.c .a (.c .a (.c .a (.c .a (.c (.e rfl rfl) (.c .a (.c .a (.c .a (.c .a (.c .a (.c .a (.c .a (.c .a (.c .a (.c .a (.c .a (.c .a (.c .a (.c .a (.c .a .n))))))))))))))))))))) .n⟩
        ·
          replace hm := cf h6 hm
          refine skp ?_
          replace hm := sj hm
          subst hm
          have hm := hq5
          exact ⟨p_.tmod q_, hm, le [] (by decide) (.c .a (.c .a (.c .a (.c .a (.c .a (.c (.e rfl rfl) (.c .a (.c .a (.c .a (.c .a (.c .a (.c .a (.c .a (.c .a (.c .a (.c .a (.c .a (.c .a (.c .a (.c .a (.c .a .n))))))))))))))))))))) .n⟩
      ·
        refine sr <| m (mv (.t n5)) u20 <| m (as_ (.t n20)) u4 <| e ?_
        replace hm := sj hm
        subst hm
        exact rt (ret1 (.t n4 (.p rfl) .n) rfl)

theorem tot_impl_Mod (p_ : Int) (q_ : Int)  : Spec Tryz.prog G0 172 [.int .i64 p_, .int .i64 q_] (fun v => v = .int .i64 (modI p_ q_)) := sp_impl_Mod p_ q_ _ (t_impl_Mod p_ q_)

theorem sp_spec_BytesToInts (b_ : List Int) (r : (List Int)) (hm : m_spec_BytesToInts b_ = some r) : Spec Tryz.prog G0 147 [.slice 1 (b_.map y8)] (fun v => v = .slice 1 (r.map iV)) := by
  rw [m_spec_BytesToInts] at hm
  refine enter (l := [.tmp 2]) Tryz.func147 rfl Tryz.ntmps147 rfl T.en147 fun E => ?_
  simp only [List.length_cons, List.length_nil, List.replicate_succ, List.replicate_zero, List.cons_append, List.nil_append, Nat.reduceAdd, Nat.reduceSub]
  refine sr <| m (as_ .n) u2 <| e ?_
  refine sr <| m (mv (.t n0)) u5 <| m (lenm (l := b_) (f := y8) T.s174 (.t n5)) u6 <| k (bom ([(b_.length : Int)] : List Int) iV T.s95 rfl rfl (.c (.t n6) rfl rfl rfl .n) rfl s0 u7) <| m (as_ (.t n7)) u3 <| e ?_
  refine sq ?_
  refine sr <| m (as_ (.i rfl)) u4 <| e ?_
  refine jmb hm (fun j0r1 : List Int => ⟨[.any, .any, .any, .own 0, .any, .any, .any, .any, .any, .any, .any, .any, .any, .any, .any, .any, .any, .any, .any, .any, .any, .any, .any], [.row 3 1 (j0r1.map iV)]⟩) (fun _ hm hq1 => ?_) (fun j0r1 hm => ?_)
  ·
    refine bk ?_
    refine lpf (m := m_spec_BytesToInts_l0 b_) hm (fun yy2_ : Nat × (List Int) => ⟨[.slice 1 (b_.map y8), .any, .any, .own 0, .int .i64 (yy2_.1 : Int), .any, .any, .any, .any, .any, .any, .any, .any, .any, .any, .any, .any, .any, .any, .any, .any, .any, .any], [.row 3 1 (yy2_.2.map iV)]⟩) (fun _ => rfl) (le [0] (by decide) (.c (.e rfl rfl) (.c .a (.c .a (.c (.w n0) (.c (.e rfl rfl) (.c .a (.c .a (.c .a (.c .a (.c .a (.c .a (.c .a (.c .a (.c .a (.c .a (.c .a (.c .a (.c .a (.c .a (.c .a (.c .a (.c .a (.c .a .n))))))))))))))))))))))) (.r n0 rfl .n)) ?_
    rintro f ⟨i0, v0r1⟩ hm
    rw [m_spec_BytesToInts_l0] at hm
    dsimp only at hm ⊢
    refine sq ?_
    refine sr <| m (mv (.t n4)) u8 <| m (mv (.t n0)) u9 <| m (lenm (l := b_) (f := y8) T.s174 (.t n9)) u10 <| m (lss (.t n8) (.t n10)) u11 <| e ?_
    refine rng n10 fun _ ra3 => ?_
    replace ra3 := (show (_ : Int) ≤ 9223372036854775807 from ra3)
    refine cnd n11 (fun h4 => ?_) (fun h4 => ?_)
    ·
      replace hm := ct h4 hm
      have h4d := of_decide_eq_true h4
      refine skp ?_
      refine sq ?_
      refine bk ?_
      obtain ⟨z5, e6, hm⟩ := bd_some hm
      obtain ⟨c7, hm⟩ := gd_some hm
      refine rg <| m (mv (.t n3)) u14 <| m (mv (.t n0)) u15 <| m (mv (.t n4)) u16 <| m (ixq (f := y8) e6 T.s174 (.t n15) (.t n16)) u17 <| m (lde T.o5 n0 (.t n17)) u18 <| m (cnv T.is5 Tryz.underlying3 (.t n18)) u19 <| k (bsm ([IntKind.i64.wrap z5] : List Int) iV T.s95 rfl rfl (.c (.t n19) rfl rfl rfl .n) rfl u20) <| dr u3 <| k (apm (l := v0r1) (l2 := ([IntKind.i64.wrap z5] : List Int)) (f := iV) 14 c7 rfl (fun _ => rfl) T.s95 rfl n14 u14 n0 (.t n20) q0 rfl u21) <| m (as_ (.t n21)) u3 <| e ?_
      refine rg <| m (mv (.t n4)) u12 <| m (add (.t n12) (.i rfl)) u13 <| m (as_ (.t n13)) u4 <| e ?_
      exact ⟨(i0 + 1, (v0r1 ++ ([IntKind.i64.wrap z5] : List Int))), hm, le [0] (by decide) (.c (.e rfl rfl) (.c .a (.c .a (.c (.w n0) (.c (.e (wi (by omega)) rfl) (.c .a (.c .a (.c .a (.c .a (.c .a (.c .a (.c .a (.c .a (.c .a (.c .a (.c .a (.c .a (.c .a (.c .a (.c .a (.c .a (.c .a (.c .a .n))))))))))))))))))))))) (.r n0 rfl .n)⟩
    ·
      replace hm := cf h4 hm
      have h4d := of_decide_eq_false h4
      refine ex (x1 ?_)
      replace hm := sj hm
      subst hm
      have hm := hq1
      exact ⟨v0r1, hm, le [0] (by decide) (.c .a (.c .a (.c .a (.c (.w n0) (.c .a (.c .a (.c .a (.c .a (.c .a (.c .a (.c .a (.c .a (.c .a (.c .a (.c .a (.c .a (.c .a (.c .a (.c .a (.c .a (.c .a (.c .a (.c .a .n))))))))))))))))))))))) (.r n0 rfl .n)⟩
  ·
    refine sr <| m (mv (.t n3)) u22 <| m (as_ (.t n22)) u2 <| e ?_
    replace hm := sj hm
    subst hm
    exact rt (ret1 (.t n2 (.o n0) .n) rfl)

theorem tot_spec_BytesToInts (b_ : List Int) (hp0 : b_.length ≤ 34359738300) : Spec Tryz.prog G0 147 [.slice 1 (b_.map y8)] (fun v => v = .slice 1 ((b2iF b_).map iV)) := sp_spec_BytesToInts b_ _ (t_spec_BytesToInts b_ hp0)

theorem sp_spec_Hash (l_ : List Int) (r : Int) (hm : m_spec_Hash l_ = some r) : Spec Tryz.prog G0 145 [.slice 1 (l_.map iV)] (fun v => v = .int .i64 r) := by
  rw [m_spec_Hash] at hm
  refine enter (l := [.tmp 2]) Tryz.func145 rfl Tryz.ntmps145 rfl T.en145 fun E => ?_
  simp only [List.length_cons, List.length_nil, List.replicate_succ, List.replicate_zero, List.cons_append, List.nil_append, Nat.reduceAdd, Nat.reduceSub]
  refine sr <| m (as_ (.i rfl)) u2 <| e ?_
  refine sr <| m (as_ (.i rfl)) u3 <| e ?_
  refine sq ?_
  refine sr <| m (as_ (.i rfl)) u4 <| e ?_
  refine jmb hm (fun j0_3 : Int => ⟨[.any, .any, .any, .int .i64 j0_3, .any, .any, .any, .any, .any, .any, .any, .any, .any, .any, .any, .any, .any, .any, .any, .any, .any, .any], []⟩) (fun _ hm hq1 => ?_) (fun j0_3 hm => ?_)
  ·
    refine bk ?_
    refine lpf (m := m_spec_Hash_l0 l_) hm (fun yy2_ : Int × Nat => ⟨[.slice 1 (l_.map iV), .any, .any, .int .i64 yy2_.1, .int .i64 (yy2_.2 : Int), .any, .any, .any, .any, .any, .any, .any, .any, .any, .any, .any, .any, .any, .any, .any, .any, .any], []⟩) (fun _ => rfl) (le [] (by decide) (.c (.e rfl rfl) (.c .a (.c .a (.c (.e rfl rfl) (.c (.e rfl rfl) (.c .a (.c .a (.c .a (.c .a (.c .a (.c .a (.c .a (.c .a (.c .a (.c .a (.c .a (.c .a (.c .a (.c .a (.c .a (.c .a (.c .a .n)))))))))))))))))))))) .n) ?_
    rintro f ⟨v0_3, i0⟩ hm
    rw [m_spec_Hash_l0] at hm
    dsimp only at hm ⊢
    refine sq ?_
    refine sr <| m (mv (.t n4)) u5 <| m (mv (.t n0)) u6 <| m (lenm (l := l_) (f := iV) T.s95 (.t n6)) u7 <| m (lss (.t n5) (.t n7)) u8 <| e ?_
    refine rng n7 fun _ ra3 => ?_
    replace ra3 := (show (_ : Int) ≤ 9223372036854775807 from ra3)
    refine cnd n8 (fun h4 => ?_) (fun h4 => ?_)
    ·
      replace hm := ct h4 hm
      have h4d := of_decide_eq_true h4
      refine skp ?_
      refine sq ?_
      refine bk ?_
      obtain ⟨z5, e6, hm⟩ := bd_some hm
      refine rg <| m (mv (.t n3)) u11 <| m (mul (.t n11) (.i rfl)) u12 <| m (mv (.t n0)) u13 <| m (mv (.t n4)) u14 <| m (ixq (f := iV) e6 T.s95 (.t n13) (.t n14)) u15 <| m (lde T.o3 n0 (.t n15)) u16 <| c (call (tot_spec_Mod z5 (2147483647 : Int)) (.c (.t n16) rfl (.c (.i rfl) rfl .n))) u17 <| m (add (.t n12) (.t n17)) u18 <| m (add (.t n18) (.i rfl)) u19 <| m (rem (by decide) (.t n19) (.i rfl)) u20 <| m (as_ (.t n20)) u3 <| e ?_
      refine rg <| m (mv (.t n4)) u9 <| m (add (.t n9) (.i rfl)) u10 <| m (as_ (.t n10)) u4 <| e ?_
      exact ⟨((IntKind.i64.wrap (IntKind.i64.wrap (IntKind.i64.wrap (v0_3 * (1000003 : Int)) + (modI z5 (2147483647 : Int))) + (13 : Int))).tmod (2147483647 : Int), i0 + 1), hm, le [] (by decide) (.c (.e rfl rfl) (.c .a (.c .a (.c (.e rfl rfl) (.c (.e (wi (by omega)) rfl) (.c .a (.c .a (.c .a (.c .a (.c .a (.c .a (.c .a (.c .a (.c .a (.c .a (.c .a (.c .a (.c .a (.c .a (.c .a (.c .a (.c .a .n)))))))))))))))))))))) .n⟩
    ·
      replace hm := cf h4 hm
      have h4d := of_decide_eq_false h4
      refine ex (x1 ?_)
      replace hm := sj hm
      subst hm
      have hm := hq1
      exact ⟨v0_3, hm, le [] (by decide) (.c .a (.c .a (.c .a (.c (.e rfl rfl) (.c .a (.c .a (.c .a (.c .a (.c .a (.c .a (.c .a (.c .a (.c .a (.c .a (.c .a (.c .a (.c .a (.c .a (.c .a (.c .a (.c .a (.c .a .n)))))))))))))))))))))) .n⟩
  ·
    refine sr <| m (mv (.t n3)) u21 <| m (as_ (.t n21)) u2 <| e ?_
    replace hm := sj hm
    subst hm
    exact rt (ret1 (.t n2 (.p rfl) .n) rfl)

theorem tot_spec_Hash (l_ : List Int)  : Spec Tryz.prog G0 145 [.slice 1 (l_.map iV)] (fun v => v = .int .i64 (hashI l_)) := sp_spec_Hash l_ _ (t_spec_Hash l_)

theorem sp_spec_KeyedHash (secret_ : Int) (l_ : List Int) (r : Int) (hm : m_spec_KeyedHash secret_ l_ = some r) : Spec Tryz.prog G0 97 [.int .i64 secret_, .slice 1 (l_.map iV)] (fun v => v = .int .i64 r) := by
  rw [m_spec_KeyedHash] at hm
  refine enter (l := [.tmp 4]) Tryz.func97 rfl Tryz.ntmps97 rfl T.en97 fun E => ?_
  simp only [List.length_cons, List.length_nil, List.replicate_succ, List.replicate_zero, List.cons_append, List.nil_append, Nat.reduceAdd, Nat.reduceSub]
  refine sr <| m (as_ (.i rfl)) u4 <| e ?_
  obtain ⟨c1, hm⟩ := gd_some hm
  obtain ⟨c2, hm⟩ := gd_some hm
  refine sr <| m (mv (.t n0)) u5 <| k (bom ([secret_] : List Int) iV T.s95 rfl rfl (.c (.t n5) rfl rfl rfl .n) rfl s0 u6) <| m (mv (.t n1)) u7 <| k (apm (l := ([secret_] : List Int)) (l2 := l_) (f := iV) 6 c1 rfl (fun _ => rfl) T.s95 rfl n6 u6 n0 (.t n7) q0 rfl u8) <| m (mv (.t n0)) u9 <| k (bsm ([secret_] : List Int) iV T.s95 rfl rfl (.c (.t n9) rfl rfl rfl .n) rfl u10) <| k (apm (l := (([secret_] : List Int) ++ l_)) (l2 := ([secret_] : List Int)) (f := iV) 8 c2 rfl (fun _ => rfl) T.s95 rfl n8 u8 n0 (.t n10) q0 rfl u11) <| c (callm (tot_spec_Hash ((([secret_] : List Int) ++ l_) ++ ([secret_] : List Int))) rfl (.c (.t n11) (.o n0) .n)) u12 <| m (as_ (.t n12)) u4 <| e ?_
  replace hm := sj hm
  subst hm
  exact rt (ret1 (.t n4 (.p rfl) .n) rfl)

theorem tot_spec_KeyedHash (secret_ : Int) (l_ : List Int) (hp0 : l_.length ≤ 34359738368) : Spec Tryz.prog G0 97 [.int .i64 secret_, .slice 1 (l_.map iV)] (fun v => v = .int .i64 (keyedI secret_ l_)) := sp_spec_KeyedHash secret_ l_ _ (t_spec_KeyedHash secret_ l_ hp0)

theorem sp_spec_DeriveFromString (secret_ : Int) (s_ : ByteArray) (r : Int) (hm : m_spec_DeriveFromString secret_ s_ = some r) : Spec Tryz.prog G0 104 [.int .i64 secret_, .str s_] (fun v => v = .int .i64 r) := by
  rw [m_spec_DeriveFromString] at hm
  refine enter (l := [.tmp 4]) Tryz.func104 rfl Tryz.ntmps104 rfl T.en104 fun E => ?_
  simp only [List.length_cons, List.length_nil, List.replicate_succ, List.replicate_zero, List.cons_append, List.nil_append, Nat.reduceAdd, Nat.reduceSub]
  refine sr <| m (as_ (.i rfl)) u4 <| e ?_
  obtain ⟨c1, hm⟩ := gd_some hm
  obtain ⟨c2, hm⟩ := gd_some hm
  refine sr <| m (mv (.t n0)) u5 <| m (mv (.t n1)) u6 <| k (s2i Tryz.underlying9 Tryz.underlying174 Tryz.underlying5 (.t n6) u7) <| c (call (tot_spec_BytesToInts (bytesI s_) c1) (.c (.t n7) rfl .n)) u8 <| c (call (tot_spec_KeyedHash secret_ (b2iF (bytesI s_)) c2) (.c (.t n5) rfl (.c (.t n8) rfl .n))) u9 <| c (call (tot_spec_Max (1 : Int) (keyedI secret_ (b2iF (bytesI s_)))) (.c (.i rfl) rfl (.c (.t n9) rfl .n))) u10 <| m (as_ (.t n10)) u4 <| e ?_
  replace hm := sj hm
  subst hm
  exact rt (ret1 (.t n4 (.p rfl) .n) rfl)

theorem tot_spec_DeriveFromString (secret_ : Int) (s_ : ByteArray) (hp0 : (bytesI s_).length ≤ 34359738300) : Spec Tryz.prog G0 104 [.int .i64 secret_, .str s_] (fun v => v = .int .i64 (deriveSF secret_ s_)) := sp_spec_DeriveFromString secret_ s_ _ (t_spec_DeriveFromString secret_ s_ hp0)

theorem sp_impl_BytesToInts (b_ : List Int) (r : (List Int)) (hm : m_impl_BytesToInts b_ = some r) : Spec Tryz.prog G0 148 [.slice 1 (b_.map y8)] (fun v => v = .slice 1 (r.map iV)) := by
  rw [m_impl_BytesToInts] at hm
  refine enter (l := [.tmp 2]) Tryz.func148 rfl Tryz.ntmps148 rfl T.en148 fun E => ?_
  simp only [List.length_cons, List.length_nil, List.replicate_succ, List.replicate_zero, List.cons_append, List.nil_append, Nat.reduceAdd, Nat.reduceSub]
  refine sr <| m (as_ .n) u2 <| e ?_
  refine sr <| m (mv (.t n0)) u6 <| m (lenm (l := b_) (f := y8) T.s174 (.t n6)) u7 <| k (bom ([(b_.length : Int)] : List Int) iV T.s95 rfl rfl (.c (.t n7) rfl rfl rfl .n) rfl s0 u8) <| m (as_ (.t n8)) u3 <| e ?_
  refine sq ?_
  refine sr <| m (mv (.t n0)) u9 <| m (lenm (l := b_) (f := y8) T.s174 (.t n9)) u10 <| m (mv (.i rfl)) u11 <| e ?_
  refine jmb hm (fun j0r1 : List Int => ⟨[.any, .any, .any, .own 0, .any, .any, .any, .any, .any, .any, .any, .any, .any, .any, .any, .any, .any, .any, .any, .any, .any, .any], [.row 3 1 (j0r1.map iV)]⟩) (fun _ hm hq1 => ?_) (fun j0r1 hm => ?_)
  ·
    refine bk ?_
    refine lpf (m := m_impl_BytesToInts_l0 b_) hm (fun yy2_ : Nat × (List Int) => ⟨[.any, .any, .any, .own 0, .any, .any, .any, .any, .any, .slice 1 (b_.map y8), .int .i64 (b_.length : Int), .int .i64 (yy2_.1 : Int), .any, .any, .any, .any, .any, .any, .any, .any, .any, .any], [.row 3 1 (yy2_.2.map iV)]⟩) (fun _ => rfl) (le [0] (by decide) (.c .a (.c .a (.c .a (.c (.w n0) (.c .a (.c .a (.c .a (.c .a (.c .a (.c (.e rfl rfl) (.c (.e rfl rfl) (.c (.e rfl rfl) (.c .a (.c .a (.c .a (.c .a (.c .a (.c .a (.c .a (.c .a (.c .a (.c .a .n)))))))))))))))))))))) (.r n0 rfl .n)) ?_
    rintro f ⟨i0, v0r1⟩ hm
    rw [m_impl_BytesToInts_l0] at hm
    dsimp only at hm ⊢
    refine sr <| m (lss (.t n11) (.t n10)) u12 <| e ?_
    refine rng n10 fun _ ra3 => ?_
    replace ra3 := (show (_ : Int) ≤ 9223372036854775807 from ra3)
    refine sq ?_
    refine cnd n12 (fun h4 => ?_) (fun h4 => ?_)
    ·
      replace hm := ct h4 hm
      have h4d := of_decide_eq_true h4
      refine skp ?_
      refine sq ?_
      refine bk ?_
      obtain ⟨z5, e6, hm⟩ := bd_some hm
      refine sr <| m (ixq (f := y8) e6 T.s174 (.t n9) (.t n11)) u13 <| m (lde T.o5 n0 (.t n13)) u14 <| m (as_ (.t n14)) u5 <| e ?_
      obtain ⟨c7, hm⟩ := gd_some hm
      refine rg <| m (mv (.t n3)) u15 <| m (mv (.t n5)) u16 <| m (cnv T.is5 Tryz.underlying3 (.t n16)) u17 <| k (bsm ([IntKind.i64.wrap z5] : List Int) iV T.s95 rfl rfl (.c (.t n17) rfl rfl rfl .n) rfl u18) <| dr u3 <| k (apm (l := v0r1) (l2 := ([IntKind.i64.wrap z5] : List Int)) (f := iV) 15 c7 rfl (fun _ => rfl) T.s95 rfl n15 u15 n0 (.t n18) q0 rfl u19) <| m (as_ (.t n19)) u3 <| e ?_
      refine rg <| m (add (.t n11) (.i rfl)) u20 <| m (mv (.t n20)) u11 <| e ?_
      exact ⟨(i0 + 1, (v0r1 ++ ([IntKind.i64.wrap z5] : List Int))), hm, le [0] (by decide) (.c .a (.c .a (.c .a (.c (.w n0) (.c .a (.c .a (.c .a (.c .a (.c .a (.c (.e rfl rfl) (.c (.e rfl rfl) (.c (.e (wi (by omega)) rfl) (.c .a (.c .a (.c .a (.c .a (.c .a (.c .a (.c .a (.c .a (.c .a (.c .a .n)))))))))))))))))))))) (.r n0 rfl .n)⟩
    ·
      replace hm := cf h4 hm
      have h4d := of_decide_eq_false h4
      refine ex (x1 ?_)
      replace hm := sj hm
      subst hm
      have hm := hq1
      exact ⟨v0r1, hm, le [0] (by decide) (.c .a (.c .a (.c .a (.c (.w n0) (.c .a (.c .a (.c .a (.c .a (.c .a (.c .a (.c .a (.c .a (.c .a (.c .a (.c .a (.c .a (.c .a (.c .a (.c .a (.c .a (.c .a (.c .a .n)))))))))))))))))))))) (.r n0 rfl .n)⟩
  ·
    refine sr <| m (mv (.t n3)) u21 <| m (as_ (.t n21)) u2 <| e ?_
    replace hm := sj hm
    subst hm
    exact rt (ret1 (.t n2 (.o n0) .n) rfl)

theorem tot_impl_BytesToInts (b_ : List Int) (hp0 : b_.length ≤ 34359738300) : Spec Tryz.prog G0 148 [.slice 1 (b_.map y8)] (fun v => v = .slice 1 ((b2iF b_).map iV)) := sp_impl_BytesToInts b_ _ (t_impl_BytesToInts b_ hp0)

theorem sp_impl_joined (first_ : List Int) (rest_ : List (List Int)) (r : (List Int)) (hm : m_impl_joined first_ rest_ = some r) : Spec Tryz.prog G0 100 [.slice 1 (first_.map iV), .slice 1 (rest_.map (fun l => [V.slice 1 (l.map iV)]))] (fun v => v = .slice 1 (r.map iV)) := by
  rw [m_impl_joined] at hm
  refine enter (l := [.tmp 4]) Tryz.func100 rfl Tryz.ntmps100 rfl T.en100 fun E => ?_
  simp only [List.length_cons, List.length_nil, List.replicate_succ, List.replicate_zero, List.cons_append, List.nil_append, Nat.reduceAdd, Nat.reduceSub]
  refine sr <| m (as_ .n) u4 <| e ?_
  obtain ⟨c1, hm⟩ := gd_some hm
  refine sr <| k (bom ([] : List Int) iV T.s95 rfl rfl .n rfl s0 u8) <| m (mv (.t n0)) u9 <| k (apm (l := ([] : List Int)) (l2 := first_) (f := iV) 8 c1 rfl (fun _ => rfl) T.s95 rfl n8 u8 n0 (.t n9) q0 rfl u10) <| m (as_ (.t n10)) u5 <| e ?_
  refine sq ?_
  refine sr <| m (mv (.t n1)) u11 <| m (lenm (l := rest_) (f := (fun l => [V.slice 1 (l.map iV)])) T.s216 (.t n11)) u12 <| m (mv (.i rfl)) u13 <| e ?_
  refine jmb hm (fun j0r1 : List Int => ⟨[.any, .any, .any, .any, .any, .own 0, .any, .any, .any, .any, .any, .any, .any, .any, .any, .any, .any, .any, .any, .any, .any, .any], [.row 3 1 (j0r1.map iV)]⟩) (fun _ hm hq2 => ?_) (fun j0r1 hm => ?_)
  ·
    refine bk ?_
    refine lpf (m := m_impl_joined_l0 rest_) hm (fun yy3_ : Nat × (List Int) => ⟨[.any, .any, .any, .any, .any, .own 0, .any, .any, .any, .any, .any, .slice 1 (rest_.map (fun l => [V.slice 1 (l.map iV)])), .int .i64 (rest_.length : Int), .int .i64 (yy3_.1 : Int), .any, .any, .any, .any, .any, .any, .any, .any], [.row 3 1 (yy3_.2.map iV)]⟩) (fun _ => rfl) (le [0] (by decide) (.c .a (.c .a (.c .a (.c .a (.c .a (.c (.w n0) (.c .a (.c .a (.c .a (.c .a (.c .a (.c (.e rfl rfl) (.c (.e rfl rfl) (.c (.e rfl rfl) (.c .a (.c .a (.c .a (.c .a (.c .a (.c .a (.c .a (.c .a .n)))))))))))))))))))))) (.r n0 rfl .n)) ?_
    rintro f ⟨i0, v0r1⟩ hm
    rw [m_impl_joined_l0] at hm
    dsimp only at hm ⊢
    refine sr <| m (lss (.t n13) (.t n12)) u14 <| e ?_
    refine rng n12 fun _ ra4 => ?_
    replace ra4 := (show (_ : Int) ≤ 9223372036854775807 from ra4)
    refine sq ?_
    refine cnd n14 (fun h5 => ?_) (fun h5 => ?_)
    ·
      replace hm := ct h5 hm
      have h5d := of_decide_eq_true h5
      refine skp ?_
      refine sq ?_
      refine bk ?_
      obtain ⟨z6, e7, hm⟩ := bd_some hm
      refine sr <| m (ixq (f := (fun l => [V.slice 1 (l.map iV)])) e7 T.s216 (.t n11) (.t n13)) u15 <| m (lde T.o95 n0 (.t n15)) u16 <| m (as_ (.t n16)) u7 <| e ?_
      obtain ⟨c8, hm⟩ := gd_some hm
      refine rg <| m (mv (.t n5)) u17 <| m (mv (.t n7)) u18 <| dr u5 <| k (apm (l := v0r1) (l2 := z6) (f := iV) 17 c8 rfl (fun _ => rfl) T.s95 rfl n17 u17 n0 (.t n18) q0 rfl u19) <| m (as_ (.t n19)) u5 <| e ?_
      refine rg <| m (add (.t n13) (.i rfl)) u20 <| m (mv (.t n20)) u13 <| e ?_
      exact ⟨(i0 + 1, (v0r1 ++ z6)), hm, le [0] (by decide) (.c .a (.c .a (.c .a (.c .a (.c .a (.c (.w n0) (.c .a (.c .a (.c .a (.c .a (.c .a (.c (.e rfl rfl) (.c (.e rfl rfl) (.c (.e (wi (by omega)) rfl) (.c .a (.c .a (.c .a (.c .a (.c .a (.c .a (.c .a (.c .a .n)))))))))))))))))))))) (.r n0 rfl .n)⟩
    ·
      replace hm := cf h5 hm
      have h5d := of_decide_eq_false h5
      refine ex (x1 ?_)
      replace hm := sj hm
      subst hm
      have hm := hq2
      exact ⟨v0r1, hm, le [0] (by decide) (.c .a (.c .a (.c .a (.c .a (.c .a (.c (.w n0) (.c .a (.c .a (.c .a (.c .a (.c .a (.c .a (.c .a (.c .a (.c .a (.c .a (.c .a (.c .a (.c .a (.c .a (.c .a (.c .a .n)))))))))))))))))))))) (.r n0 rfl .n)⟩
  ·
    refine sr <| m (mv (.t n5)) u21 <| m (as_ (.t n21)) u4 <| e ?_
    replace hm := sj hm
    subst hm
    exact rt (ret1 (.t n4 (.o n0) .n) rfl)

theorem tot_impl_joined (first_ : List Int) (rest_ : List (List Int)) (hp0 : first_.length + rest_.flatten.length ≤ 68719476736) : Spec Tryz.prog G0 100 [.slice 1 (first_.map iV), .slice 1 (rest_.map (fun l => [V.slice 1 (l.map iV)]))] (fun v => v = .slice 1 ((joinF first_ rest_).map iV)) := sp_impl_joined first_ rest_ _ (t_impl_joined first_ rest_ hp0)

theorem sp_impl_Hash (values_ : List Int) (r : Int) (hm : m_impl_Hash values_ = some r) : Spec Tryz.prog G0 146 [.slice 1 (values_.map iV)] (fun v => v = .int .i64 r) := by
  rw [m_impl_Hash] at hm
  refine enter (l := [.tmp 2]) Tryz.func146 rfl Tryz.ntmps146 rfl T.en146 fun E => ?_
  simp only [List.length_cons, List.length_nil, List.replicate_succ, List.replicate_zero, List.cons_append, List.nil_append, Nat.reduceAdd, Nat.reduceSub]
  refine sr <| m (as_ (.i rfl)) u2 <| e ?_
  refine sr <| m (as_ (.i rfl)) u3 <| e ?_
  refine sq ?_
  refine sr <| m (mv (.t n0)) u6 <| m (lenm (l := values_) (f := iV) T.s95 (.t n6)) u7 <| m (mv (.i rfl)) u8 <| e ?_
  refine jmb hm (fun j0_3 : Int => ⟨[.any, .any, .any, .int .i64 j0_3, .any, .any, .any, .any, .any, .any, .any, .any, .any, .any, .any, .any, .any, .any, .any, .any, .any], []⟩) (fun _ hm hq1 => ?_) (fun j0_3 hm => ?_)
  ·
    refine bk ?_
    refine lpf (m := m_impl_Hash_l0 values_) hm (fun yy2_ : Int × Nat => ⟨[.any, .any, .any, .int .i64 yy2_.1, .any, .any, .slice 1 (values_.map iV), .int .i64 (values_.length : Int), .int .i64 (yy2_.2 : Int), .any, .any, .any, .any, .any, .any, .any, .any, .any, .any, .any, .any], []⟩) (fun _ => rfl) (le [] (by decide) (.c .a (.c .a (.c .a (.c (.e rfl rfl) (.c .a (.c .a (.c (.e rfl rfl) (.c (.e rfl rfl) (.c (.e rfl rfl) (.c .a (.c .a (.c .a (.c .a (.c .a (.c .a (.c .a (.c .a (.c .a (.c .a (.c .a (.c .a .n))))))))))))))))))))) .n) ?_
    rintro f ⟨v0_3, i0⟩ hm
    rw [m_impl_Hash_l0] at hm
    dsimp only at hm ⊢
    refine sr <| m (lss (.t n8) (.t n7)) u9 <| e ?_
    refine rng n7 fun _ ra3 => ?_
    replace ra3 := (show (_ : Int) ≤ 9223372036854775807 from ra3)
    refine sq ?_
    refine cnd n9 (fun h4 => ?_) (fun h4 => ?_)
    ·
      replace hm := ct h4 hm
      have h4d := of_decide_eq_true h4
      refine skp ?_
      refine sq ?_
      refine bk ?_
      obtain ⟨z5, e6, hm⟩ := bd_some hm
      refine sr <| m (ixq (f := iV) e6 T.s95 (.t n6) (.t n8)) u10 <| m (lde T.o3 n0 (.t n10)) u11 <| m (as_ (.t n11)) u5 <| e ?_
      refine rg <| m (mv (.t n3)) u12 <| m (mul (.t n12) (.i rfl)) u13 <| m (mv (.t n5)) u14 <| c (call (tot_impl_Mod z5 (2147483647 : Int)) (.c (.t n14) rfl (.c (.i rfl) rfl .n))) u15 <| m (add (.t n13) (.t n15)) u16 <| m (add (.t n16) (.i rfl)) u17 <| m (rem (by decide) (.t n17) (.i rfl)) u18 <| m (as_ (.t n18)) u3 <| e ?_
      refine rg <| m (add (.t n8) (.i rfl)) u19 <| m (mv (.t n19)) u8 <| e ?_
      exact ⟨((IntKind.i64.wrap (IntKind.i64.wrap (IntKind.i64.wrap (v0_3 * (1000003 : Int)) + (modI z5 (2147483647 : Int))) + (13 : Int))).tmod (2147483647 : Int), i0 + 1), hm, le [] (by decide) (.c .a (.c .a (.c .a (.c (.e rfl rfl) (.c .a (.c .a (.c (.e rfl rfl) (.c (.e rfl rfl) (.c (.e (wi (by omega)) rfl) (.c .a (.c .a (.c .a (.c .a (.c .a (.c .a (.c .a (.c .a (.c .a (.c .a (.c .a (.c .a .n))))))))))))))))))))) .n⟩
    ·
      replace hm := cf h4 hm
      have h4d := of_decide_eq_false h4
      refine ex (x1 ?_)
      replace hm := sj hm
      subst hm
      have hm := hq1
      exact ⟨v0_3, hm, le [] (by decide) (.c .a (.c .a (.c .a (.c (.e rfl rfl) (.c .a (.c .a (.c .a (.c .a (.c .a (.c .a (.c .a (.c .a (.c .a (.c .a (.c .a (.c .a (.c .a (.c .a (.c .a (.c .a (.c .a .n))))))))))))))))))))) .n⟩
  ·
    refine sr <| m (mv (.t n3)) u20 <| m (as_ (.t n20)) u2 <| e ?_
    replace hm := sj hm
    subst hm
    exact rt (ret1 (.t n2 (.p rfl) .n) rfl)

theorem tot_impl_Hash (values_ : List Int)  : Spec Tryz.prog G0 146 [.slice 1 (values_.map iV)] (fun v => v = .int .i64 (hashI values_)) := sp_impl_Hash values_ _ (t_impl_Hash values_)

theorem sp_impl_KeyedHash (key_ : Int) (values_ : List Int) (r : Int) (hm : m_impl_KeyedHash key_ values_ = some r) : Spec Tryz.prog G0 99 [.int .i64 key_, .slice 1 (values_.map iV)] (fun v => v = .int .i64 r) := by
  rw [m_impl_KeyedHash] at hm
  refine enter (l := [.tmp 4]) Tryz.func99 rfl Tryz.ntmps99 rfl T.en99 fun E => ?_
  simp only [List.length_cons, List.length_nil, List.replicate_succ, List.replicate_zero, List.cons_append, List.nil_append, Nat.reduceAdd, Nat.reduceSub]
  refine sr <| m (as_ (.i rfl)) u4 <| e ?_
  obtain ⟨c1, hm⟩ := gd_some hm
  refine sr <| m (mv (.t n0)) u5 <| k (bsm ([key_] : List Int) iV T.s95 rfl rfl (.c (.t n5) rfl rfl rfl .n) rfl u6) <| m (mv (.t n1)) u7 <| m (mv (.t n0)) u8 <| k (bsm ([key_] : List Int) iV T.s95 rfl rfl (.c (.t n8) rfl rfl rfl .n) rfl u9) <| k (bsm ([values_, ([key_] : List Int)] : List (List Int)) (fun l => [V.slice 1 (l.map iV)]) T.s216 rfl rfl (.c (.t n7) rfl rfl rfl (.c (.t n9) rfl rfl rfl .n)) rfl u10) <| c (call (tot_impl_joined ([key_] : List Int) ([values_, ([key_] : List Int)] : List (List Int)) c1) (.c (.t n6) rfl (.c (.t n10) rfl .n))) u11 <| c (call (tot_impl_Hash (joinF ([key_] : List Int) ([values_, ([key_] : List Int)] : List (List Int)))) (.c (.t n11) rfl .n)) u12 <| m (as_ (.t n12)) u4 <| e ?_
  replace hm := sj hm
  subst hm
  exact rt (ret1 (.t n4 (.p rfl) .n) rfl)

theorem tot_impl_KeyedHash (key_ : Int) (values_ : List Int) (hp0 : values_.length ≤ 34359738368) : Spec Tryz.prog G0 99 [.int .i64 key_, .slice 1 (values_.map iV)] (fun v => v = .int .i64 (keyedI key_ values_)) := sp_impl_KeyedHash key_ values_ _ (t_impl_KeyedHash key_ values_ hp0)

theorem sp_impl_orOne (n_ : Int) (r : Int) (hm : m_impl_orOne n_ = some r) : Spec Tryz.prog G0 98 [.int .i64 n_] (fun v => v = .int .i64 r) := by
  rw [m_impl_orOne] at hm
  refine enter (l := [.tmp 2]) Tryz.func98 rfl Tryz.ntmps98 rfl T.en98 fun E => ?_
  simp only [List.length_cons, List.length_nil, List.replicate_succ, List.replicate_zero, List.cons_append, List.nil_append, Nat.reduceAdd, Nat.reduceSub]
  refine sr <| m (as_ (.i rfl)) u2 <| e ?_
  refine sq ?_
  refine sr <| m (mv (.t n0)) u3 <| m (eql (.t n3) (.i rfl)) u4 <| e ?_
  refine cnd n4 (fun h1 => ?_) (fun h1 => ?_)
  ·
    replace hm := ct h1 hm
    refine sr <| m (as_ (.i rfl)) u2 <| e ?_
    replace hm := sj hm
    subst hm
    exact rt (ret1 (.t n2 (.p rfl) .n) rfl)
  ·
    replace hm := cf h1 hm
    refine skp ?_
    refine sr <| m (mv (.t n0)) u5 <| m (as_ (.t n5)) u2 <| e ?_
    replace hm := sj hm
    subst hm
    exact rt (ret1 (.t n2 (.p rfl) .n) rfl)

theorem tot_impl_orOne (n_ : Int)  : Spec Tryz.prog G0 98 [.int .i64 n_] (fun v => v = .int .i64 (orOneF n_)) := sp_impl_orOne n_ _ (t_impl_orOne n_)

theorem sp_impl_DeriveFromString (key_ : Int) (label_ : ByteArray) (r : Int) (hm : m_impl_DeriveFromString key_ label_ = some r) : Spec Tryz.prog G0 105 [.int .i64 key_, .str label_] (fun v => v = .int .i64 r) := by
  rw [m_impl_DeriveFromString] at hm
  refine enter (l := [.tmp 4]) Tryz.func105 rfl Tryz.ntmps105 rfl T.en105 fun E => ?_
  simp only [List.length_cons, List.length_nil, List.replicate_succ, List.replicate_zero, List.cons_append, List.nil_append, Nat.reduceAdd, Nat.reduceSub]
  refine sr <| m (as_ (.i rfl)) u4 <| e ?_
  obtain ⟨c1, hm⟩ := gd_some hm
  obtain ⟨c2, hm⟩ := gd_some hm
  refine sr <| m (mv (.t n0)) u5 <| m (mv (.t n1)) u6 <| k (s2i Tryz.underlying9 Tryz.underlying174 Tryz.underlying5 (.t n6) u7) <| c (call (tot_impl_BytesToInts (bytesI label_) c1) (.c (.t n7) rfl .n)) u8 <| c (call (tot_impl_KeyedHash key_ (b2iF (bytesI label_)) c2) (.c (.t n5) rfl (.c (.t n8) rfl .n))) u9 <| c (call (tot_impl_orOne (keyedI key_ (b2iF (bytesI label_)))) (.c (.t n9) rfl .n)) u10 <| m (as_ (.t n10)) u4 <| e ?_
  replace hm := sj hm
  subst hm
  exact rt (ret1 (.t n4 (.p rfl) .n) rfl)

theorem tot_impl_DeriveFromString (key_ : Int) (label_ : ByteArray) (hp0 : (bytesI label_).length ≤ 34359738300) : Spec Tryz.prog G0 105 [.int .i64 key_, .str label_] (fun v => v = .int .i64 (deriveSF key_ label_)) := sp_impl_DeriveFromString key_ label_ _ (t_impl_DeriveFromString key_ label_ hp0)

theorem sp_spec_SiteHash (site_ : ByteArray) (r : Int) (hm : m_spec_SiteHash site_ = some r) : Spec Tryz.prog G0 60 [.str site_] (fun v => v = .int .i64 r) := by
  rw [m_spec_SiteHash] at hm
  refine enter (l := [.tmp 2]) Tryz.func60 rfl Tryz.ntmps60 rfl T.en60 fun E => ?_
  simp only [List.length_cons, List.length_nil, List.replicate_succ, List.replicate_zero, List.cons_append, List.nil_append, Nat.reduceAdd, Nat.reduceSub]
  refine sr <| m (as_ (.i rfl)) u2 <| e ?_
  obtain ⟨c1, hm⟩ := gd_some hm
  refine sr <| m (mv (.t n0)) u3 <| c (call (tot_spec_DeriveFromString (173 : Int) site_ c1) (.c (.i rfl) rfl (.c (.t n3) rfl .n))) u4 <| m (as_ (.t n4)) u2 <| e ?_
  replace hm := sj hm
  subst hm
  exact rt (ret1 (.t n2 (.p rfl) .n) rfl)

theorem tot_spec_SiteHash (site_ : ByteArray) (hp0 : (bytesI site_).length ≤ 34359738300) : Spec Tryz.prog G0 60 [.str site_] (fun v => v = .int .i64 (siteHashF site_)) := sp_spec_SiteHash site_ _ (t_spec_SiteHash site_ hp0)

theorem sp_impl_SiteHash (site_ : ByteArray) (r : Int) (hm : m_impl_SiteHash site_ = some r) : Spec Tryz.prog G0 62 [.str site_] (fun v => v = .int .i64 r) := by
  rw [m_impl_SiteHash] at hm
  refine enter (l := [.tmp 2]) Tryz.func62 rfl Tryz.ntmps62 rfl T.en62 fun E => ?_
  simp only [List.length_cons, List.length_nil, List.replicate_succ, List.replicate_zero, List.cons_append, List.nil_append, Nat.reduceAdd, Nat.reduceSub]
  refine sr <| m (as_ (.i rfl)) u2 <| e ?_
  obtain ⟨c1, hm⟩ := gd_some hm
  refine sr <| m (mv (.t n0)) u3 <| c (call (tot_impl_DeriveFromString (173 : Int) site_ c1) (.c (.i rfl) rfl (.c (.t n3) rfl .n))) u4 <| m (as_ (.t n4)) u2 <| e ?_
  replace hm := sj hm
  subst hm
  exact rt (ret1 (.t n2 (.p rfl) .n) rfl)

theorem tot_impl_SiteHash (site_ : ByteArray) (hp0 : (bytesI site_).length ≤ 34359738300) : Spec Tryz.prog G0 62 [.str site_] (fun v => v = .int .i64 (siteHashF site_)) := sp_impl_SiteHash site_ _ (t_impl_SiteHash site_ hp0)

theorem sp_spec_FindEntry (b_ : D.Bundle) (site_ : Int) (handle_ : Int) (r : Int) (hm : m_spec_FindEntry b_ site_ handle_ = some r) : Spec Tryz.prog G0 59 [.agg (D.Bundle.V b_), .int .i64 site_, .int .i64 handle_] (fun v => v = .int .i64 r) := by
  rw [m_spec_FindEntry] at hm
  refine enter (l := [.tmp 6]) Tryz.func59 rfl Tryz.ntmps59 rfl T.en59 fun E => ?_
  simp only [List.length_cons, List.length_nil, List.replicate_succ, List.replicate_zero, List.cons_append, List.nil_append, Nat.reduceAdd, Nat.reduceSub]
  refine sr <| k (bx rfl s0 u3 (.t n0)) <| m (as_ (.i rfl)) u6 <| e ?_
  refine sq ?_
  refine sr <| m (as_ (.i rfl)) u7 <| e ?_
  refine jmx hm (fun _ : Unit => ⟨[.any, .any, .any, .any, .any, .any, .any, .any, .any, .any, .any, .any, .any, .any, .any, .any, .any, .any, .any, .any, .any, .any, .any, .any, .any, .any, .any, .any, .any, .any, .any, .any, .any, .any], []⟩) (fun _ hm hq1 => ?_) (fun _ hm => ?_)
  ·
    refine bk ?_
    refine lpf (m := m_spec_FindEntry_l0 b_ site_ handle_) hm (fun i0 : Nat => ⟨[.any, .int .i64 site_, .int .i64 handle_, .box 0 0, .any, .any, .any, .int .i64 (i0 : Int), .any, .any, .any, .any, .any, .any, .any, .any, .any, .any, .any, .any, .any, .any, .any, .any, .any, .any, .any, .any, .any, .any, .any, .any, .any, .any], [.box 102 [.slice 4 (b_.Entries.map D.Entry.V)]]⟩) (fun _ => rfl) (le [0] (by decide) (.c .a (.c (.e rfl rfl) (.c (.e rfl rfl) (.c (.b n0) (.c .a (.c .a (.c .a (.c (.e rfl rfl) (.c .a (.c .a (.c .a (.c .a (.c .a (.c .a (.c .a (.c .a (.c .a (.c .a (.c .a (.c .a (.c .a (.c .a (.c .a (.c .a (.c .a (.c .a (.c .a (.c .a (.c .a (.c .a (.c .a (.c .a (.c .a (.c .a .n)))))))))))))))))))))))))))))))))) (.b n0 (.c (.e rfl rfl) .n) .n)) ?_
    rintro f i0 hm
    rw [m_spec_FindEntry_l0] at hm
    refine sq ?_
    refine sr <| m (mv (.t n7)) u8 <| m (fab 0 rfl T.f102_0 (.t n3)) u9 <| m (ldb T.o100 n0 n0 (.t n9)) u10 <| m (lenm (l := b_.Entries) (f := D.Entry.V) T.s100 (.t n10)) u11 <| m (lss (.t n8) (.t n11)) u12 <| e ?_
    refine rng n11 fun _ ra2 => ?_
    replace ra2 := (show (_ : Int) ≤ 9223372036854775807 from ra2)
    refine cnd n12 (fun h3 => ?_) (fun h3 => ?_)
    ·
      replace hm := ct h3 hm
      have h3d := of_decide_eq_true h3
      refine skp ?_
      refine sq ?_
      refine bk ?_
      refine sr <| rjb hm (fun j1_32 : Bool => ⟨[.any, .int .i64 site_, .int .i64 handle_, .box 0 0, .any, .any, .any, .int .i64 (i0 : Int), .any, .any, .any, .any, .any, .any, .any, .any, .any, .any, .any, .any, .any, .any, .any, .any, .any, .any, .any, .any, .any, .any, .any, .any, .bool j1_32, .any], [.box 102 [.slice 4 (b_.Entries.map D.Entry.V)]]⟩) (fun _ hm hq4 => ?_) (fun j1_32 hm => ?_)
      ·
        obtain ⟨z5, e6, hm⟩ := bd_some hm
        refine m (fab 0 rfl T.f102_0 (.t n3)) u15 <| m (ldb T.o100 n0 n0 (.t n15)) u16 <| m (mv (.t n7)) u17 <| m (ixq (f := D.Entry.V) e6 T.s100 (.t n16) (.t n17)) u18 <| m (fae T.f111_0 d0 (.t n18)) u19 <| m (lde T.o3 n0 (.t n19)) u20 <| m (mv (.t n1)) u21 <| m (eql (.t n20) (.t n21)) u22 <| m (mv (.t n22)) u23 <| sp n23 u23 u23 (fun h7 => ?_) (fun h7 => ?_)
        ·
          replace hm := ct h7 hm
          refine mg n8 rfl n23 (fab 0 rfl T.f102_0 (.t n3)) u24 <| mg n8 rfl n23 (ldb T.o100 n0 n0 (.t n24)) u25 <| mg n8 rfl n23 (mv (.t n7)) u26 <| mg n8 rfl n23 (ixq (f := D.Entry.V) e6 T.s100 (.t n25) (.t n26)) u27 <| mg n8 rfl n23 (fae T.f111_1 d1 (.t n27)) u28 <| mg n8 rfl n23 (lde T.o3 n0 (.t n28)) u29 <| mg n8 rfl n23 (mv (.t n2)) u30 <| mg n8 rfl n23 (eql (.t n29) (.t n30)) u31 <| m (pkt (.t n23) (.t n31)) u32 <| e ?_
          replace hm := sj hm
          subst hm
          have hm := hq4
          exact ⟨(z5.Handle == handle_), hm, le [0] (by decide) (.c .a (.c (.e rfl rfl) (.c (.e rfl rfl) (.c (.b n0) (.c .a (.c .a (.c .a (.c (.e rfl rfl) (.c .a (.c .a (.c .a (.c .a (.c .a (.c .a (.c .a (.c .a (.c .a (.c .a (.c .a (.c .a (.c .a (.c .a (.c .a (.c .a (.c .a (.c .a (.c .a (.c .a (.c .a (.c .a (.c .a (.c .a (.c (.e rfl rfl) (.c .a .n)))))))))))))))))))))))))))))))))) (.b n0 (.c (.e rfl rfl) .n) .n)⟩
        ·
          replace hm := cf h7 hm
          refine sk n8 rfl n23 rfl u24 <| sk n8 rfl n23 rfl u25 <| sk n8 rfl n23 rfl u26 <| sk n8 rfl n23 rfl u27 <| sk n8 rfl n23 rfl u28 <| sk n8 rfl n23 rfl u29 <| sk n8 rfl n23 rfl u30 <| sk n8 rfl n23 rfl u31 <| m (pkf (.t n23) .b) u32 <| e ?_
          replace hm := sj hm
          subst hm
          have hm := hq4
          exact ⟨false, hm, le [0] (by decide) (.c .a (.c (.e rfl rfl) (.c (.e rfl rfl) (.c (.b n0) (.c .a (.c .a (.c .a (.c (.e rfl rfl) (.c .a (.c .a (.c .a (.c .a (.c .a (.c .a (.c .a (.c .a (.c .a (.c .a (.c .a (.c .a (.c .a (.c .a (.c .a (.c .a (.c .a (.c .a (.c .a (.c .a (.c .a (.c .a (.c .a (.c .a (.c (.e rfl rfl) (.c .a .n)))))))))))))))))))))))))))))))))) (.b n0 (.c (.e rfl rfl) .n) .n)⟩
      ·
        refine cnd n32 (fun h8 => ?_) (fun h8 => ?_)
        ·
          replace hm := ct h8 hm
          refine sr <| m (mv (.t n7)) u33 <| m (as_ (.t n33)) u6 <| e ?_
          replace hm := inl1 hm hq1
          subst hm
          exact rt (ret1 (.t n6 (.p rfl) .n) rfl)
        ·
          replace hm := cf h8 hm
          refine skp ?_
          refine rg <| m (mv (.t n7)) u13 <| m (add (.t n13) (.i rfl)) u14 <| m (as_ (.t n14)) u7 <| e ?_
          exact ⟨i0 + 1, hm, le [0] (by decide) (.c .a (.c (.e rfl rfl) (.c (.e rfl rfl) (.c (.b n0) (.c .a (.c .a (.c .a (.c (.e (wi (by omega)) rfl) (.c .a (.c .a (.c .a (.c .a (.c .a (.c .a (.c .a (.c .a (.c .a (.c .a (.c .a (.c .a (.c .a (.c .a (.c .a (.c .a (.c .a (.c .a (.c .a (.c .a (.c .a (.c .a (.c .a (.c .a (.c .a (.c .a .n)))))))))))))))))))))))))))))))))) (.b n0 (.c (.e rfl rfl) .n) .n)⟩
    ·
      replace hm := cf h3 hm
      have h3d := of_decide_eq_false h3
      refine ex (x1 ?_)
      replace hm := inr1 hm hq1
      exact ⟨(), hm, le [] (by decide) (.c .a (.c .a (.c .a (.c .a (.c .a (.c .a (.c .a (.c .a (.c .a (.c .a (.c .a (.c .a (.c .a (.c .a (.c .a (.c .a (.c .a (.c .a (.c .a (.c .a (.c .a (.c .a (.c .a (.c .a (.c .a (.c .a (.c .a (.c .a (.c .a (.c .a (.c .a (.c .a (.c .a (.c .a .n)))))))))))))))))))))))))))))))))) .n⟩
  ·
    refine sr <| m (as_ (.i rfl)) u6 <| e ?_
    replace hm := sj hm
    subst hm
    exact rt (ret1 (.t n6 (.p rfl) .n) rfl)

theorem tot_spec_FindEntry (b_ : D.Bundle) (site_ : Int) (handle_ : Int)  : Spec Tryz.prog G0 59 [.agg (D.Bundle.V b_), .int .i64 site_, .int .i64 handle_] (fun v => v = .int .i64 (findEntryF b_ site_ handle_)) := sp_spec_FindEntry b_ site_ handle_ _ (t_spec_FindEntry b_ site_ handle_)

theorem sp_impl_FindEntry (b_ : D.Bundle) (site_ : Int) (handle_ : Int) (r : Int) (hm : m_impl_FindEntry b_ site_ handle_ = some r) : Spec Tryz.prog G0 61 [.agg (D.Bundle.V b_), .int .i64 site_, .int .i64 handle_] (fun v => v = .int .i64 r) := by
  rw [m_impl_FindEntry] at hm
  refine enter (l := [.tmp 6]) Tryz.func61 rfl Tryz.ntmps61 rfl T.en61 fun E => ?_
  simp only [List.length_cons, List.length_nil, List.replicate_succ, List.replicate_zero, List.cons_append, List.nil_append, Nat.reduceAdd, Nat.reduceSub]
  refine sr <| k (bx rfl s0 u3 (.t n0)) <| m (as_ (.i rfl)) u6 <| e ?_
  refine sq ?_
  refine sr <| m (fab 0 rfl T.f102_0 (.t n3)) u9 <| m (ldb T.o100 n0 n0 (.t n9)) u10 <| m (lenm (l := b_.Entries) (f := D.Entry.V) T.s100 (.t n10)) u11 <| m (mv (.i rfl)) u12 <| e ?_
  refine jmx hm (fun _ : Unit => ⟨[.any, .any, .any, .any, .any, .any, .any, .any, .any, .any, .any, .any, .any, .any, .any, .any, .any, .any, .any, .any, .any, .any, .any, .any, .any, .any, .any, .any, .any], []⟩) (fun _ hm hq1 => ?_) (fun _ hm => ?_)
  ·
    refine bk ?_
    refine lpf (m := m_impl_FindEntry_l0 b_ site_ handle_) hm (fun i0 : Nat => ⟨[.any, .int .i64 site_, .int .i64 handle_, .any, .any, .any, .any, .any, .any, .any, .slice 4 (b_.Entries.map D.Entry.V), .int .i64 (b_.Entries.length : Int), .int .i64 (i0 : Int), .any, .any, .any, .any, .any, .any, .any, .any, .any, .any, .any, .any, .any, .any, .any, .any], []⟩) (fun _ => rfl) (le [] (by decide) (.c .a (.c (.e rfl rfl) (.c (.e rfl rfl) (.c .a (.c .a (.c .a (.c .a (.c .a (.c .a (.c .a (.c (.e rfl rfl) (.c (.e rfl rfl) (.c (.e rfl rfl) (.c .a (.c .a (.c .a (.c .a (.c .a (.c .a (.c .a (.c .a (.c .a (.c .a (.c .a (.c .a (.c .a (.c .a (.c .a (.c .a .n))))))))))))))))))))))))))))) .n) ?_
    rintro f i0 hm
    rw [m_impl_FindEntry_l0] at hm
    refine sr <| m (lss (.t n12) (.t n11)) u13 <| e ?_
    refine rng n11 fun _ ra2 => ?_
    replace ra2 := (show (_ : Int) ≤ 9223372036854775807 from ra2)
    refine sq ?_
    refine cnd n13 (fun h3 => ?_) (fun h3 => ?_)
    ·
      replace hm := ct h3 hm
      have h3d := of_decide_eq_true h3
      refine skp ?_
      refine sq ?_
      refine bk ?_
      obtain ⟨z4, e5, hm⟩ := bd_some hm
      refine sr <| m (mv (.t n12)) u14 <| m (ixq (f := D.Entry.V) e5 T.s100 (.t n10) (.t n12)) u15 <| m (lae T.a111 k4 (.t n15)) u16 <| k (al T.z111 s0 u8) <| m (as_ (.t n14)) u7 <| k (sta T.a111 rfl rfl n0 (.z (.z (.z (.z .n)))) q0 (.t n8) (.t n16)) <| e ?_
      refine sr <| rjb hm (fun j1_26 : Bool => ⟨[.any, .int .i64 site_, .int .i64 handle_, .any, .any, .any, .any, .int .i64 (i0 : Int), .any, .any, .slice 4 (b_.Entries.map D.Entry.V), .int .i64 (b_.Entries.length : Int), .int .i64 (i0 : Int), .any, .any, .any, .any, .any, .any, .any, .any, .any, .any, .any, .any, .any, .bool j1_26, .any, .any], []⟩) (fun _ hm hq6 => ?_) (fun j1_26 hm => ?_)
      ·
        refine m (fab 0 rfl T.f111_0 (.t n8)) u17 <| m (ldb T.o3 n0 n0 (.t n17)) u18 <| m (mv (.t n1)) u19 <| m (eql (.t n18) (.t n19)) u20 <| m (mv (.t n20)) u21 <| sp n21 u21 u21 (fun h7 => ?_) (fun h7 => ?_)
        ·
          replace hm := ct h7 hm
          refine mg n4 rfl n21 (fab 1 rfl T.f111_1 (.t n8)) u22 <| mg n4 rfl n21 (ldb T.o3 n0 n1 (.t n22)) u23 <| mg n4 rfl n21 (mv (.t n2)) u24 <| mg n4 rfl n21 (eql (.t n23) (.t n24)) u25 <| m (pkt (.t n21) (.t n25)) u26 <| e ?_
          replace hm := sj hm
          subst hm
          have hm := hq6
          exact ⟨(z4.Handle == handle_), hm, le [] (by decide) (.c .a (.c (.e rfl rfl) (.c (.e rfl rfl) (.c .a (.c .a (.c .a (.c .a (.c (.e rfl rfl) (.c .a (.c .a (.c (.e rfl rfl) (.c (.e rfl rfl) (.c (.e rfl rfl) (.c .a (.c .a (.c .a (.c .a (.c .a (.c .a (.c .a (.c .a (.c .a (.c .a (.c .a (.c .a (.c .a (.c (.e rfl rfl) (.c .a (.c .a .n))))))))))))))))))))))))))))) .n⟩
        ·
          replace hm := cf h7 hm
          refine sk n4 rfl n21 rfl u22 <| sk n4 rfl n21 rfl u23 <| sk n4 rfl n21 rfl u24 <| sk n4 rfl n21 rfl u25 <| m (pkf (.t n21) .b) u26 <| e ?_
          replace hm := sj hm
          subst hm
          have hm := hq6
          exact ⟨false, hm, le [] (by decide) (.c .a (.c (.e rfl rfl) (.c (.e rfl rfl) (.c .a (.c .a (.c .a (.c .a (.c (.e rfl rfl) (.c .a (.c .a (.c (.e rfl rfl) (.c (.e rfl rfl) (.c (.e rfl rfl) (.c .a (.c .a (.c .a (.c .a (.c .a (.c .a (.c .a (.c .a (.c .a (.c .a (.c .a (.c .a (.c .a (.c (.e rfl rfl) (.c .a (.c .a .n))))))))))))))))))))))))))))) .n⟩
      ·
        refine cnd n26 (fun h8 => ?_) (fun h8 => ?_)
        ·
          replace hm := ct h8 hm
          refine sr <| m (mv (.t n7)) u27 <| m (as_ (.t n27)) u6 <| e ?_
          replace hm := inl1 hm hq1
          subst hm
          exact rt (ret1 (.t n6 (.p rfl) .n) rfl)
        ·
          replace hm := cf h8 hm
          refine skp ?_
          refine rg <| m (add (.t n12) (.i rfl)) u28 <| m (mv (.t n28)) u12 <| e ?_
          exact ⟨i0 + 1, hm, le [] (by decide) (.c .a (.c (.e rfl rfl) (.c (.e rfl rfl) (.c .a (.c .a (.c .a (.c .a (.c .a (.c .a (.c .a (.c (.e rfl rfl) (.c (.e rfl rfl) (.c (.e (wi (by omega)) rfl) (.c .a (.c .a (.c .a (.c .a (.c .a (.c .a (.c .a (.c .a (.c .a (.c .a (.c .a (.c .a (.c .a (.c .a (.c .a (.c .a .n))))))))))))))))))))))))))))) .n⟩
    ·
      replace hm := cf h3 hm
      have h3d := of_decide_eq_false h3
      refine ex (x1 ?_)
      replace hm := inr1 hm hq1
      exact ⟨(), hm, le [] (by decide) (.c .a (.c .a (.c .a (.c .a (.c .a (.c .a (.c .a (.c .a (.c .a (.c .a (.c .a (.c .a (.c .a (.c .a (.c .a (.c .a (.c .a (.c .a (.c .a (.c .a (.c .a (.c .a (.c .a (.c .a (.c .a (.c .a (.c .a (.c .a (.c .a .n))))))))))))))))))))))))))))) .n⟩
  ·
    refine sr <| m (as_ (.i rfl)) u6 <| e ?_
    replace hm := sj hm
    subst hm
    exact rt (ret1 (.t n6 (.p rfl) .n) rfl)

theorem tot_impl_FindEntry (b_ : D.Bundle) (site_ : Int) (handle_ : Int)  : Spec Tryz.prog G0 61 [.agg (D.Bundle.V b_), .int .i64 site_, .int .i64 handle_] (fun v => v = .int .i64 (findEntryF b_ site_ handle_)) := sp_impl_FindEntry b_ site_ handle_ _ (t_impl_FindEntry b_ site_ handle_)

theorem sp_impl_hasDevice (w_ : D.World) (device_ : Int) (r : Bool) (hm : m_impl_hasDevice w_ device_ = some r) : Spec Tryz.prog G0 56 [.agg (D.World.V w_), .int .i64 device_] (fun v => v = .bool r) := by
  rw [m_impl_hasDevice] at hm
  refine enter (l := [.tmp 4]) Tryz.func56 rfl Tryz.ntmps56 rfl T.en56 fun E => ?_
  simp only [List.length_cons, List.length_nil, List.replicate_succ, List.replicate_zero, List.cons_append, List.nil_append, Nat.reduceAdd, Nat.reduceSub]
  refine sr <| k (bx rfl s0 u2 (.t n0)) <| m (as_ .b) u4 <| e ?_
  refine sr <| rjb hm (fun j0_4 : Bool => ⟨[.any, .any, .any, .any, .bool j0_4, .any, .any, .any, .any, .any, .any, .any, .any, .any], []⟩) (fun _ hm hq1 => ?_) (fun j0_4 hm => ?_)
  ·
    refine m (mv (.t n1)) u5 <| m (geq (.t n5) (.i rfl)) u6 <| m (mv (.t n6)) u7 <| sp n7 u7 u7 (fun h2 => ?_) (fun h2 => ?_)
    ·
      replace hm := ct h2 hm
      refine mg n2 rfl n7 (mv (.t n1)) u8 <| mg n2 rfl n7 (fab 2 rfl T.f57_2 (.t n2)) u9 <| mg n2 rfl n7 (ldb T.o42 n0 n2 (.t n9)) u10 <| mg n2 rfl n7 (lenm (l := w_.Devices) (f := D.Device.V) T.s42 (.t n10)) u11 <| mg n2 rfl n7 (lss (.t n8) (.t n11)) u12 <| m (pkt (.t n7) (.t n12)) u13 <| m (as_ (.t n13)) u4 <| e ?_
      replace hm := sj hm
      subst hm
      have hm := hq1
      exact ⟨decide (device_ < (w_.Devices.length : Int)), hm, le [] (by decide) (.c .a (.c .a (.c .a (.c .a (.c (.e rfl rfl) (.c .a (.c .a (.c .a (.c .a (.c .a (.c .a (.c .a (.c .a (.c .a .n)))))))))))))) .n⟩
    ·
      replace hm := cf h2 hm
      refine sk n2 rfl n7 rfl u8 <| sk n2 rfl n7 rfl u9 <| sk n2 rfl n7 rfl u10 <| sk n2 rfl n7 rfl u11 <| sk n2 rfl n7 rfl u12 <| m (pkf (.t n7) .b) u13 <| m (as_ (.t n13)) u4 <| e ?_
      replace hm := sj hm
      subst hm
      have hm := hq1
      exact ⟨false, hm, le [] (by decide) (.c .a (.c .a (.c .a (.c .a (.c (.e rfl rfl) (.c .a (.c .a (.c .a (.c .a (.c .a (.c .a (.c .a (.c .a (.c .a .n)))))))))))))) .n⟩
  ·
    replace hm := sj hm
    subst hm
    exact rt (ret1 (.t n4 (.p rfl) .n) rfl)

theorem tot_impl_hasDevice (w_ : D.World) (device_ : Int)  : Spec Tryz.prog G0 56 [.agg (D.World.V w_), .int .i64 device_] (fun v => v = .bool (hasDevF w_ device_)) := sp_impl_hasDevice w_ device_ _ (t_impl_hasDevice w_ device_)

theorem sp_spec_KnowsAccount (w_ : D.World) (device_ : Int) (site_ : ByteArray) (handle_ : Int) (r : Bool) (hm : m_spec_KnowsAccount w_ device_ site_ handle_ = some r) : Spec Tryz.prog G0 20 [.agg (D.World.V w_), .int .i64 device_, .str site_, .int .i64 handle_] (fun v => v = .bool r) := by
  rw [m_spec_KnowsAccount] at hm
  refine enter (l := [.tmp 8]) Tryz.func20 rfl Tryz.ntmps20 rfl T.en20 fun E => ?_
  simp only [List.length_cons, List.length_nil, List.replicate_succ, List.replicate_zero, List.cons_append, List.nil_append, Nat.reduceAdd, Nat.reduceSub]
  refine sr <| k (bx rfl s0 u4 (.t n0)) <| m (as_ .b) u8 <| e ?_
  refine sq ?_
  refine sr <| m (mv (.t n1)) u11 <| m (fab 2 rfl T.f57_2 (.t n4)) u12 <| m (ldb T.o42 n0 n2 (.t n12)) u13 <| m (lenm (l := w_.Devices) (f := D.Device.V) T.s42 (.t n13)) u14 <| m (sub (.t n14) (.i rfl)) u15 <| c (call (tot_spec_l1In device_ (0 : Int) (IntKind.i64.wrap ((w_.Devices.length : Int) - (1 : Int)))) (.c (.t n11) rfl (.c (.i rfl) rfl (.c (.t n15) rfl .n)))) u16 <| m (not_ (.t n16)) u17 <| e ?_
  refine cnd n17 (fun h1 => ?_) (fun h1 => ?_)
  ·
    replace hm := ct h1 hm
    refine sr <| m (as_ .b) u8 <| e ?_
    replace hm := sj hm
    subst hm
    exact rt (ret1 (.t n8 (.p rfl) .n) rfl)
  ·
    replace hm := cf h1 hm
    refine skp ?_
    obtain ⟨z2, e3, hm⟩ := bd_some hm
    refine sr <| m (fab 2 rfl T.f57_2 (.t n4)) u18 <| m (ldb T.o42 n0 n2 (.t n18)) u19 <| m (mv (.t n1)) u20 <| m (ixq (f := D.Device.V) e3 T.s42 (.t n19) (.t n20)) u21 <| m (fae T.f104_5 d8 (.t n21)) u22 <| m (lae T.a102 k1 (.t n22)) u23 <| k (al T.z102 s1 u9) <| k (sta T.a102 rfl rfl n1 (.z .n) q1 (.t n9) (.t n23)) <| e ?_
    obtain ⟨c4, hm⟩ := gd_some hm
    refine sd none [(0, true), (1, true), (3, true), (2, false), (4, false), (5, true)] T.mix (by kernel_rfl) <| om n0 (lab T.a102 n1 d0 k1 (.t n9)) u24 <| om n1 (mv (.t n2)) u25 <| om n3 (mv (.t n3)) u27 <| oc n2 (call (tot_spec_SiteHash site_ c4) (.c (.t n25) rfl .n)) u26 <| oc n4 (call (tot_spec_FindEntry z2.Bundle (siteHashF site_) handle_) (.c (.t n24) rfl (.c (.t n26) rfl (.c (.t n27) rfl .n)))) u28 <| om n5 (as_ (.t n28)) u10 <| oe ?_
    refine sr <| rjb hm (fun j0_8 : Bool => ⟨[.any, .any, .any, .any, .any, .any, .any, .any, .bool j0_8, .any, .any, .any, .any, .any, .any, .any, .any, .any, .any, .any, .any, .any, .any, .any, .any, .any, .any, .any, .any, .any, .any, .any, .any, .any, .any, .any, .any, .any, .any, .any], []⟩) (fun _ hm hq5 => ?_) (fun j0_8 hm => ?_)
    ·
      refine m (mv (.t n10)) u29 <| m (geq (.t n29) (.i rfl)) u30 <| m (mv (.t n30)) u31 <| sp n31 u31 u31 (fun h6 => ?_) (fun h6 => ?_)
      ·
        replace hm := ct h6 hm
        obtain ⟨z7, e8, hm⟩ := bd_some hm
        refine mg n2 rfl n31 (fab 0 rfl T.f102_0 (.t n9)) u32 <| mg n2 rfl n31 (ldb T.o100 n1 n0 (.t n32)) u33 <| mg n2 rfl n31 (mv (.t n10)) u34 <| mg n2 rfl n31 (ixq (f := D.Entry.V) e8 T.s100 (.t n33) (.t n34)) u35 <| mg n2 rfl n31 (fae T.f111_3 d3 (.t n35)) u36 <| mg n2 rfl n31 (lde T.o4 n0 (.t n36)) u37 <| mg n2 rfl n31 (not_ (.t n37)) u38 <| m (pkt (.t n31) (.t n38)) u39 <| m (as_ (.t n39)) u8 <| e ?_
        replace hm := sj hm
        subst hm
        have hm := hq5
        exact ⟨(!z7.Deleted), hm, le [] (by decide) (.c .a (.c .a (.c .a (.c .a (.c .a (.c .a (.c .a (.c .a (.c (.e rfl rfl) (.c .a (.c .a (.c .a (.c .a (.c .a (.c .a (.c .a (.c .a (.c .a (.c .a (.c .a (.c .a (.c .a (.c .a (.c .a (.c .a (.c .a (.c .a (.c .a (.c .a (.c .a (.c .a (.c .a (.c .a (.c .a (.c .a (.c .a (.c .a (.c .a (.c .a (.c .a .n)))))))))))))))))))))))))))))))))))))))) .n⟩
      ·
        replace hm := cf h6 hm
        refine sk n2 rfl n31 rfl u32 <| sk n2 rfl n31 rfl u33 <| sk n2 rfl n31 rfl u34 <| sk n2 rfl n31 rfl u35 <| sk n2 rfl n31 rfl u36 <| sk n2 rfl n31 rfl u37 <| sk n2 rfl n31 rfl u38 <| m (pkf (.t n31) .b) u39 <| m (as_ (.t n39)) u8 <| e ?_
        replace hm := sj hm
        subst hm
        have hm := hq5
        exact ⟨false, hm, le [] (by decide) (.c .a (.c .a (.c .a (.c .a (.c .a (.c .a (.c .a (.c .a (.c (.e rfl rfl) (.c .a (.c .a (.c .a (.c .a (.c .a (.c .a (.c .a (.c .a (.c .a (.c .a (.c .a (.c .a (.c .a (.c .a (.c .a (.c .a (.c .a (.c .a (.c .a (.c .a (.c .a (.c .a (.c .a (.c .a (.c .a (.c .a (.c .a (.c .a (.c .a (.c .a (.c .a .n)))))))))))))))))))))))))))))))))))))))) .n⟩
    ·
      replace hm := sj hm
      subst hm
      exact rt (ret1 (.t n8 (.p rfl) .n) rfl)

theorem tot_spec_KnowsAccount (w_ : D.World) (device_ : Int) (site_ : ByteArray) (handle_ : Int) (hp0 : WOk w_) (hp1 : (bytesI site_).length ≤ 34359738300) : Spec Tryz.prog G0 20 [.agg (D.World.V w_), .int .i64 device_, .str site_, .int .i64 handle_] (fun v => v = .bool (knowsF w_ device_ site_ handle_)) := sp_spec_KnowsAccount w_ device_ site_ handle_ _ (t_spec_KnowsAccount w_ device_ site_ handle_ hp0 hp1)

theorem sp_impl_KnowsAccount (w_ : D.World) (device_ : Int) (site_ : ByteArray) (handle_ : Int) (r : Bool) (hm : m_impl_KnowsAccount w_ device_ site_ handle_ = some r) : Spec Tryz.prog G0 21 [.agg (D.World.V w_), .int .i64 device_, .str site_, .int .i64 handle_] (fun v => v = .bool r) := by
  rw [m_impl_KnowsAccount] at hm
  refine enter (l := [.tmp 8]) Tryz.func21 rfl Tryz.ntmps21 rfl T.en21 fun E => ?_
  simp only [List.length_cons, List.length_nil, List.replicate_succ, List.replicate_zero, List.cons_append, List.nil_append, Nat.reduceAdd, Nat.reduceSub]
  refine sr <| k (bx rfl s0 u4 (.t n0)) <| m (as_ .b) u8 <| e ?_
  refine sq ?_
  refine sr <| m (lab T.a57 n0 d0 k16 (.t n4)) u11 <| m (mv (.t n1)) u12 <| c (call (tot_impl_hasDevice w_ device_) (.c (.t n11) rfl (.c (.t n12) rfl .n))) u13 <| m (not_ (.t n13)) u14 <| e ?_
  refine cnd n14 (fun h1 => ?_) (fun h1 => ?_)
  ·
    replace hm := ct h1 hm
    refine sr <| m (as_ .b) u8 <| e ?_
    replace hm := sj hm
    subst hm
    exact rt (ret1 (.t n8 (.p rfl) .n) rfl)
  ·
    replace hm := cf h1 hm
    refine skp ?_
    obtain ⟨z2, e3, hm⟩ := bd_some hm
    refine sr <| m (fab 2 rfl T.f57_2 (.t n4)) u15 <| m (ldb T.o42 n0 n2 (.t n15)) u16 <| m (mv (.t n1)) u17 <| m (ixq (f := D.Device.V) e3 T.s42 (.t n16) (.t n17)) u18 <| m (fae T.f104_5 d8 (.t n18)) u19 <| m (lae T.a102 k1 (.t n19)) u20 <| k (al T.z102 s1 u9) <| k (sta T.a102 rfl rfl n1 (.z .n) q1 (.t n9) (.t n20)) <| e ?_
    obtain ⟨c4, hm⟩ := gd_some hm
    refine sd none [(0, true), (1, true), (3, true), (2, false), (4, false), (5, true)] T.mix (by kernel_rfl) <| om n0 (lab T.a102 n1 d0 k1 (.t n9)) u21 <| om n1 (mv (.t n2)) u22 <| om n3 (mv (.t n3)) u24 <| oc n2 (call (tot_impl_SiteHash site_ c4) (.c (.t n22) rfl .n)) u23 <| oc n4 (call (tot_impl_FindEntry z2.Bundle (siteHashF site_) handle_) (.c (.t n21) rfl (.c (.t n23) rfl (.c (.t n24) rfl .n)))) u25 <| om n5 (as_ (.t n25)) u10 <| oe ?_
    refine sr <| rjb hm (fun j0_8 : Bool => ⟨[.any, .any, .any, .any, .any, .any, .any, .any, .bool j0_8, .any, .any, .any, .any, .any, .any, .any, .any, .any, .any, .any, .any, .any, .any, .any, .any, .any, .any, .any, .any, .any, .any, .any, .any, .any, .any, .any, .any], []⟩) (fun _ hm hq5 => ?_) (fun j0_8 hm => ?_)
    ·
      refine m (mv (.t n10)) u26 <| m (geq (.t n26) (.i rfl)) u27 <| m (mv (.t n27)) u28 <| sp n28 u28 u28 (fun h6 => ?_) (fun h6 => ?_)
      ·
        replace hm := ct h6 hm
        obtain ⟨z7, e8, hm⟩ := bd_some hm
        refine mg n2 rfl n28 (fab 0 rfl T.f102_0 (.t n9)) u29 <| mg n2 rfl n28 (ldb T.o100 n1 n0 (.t n29)) u30 <| mg n2 rfl n28 (mv (.t n10)) u31 <| mg n2 rfl n28 (ixq (f := D.Entry.V) e8 T.s100 (.t n30) (.t n31)) u32 <| mg n2 rfl n28 (fae T.f111_3 d3 (.t n32)) u33 <| mg n2 rfl n28 (lde T.o4 n0 (.t n33)) u34 <| mg n2 rfl n28 (not_ (.t n34)) u35 <| m (pkt (.t n28) (.t n35)) u36 <| m (as_ (.t n36)) u8 <| e ?_
        replace hm := sj hm
        subst hm
        have hm := hq5
        exact ⟨(!z7.Deleted), hm, le [] (by decide) (.c .a (.c .a (.c .a (.c .a (.c .a (.c .a (.c .a (.c .a (.c (.e rfl rfl) (.c .a (.c .a (.c .a (.c .a (.c .a (.c .a (.c .a (.c .a (.c .a (.c .a (.c .a (.c .a (.c .a (.c .a (.c .a (.c .a (.c .a (.c .a (.c .a (.c .a (.c .a (.c .a (.c .a (.c .a (.c .a (.c .a (.c .a (.c .a .n))))))))))))))))))))))))))))))))))))) .n⟩
      ·
        replace hm := cf h6 hm
        refine sk n2 rfl n28 rfl u29 <| sk n2 rfl n28 rfl u30 <| sk n2 rfl n28 rfl u31 <| sk n2 rfl n28 rfl u32 <| sk n2 rfl n28 rfl u33 <| sk n2 rfl n28 rfl u34 <| sk n2 rfl n28 rfl u35 <| m (pkf (.t n28) .b) u36 <| m (as_ (.t n36)) u8 <| e ?_
        replace hm := sj hm
        subst hm
        have hm := hq5
        exact ⟨false, hm, le [] (by decide) (.c .a (.c .a (.c .a (.c .a (.c .a (.c .a (.c .a (.c .a (.c (.e rfl rfl) (.c .a (.c .a (.c .a (.c .a (.c .a (.c .a (.c .a (.c .a (.c .a (.c .a (.c .a (.c .a (.c .a (.c .a (.c .a (.c .a (.c .a (.c .a (.c .a (.c .a (.c .a (.c .a (.c .a (.c .a (.c .a (.c .a (.c .a (.c .a .n))))))))))))))))))))))))))))))))))))) .n⟩
    ·
      replace hm := sj hm
      subst hm
      exact rt (ret1 (.t n8 (.p rfl) .n) rfl)

theorem tot_impl_KnowsAccount (w_ : D.World) (device_ : Int) (site_ : ByteArray) (handle_ : Int) (hp0 : (bytesI site_).length ≤ 34359738300) : Spec Tryz.prog G0 21 [.agg (D.World.V w_), .int .i64 device_, .str site_, .int .i64 handle_] (fun v => v = .bool (knowsF w_ device_ site_ handle_)) := sp_impl_KnowsAccount w_ device_ site_ handle_ _ (t_impl_KnowsAccount w_ device_ site_ handle_ hp0)
end Go.VK
