/-
  Printed by wip/tools (own work of this part): models of functions, walks over the value kit, and proofs.
-/
import Derived.Test.YtpblmeojgboagaaGreatXmKeysAgree
import Derived.Test.YtpblmeojgboagaaGreatProg
set_option linter.unusedVariables false
set_option linter.unusedSimpArgs false
set_option maxRecDepth 100000
set_option maxHeartbeats 4000000
namespace Go.VK
open Go.RowKit Go.Proofs
abbrev G0 : GI := GTriv
theorem T.a102 : aggB Tryz.prog 102 1 = true := by kernel_rfl
theorem T.a104 : aggB Tryz.prog 104 9 = true := by kernel_rfl
theorem T.a106 : aggB Tryz.prog 106 6 = true := by kernel_rfl
theorem T.a111 : aggB Tryz.prog 111 4 = true := by kernel_rfl
theorem T.a118 : aggB Tryz.prog 118 3 = true := by kernel_rfl
theorem T.a120 : aggB Tryz.prog 120 6 = true := by kernel_rfl
theorem T.a123 : aggB Tryz.prog 123 3 = true := by kernel_rfl
theorem T.a125 : aggB Tryz.prog 125 4 = true := by kernel_rfl
theorem T.a130 : aggB Tryz.prog 130 4 = true := by kernel_rfl
theorem T.a133 : aggB Tryz.prog 133 1 = true := by kernel_rfl
theorem T.a135 : aggB Tryz.prog 135 9 = true := by kernel_rfl
theorem T.a143 : aggB Tryz.prog 143 3 = true := by kernel_rfl
theorem T.a145 : aggB Tryz.prog 145 6 = true := by kernel_rfl
theorem T.a147 : aggB Tryz.prog 147 2 = true := by kernel_rfl
theorem T.a149 : aggB Tryz.prog 149 5 = true := by kernel_rfl
theorem T.a152 : aggB Tryz.prog 152 7 = true := by kernel_rfl
theorem T.a184 : aggB Tryz.prog 184 4 = true := by kernel_rfl
theorem T.a192 : aggB Tryz.prog 192 6 = true := by kernel_rfl
theorem T.a194 : aggB Tryz.prog 194 4 = true := by kernel_rfl
theorem T.a202 : aggB Tryz.prog 202 4 = true := by kernel_rfl
theorem T.a204 : aggB Tryz.prog 204 4 = true := by kernel_rfl
theorem T.a220 : aggB Tryz.prog 220 4 = true := by kernel_rfl
theorem T.a225 : aggB Tryz.prog 225 4 = true := by kernel_rfl
theorem T.a230 : aggB Tryz.prog 230 3 = true := by kernel_rfl
theorem T.a248 : aggB Tryz.prog 248 4 = true := by kernel_rfl
theorem T.a251 : aggB Tryz.prog 251 3 = true := by kernel_rfl
theorem T.a253 : aggB Tryz.prog 253 3 = true := by kernel_rfl
theorem T.a258 : aggB Tryz.prog 258 4 = true := by kernel_rfl
theorem T.a27 : aggB Tryz.prog 27 2 = true := by kernel_rfl
theorem T.a30 : aggB Tryz.prog 30 4 = true := by kernel_rfl
theorem T.a33 : aggB Tryz.prog 33 4 = true := by kernel_rfl
theorem T.a37 : aggB Tryz.prog 37 1 = true := by kernel_rfl
theorem T.a39 : aggB Tryz.prog 39 16 = true := by kernel_rfl
theorem T.a46 : aggB Tryz.prog 46 2 = true := by kernel_rfl
theorem T.a49 : aggB Tryz.prog 49 4 = true := by kernel_rfl
theorem T.a51 : aggB Tryz.prog 51 4 = true := by kernel_rfl
theorem T.a55 : aggB Tryz.prog 55 1 = true := by kernel_rfl
theorem T.a57 : aggB Tryz.prog 57 16 = true := by kernel_rfl
theorem T.a73 : aggB Tryz.prog 73 2 = true := by kernel_rfl
theorem T.a75 : aggB Tryz.prog 75 5 = true := by kernel_rfl
theorem T.a78 : aggB Tryz.prog 78 7 = true := by kernel_rfl
theorem T.a99 : aggB Tryz.prog 99 4 = true := by kernel_rfl
theorem T.en10 (args : Array Value) (w : World) : (callFunc 10 args).run Tryz.prog w = .ok (.enter 10 args) w := by kernel_rfl
theorem T.en100 (args : Array Value) (w : World) : (callFunc 100 args).run Tryz.prog w = .ok (.enter 100 args) w := by kernel_rfl
theorem T.en101 (args : Array Value) (w : World) : (callFunc 101 args).run Tryz.prog w = .ok (.enter 101 args) w := by kernel_rfl
theorem T.en102 (args : Array Value) (w : World) : (callFunc 102 args).run Tryz.prog w = .ok (.enter 102 args) w := by kernel_rfl
theorem T.en103 (args : Array Value) (w : World) : (callFunc 103 args).run Tryz.prog w = .ok (.enter 103 args) w := by kernel_rfl
theorem T.en106 (args : Array Value) (w : World) : (callFunc 106 args).run Tryz.prog w = .ok (.enter 106 args) w := by kernel_rfl
theorem T.en107 (args : Array Value) (w : World) : (callFunc 107 args).run Tryz.prog w = .ok (.enter 107 args) w := by kernel_rfl
theorem T.en108 (args : Array Value) (w : World) : (callFunc 108 args).run Tryz.prog w = .ok (.enter 108 args) w := by kernel_rfl
theorem T.en109 (args : Array Value) (w : World) : (callFunc 109 args).run Tryz.prog w = .ok (.enter 109 args) w := by kernel_rfl
theorem T.en11 (args : Array Value) (w : World) : (callFunc 11 args).run Tryz.prog w = .ok (.enter 11 args) w := by kernel_rfl
theorem T.en110 (args : Array Value) (w : World) : (callFunc 110 args).run Tryz.prog w = .ok (.enter 110 args) w := by kernel_rfl
theorem T.en111 (args : Array Value) (w : World) : (callFunc 111 args).run Tryz.prog w = .ok (.enter 111 args) w := by kernel_rfl
theorem T.en112 (args : Array Value) (w : World) : (callFunc 112 args).run Tryz.prog w = .ok (.enter 112 args) w := by kernel_rfl
theorem T.en113 (args : Array Value) (w : World) : (callFunc 113 args).run Tryz.prog w = .ok (.enter 113 args) w := by kernel_rfl
theorem T.en114 (args : Array Value) (w : World) : (callFunc 114 args).run Tryz.prog w = .ok (.enter 114 args) w := by kernel_rfl
theorem T.en115 (args : Array Value) (w : World) : (callFunc 115 args).run Tryz.prog w = .ok (.enter 115 args) w := by kernel_rfl
theorem T.en116 (args : Array Value) (w : World) : (callFunc 116 args).run Tryz.prog w = .ok (.enter 116 args) w := by kernel_rfl
theorem T.en117 (args : Array Value) (w : World) : (callFunc 117 args).run Tryz.prog w = .ok (.enter 117 args) w := by kernel_rfl
theorem T.en118 (args : Array Value) (w : World) : (callFunc 118 args).run Tryz.prog w = .ok (.enter 118 args) w := by kernel_rfl
theorem T.en119 (args : Array Value) (w : World) : (callFunc 119 args).run Tryz.prog w = .ok (.enter 119 args) w := by kernel_rfl
theorem T.en120 (args : Array Value) (w : World) : (callFunc 120 args).run Tryz.prog w = .ok (.enter 120 args) w := by kernel_rfl
theorem T.en121 (args : Array Value) (w : World) : (callFunc 121 args).run Tryz.prog w = .ok (.enter 121 args) w := by kernel_rfl
theorem T.en122 (args : Array Value) (w : World) : (callFunc 122 args).run Tryz.prog w = .ok (.enter 122 args) w := by kernel_rfl
theorem T.en123 (args : Array Value) (w : World) : (callFunc 123 args).run Tryz.prog w = .ok (.enter 123 args) w := by kernel_rfl
theorem T.en124 (args : Array Value) (w : World) : (callFunc 124 args).run Tryz.prog w = .ok (.enter 124 args) w := by kernel_rfl
theorem T.en125 (args : Array Value) (w : World) : (callFunc 125 args).run Tryz.prog w = .ok (.enter 125 args) w := by kernel_rfl
theorem T.en126 (args : Array Value) (w : World) : (callFunc 126 args).run Tryz.prog w = .ok (.enter 126 args) w := by kernel_rfl
theorem T.en127 (args : Array Value) (w : World) : (callFunc 127 args).run Tryz.prog w = .ok (.enter 127 args) w := by kernel_rfl
theorem T.en128 (args : Array Value) (w : World) : (callFunc 128 args).run Tryz.prog w = .ok (.enter 128 args) w := by kernel_rfl
theorem T.en129 (args : Array Value) (w : World) : (callFunc 129 args).run Tryz.prog w = .ok (.enter 129 args) w := by kernel_rfl
theorem T.en13 (args : Array Value) (w : World) : (callFunc 13 args).run Tryz.prog w = .ok (.enter 13 args) w := by kernel_rfl
theorem T.en130 (args : Array Value) (w : World) : (callFunc 130 args).run Tryz.prog w = .ok (.enter 130 args) w := by kernel_rfl
theorem T.en131 (args : Array Value) (w : World) : (callFunc 131 args).run Tryz.prog w = .ok (.enter 131 args) w := by kernel_rfl
theorem T.en132 (args : Array Value) (w : World) : (callFunc 132 args).run Tryz.prog w = .ok (.enter 132 args) w := by kernel_rfl
theorem T.en133 (args : Array Value) (w : World) : (callFunc 133 args).run Tryz.prog w = .ok (.enter 133 args) w := by kernel_rfl
theorem T.en134 (args : Array Value) (w : World) : (callFunc 134 args).run Tryz.prog w = .ok (.enter 134 args) w := by kernel_rfl
theorem T.en135 (args : Array Value) (w : World) : (callFunc 135 args).run Tryz.prog w = .ok (.enter 135 args) w := by kernel_rfl
theorem T.en136 (args : Array Value) (w : World) : (callFunc 136 args).run Tryz.prog w = .ok (.enter 136 args) w := by kernel_rfl
theorem T.en137 (args : Array Value) (w : World) : (callFunc 137 args).run Tryz.prog w = .ok (.enter 137 args) w := by kernel_rfl
theorem T.en138 (args : Array Value) (w : World) : (callFunc 138 args).run Tryz.prog w = .ok (.enter 138 args) w := by kernel_rfl
theorem T.en139 (args : Array Value) (w : World) : (callFunc 139 args).run Tryz.prog w = .ok (.enter 139 args) w := by kernel_rfl
theorem T.en140 (args : Array Value) (w : World) : (callFunc 140 args).run Tryz.prog w = .ok (.enter 140 args) w := by kernel_rfl
theorem T.en141 (args : Array Value) (w : World) : (callFunc 141 args).run Tryz.prog w = .ok (.enter 141 args) w := by kernel_rfl
theorem T.en142 (args : Array Value) (w : World) : (callFunc 142 args).run Tryz.prog w = .ok (.enter 142 args) w := by kernel_rfl
theorem T.en143 (args : Array Value) (w : World) : (callFunc 143 args).run Tryz.prog w = .ok (.enter 143 args) w := by kernel_rfl
theorem T.en144 (args : Array Value) (w : World) : (callFunc 144 args).run Tryz.prog w = .ok (.enter 144 args) w := by kernel_rfl
theorem T.en145 (args : Array Value) (w : World) : (callFunc 145 args).run Tryz.prog w = .ok (.enter 145 args) w := by kernel_rfl
theorem T.en146 (args : Array Value) (w : World) : (callFunc 146 args).run Tryz.prog w = .ok (.enter 146 args) w := by kernel_rfl
theorem T.en147 (args : Array Value) (w : World) : (callFunc 147 args).run Tryz.prog w = .ok (.enter 147 args) w := by kernel_rfl
theorem T.en148 (args : Array Value) (w : World) : (callFunc 148 args).run Tryz.prog w = .ok (.enter 148 args) w := by kernel_rfl
theorem T.en149 (args : Array Value) (w : World) : (callFunc 149 args).run Tryz.prog w = .ok (.enter 149 args) w := by kernel_rfl
theorem T.en15 (args : Array Value) (w : World) : (callFunc 15 args).run Tryz.prog w = .ok (.enter 15 args) w := by kernel_rfl
theorem T.en150 (args : Array Value) (w : World) : (callFunc 150 args).run Tryz.prog w = .ok (.enter 150 args) w := by kernel_rfl
theorem T.en151 (args : Array Value) (w : World) : (callFunc 151 args).run Tryz.prog w = .ok (.enter 151 args) w := by kernel_rfl
theorem T.en152 (args : Array Value) (w : World) : (callFunc 152 args).run Tryz.prog w = .ok (.enter 152 args) w := by kernel_rfl
theorem T.en153 (args : Array Value) (w : World) : (callFunc 153 args).run Tryz.prog w = .ok (.enter 153 args) w := by kernel_rfl
theorem T.en154 (args : Array Value) (w : World) : (callFunc 154 args).run Tryz.prog w = .ok (.enter 154 args) w := by kernel_rfl
theorem T.en155 (args : Array Value) (w : World) : (callFunc 155 args).run Tryz.prog w = .ok (.enter 155 args) w := by kernel_rfl
theorem T.en156 (args : Array Value) (w : World) : (callFunc 156 args).run Tryz.prog w = .ok (.enter 156 args) w := by kernel_rfl
theorem T.en157 (args : Array Value) (w : World) : (callFunc 157 args).run Tryz.prog w = .ok (.enter 157 args) w := by kernel_rfl
theorem T.en158 (args : Array Value) (w : World) : (callFunc 158 args).run Tryz.prog w = .ok (.enter 158 args) w := by kernel_rfl
theorem T.en159 (args : Array Value) (w : World) : (callFunc 159 args).run Tryz.prog w = .ok (.enter 159 args) w := by kernel_rfl
theorem T.en160 (args : Array Value) (w : World) : (callFunc 160 args).run Tryz.prog w = .ok (.enter 160 args) w := by kernel_rfl
theorem T.en161 (args : Array Value) (w : World) : (callFunc 161 args).run Tryz.prog w = .ok (.enter 161 args) w := by kernel_rfl
theorem T.en162 (args : Array Value) (w : World) : (callFunc 162 args).run Tryz.prog w = .ok (.enter 162 args) w := by kernel_rfl
theorem T.en163 (args : Array Value) (w : World) : (callFunc 163 args).run Tryz.prog w = .ok (.enter 163 args) w := by kernel_rfl
theorem T.en164 (args : Array Value) (w : World) : (callFunc 164 args).run Tryz.prog w = .ok (.enter 164 args) w := by kernel_rfl
theorem T.en165 (args : Array Value) (w : World) : (callFunc 165 args).run Tryz.prog w = .ok (.enter 165 args) w := by kernel_rfl
theorem T.en166 (args : Array Value) (w : World) : (callFunc 166 args).run Tryz.prog w = .ok (.enter 166 args) w := by kernel_rfl
theorem T.en167 (args : Array Value) (w : World) : (callFunc 167 args).run Tryz.prog w = .ok (.enter 167 args) w := by kernel_rfl
theorem T.en168 (args : Array Value) (w : World) : (callFunc 168 args).run Tryz.prog w = .ok (.enter 168 args) w := by kernel_rfl
theorem T.en169 (args : Array Value) (w : World) : (callFunc 169 args).run Tryz.prog w = .ok (.enter 169 args) w := by kernel_rfl
theorem T.en170 (args : Array Value) (w : World) : (callFunc 170 args).run Tryz.prog w = .ok (.enter 170 args) w := by kernel_rfl
theorem T.en171 (args : Array Value) (w : World) : (callFunc 171 args).run Tryz.prog w = .ok (.enter 171 args) w := by kernel_rfl
theorem T.en172 (args : Array Value) (w : World) : (callFunc 172 args).run Tryz.prog w = .ok (.enter 172 args) w := by kernel_rfl
theorem T.en173 (args : Array Value) (w : World) : (callFunc 173 args).run Tryz.prog w = .ok (.enter 173 args) w := by kernel_rfl
theorem T.en174 (args : Array Value) (w : World) : (callFunc 174 args).run Tryz.prog w = .ok (.enter 174 args) w := by kernel_rfl
theorem T.en175 (args : Array Value) (w : World) : (callFunc 175 args).run Tryz.prog w = .ok (.enter 175 args) w := by kernel_rfl
theorem T.en176 (args : Array Value) (w : World) : (callFunc 176 args).run Tryz.prog w = .ok (.enter 176 args) w := by kernel_rfl
theorem T.en177 (args : Array Value) (w : World) : (callFunc 177 args).run Tryz.prog w = .ok (.enter 177 args) w := by kernel_rfl
theorem T.en178 (args : Array Value) (w : World) : (callFunc 178 args).run Tryz.prog w = .ok (.enter 178 args) w := by kernel_rfl
theorem T.en179 (args : Array Value) (w : World) : (callFunc 179 args).run Tryz.prog w = .ok (.enter 179 args) w := by kernel_rfl
theorem T.en180 (args : Array Value) (w : World) : (callFunc 180 args).run Tryz.prog w = .ok (.enter 180 args) w := by kernel_rfl
theorem T.en181 (args : Array Value) (w : World) : (callFunc 181 args).run Tryz.prog w = .ok (.enter 181 args) w := by kernel_rfl
theorem T.en182 (args : Array Value) (w : World) : (callFunc 182 args).run Tryz.prog w = .ok (.enter 182 args) w := by kernel_rfl
theorem T.en183 (args : Array Value) (w : World) : (callFunc 183 args).run Tryz.prog w = .ok (.enter 183 args) w := by kernel_rfl
theorem T.en184 (args : Array Value) (w : World) : (callFunc 184 args).run Tryz.prog w = .ok (.enter 184 args) w := by kernel_rfl
theorem T.en185 (args : Array Value) (w : World) : (callFunc 185 args).run Tryz.prog w = .ok (.enter 185 args) w := by kernel_rfl
theorem T.en186 (args : Array Value) (w : World) : (callFunc 186 args).run Tryz.prog w = .ok (.enter 186 args) w := by kernel_rfl
theorem T.en187 (args : Array Value) (w : World) : (callFunc 187 args).run Tryz.prog w = .ok (.enter 187 args) w := by kernel_rfl
theorem T.en28 (args : Array Value) (w : World) : (callFunc 28 args).run Tryz.prog w = .ok (.enter 28 args) w := by kernel_rfl
theorem T.en29 (args : Array Value) (w : World) : (callFunc 29 args).run Tryz.prog w = .ok (.enter 29 args) w := by kernel_rfl
theorem T.en30 (args : Array Value) (w : World) : (callFunc 30 args).run Tryz.prog w = .ok (.enter 30 args) w := by kernel_rfl
theorem T.en31 (args : Array Value) (w : World) : (callFunc 31 args).run Tryz.prog w = .ok (.enter 31 args) w := by kernel_rfl
theorem T.en32 (args : Array Value) (w : World) : (callFunc 32 args).run Tryz.prog w = .ok (.enter 32 args) w := by kernel_rfl
theorem T.en33 (args : Array Value) (w : World) : (callFunc 33 args).run Tryz.prog w = .ok (.enter 33 args) w := by kernel_rfl
theorem T.en34 (args : Array Value) (w : World) : (callFunc 34 args).run Tryz.prog w = .ok (.enter 34 args) w := by kernel_rfl
theorem T.en35 (args : Array Value) (w : World) : (callFunc 35 args).run Tryz.prog w = .ok (.enter 35 args) w := by kernel_rfl
theorem T.en37 (args : Array Value) (w : World) : (callFunc 37 args).run Tryz.prog w = .ok (.enter 37 args) w := by kernel_rfl
theorem T.en38 (args : Array Value) (w : World) : (callFunc 38 args).run Tryz.prog w = .ok (.enter 38 args) w := by kernel_rfl
theorem T.en39 (args : Array Value) (w : World) : (callFunc 39 args).run Tryz.prog w = .ok (.enter 39 args) w := by kernel_rfl
theorem T.en40 (args : Array Value) (w : World) : (callFunc 40 args).run Tryz.prog w = .ok (.enter 40 args) w := by kernel_rfl
theorem T.en41 (args : Array Value) (w : World) : (callFunc 41 args).run Tryz.prog w = .ok (.enter 41 args) w := by kernel_rfl
theorem T.en42 (args : Array Value) (w : World) : (callFunc 42 args).run Tryz.prog w = .ok (.enter 42 args) w := by kernel_rfl
theorem T.en43 (args : Array Value) (w : World) : (callFunc 43 args).run Tryz.prog w = .ok (.enter 43 args) w := by kernel_rfl
theorem T.en45 (args : Array Value) (w : World) : (callFunc 45 args).run Tryz.prog w = .ok (.enter 45 args) w := by kernel_rfl
theorem T.en46 (args : Array Value) (w : World) : (callFunc 46 args).run Tryz.prog w = .ok (.enter 46 args) w := by kernel_rfl
theorem T.en47 (args : Array Value) (w : World) : (callFunc 47 args).run Tryz.prog w = .ok (.enter 47 args) w := by kernel_rfl
theorem T.en48 (args : Array Value) (w : World) : (callFunc 48 args).run Tryz.prog w = .ok (.enter 48 args) w := by kernel_rfl
theorem T.en49 (args : Array Value) (w : World) : (callFunc 49 args).run Tryz.prog w = .ok (.enter 49 args) w := by kernel_rfl
theorem T.en50 (args : Array Value) (w : World) : (callFunc 50 args).run Tryz.prog w = .ok (.enter 50 args) w := by kernel_rfl
theorem T.en51 (args : Array Value) (w : World) : (callFunc 51 args).run Tryz.prog w = .ok (.enter 51 args) w := by kernel_rfl
theorem T.en52 (args : Array Value) (w : World) : (callFunc 52 args).run Tryz.prog w = .ok (.enter 52 args) w := by kernel_rfl
theorem T.en53 (args : Array Value) (w : World) : (callFunc 53 args).run Tryz.prog w = .ok (.enter 53 args) w := by kernel_rfl
theorem T.en54 (args : Array Value) (w : World) : (callFunc 54 args).run Tryz.prog w = .ok (.enter 54 args) w := by kernel_rfl
theorem T.en55 (args : Array Value) (w : World) : (callFunc 55 args).run Tryz.prog w = .ok (.enter 55 args) w := by kernel_rfl
theorem T.en56 (args : Array Value) (w : World) : (callFunc 56 args).run Tryz.prog w = .ok (.enter 56 args) w := by kernel_rfl
theorem T.en58 (args : Array Value) (w : World) : (callFunc 58 args).run Tryz.prog w = .ok (.enter 58 args) w := by kernel_rfl
theorem T.en68 (args : Array Value) (w : World) : (callFunc 68 args).run Tryz.prog w = .ok (.enter 68 args) w := by kernel_rfl
theorem T.en69 (args : Array Value) (w : World) : (callFunc 69 args).run Tryz.prog w = .ok (.enter 69 args) w := by kernel_rfl
theorem T.en71 (args : Array Value) (w : World) : (callFunc 71 args).run Tryz.prog w = .ok (.enter 71 args) w := by kernel_rfl
theorem T.en72 (args : Array Value) (w : World) : (callFunc 72 args).run Tryz.prog w = .ok (.enter 72 args) w := by kernel_rfl
theorem T.en73 (args : Array Value) (w : World) : (callFunc 73 args).run Tryz.prog w = .ok (.enter 73 args) w := by kernel_rfl
theorem T.en74 (args : Array Value) (w : World) : (callFunc 74 args).run Tryz.prog w = .ok (.enter 74 args) w := by kernel_rfl
theorem T.en75 (args : Array Value) (w : World) : (callFunc 75 args).run Tryz.prog w = .ok (.enter 75 args) w := by kernel_rfl
theorem T.en76 (args : Array Value) (w : World) : (callFunc 76 args).run Tryz.prog w = .ok (.enter 76 args) w := by kernel_rfl
theorem T.en77 (args : Array Value) (w : World) : (callFunc 77 args).run Tryz.prog w = .ok (.enter 77 args) w := by kernel_rfl
theorem T.en78 (args : Array Value) (w : World) : (callFunc 78 args).run Tryz.prog w = .ok (.enter 78 args) w := by kernel_rfl
theorem T.en79 (args : Array Value) (w : World) : (callFunc 79 args).run Tryz.prog w = .ok (.enter 79 args) w := by kernel_rfl
theorem T.en80 (args : Array Value) (w : World) : (callFunc 80 args).run Tryz.prog w = .ok (.enter 80 args) w := by kernel_rfl
theorem T.en81 (args : Array Value) (w : World) : (callFunc 81 args).run Tryz.prog w = .ok (.enter 81 args) w := by kernel_rfl
theorem T.en82 (args : Array Value) (w : World) : (callFunc 82 args).run Tryz.prog w = .ok (.enter 82 args) w := by kernel_rfl
theorem T.en83 (args : Array Value) (w : World) : (callFunc 83 args).run Tryz.prog w = .ok (.enter 83 args) w := by kernel_rfl
theorem T.en84 (args : Array Value) (w : World) : (callFunc 84 args).run Tryz.prog w = .ok (.enter 84 args) w := by kernel_rfl
theorem T.en85 (args : Array Value) (w : World) : (callFunc 85 args).run Tryz.prog w = .ok (.enter 85 args) w := by kernel_rfl
theorem T.en86 (args : Array Value) (w : World) : (callFunc 86 args).run Tryz.prog w = .ok (.enter 86 args) w := by kernel_rfl
theorem T.en87 (args : Array Value) (w : World) : (callFunc 87 args).run Tryz.prog w = .ok (.enter 87 args) w := by kernel_rfl
theorem T.en88 (args : Array Value) (w : World) : (callFunc 88 args).run Tryz.prog w = .ok (.enter 88 args) w := by kernel_rfl
theorem T.en89 (args : Array Value) (w : World) : (callFunc 89 args).run Tryz.prog w = .ok (.enter 89 args) w := by kernel_rfl
theorem T.en90 (args : Array Value) (w : World) : (callFunc 90 args).run Tryz.prog w = .ok (.enter 90 args) w := by kernel_rfl
theorem T.en91 (args : Array Value) (w : World) : (callFunc 91 args).run Tryz.prog w = .ok (.enter 91 args) w := by kernel_rfl
theorem T.en92 (args : Array Value) (w : World) : (callFunc 92 args).run Tryz.prog w = .ok (.enter 92 args) w := by kernel_rfl
theorem T.en93 (args : Array Value) (w : World) : (callFunc 93 args).run Tryz.prog w = .ok (.enter 93 args) w := by kernel_rfl
theorem T.en94 (args : Array Value) (w : World) : (callFunc 94 args).run Tryz.prog w = .ok (.enter 94 args) w := by kernel_rfl
theorem T.en95 (args : Array Value) (w : World) : (callFunc 95 args).run Tryz.prog w = .ok (.enter 95 args) w := by kernel_rfl
theorem T.en96 (args : Array Value) (w : World) : (callFunc 96 args).run Tryz.prog w = .ok (.enter 96 args) w := by kernel_rfl
theorem T.en97 (args : Array Value) (w : World) : (callFunc 97 args).run Tryz.prog w = .ok (.enter 97 args) w := by kernel_rfl
theorem T.en98 (args : Array Value) (w : World) : (callFunc 98 args).run Tryz.prog w = .ok (.enter 98 args) w := by kernel_rfl
theorem T.en99 (args : Array Value) (w : World) : (callFunc 99 args).run Tryz.prog w = .ok (.enter 99 args) w := by kernel_rfl
theorem T.f102_0 : fldB Tryz.prog 102 0 0 = true := by kernel_rfl
theorem T.f104_0 : fldB Tryz.prog 104 0 0 = true := by kernel_rfl
theorem T.f104_1 : fldB Tryz.prog 104 1 4 = true := by kernel_rfl
theorem T.f104_2 : fldB Tryz.prog 104 2 5 = true := by kernel_rfl
theorem T.f104_3 : fldB Tryz.prog 104 3 6 = true := by kernel_rfl
theorem T.f104_4 : fldB Tryz.prog 104 4 7 = true := by kernel_rfl
theorem T.f104_5 : fldB Tryz.prog 104 5 8 = true := by kernel_rfl
theorem T.f106_0 : fldB Tryz.prog 106 0 0 = true := by kernel_rfl
theorem T.f106_1 : fldB Tryz.prog 106 1 1 = true := by kernel_rfl
theorem T.f106_2 : fldB Tryz.prog 106 2 2 = true := by kernel_rfl
theorem T.f106_3 : fldB Tryz.prog 106 3 3 = true := by kernel_rfl
theorem T.f106_4 : fldB Tryz.prog 106 4 4 = true := by kernel_rfl
theorem T.f106_5 : fldB Tryz.prog 106 5 5 = true := by kernel_rfl
theorem T.f111_0 : fldB Tryz.prog 111 0 0 = true := by kernel_rfl
theorem T.f111_1 : fldB Tryz.prog 111 1 1 = true := by kernel_rfl
theorem T.f111_2 : fldB Tryz.prog 111 2 2 = true := by kernel_rfl
theorem T.f111_3 : fldB Tryz.prog 111 3 3 = true := by kernel_rfl
theorem T.f118_0 : fldB Tryz.prog 118 0 0 = true := by kernel_rfl
theorem T.f118_1 : fldB Tryz.prog 118 1 1 = true := by kernel_rfl
theorem T.f118_2 : fldB Tryz.prog 118 2 2 = true := by kernel_rfl
theorem T.f120_0 : fldB Tryz.prog 120 0 0 = true := by kernel_rfl
theorem T.f120_1 : fldB Tryz.prog 120 1 1 = true := by kernel_rfl
theorem T.f120_2 : fldB Tryz.prog 120 2 2 = true := by kernel_rfl
theorem T.f120_3 : fldB Tryz.prog 120 3 5 = true := by kernel_rfl
theorem T.f123_0 : fldB Tryz.prog 123 0 0 = true := by kernel_rfl
theorem T.f123_1 : fldB Tryz.prog 123 1 1 = true := by kernel_rfl
theorem T.f123_2 : fldB Tryz.prog 123 2 2 = true := by kernel_rfl
theorem T.f125_0 : fldB Tryz.prog 125 0 0 = true := by kernel_rfl
theorem T.f125_1 : fldB Tryz.prog 125 1 1 = true := by kernel_rfl
theorem T.f125_2 : fldB Tryz.prog 125 2 2 = true := by kernel_rfl
theorem T.f125_3 : fldB Tryz.prog 125 3 3 = true := by kernel_rfl
theorem T.f130_0 : fldB Tryz.prog 130 0 0 = true := by kernel_rfl
theorem T.f130_1 : fldB Tryz.prog 130 1 1 = true := by kernel_rfl
theorem T.f130_2 : fldB Tryz.prog 130 2 2 = true := by kernel_rfl
theorem T.f130_3 : fldB Tryz.prog 130 3 3 = true := by kernel_rfl
theorem T.f133_0 : fldB Tryz.prog 133 0 0 = true := by kernel_rfl
theorem T.f135_0 : fldB Tryz.prog 135 0 0 = true := by kernel_rfl
theorem T.f135_1 : fldB Tryz.prog 135 1 4 = true := by kernel_rfl
theorem T.f135_2 : fldB Tryz.prog 135 2 5 = true := by kernel_rfl
theorem T.f135_3 : fldB Tryz.prog 135 3 6 = true := by kernel_rfl
theorem T.f135_4 : fldB Tryz.prog 135 4 7 = true := by kernel_rfl
theorem T.f135_5 : fldB Tryz.prog 135 5 8 = true := by kernel_rfl
theorem T.f143_0 : fldB Tryz.prog 143 0 0 = true := by kernel_rfl
theorem T.f143_1 : fldB Tryz.prog 143 1 1 = true := by kernel_rfl
theorem T.f143_2 : fldB Tryz.prog 143 2 2 = true := by kernel_rfl
theorem T.f145_0 : fldB Tryz.prog 145 0 0 = true := by kernel_rfl
theorem T.f145_1 : fldB Tryz.prog 145 1 1 = true := by kernel_rfl
theorem T.f145_2 : fldB Tryz.prog 145 2 2 = true := by kernel_rfl
theorem T.f145_3 : fldB Tryz.prog 145 3 5 = true := by kernel_rfl
theorem T.f147_0 : fldB Tryz.prog 147 0 0 = true := by kernel_rfl
theorem T.f147_1 : fldB Tryz.prog 147 1 1 = true := by kernel_rfl
theorem T.f149_0 : fldB Tryz.prog 149 0 0 = true := by kernel_rfl
theorem T.f149_1 : fldB Tryz.prog 149 1 2 = true := by kernel_rfl
theorem T.f149_2 : fldB Tryz.prog 149 2 3 = true := by kernel_rfl
theorem T.f149_3 : fldB Tryz.prog 149 3 4 = true := by kernel_rfl
theorem T.f152_0 : fldB Tryz.prog 152 0 0 = true := by kernel_rfl
theorem T.f152_1 : fldB Tryz.prog 152 1 5 = true := by kernel_rfl
theorem T.f152_2 : fldB Tryz.prog 152 2 6 = true := by kernel_rfl
theorem T.f184_0 : fldB Tryz.prog 184 0 0 = true := by kernel_rfl
theorem T.f184_1 : fldB Tryz.prog 184 1 1 = true := by kernel_rfl
theorem T.f184_2 : fldB Tryz.prog 184 2 2 = true := by kernel_rfl
theorem T.f184_3 : fldB Tryz.prog 184 3 3 = true := by kernel_rfl
theorem T.f192_0 : fldB Tryz.prog 192 0 0 = true := by kernel_rfl
theorem T.f192_1 : fldB Tryz.prog 192 1 1 = true := by kernel_rfl
theorem T.f192_2 : fldB Tryz.prog 192 2 2 = true := by kernel_rfl
theorem T.f192_3 : fldB Tryz.prog 192 3 3 = true := by kernel_rfl
theorem T.f192_4 : fldB Tryz.prog 192 4 4 = true := by kernel_rfl
theorem T.f192_5 : fldB Tryz.prog 192 5 5 = true := by kernel_rfl
theorem T.f194_0 : fldB Tryz.prog 194 0 0 = true := by kernel_rfl
theorem T.f194_1 : fldB Tryz.prog 194 1 1 = true := by kernel_rfl
theorem T.f194_2 : fldB Tryz.prog 194 2 2 = true := by kernel_rfl
theorem T.f194_3 : fldB Tryz.prog 194 3 3 = true := by kernel_rfl
theorem T.f202_0 : fldB Tryz.prog 202 0 0 = true := by kernel_rfl
theorem T.f202_1 : fldB Tryz.prog 202 1 1 = true := by kernel_rfl
theorem T.f202_2 : fldB Tryz.prog 202 2 2 = true := by kernel_rfl
theorem T.f202_3 : fldB Tryz.prog 202 3 3 = true := by kernel_rfl
theorem T.f204_0 : fldB Tryz.prog 204 0 0 = true := by kernel_rfl
theorem T.f204_1 : fldB Tryz.prog 204 1 1 = true := by kernel_rfl
theorem T.f204_2 : fldB Tryz.prog 204 2 2 = true := by kernel_rfl
theorem T.f204_3 : fldB Tryz.prog 204 3 3 = true := by kernel_rfl
theorem T.f220_0 : fldB Tryz.prog 220 0 0 = true := by kernel_rfl
theorem T.f220_1 : fldB Tryz.prog 220 1 1 = true := by kernel_rfl
theorem T.f220_2 : fldB Tryz.prog 220 2 2 = true := by kernel_rfl
theorem T.f220_3 : fldB Tryz.prog 220 3 3 = true := by kernel_rfl
theorem T.f225_0 : fldB Tryz.prog 225 0 0 = true := by kernel_rfl
theorem T.f225_1 : fldB Tryz.prog 225 1 1 = true := by kernel_rfl
theorem T.f225_2 : fldB Tryz.prog 225 2 2 = true := by kernel_rfl
theorem T.f225_3 : fldB Tryz.prog 225 3 3 = true := by kernel_rfl
theorem T.f230_0 : fldB Tryz.prog 230 0 0 = true := by kernel_rfl
theorem T.f230_1 : fldB Tryz.prog 230 1 1 = true := by kernel_rfl
theorem T.f230_2 : fldB Tryz.prog 230 2 2 = true := by kernel_rfl
theorem T.f248_0 : fldB Tryz.prog 248 0 0 = true := by kernel_rfl
theorem T.f248_1 : fldB Tryz.prog 248 1 1 = true := by kernel_rfl
theorem T.f248_2 : fldB Tryz.prog 248 2 2 = true := by kernel_rfl
theorem T.f248_3 : fldB Tryz.prog 248 3 3 = true := by kernel_rfl
theorem T.f251_0 : fldB Tryz.prog 251 0 0 = true := by kernel_rfl
theorem T.f251_1 : fldB Tryz.prog 251 1 1 = true := by kernel_rfl
theorem T.f251_2 : fldB Tryz.prog 251 2 2 = true := by kernel_rfl
theorem T.f253_0 : fldB Tryz.prog 253 0 0 = true := by kernel_rfl
theorem T.f253_1 : fldB Tryz.prog 253 1 1 = true := by kernel_rfl
theorem T.f253_2 : fldB Tryz.prog 253 2 2 = true := by kernel_rfl
theorem T.f258_0 : fldB Tryz.prog 258 0 0 = true := by kernel_rfl
theorem T.f258_1 : fldB Tryz.prog 258 1 1 = true := by kernel_rfl
theorem T.f258_2 : fldB Tryz.prog 258 2 2 = true := by kernel_rfl
theorem T.f258_3 : fldB Tryz.prog 258 3 3 = true := by kernel_rfl
theorem T.f27_0 : fldB Tryz.prog 27 0 0 = true := by kernel_rfl
theorem T.f27_1 : fldB Tryz.prog 27 1 1 = true := by kernel_rfl
theorem T.f30_0 : fldB Tryz.prog 30 0 0 = true := by kernel_rfl
theorem T.f30_1 : fldB Tryz.prog 30 1 1 = true := by kernel_rfl
theorem T.f30_2 : fldB Tryz.prog 30 2 3 = true := by kernel_rfl
theorem T.f33_0 : fldB Tryz.prog 33 0 0 = true := by kernel_rfl
theorem T.f33_1 : fldB Tryz.prog 33 1 1 = true := by kernel_rfl
theorem T.f33_2 : fldB Tryz.prog 33 2 2 = true := by kernel_rfl
theorem T.f33_3 : fldB Tryz.prog 33 3 3 = true := by kernel_rfl
theorem T.f37_0 : fldB Tryz.prog 37 0 0 = true := by kernel_rfl
theorem T.f39_0 : fldB Tryz.prog 39 0 0 = true := by kernel_rfl
theorem T.f39_1 : fldB Tryz.prog 39 1 1 = true := by kernel_rfl
theorem T.f39_2 : fldB Tryz.prog 39 2 2 = true := by kernel_rfl
theorem T.f39_3 : fldB Tryz.prog 39 3 3 = true := by kernel_rfl
theorem T.f39_4 : fldB Tryz.prog 39 4 4 = true := by kernel_rfl
theorem T.f39_5 : fldB Tryz.prog 39 5 8 = true := by kernel_rfl
theorem T.f39_6 : fldB Tryz.prog 39 6 9 = true := by kernel_rfl
theorem T.f39_7 : fldB Tryz.prog 39 7 13 = true := by kernel_rfl
theorem T.f39_8 : fldB Tryz.prog 39 8 14 = true := by kernel_rfl
theorem T.f39_9 : fldB Tryz.prog 39 9 15 = true := by kernel_rfl
theorem T.f46_0 : fldB Tryz.prog 46 0 0 = true := by kernel_rfl
theorem T.f46_1 : fldB Tryz.prog 46 1 1 = true := by kernel_rfl
theorem T.f49_0 : fldB Tryz.prog 49 0 0 = true := by kernel_rfl
theorem T.f49_1 : fldB Tryz.prog 49 1 1 = true := by kernel_rfl
theorem T.f49_2 : fldB Tryz.prog 49 2 3 = true := by kernel_rfl
theorem T.f51_0 : fldB Tryz.prog 51 0 0 = true := by kernel_rfl
theorem T.f51_1 : fldB Tryz.prog 51 1 1 = true := by kernel_rfl
theorem T.f51_2 : fldB Tryz.prog 51 2 2 = true := by kernel_rfl
theorem T.f51_3 : fldB Tryz.prog 51 3 3 = true := by kernel_rfl
theorem T.f55_0 : fldB Tryz.prog 55 0 0 = true := by kernel_rfl
theorem T.f57_0 : fldB Tryz.prog 57 0 0 = true := by kernel_rfl
theorem T.f57_1 : fldB Tryz.prog 57 1 1 = true := by kernel_rfl
theorem T.f57_2 : fldB Tryz.prog 57 2 2 = true := by kernel_rfl
theorem T.f57_3 : fldB Tryz.prog 57 3 3 = true := by kernel_rfl
theorem T.f57_4 : fldB Tryz.prog 57 4 4 = true := by kernel_rfl
theorem T.f57_5 : fldB Tryz.prog 57 5 8 = true := by kernel_rfl
theorem T.f57_6 : fldB Tryz.prog 57 6 9 = true := by kernel_rfl
theorem T.f57_7 : fldB Tryz.prog 57 7 13 = true := by kernel_rfl
theorem T.f57_8 : fldB Tryz.prog 57 8 14 = true := by kernel_rfl
theorem T.f57_9 : fldB Tryz.prog 57 9 15 = true := by kernel_rfl
theorem T.f73_0 : fldB Tryz.prog 73 0 0 = true := by kernel_rfl
theorem T.f73_1 : fldB Tryz.prog 73 1 1 = true := by kernel_rfl
theorem T.f75_0 : fldB Tryz.prog 75 0 0 = true := by kernel_rfl
theorem T.f75_1 : fldB Tryz.prog 75 1 2 = true := by kernel_rfl
theorem T.f75_2 : fldB Tryz.prog 75 2 3 = true := by kernel_rfl
theorem T.f75_3 : fldB Tryz.prog 75 3 4 = true := by kernel_rfl
theorem T.f78_0 : fldB Tryz.prog 78 0 0 = true := by kernel_rfl
theorem T.f78_1 : fldB Tryz.prog 78 1 5 = true := by kernel_rfl
theorem T.f78_2 : fldB Tryz.prog 78 2 6 = true := by kernel_rfl
theorem T.f99_0 : fldB Tryz.prog 99 0 0 = true := by kernel_rfl
theorem T.f99_1 : fldB Tryz.prog 99 1 1 = true := by kernel_rfl
theorem T.f99_2 : fldB Tryz.prog 99 2 2 = true := by kernel_rfl
theorem T.f99_3 : fldB Tryz.prog 99 3 3 = true := by kernel_rfl
theorem T.is3 : (Tryz.prog.underlying 3).isSome = true := by kernel_rfl
theorem T.is5 : (Tryz.prog.underlying 5).isSome = true := by kernel_rfl
theorem T.mix : Tryz.prog.follows .mixedOrders = true := by kernel_rfl
theorem T.o100 : oneB Tryz.prog 100 = true := by kernel_rfl
theorem T.o115 : oneB Tryz.prog 115 = true := by kernel_rfl
theorem T.o116 : oneB Tryz.prog 116 = true := by kernel_rfl
theorem T.o121 : oneB Tryz.prog 121 = true := by kernel_rfl
theorem T.o131 : oneB Tryz.prog 131 = true := by kernel_rfl
theorem T.o140 : oneB Tryz.prog 140 = true := by kernel_rfl
theorem T.o141 : oneB Tryz.prog 141 = true := by kernel_rfl
theorem T.o150 : oneB Tryz.prog 150 = true := by kernel_rfl
theorem T.o174 : oneB Tryz.prog 174 = true := by kernel_rfl
theorem T.o22 : oneB Tryz.prog 22 = true := by kernel_rfl
theorem T.o228 : oneB Tryz.prog 228 = true := by kernel_rfl
theorem T.o23 : oneB Tryz.prog 23 = true := by kernel_rfl
theorem T.o24 : oneB Tryz.prog 24 = true := by kernel_rfl
theorem T.o25 : oneB Tryz.prog 25 = true := by kernel_rfl
theorem T.o28 : oneB Tryz.prog 28 = true := by kernel_rfl
theorem T.o3 : oneB Tryz.prog 3 = true := by kernel_rfl
theorem T.o31 : oneB Tryz.prog 31 = true := by kernel_rfl
theorem T.o34 : oneB Tryz.prog 34 = true := by kernel_rfl
theorem T.o35 : oneB Tryz.prog 35 = true := by kernel_rfl
theorem T.o4 : oneB Tryz.prog 4 = true := by kernel_rfl
theorem T.o42 : oneB Tryz.prog 42 = true := by kernel_rfl
theorem T.o43 : oneB Tryz.prog 43 = true := by kernel_rfl
theorem T.o44 : oneB Tryz.prog 44 = true := by kernel_rfl
theorem T.o47 : oneB Tryz.prog 47 = true := by kernel_rfl
theorem T.o5 : oneB Tryz.prog 5 = true := by kernel_rfl
theorem T.o50 : oneB Tryz.prog 50 = true := by kernel_rfl
theorem T.o52 : oneB Tryz.prog 52 = true := by kernel_rfl
theorem T.o53 : oneB Tryz.prog 53 = true := by kernel_rfl
theorem T.o76 : oneB Tryz.prog 76 = true := by kernel_rfl
theorem T.o9 : oneB Tryz.prog 9 = true := by kernel_rfl
theorem T.o95 : oneB Tryz.prog 95 = true := by kernel_rfl
theorem T.s100 : slB Tryz.prog 100 111 4 32 = true := by kernel_rfl
theorem T.s115 : slB Tryz.prog 115 123 3 40 = true := by kernel_rfl
theorem T.s116 : slB Tryz.prog 116 251 3 24 = true := by kernel_rfl
theorem T.s121 : slB Tryz.prog 121 125 4 32 = true := by kernel_rfl
theorem T.s131 : slB Tryz.prog 131 248 4 32 = true := by kernel_rfl
theorem T.s140 : slB Tryz.prog 140 230 3 40 = true := by kernel_rfl
theorem T.s141 : slB Tryz.prog 141 253 3 24 = true := by kernel_rfl
theorem T.s150 : slB Tryz.prog 150 149 5 40 = true := by kernel_rfl
theorem T.s174 : slB Tryz.prog 174 5 1 1 = true := by kernel_rfl
theorem T.s216 : slB Tryz.prog 216 95 1 24 = true := by kernel_rfl
theorem T.s22 : slB Tryz.prog 22 135 9 104 = true := by kernel_rfl
theorem T.s228 : slB Tryz.prog 228 258 4 32 = true := by kernel_rfl
theorem T.s23 : slB Tryz.prog 23 4 1 1 = true := by kernel_rfl
theorem T.s24 : slB Tryz.prog 24 192 6 48 = true := by kernel_rfl
theorem T.s25 : slB Tryz.prog 25 225 4 48 = true := by kernel_rfl
theorem T.s28 : slB Tryz.prog 28 184 4 48 = true := by kernel_rfl
theorem T.s31 : slB Tryz.prog 31 145 6 104 = true := by kernel_rfl
theorem T.s34 : slB Tryz.prog 34 152 7 72 = true := by kernel_rfl
theorem T.s35 : slB Tryz.prog 35 204 4 32 = true := by kernel_rfl
theorem T.s42 : slB Tryz.prog 42 104 9 104 = true := by kernel_rfl
theorem T.s43 : slB Tryz.prog 43 106 6 48 = true := by kernel_rfl
theorem T.s44 : slB Tryz.prog 44 220 4 48 = true := by kernel_rfl
theorem T.s47 : slB Tryz.prog 47 194 4 48 = true := by kernel_rfl
theorem T.s50 : slB Tryz.prog 50 120 6 104 = true := by kernel_rfl
theorem T.s52 : slB Tryz.prog 52 78 7 72 = true := by kernel_rfl
theorem T.s53 : slB Tryz.prog 53 202 4 32 = true := by kernel_rfl
theorem T.s76 : slB Tryz.prog 76 75 5 40 = true := by kernel_rfl
theorem T.s95 : slB Tryz.prog 95 3 1 8 = true := by kernel_rfl
theorem T.z102 : zerosOf Tryz.prog 102 = some [.nil] := by kernel_rfl
theorem T.z104 : zerosOf Tryz.prog 104 = some [.int .i64 0, .int .i64 0, .int .i64 0, .int .i64 0, .nil, .int .i64 0, .int .i64 0, .int .i64 0, .nil] := by kernel_rfl
theorem T.z106 : zerosOf Tryz.prog 106 = some [.int .i64 0, .int .i64 0, .int .i64 0, .int .i64 0, .int .i64 0, .int .i64 0] := by kernel_rfl
theorem T.z111 : zerosOf Tryz.prog 111 = some [.int .i64 0, .int .i64 0, .int .i64 0, .bool false] := by kernel_rfl
theorem T.z118 : zerosOf Tryz.prog 118 = some [.int .i64 0, .int .i64 0, .nil] := by kernel_rfl
theorem T.z120 : zerosOf Tryz.prog 120 = some [.str ⟨#[]⟩, .nil, .int .i64 0, .int .i64 0, .nil, .nil] := by kernel_rfl
theorem T.z123 : zerosOf Tryz.prog 123 = some [.int .i64 0, .int .i64 0, .nil] := by kernel_rfl
theorem T.z125 : zerosOf Tryz.prog 125 = some [.int .i64 0, .int .i64 0, .int .i64 0, .bool false] := by kernel_rfl
theorem T.z194 : zerosOf Tryz.prog 194 = some [.int .i64 0, .int .i64 0, .nil, .int .i64 0] := by kernel_rfl
theorem T.z202 : zerosOf Tryz.prog 202 = some [.int .i64 0, .int .i64 0, .int .i64 0, .bool false] := by kernel_rfl
theorem T.z220 : zerosOf Tryz.prog 220 = some [.int .i64 0, .int .i64 0, .nil, .int .i64 0] := by kernel_rfl
theorem T.z251 : zerosOf Tryz.prog 251 = some [.int .i64 0, .int .i64 0, .int .i64 0] := by kernel_rfl
theorem T.z3 : zerosOf Tryz.prog 3 = some [.int .i64 0] := by kernel_rfl
theorem T.z4 : zerosOf Tryz.prog 4 = some [.bool false] := by kernel_rfl
theorem T.z46 : zerosOf Tryz.prog 46 = some [.int .i64 0, .nil] := by kernel_rfl
theorem T.z49 : zerosOf Tryz.prog 49 = some [.nil, .int .i64 0, .nil, .nil] := by kernel_rfl
theorem T.z5 : zerosOf Tryz.prog 5 = some [.int .u8 0] := by kernel_rfl
theorem T.z51 : zerosOf Tryz.prog 51 = some [.int .i64 0, .int .i64 0, .int .i64 0, .int .i64 0] := by kernel_rfl
theorem T.z55 : zerosOf Tryz.prog 55 = some [.nil] := by kernel_rfl
theorem T.z57 : zerosOf Tryz.prog 57 = some [.int .i64 0, .int .i64 0, .nil, .nil, .nil, .int .i64 0, .nil, .nil, .nil, .int .i64 0, .int .i64 0, .int .i64 0, .int .i64 0, .nil, .int .i64 0, .nil] := by kernel_rfl
theorem T.z73 : zerosOf Tryz.prog 73 = some [.int .i64 0, .int .i64 0] := by kernel_rfl
theorem T.z75 : zerosOf Tryz.prog 75 = some [.int .i64 0, .int .i64 0, .int .i64 0, .int .i64 0, .int .i64 0] := by kernel_rfl
theorem T.z78 : zerosOf Tryz.prog 78 = some [.int .i64 0, .int .i64 0, .int .i64 0, .int .i64 0, .int .i64 0, .nil, .int .i64 0] := by kernel_rfl
theorem T.z99 : zerosOf Tryz.prog 99 = some [.int .i64 0, .int .i64 0, .int .i64 0, .int .i64 0] := by kernel_rfl
theorem sp_spec_l1In (x_ : Int) (least_ : Int) (most_ : Int) (r : Bool) (hm : m_spec_l1In x_ least_ most_ = some r) : Spec Tryz.prog G0 54 [.int .i64 x_, .int .i64 least_, .int .i64 most_] (fun v => v = .bool r) := by
  rw [m_spec_l1In] at hm
  refine enter (l := [.tmp 6]) Tryz.func54 rfl Tryz.ntmps54 rfl T.en54 fun E => ?_
  simp only [List.length_cons, List.length_nil, List.replicate_succ, List.replicate_zero, List.cons_append, List.nil_append, Nat.reduceAdd, Nat.reduceSub]
  refine sr <| m (as_ .b) u6 <| e ?_
  refine sr <| rjb hm (fun j0_6 : Bool => ⟨[.any, .any, .any, .any, .any, .any, .bool j0_6, .any, .any, .any, .any, .any, .any, .any, .any], []⟩) (fun _ hm hq1 => ?_) (fun j0_6 hm => ?_)
  ·
    refine m (mv (.t n0)) u7 <| m (mv (.t n1)) u8 <| m (geq (.t n7) (.t n8)) u9 <| m (mv (.t n9)) u10 <| sp n10 u10 u10 (fun h2 => ?_) (fun h2 => ?_)
    ·
      replace hm := ct h2 hm
      refine mg n3 rfl n10 (mv (.t n0)) u11 <| mg n3 rfl n10 (mv (.t n2)) u12 <| mg n3 rfl n10 (leq (.t n11) (.t n12)) u13 <| m (pkt (.t n10) (.t n13)) u14 <| m (as_ (.t n14)) u6 <| e ?_
      replace hm := sj hm
      subst hm
      have hm := hq1
      exact ⟨decide (x_ ≤ most_), hm, le [] (by decide) (.c .a (.c .a (.c .a (.c .a (.c .a (.c .a (.c (.e rfl rfl) (.c .a (.c .a (.c .a (.c .a (.c .a (.c .a (.c .a (.c .a .n))))))))))))))) .n⟩
    ·
      replace hm := cf h2 hm
      refine sk n3 rfl n10 rfl u11 <| sk n3 rfl n10 rfl u12 <| sk n3 rfl n10 rfl u13 <| m (pkf (.t n10) .b) u14 <| m (as_ (.t n14)) u6 <| e ?_
      replace hm := sj hm
      subst hm
      have hm := hq1
      exact ⟨false, hm, le [] (by decide) (.c .a (.c .a (.c .a (.c .a (.c .a (.c .a (.c (.e rfl rfl) (.c .a (.c .a (.c .a (.c .a (.c .a (.c .a (.c .a (.c .a .n))))))))))))))) .n⟩
  ·
    replace hm := sj hm
    subst hm
    exact rt (ret1 (.t n6 (.p rfl) .n) rfl)

theorem tot_spec_l1In (x_ : Int) (least_ : Int) (most_ : Int)  : Spec Tryz.prog G0 54 [.int .i64 x_, .int .i64 least_, .int .i64 most_] (fun v => v = .bool (inR x_ least_ most_)) := sp_spec_l1In x_ least_ most_ _ (t_spec_l1In x_ least_ most_)

theorem sp_spec_Mod (n_ : Int) (m_ : Int) (r : Int) (hm : m_spec_Mod n_ m_ = some r) : Spec Tryz.prog G0 171 [.int .i64 n_, .int .i64 m_] (fun v => v = .int .i64 r) := by
  rw [m_spec_Mod] at hm
  refine enter (l := [.tmp 4]) Tryz.func171 rfl Tryz.ntmps171 rfl T.en171 fun E => ?_
  simp only [List.length_cons, List.length_nil, List.replicate_succ, List.replicate_zero, List.cons_append, List.nil_append, Nat.reduceAdd, Nat.reduceSub]
  refine sr <| m (as_ (.i rfl)) u4 <| e ?_
  refine sq ?_
  refine sr <| m (mv (.t n1)) u5 <| c (call (tot_spec_l1In m_ (1 : Int) (1000000000000 : Int)) (.c (.t n5) rfl (.c (.i rfl) rfl (.c (.i rfl) rfl .n)))) u6 <| m (not_ (.t n6)) u7 <| e ?_
  refine cnd n7 (fun h1 => ?_) (fun h1 => ?_)
  ·
    replace hm := ct h1 hm
    refine sr <| m (as_ (.i rfl)) u4 <| e ?_
    replace hm := sj hm
    subst hm
    exact rt (ret1 (.t n4 (.p rfl) .n) rfl)
  ·
    replace hm := cf h1 hm
    refine skp ?_
    obtain ⟨c2, hm⟩ := gd_some hm
    obtain ⟨c3, hm⟩ := gd_some hm
    refine sr <| m (mv (.t n0)) u8 <| m (mv (.t n1)) u9 <| m (rem c2 (.t n8) (.t n9)) u10 <| m (mv (.t n1)) u11 <| m (add (.t n10) (.t n11)) u12 <| m (mv (.t n1)) u13 <| m (rem c3 (.t n12) (.t n13)) u14 <| m (as_ (.t n14)) u4 <| e ?_
    replace hm := sj hm
    subst hm
    exact rt (ret1 (.t n4 (.p rfl) .n) rfl)

theorem tot_spec_Mod (n_ : Int) (m_ : Int)  : Spec Tryz.prog G0 171 [.int .i64 n_, .int .i64 m_] (fun v => v = .int .i64 (modI n_ m_)) := sp_spec_Mod n_ m_ _ (t_spec_Mod n_ m_)

theorem sp_spec_Max (a_ : Int) (b_ : Int) (r : Int) (hm : m_spec_Max a_ b_ = some r) : Spec Tryz.prog G0 96 [.int .i64 a_, .int .i64 b_] (fun v => v = .int .i64 r) := by
  rw [m_spec_Max] at hm
  refine enter (l := [.tmp 4]) Tryz.func96 rfl Tryz.ntmps96 rfl T.en96 fun E => ?_
  simp only [List.length_cons, List.length_nil, List.replicate_succ, List.replicate_zero, List.cons_append, List.nil_append, Nat.reduceAdd, Nat.reduceSub]
  refine sr <| m (as_ (.i rfl)) u4 <| e ?_
  refine sq ?_
  refine sr <| m (mv (.t n1)) u5 <| m (mv (.t n0)) u6 <| m (gtr (.t n5) (.t n6)) u7 <| e ?_
  refine cnd n7 (fun h1 => ?_) (fun h1 => ?_)
  ·
    replace hm := ct h1 hm
    refine sr <| m (mv (.t n1)) u8 <| m (as_ (.t n8)) u4 <| e ?_
    replace hm := sj hm
    subst hm
    exact rt (ret1 (.t n4 (.p rfl) .n) rfl)
  ·
    replace hm := cf h1 hm
    refine skp ?_
    refine sr <| m (mv (.t n0)) u9 <| m (as_ (.t n9)) u4 <| e ?_
    replace hm := sj hm
    subst hm
    exact rt (ret1 (.t n4 (.p rfl) .n) rfl)

theorem tot_spec_Max (a_ : Int) (b_ : Int)  : Spec Tryz.prog G0 96 [.int .i64 a_, .int .i64 b_] (fun v => v = .int .i64 (maxF a_ b_)) := sp_spec_Max a_ b_ _ (t_spec_Max a_ b_)

theorem sp_impl_Mod (p_ : Int) (q_ : Int) (r : Int) (hm : m_impl_Mod p_ q_ = some r) : Spec Tryz.prog G0 172 [.int .i64 p_, .int .i64 q_] (fun v => v = .int .i64 r) := by
  rw [m_impl_Mod] at hm
  refine enter (l := [.tmp 4]) Tryz.func172 rfl Tryz.ntmps172 rfl T.en172 fun E => ?_
  simp only [List.length_cons, List.length_nil, List.replicate_succ, List.replicate_zero, List.cons_append, List.nil_append, Nat.reduceAdd, Nat.reduceSub]
  refine sr <| m (as_ (.i rfl)) u4 <| e ?_
  refine sq ?_
  refine sr <| rjb hm (fun j0_11 : Bool => ⟨[.int .i64 p_, .int .i64 q_, .any, .any, .any, .any, .any, .any, .any, .any, .any, .bool j0_11, .any, .any, .any, .any, .any, .any, .any, .any, .any], []⟩) (fun _ hm hq1 => ?_) (fun j0_11 hm => ?_)
  ·
    refine m (mv (.t n1)) u6 <| m (lss (.t n6) (.i rfl)) u7 <| m (mv (.t n7)) u8 <| sp n8 u8 u8 (fun h2 => ?_) (fun h2 => ?_)
    ·
      replace hm := ct h2 hm
      refine sk n2 rfl n8 rfl u9 <| sk n2 rfl n8 rfl u10 <| m (pkt (.t n8) .b) u11 <| e ?_
      replace hm := sj hm
      subst hm
      have hm := hq1
      exact ⟨true, hm, le [] (by decide) (.c (.e rfl rfl) (.c (.e rfl rfl) (.c .a (.c .a (.c .a (.c .a (.c .a (.c .a (.c .a (.c .a (.c .a (.c (.e rfl rfl) (.c .a (.c .a (.c .a (.c .a (.c .a (.c .a (.c .a (.c .a (.c .a .n))))))))))))))))))))) .n⟩
    ·
      replace hm := cf h2 hm
      refine mg n2 rfl n8 (mv (.t n1)) u9 <| mg n2 rfl n8 (gtr (.t n9) (.i rfl)) u10 <| m (pkf (.t n8) (.t n10)) u11 <| e ?_
      replace hm := sj hm
      subst hm
      have hm := hq1
      exact ⟨decide (q_ > (1000000000000 : Int)), hm, le [] (by decide) (.c (.e rfl rfl) (.c (.e rfl rfl) (.c .a (.c .a (.c .a (.c .a (.c .a (.c .a (.c .a (.c .a (.c .a (.c (.e rfl rfl) (.c .a (.c .a (.c .a (.c .a (.c .a (.c .a (.c .a (.c .a (.c .a .n))))))))))))))))))))) .n⟩
  ·
    refine cnd n11 (fun h3 => ?_) (fun h3 => ?_)
    ·
      replace hm := ct h3 hm
      refine sr <| m (as_ (.i rfl)) u4 <| e ?_
      replace hm := sj hm
      subst hm
      exact rt (ret1 (.t n4 (.p rfl) .n) rfl)
    ·
      replace hm := cf h3 hm
      refine skp ?_
      obtain ⟨c4, hm⟩ := gd_some hm
      refine sr <| m (mv (.t n0)) u12 <| m (mv (.t n1)) u13 <| m (rem c4 (.t n12) (.t n13)) u14 <| m (as_ (.t n14)) u5 <| e ?_
      refine sq ?_
      refine sr <| m (mv (.t n5)) u15 <| m (lss (.t n15) (.i rfl)) u16 <| e ?_
      refine jmb hm (fun j1_5 : Int => ⟨[.any, .any, .any, .any, .any, .int .i64 j1_5, .any, .any, .any, .any, .any, .any, .any, .any, .any, .any, .any, .any, .any, .any, .any], []⟩) (fun _ hm hq5 => ?_) (fun j1_5 hm => ?_)
      ·
        refine cnd n16 (fun h6 => ?_) (fun h6 => ?_)
        ·
          replace hm := ct h6 hm
          refine rg <| m (mv (.t n5)) u17 <| m (mv (.t n1)) u18 <| m (add (.t n17) (.t n18)) u19 <| m (as_ (.t n19)) u5 <| e ?_
          replace hm := sj hm
          subst hm
          have hm := hq5
          exact ⟨IntKind.i64.wrap (p_.tmod q_ + q_), hm, le [] (by decide) (.c .a (.c .a (.c .a (.c .a (.c .a (.c (.e rfl rfl) (.c .a (.c .a (.c .a (.c .a (.c .a (.c .a (.c .a (.c .a (.c .a (.c .a (.c .a (.c .a (.c .a (.c .a (.c .a .n))))))))))))))))))))) .n⟩
        ·
          replace hm := cf h6 hm
          refine skp ?_
          replace hm := sj hm
          subst hm
          have hm := hq5
          exact ⟨p_.tmod q_, hm, le [] (by decide) (.c .a (.c .a (.c .a (.c .a (.c .a (.c (.e rfl rfl) (.c .a (.c .a (.c .a (.c .a (.c .a (.c .a (.c .a (.c .a (.c .a (.c .a (.c .a (.c .a (.c .a (.c .a (.c .a .n))))))))))))))))))))) .n⟩
      ·
        refine sr <| m (mv (.t n5)) u20 <| m (as_ (.t n20)) u4 <| e ?_
        replace hm := sj hm
        subst hm
        exact rt (ret1 (.t n4 (.p rfl) .n) rfl)

theorem tot_impl_Mod (p_ : Int) (q_ : Int)  : Spec Tryz.prog G0 172 [.int .i64 p_, .int .i64 q_] (fun v => v = .int .i64 (modI p_ q_)) := sp_impl_Mod p_ q_ _ (t_impl_Mod p_ q_)

theorem sp_impl_InRange (n_ : Int) (low_ : Int) (high_ : Int) (r : Bool) (hm : m_impl_InRange n_ low_ high_ = some r) : Spec Tryz.prog G0 153 [.int .i64 n_, .int .i64 low_, .int .i64 high_] (fun v => v = .bool r) := by
  rw [m_impl_InRange] at hm
  refine enter (l := [.tmp 6]) Tryz.func153 rfl Tryz.ntmps153 rfl T.en153 fun E => ?_
  simp only [List.length_cons, List.length_nil, List.replicate_succ, List.replicate_zero, List.cons_append, List.nil_append, Nat.reduceAdd, Nat.reduceSub]
  refine sr <| m (as_ .b) u6 <| e ?_
  refine sr <| rjb hm (fun j0_6 : Bool => ⟨[.any, .any, .any, .any, .any, .any, .bool j0_6, .any, .any, .any, .any, .any, .any, .any, .any], []⟩) (fun _ hm hq1 => ?_) (fun j0_6 hm => ?_)
  ·
    refine m (mv (.t n1)) u7 <| m (mv (.t n0)) u8 <| m (leq (.t n7) (.t n8)) u9 <| m (mv (.t n9)) u10 <| sp n10 u10 u10 (fun h2 => ?_) (fun h2 => ?_)
    ·
      replace hm := ct h2 hm
      refine mg n3 rfl n10 (mv (.t n0)) u11 <| mg n3 rfl n10 (mv (.t n2)) u12 <| mg n3 rfl n10 (leq (.t n11) (.t n12)) u13 <| m (pkt (.t n10) (.t n13)) u14 <| m (as_ (.t n14)) u6 <| e ?_
      replace hm := sj hm
      subst hm
      have hm := hq1
      exact ⟨decide (n_ ≤ high_), hm, le [] (by decide) (.c .a (.c .a (.c .a (.c .a (.c .a (.c .a (.c (.e rfl rfl) (.c .a (.c .a (.c .a (.c .a (.c .a (.c .a (.c .a (.c .a .n))))))))))))))) .n⟩
    ·
      replace hm := cf h2 hm
      refine sk n3 rfl n10 rfl u11 <| sk n3 rfl n10 rfl u12 <| sk n3 rfl n10 rfl u13 <| m (pkf (.t n10) .b) u14 <| m (as_ (.t n14)) u6 <| e ?_
      replace hm := sj hm
      subst hm
      have hm := hq1
      exact ⟨false, hm, le [] (by decide) (.c .a (.c .a (.c .a (.c .a (.c .a (.c .a (.c (.e rfl rfl) (.c .a (.c .a (.c .a (.c .a (.c .a (.c .a (.c .a (.c .a .n))))))))))))))) .n⟩
  ·
    replace hm := sj hm
    subst hm
    exact rt (ret1 (.t n6 (.p rfl) .n) rfl)

theorem tot_impl_InRange (n_ : Int) (low_ : Int) (high_ : Int)  : Spec Tryz.prog G0 153 [.int .i64 n_, .int .i64 low_, .int .i64 high_] (fun v => v = .bool (inR n_ low_ high_)) := sp_impl_InRange n_ low_ high_ _ (t_impl_InRange n_ low_ high_)

theorem sp_spec_ReadUvarint (b_ : List Int) (at_ : Int) (r : Int × Int × Bool) (hm : m_spec_ReadUvarint b_ at_ = some r) : Spec Tryz.prog G0 150 [.slice 1 (b_.map y8), .int .i64 at_] (fun v => v = .tup [.int .i64 r.1, .int .i64 r.2.1, .bool r.2.2]) := by
  rw [m_spec_ReadUvarint] at hm
  refine enter (l := [.tmp 4, .tmp 5, .tmp 6]) Tryz.func150 rfl Tryz.ntmps150 rfl T.en150 fun E => ?_
  simp only [List.length_cons, List.length_nil, List.replicate_succ, List.replicate_zero, List.cons_append, List.nil_append, Nat.reduceAdd, Nat.reduceSub]
  refine sr <| m (as_ (.i rfl)) u4 <| m (as_ (.i rfl)) u5 <| m (as_ .b) u6 <| e ?_
  refine sr <| m (as_ (.i rfl)) u7 <| e ?_
  refine sq ?_
  refine sr <| m (as_ (.i rfl)) u8 <| e ?_
  refine jmx hm (fun _ : Unit => ⟨[.any, .any, .any, .any, .any, .any, .any, .any, .any, .any, .any, .any, .any, .any, .any, .any, .any, .any, .any, .any, .any, .any, .any, .any, .any, .any, .any, .any, .any, .any, .any, .any, .any, .any, .any, .any, .any, .any, .any, .any, .any, .any, .any, .any, .any, .any, .any, .any, .any, .any, .any, .any, .any, .any, .any], []⟩) (fun _ hm hq1 => ?_) (fun _ hm => ?_)
  ·
    refine bk ?_
    refine lpf (m := m_spec_ReadUvarint_l0 b_ at_) hm (fun yy2_ : Int × Nat => ⟨[.slice 1 (b_.map y8), .int .i64 at_, .any, .any, .any, .any, .any, .int .i64 yy2_.1, .int .i64 (yy2_.2 : Int), .any, .any, .any, .any, .any, .any, .any, .any, .any, .any, .any, .any, .any, .any, .any, .any, .any, .any, .any, .any, .any, .any, .any, .any, .any, .any, .any, .any, .any, .any, .any, .any, .any, .any, .any, .any, .any, .any, .any, .any, .any, .any, .any, .any, .any, .any], []⟩) (fun _ => rfl) (le [] (by decide) (.c (.e rfl rfl) (.c (.e rfl rfl) (.c .a (.c .a (.c .a (.c .a (.c .a (.c (.e rfl rfl) (.c (.e rfl rfl) (.c .a (.c .a (.c .a (.c .a (.c .a (.c .a (.c .a (.c .a (.c .a (.c .a (.c .a (.c .a (.c .a (.c .a (.c .a (.c .a (.c .a (.c .a (.c .a (.c .a (.c .a (.c .a (.c .a (.c .a (.c .a (.c .a (.c .a (.c .a (.c .a (.c .a (.c .a (.c .a (.c .a (.c .a (.c .a (.c .a (.c .a (.c .a (.c .a (.c .a (.c .a (.c .a (.c .a (.c .a (.c .a (.c .a .n))))))))))))))))))))))))))))))))))))))))))))))))))))))) .n) ?_
    rintro f ⟨v0_7, i0⟩ hm
    rw [m_spec_ReadUvarint_l0] at hm
    dsimp only at hm ⊢
    refine sq ?_
    refine sr <| m (mv (.t n8)) u10 <| m (lss (.t n10) (.i rfl)) u11 <| e ?_
    refine cnd n11 (fun h3 => ?_) (fun h3 => ?_)
    ·
      replace hm := ct h3 hm
      have h3d := of_decide_eq_true h3
      refine skp ?_
      refine sq ?_
      refine bk ?_
      refine sq ?_
      refine sr <| rjb hm (fun j1_23 : Bool => ⟨[.slice 1 (b_.map y8), .int .i64 at_, .any, .any, .any, .any, .any, .int .i64 v0_7, .int .i64 (i0 : Int), .any, .any, .any, .any, .any, .any, .any, .any, .any, .any, .any, .any, .any, .any, .bool j1_23, .any, .any, .any, .any, .any, .any, .any, .any, .any, .any, .any, .any, .any, .any, .any, .any, .any, .any, .any, .any, .any, .any, .any, .any, .any, .any, .any, .any, .any, .any, .any], []⟩) (fun _ hm hq4 => ?_) (fun j1_23 hm => ?_)
      ·
        refine m (mv (.t n1)) u14 <| m (lss (.t n14) (.i rfl)) u15 <| m (mv (.t n15)) u16 <| sp n16 u16 u16 (fun h5 => ?_) (fun h5 => ?_)
        ·
          replace hm := ct h5 hm
          refine sk n2 rfl n16 rfl u17 <| sk n2 rfl n16 rfl u18 <| sk n2 rfl n16 rfl u19 <| sk n2 rfl n16 rfl u20 <| sk n2 rfl n16 rfl u21 <| sk n2 rfl n16 rfl u22 <| m (pkt (.t n16) .b) u23 <| e ?_
          replace hm := sj hm
          subst hm
          have hm := hq4
          exact ⟨true, hm, le [] (by decide) (.c (.e rfl rfl) (.c (.e rfl rfl) (.c .a (.c .a (.c .a (.c .a (.c .a (.c (.e rfl rfl) (.c (.e rfl rfl) (.c .a (.c .a (.c .a (.c .a (.c .a (.c .a (.c .a (.c .a (.c .a (.c .a (.c .a (.c .a (.c .a (.c .a (.c (.e rfl rfl) (.c .a (.c .a (.c .a (.c .a (.c .a (.c .a (.c .a (.c .a (.c .a (.c .a (.c .a (.c .a (.c .a (.c .a (.c .a (.c .a (.c .a (.c .a (.c .a (.c .a (.c .a (.c .a (.c .a (.c .a (.c .a (.c .a (.c .a (.c .a (.c .a (.c .a (.c .a .n))))))))))))))))))))))))))))))))))))))))))))))))))))))) .n⟩
        ·
          replace hm := cf h5 hm
          refine mg n2 rfl n16 (mv (.t n1)) u17 <| mg n2 rfl n16 (mv (.t n0)) u18 <| mg n2 rfl n16 (lenm (l := b_) (f := y8) T.s174 (.t n18)) u19 <| mg n2 rfl n16 (mv (.t n8)) u20 <| mg n2 rfl n16 (sub (.t n19) (.t n20)) u21 <| mg n2 rfl n16 (geq (.t n17) (.t n21)) u22 <| m (pkf (.t n16) (.t n22)) u23 <| e ?_
          replace hm := sj hm
          subst hm
          have hm := hq4
          exact ⟨decide (at_ ≥ IntKind.i64.wrap ((b_.length : Int) - (i0 : Int))), hm, le [] (by decide) (.c (.e rfl rfl) (.c (.e rfl rfl) (.c .a (.c .a (.c .a (.c .a (.c .a (.c (.e rfl rfl) (.c (.e rfl rfl) (.c .a (.c .a (.c .a (.c .a (.c .a (.c .a (.c .a (.c .a (.c .a (.c .a (.c .a (.c .a (.c .a (.c .a (.c (.e rfl rfl) (.c .a (.c .a (.c .a (.c .a (.c .a (.c .a (.c .a (.c .a (.c .a (.c .a (.c .a (.c .a (.c .a (.c .a (.c .a (.c .a (.c .a (.c .a (.c .a (.c .a (.c .a (.c .a (.c .a (.c .a (.c .a (.c .a (.c .a (.c .a (.c .a (.c .a (.c .a .n))))))))))))))))))))))))))))))))))))))))))))))))))))))) .n⟩
      ·
        refine cnd n23 (fun h6 => ?_) (fun h6 => ?_)
        ·
          replace hm := ct h6 hm
          refine sr <| m (as_ (.i rfl)) u4 <| m (as_ (.i rfl)) u5 <| m (as_ .b) u6 <| e ?_
          replace hm := inl1 hm hq1
          subst hm
          exact rt (ret2 (.t n4 (.p rfl) (.t n5 (.p rfl) (.t n6 (.p rfl) .n))) rfl)
        ·
          replace hm := cf h6 hm
          refine skp ?_
          obtain ⟨z7, e8, hm⟩ := bd_some hm
          refine sr <| m (mv (.t n0)) u24 <| m (mv (.t n1)) u25 <| m (mv (.t n8)) u26 <| m (add (.t n25) (.t n26)) u27 <| m (ixq (f := y8) e8 T.s174 (.t n24) (.t n27)) u28 <| m (lde T.o5 n0 (.t n28)) u29 <| m (cnv T.is5 Tryz.underlying3 (.t n29)) u30 <| m (as_ (.t n30)) u9 <| e ?_
          obtain ⟨c9, hm⟩ := gd_some hm
          refine sr <| m (mv (.t n7)) u31 <| m (mv (.t n9)) u32 <| m (bitand (.t n32) (.i rfl)) u33 <| m (mv (.t n8)) u34 <| m (mul (.i rfl) (.t n34)) u35 <| m (shl_ c9 (.t n33) (.t n35)) u36 <| m (bitor (.t n31) (.t n36)) u37 <| m (as_ (.t n37)) u7 <| e ?_
          refine sr <| m (mv (.t n9)) u38 <| m (lss (.t n38) (.i rfl)) u39 <| e ?_
          refine cnd n39 (fun h10 => ?_) (fun h10 => ?_)
          ·
            replace hm := ct h10 hm
            refine sq ?_
            refine sr <| rjb hm (fun j2_49 : Bool => ⟨[.any, .int .i64 at_, .any, .any, .any, .any, .any, .int .i64 (orI .i64 v0_7 (shlI .i64 (andI .i64 (IntKind.i64.wrap z7) (127 : Int)) (IntKind.i64.wrap ((7 : Int) * (i0 : Int))))), .int .i64 (i0 : Int), .any, .any, .any, .any, .any, .any, .any, .any, .any, .any, .any, .any, .any, .any, .any, .any, .any, .any, .any, .any, .any, .any, .any, .any, .any, .any, .any, .any, .any, .any, .any, .any, .any, .any, .any, .any, .any, .any, .any, .any, .bool j2_49, .any, .any, .any, .any, .any], []⟩) (fun _ hm hq11 => ?_) (fun j2_49 hm => ?_)
            ·
              refine m (mv (.t n9)) u40 <| m (eql (.t n40) (.i rfl)) u41 <| m (mv (.t n41)) u42 <| sp n42 u42 u42 (fun h12 => ?_) (fun h12 => ?_)
              ·
                replace hm := ct h12 hm
                refine mg n2 rfl n42 (mv (.t n8)) u43 <| mg n2 rfl n42 (gtr (.t n43) (.i rfl)) u44 <| m (pkt (.t n42) (.t n44)) u45 <| m (mv (.t n45)) u46 <| sp n46 u46 u46 (fun h13 => ?_) (fun h13 => ?_)
                ·
                  replace hm := ct h13 hm
                  refine sk n6 rfl n46 rfl u47 <| sk n6 rfl n46 rfl u48 <| m (pkt (.t n46) .b) u49 <| e ?_
                  replace hm := sj hm
                  subst hm
                  have hm := hq11
                  exact ⟨true, hm, le [] (by decide) (.c .a (.c (.e rfl rfl) (.c .a (.c .a (.c .a (.c .a (.c .a (.c (.e rfl rfl) (.c (.e rfl rfl) (.c .a (.c .a (.c .a (.c .a (.c .a (.c .a (.c .a (.c .a (.c .a (.c .a (.c .a (.c .a (.c .a (.c .a (.c .a (.c .a (.c .a (.c .a (.c .a (.c .a (.c .a (.c .a (.c .a (.c .a (.c .a (.c .a (.c .a (.c .a (.c .a (.c .a (.c .a (.c .a (.c .a (.c .a (.c .a (.c .a (.c .a (.c .a (.c .a (.c .a (.c (.e rfl rfl) (.c .a (.c .a (.c .a (.c .a (.c .a .n))))))))))))))))))))))))))))))))))))))))))))))))))))))) .n⟩
                ·
                  replace hm := cf h13 hm
                  refine mg n6 rfl n46 (mv (.t n7)) u47 <| mg n6 rfl n46 (gtr (.t n47) (.i rfl)) u48 <| m (pkf (.t n46) (.t n48)) u49 <| e ?_
                  replace hm := sj hm
                  subst hm
                  have hm := hq11
                  exact ⟨decide (orI .i64 v0_7 (shlI .i64 (andI .i64 (IntKind.i64.wrap z7) (127 : Int)) (IntKind.i64.wrap ((7 : Int) * (i0 : Int)))) > (1000000000000 : Int)), hm, le [] (by decide) (.c .a (.c (.e rfl rfl) (.c .a (.c .a (.c .a (.c .a (.c .a (.c (.e rfl rfl) (.c (.e rfl rfl) (.c .a (.c .a (.c .a (.c .a (.c .a (.c .a (.c .a (.c .a (.c .a (.c .a (.c .a (.c .a (.c .a (.c .a (.c .a (.c .a (.c .a (.c .a (.c .a (.c .a (.c .a (.c .a (.c .a (.c .a (.c .a (.c .a (.c .a (.c .a (.c .a (.c .a (.c .a (.c .a (.c .a (.c .a (.c .a (.c .a (.c .a (.c .a (.c .a (.c .a (.c (.e rfl rfl) (.c .a (.c .a (.c .a (.c .a (.c .a .n))))))))))))))))))))))))))))))))))))))))))))))))))))))) .n⟩
              ·
                replace hm := cf h12 hm
                refine sk n2 rfl n42 rfl u43 <| sk n2 rfl n42 rfl u44 <| m (pkf (.t n42) .b) u45 <| m (mv (.t n45)) u46 <| mg n6 rfl n46 (mv (.t n7)) u47 <| mg n6 rfl n46 (gtr (.t n47) (.i rfl)) u48 <| m (pkf (.t n46) (.t n48)) u49 <| e ?_
                replace hm := sj hm
                subst hm
                have hm := hq11
                exact ⟨decide (orI .i64 v0_7 (shlI .i64 (andI .i64 (IntKind.i64.wrap z7) (127 : Int)) (IntKind.i64.wrap ((7 : Int) * (i0 : Int)))) > (1000000000000 : Int)), hm, le [] (by decide) (.c .a (.c (.e rfl rfl) (.c .a (.c .a (.c .a (.c .a (.c .a (.c (.e rfl rfl) (.c (.e rfl rfl) (.c .a (.c .a (.c .a (.c .a (.c .a (.c .a (.c .a (.c .a (.c .a (.c .a (.c .a (.c .a (.c .a (.c .a (.c .a (.c .a (.c .a (.c .a (.c .a (.c .a (.c .a (.c .a (.c .a (.c .a (.c .a (.c .a (.c .a (.c .a (.c .a (.c .a (.c .a (.c .a (.c .a (.c .a (.c .a (.c .a (.c .a (.c .a (.c .a (.c .a (.c (.e rfl rfl) (.c .a (.c .a (.c .a (.c .a (.c .a .n))))))))))))))))))))))))))))))))))))))))))))))))))))))) .n⟩
            ·
              refine cnd n49 (fun h14 => ?_) (fun h14 => ?_)
              ·
                replace hm := ct h14 hm
                refine sr <| m (as_ (.i rfl)) u4 <| m (as_ (.i rfl)) u5 <| m (as_ .b) u6 <| e ?_
                replace hm := inl1 hm hq1
                subst hm
                exact rt (ret2 (.t n4 (.p rfl) (.t n5 (.p rfl) (.t n6 (.p rfl) .n))) rfl)
              ·
                replace hm := cf h14 hm
                refine skp ?_
                refine sr <| m (mv (.t n7)) u50 <| m (mv (.t n1)) u51 <| m (mv (.t n8)) u52 <| m (add (.t n51) (.t n52)) u53 <| m (add (.t n53) (.i rfl)) u54 <| m (as_ (.t n50)) u4 <| m (as_ (.t n54)) u5 <| m (as_ .b) u6 <| e ?_
                replace hm := inl1 hm hq1
                subst hm
                exact rt (ret2 (.t n4 (.p rfl) (.t n5 (.p rfl) (.t n6 (.p rfl) .n))) rfl)
          ·
            replace hm := cf h10 hm
            refine skp ?_
            refine rg <| m (mv (.t n8)) u12 <| m (add (.t n12) (.i rfl)) u13 <| m (as_ (.t n13)) u8 <| e ?_
            obtain ⟨c15, hm⟩ := gd_some hm
            exact ⟨(orI .i64 v0_7 (shlI .i64 (andI .i64 (IntKind.i64.wrap z7) (127 : Int)) (IntKind.i64.wrap ((7 : Int) * (i0 : Int)))), i0 + 1), hm, le [] (by decide) (.c (.e rfl rfl) (.c (.e rfl rfl) (.c .a (.c .a (.c .a (.c .a (.c .a (.c (.e rfl rfl) (.c (.e (wi c15) rfl) (.c .a (.c .a (.c .a (.c .a (.c .a (.c .a (.c .a (.c .a (.c .a (.c .a (.c .a (.c .a (.c .a (.c .a (.c .a (.c .a (.c .a (.c .a (.c .a (.c .a (.c .a (.c .a (.c .a (.c .a (.c .a (.c .a (.c .a (.c .a (.c .a (.c .a (.c .a (.c .a (.c .a (.c .a (.c .a (.c .a (.c .a (.c .a (.c .a (.c .a (.c .a (.c .a (.c .a (.c .a (.c .a (.c .a .n))))))))))))))))))))))))))))))))))))))))))))))))))))))) .n⟩
    ·
      replace hm := cf h3 hm
      have h3d := of_decide_eq_false h3
      refine ex (x1 ?_)
      replace hm := inr1 hm hq1
      exact ⟨(), hm, le [] (by decide) (.c .a (.c .a (.c .a (.c .a (.c .a (.c .a (.c .a (.c .a (.c .a (.c .a (.c .a (.c .a (.c .a (.c .a (.c .a (.c .a (.c .a (.c .a (.c .a (.c .a (.c .a (.c .a (.c .a (.c .a (.c .a (.c .a (.c .a (.c .a (.c .a (.c .a (.c .a (.c .a (.c .a (.c .a (.c .a (.c .a (.c .a (.c .a (.c .a (.c .a (.c .a (.c .a (.c .a (.c .a (.c .a (.c .a (.c .a (.c .a (.c .a (.c .a (.c .a (.c .a (.c .a (.c .a (.c .a .n))))))))))))))))))))))))))))))))))))))))))))))))))))))) .n⟩
  ·
    refine sr <| m (as_ (.i rfl)) u4 <| m (as_ (.i rfl)) u5 <| m (as_ .b) u6 <| e ?_
    replace hm := sj hm
    subst hm
    exact rt (ret2 (.t n4 (.p rfl) (.t n5 (.p rfl) (.t n6 (.p rfl) .n))) rfl)

theorem tot_spec_ReadUvarint (b_ : List Int) (at_ : Int) (hp0 : bytesOk b_) : Spec Tryz.prog G0 150 [.slice 1 (b_.map y8), .int .i64 at_] (fun v => v = .tup [.int .i64 ((uvF b_ at_).1), .int .i64 ((uvF b_ at_).2.1), .bool ((uvF b_ at_).2.2)]) := sp_spec_ReadUvarint b_ at_ _ (t_spec_ReadUvarint b_ at_ hp0)

theorem sp_spec_DecodeInts (b_ : List Int) (at_ : Int) (n_ : Int) (r : (List Int) × Int × Bool) (hm : m_spec_DecodeInts b_ at_ n_ = some r) : Spec Tryz.prog G0 111 [.slice 1 (b_.map y8), .int .i64 at_, .int .i64 n_] (fun v => v = .tup [.slice 1 (r.1.map iV), .int .i64 r.2.1, .bool r.2.2]) := by
  rw [m_spec_DecodeInts] at hm
  refine enter (l := [.tmp 6, .tmp 7, .tmp 8]) Tryz.func111 rfl Tryz.ntmps111 rfl T.en111 fun E => ?_
  simp only [List.length_cons, List.length_nil, List.replicate_succ, List.replicate_zero, List.cons_append, List.nil_append, Nat.reduceAdd, Nat.reduceSub]
  refine sr <| m (as_ .n) u6 <| m (as_ (.i rfl)) u7 <| m (as_ .b) u8 <| e ?_
  refine sr <| k (bom ([] : List Int) iV T.s95 rfl rfl .n rfl s0 u14) <| m (as_ (.t n14)) u9 <| e ?_
  refine sq ?_
  refine sr <| rjb hm (fun j0_24 : Bool => ⟨[.slice 1 (b_.map y8), .int .i64 at_, .int .i64 n_, .any, .any, .any, .any, .any, .any, .own 0, .any, .any, .any, .any, .any, .any, .any, .any, .any, .any, .any, .any, .any, .any, .bool j0_24, .any, .any, .any, .any, .any, .any, .any, .any, .any, .any, .any, .any, .any, .any, .any, .any, .any, .any, .any, .any, .any, .any, .any], [.row 3 1 (([] : List Int).map iV)]⟩) (fun _ hm hq1 => ?_) (fun j0_24 hm => ?_)
  ·
    refine m (mv (.t n2)) u15 <| c (call (tot_spec_l1In n_ (0 : Int) (100 : Int)) (.c (.t n15) rfl (.c (.i rfl) rfl (.c (.i rfl) rfl .n)))) u16 <| m (not_ (.t n16)) u17 <| m (mv (.t n17)) u18 <| sp n18 u18 u18 (fun h2 => ?_) (fun h2 => ?_)
    ·
      replace hm := ct h2 hm
      refine sk n3 rfl n18 rfl u19 <| sk n3 rfl n18 rfl u20 <| sk n3 rfl n18 rfl u21 <| sk n3 rfl n18 rfl u22 <| sk n3 rfl n18 rfl u23 <| m (pkt (.t n18) .b) u24 <| e ?_
      replace hm := sj hm
      subst hm
      have hm := hq1
      exact ⟨true, hm, le [0] (by decide) (.c (.e rfl rfl) (.c (.e rfl rfl) (.c (.e rfl rfl) (.c .a (.c .a (.c .a (.c .a (.c .a (.c .a (.c (.w n0) (.c .a (.c .a (.c .a (.c .a (.c .a (.c .a (.c .a (.c .a (.c .a (.c .a (.c .a (.c .a (.c .a (.c .a (.c (.e rfl rfl) (.c .a (.c .a (.c .a (.c .a (.c .a (.c .a (.c .a (.c .a (.c .a (.c .a (.c .a (.c .a (.c .a (.c .a (.c .a (.c .a (.c .a (.c .a (.c .a (.c .a (.c .a (.c .a (.c .a .n)))))))))))))))))))))))))))))))))))))))))))))))) (.r n0 rfl .n)⟩
    ·
      replace hm := cf h2 hm
      refine mg n3 rfl n18 (mv (.t n1)) u19 <| mg n3 rfl n18 (mv (.t n0)) u20 <| mg n3 rfl n18 (lenm (l := b_) (f := y8) T.s174 (.t n20)) u21 <| cg n3 rfl n18 (call (tot_spec_l1In at_ (0 : Int) (b_.length : Int)) (.c (.t n19) rfl (.c (.i rfl) rfl (.c (.t n21) rfl .n)))) u22 <| mg n3 rfl n18 (not_ (.t n22)) u23 <| m (pkf (.t n18) (.t n23)) u24 <| e ?_
      replace hm := sj hm
      subst hm
      have hm := hq1
      exact ⟨(!(inR at_ (0 : Int) (b_.length : Int))), hm, le [0] (by decide) (.c (.e rfl rfl) (.c (.e rfl rfl) (.c (.e rfl rfl) (.c .a (.c .a (.c .a (.c .a (.c .a (.c .a (.c (.w n0) (.c .a (.c .a (.c .a (.c .a (.c .a (.c .a (.c .a (.c .a (.c .a (.c .a (.c .a (.c .a (.c .a (.c .a (.c (.e rfl rfl) (.c .a (.c .a (.c .a (.c .a (.c .a (.c .a (.c .a (.c .a (.c .a (.c .a (.c .a (.c .a (.c .a (.c .a (.c .a (.c .a (.c .a (.c .a (.c .a (.c .a (.c .a (.c .a (.c .a .n)))))))))))))))))))))))))))))))))))))))))))))))) (.r n0 rfl .n)⟩
  ·
    refine cnd n24 (fun h3 => ?_) (fun h3 => ?_)
    ·
      replace hm := ct h3 hm
      refine sr <| m (mv (.t n9)) u25 <| m (as_ (.t n25)) u6 <| m (as_ (.i rfl)) u7 <| m (as_ .b) u8 <| e ?_
      replace hm := sj hm
      subst hm
      exact rt (ret2 (.t n6 (.o n0) (.t n7 (.p rfl) (.t n8 (.p rfl) .n))) rfl)
    ·
      replace hm := cf h3 hm
      refine skp ?_
      refine sq ?_
      refine sr <| m (as_ (.i rfl)) u10 <| e ?_
      refine jmx hm (fun yy5_ : Int × (List Int) => ⟨[.any, .int .i64 yy5_.1, .any, .any, .any, .any, .any, .any, .any, .own 0, .any, .any, .any, .any, .any, .any, .any, .any, .any, .any, .any, .any, .any, .any, .any, .any, .any, .any, .any, .any, .any, .any, .any, .any, .any, .any, .any, .any, .any, .any, .any, .any, .any, .any, .any, .any, .any, .any], [.row 3 1 (yy5_.2.map iV)]⟩) (fun _ hm hq4 => ?_) (fun t hm => ?_)
      ·
        refine bk ?_
        refine lpf (m := m_spec_DecodeInts_l0 b_ n_) hm (fun yy6_ : Int × Nat × (List Int) => ⟨[.slice 1 (b_.map y8), .int .i64 yy6_.1, .int .i64 n_, .any, .any, .any, .any, .any, .any, .own 0, .int .i64 (yy6_.2.1 : Int), .any, .any, .any, .any, .any, .any, .any, .any, .any, .any, .any, .any, .any, .any, .any, .any, .any, .any, .any, .any, .any, .any, .any, .any, .any, .any, .any, .any, .any, .any, .any, .any, .any, .any, .any, .any, .any], [.row 3 1 (yy6_.2.2.map iV)]⟩) (fun _ => rfl) (le [0] (by decide) (.c (.e rfl rfl) (.c (.e rfl rfl) (.c (.e rfl rfl) (.c .a (.c .a (.c .a (.c .a (.c .a (.c .a (.c (.w n0) (.c (.e rfl rfl) (.c .a (.c .a (.c .a (.c .a (.c .a (.c .a (.c .a (.c .a (.c .a (.c .a (.c .a (.c .a (.c .a (.c .a (.c .a (.c .a (.c .a (.c .a (.c .a (.c .a (.c .a (.c .a (.c .a (.c .a (.c .a (.c .a (.c .a (.c .a (.c .a (.c .a (.c .a (.c .a (.c .a (.c .a (.c .a (.c .a (.c .a .n)))))))))))))))))))))))))))))))))))))))))))))))) (.r n0 rfl .n)) ?_
        rintro f ⟨v0_1, i0, v0r1⟩ hm
        rw [m_spec_DecodeInts_l0] at hm
        dsimp only at hm ⊢
        refine sq ?_
        refine sr <| m (mv (.t n10)) u26 <| m (mv (.t n2)) u27 <| m (lss (.t n26) (.t n27)) u28 <| e ?_
        refine rng n27 fun _ ra7 => ?_
        replace ra7 := (show (_ : Int) ≤ 9223372036854775807 from ra7)
        refine cnd n28 (fun h8 => ?_) (fun h8 => ?_)
        ·
          replace hm := ct h8 hm
          have h8d := of_decide_eq_true h8
          refine skp ?_
          refine sq ?_
          refine bk ?_
          obtain ⟨c9, hm⟩ := gd_some hm
          refine sr <| m (mv (.t n0)) u32 <| m (mv (.t n1)) u33 <| c (call (tot_spec_ReadUvarint b_ v0_1 c9) (.c (.t n32) rfl (.c (.t n33) rfl .n))) u34 <| m (mv (.t n34)) u31 <| m (ext_ n0 (.t n31)) u35 <| m (ext_ n1 (.t n31)) u36 <| m (ext_ n2 (.t n31)) u37 <| m (as_ (.t n35)) u11 <| m (as_ (.t n36)) u12 <| m (as_ (.t n37)) u13 <| e ?_
          refine sq ?_
          refine sr <| m (mv (.t n13)) u38 <| m (not_ (.t n38)) u39 <| e ?_
          refine cnd n39 (fun h10 => ?_) (fun h10 => ?_)
          ·
            replace hm := ct h10 hm
            refine sr <| k (bsm ([] : List Int) iV T.s95 rfl rfl .n rfl u40) <| m (as_ (.t n40)) u6 <| m (as_ (.i rfl)) u7 <| m (as_ .b) u8 <| e ?_
            replace hm := inl1 hm hq4
            subst hm
            exact rt (ret2 (.t n6 (.p rfl) (.t n7 (.p rfl) (.t n8 (.p rfl) .n))) rfl)
          ·
            replace hm := cf h10 hm
            refine skp ?_
            obtain ⟨c11, hm⟩ := gd_some hm
            refine sr <| m (mv (.t n9)) u41 <| m (mv (.t n11)) u42 <| k (bsm ([(uvF b_ v0_1).1] : List Int) iV T.s95 rfl rfl (.c (.t n42) rfl rfl rfl .n) rfl u43) <| dr u9 <| k (apm (l := v0r1) (l2 := ([(uvF b_ v0_1).1] : List Int)) (f := iV) 41 c11 rfl (fun _ => rfl) T.s95 rfl n41 u41 n0 (.t n43) q0 rfl u44) <| m (as_ (.t n44)) u9 <| e ?_
            refine rg <| m (mv (.t n12)) u45 <| m (as_ (.t n45)) u1 <| e ?_
            refine rg <| m (mv (.t n10)) u29 <| m (add (.t n29) (.i rfl)) u30 <| m (as_ (.t n30)) u10 <| e ?_
            exact ⟨((uvF b_ v0_1).2.1, i0 + 1, (v0r1 ++ ([(uvF b_ v0_1).1] : List Int))), hm, le [0] (by decide) (.c (.e rfl rfl) (.c (.e rfl rfl) (.c (.e rfl rfl) (.c .a (.c .a (.c .a (.c .a (.c .a (.c .a (.c (.w n0) (.c (.e (wi (by omega)) rfl) (.c .a (.c .a (.c .a (.c .a (.c .a (.c .a (.c .a (.c .a (.c .a (.c .a (.c .a (.c .a (.c .a (.c .a (.c .a (.c .a (.c .a (.c .a (.c .a (.c .a (.c .a (.c .a (.c .a (.c .a (.c .a (.c .a (.c .a (.c .a (.c .a (.c .a (.c .a (.c .a (.c .a (.c .a (.c .a (.c .a (.c .a .n)))))))))))))))))))))))))))))))))))))))))))))))) (.r n0 rfl .n)⟩
        ·
          replace hm := cf h8 hm
          have h8d := of_decide_eq_false h8
          refine ex (x1 ?_)
          replace hm := inr1 hm hq4
          exact ⟨(v0_1, v0r1), hm, le [0] (by decide) (.c .a (.c (.e rfl rfl) (.c .a (.c .a (.c .a (.c .a (.c .a (.c .a (.c .a (.c (.w n0) (.c .a (.c .a (.c .a (.c .a (.c .a (.c .a (.c .a (.c .a (.c .a (.c .a (.c .a (.c .a (.c .a (.c .a (.c .a (.c .a (.c .a (.c .a (.c .a (.c .a (.c .a (.c .a (.c .a (.c .a (.c .a (.c .a (.c .a (.c .a (.c .a (.c .a (.c .a (.c .a (.c .a (.c .a (.c .a (.c .a (.c .a (.c .a .n)))))))))))))))))))))))))))))))))))))))))))))))) (.r n0 rfl .n)⟩
      ·
        obtain ⟨j1_1, j1r1⟩ := t
        dsimp only at hm ⊢
        refine sr <| m (mv (.t n9)) u46 <| m (mv (.t n1)) u47 <| m (as_ (.t n46)) u6 <| m (as_ (.t n47)) u7 <| m (as_ .b) u8 <| e ?_
        replace hm := sj hm
        subst hm
        exact rt (ret2 (.t n6 (.o n0) (.t n7 (.p rfl) (.t n8 (.p rfl) .n))) rfl)

theorem tot_spec_DecodeInts (b_ : List Int) (at_ : Int) (n_ : Int) (hp0 : bytesOk b_) : Spec Tryz.prog G0 111 [.slice 1 (b_.map y8), .int .i64 at_, .int .i64 n_] (fun v => v = .tup [.slice 1 (((decodeF b_ at_ n_).1).map iV), .int .i64 ((decodeF b_ at_ n_).2.1), .bool ((decodeF b_ at_ n_).2.2)]) := sp_spec_DecodeInts b_ at_ n_ _ (t_spec_DecodeInts b_ at_ n_ hp0)

theorem sp_impl_ReadUvarint (b_ : List Int) (offset_ : Int) (r : Int × Int × Bool) (hm : m_impl_ReadUvarint b_ offset_ = some r) : Spec Tryz.prog G0 152 [.slice 1 (b_.map y8), .int .i64 offset_] (fun v => v = .tup [.int .i64 r.1, .int .i64 r.2.1, .bool r.2.2]) := by
  rw [m_impl_ReadUvarint] at hm
  refine enter (l := [.tmp 4, .tmp 5, .tmp 6]) Tryz.func152 rfl Tryz.ntmps152 rfl T.en152 fun E => ?_
  simp only [List.length_cons, List.length_nil, List.replicate_succ, List.replicate_zero, List.cons_append, List.nil_append, Nat.reduceAdd, Nat.reduceSub]
  refine sr <| m (as_ (.i rfl)) u4 <| m (as_ (.i rfl)) u5 <| m (as_ .b) u6 <| e ?_
  refine sq ?_
  refine sr <| rjb hm (fun j0_18 : Bool => ⟨[.slice 1 (b_.map y8), .int .i64 offset_, .any, .any, .any, .any, .any, .any, .any, .any, .any, .any, .any, .any, .any, .any, .any, .any, .bool j0_18, .any, .any, .any, .any, .any, .any, .any, .any, .any, .any, .any, .any, .any, .any, .any, .any, .any, .any, .any, .any, .any, .any, .any, .any, .any, .any, .any, .any, .any, .any, .any, .any, .any, .any, .any, .any, .any, .any, .any, .any, .any, .any], []⟩) (fun _ hm hq1 => ?_) (fun j0_18 hm => ?_)
  ·
    refine m (mv (.t n1)) u11 <| m (lss (.t n11) (.i rfl)) u12 <| m (mv (.t n12)) u13 <| sp n13 u13 u13 (fun h2 => ?_) (fun h2 => ?_)
    ·
      replace hm := ct h2 hm
      refine sk n2 rfl n13 rfl u14 <| sk n2 rfl n13 rfl u15 <| sk n2 rfl n13 rfl u16 <| sk n2 rfl n13 rfl u17 <| m (pkt (.t n13) .b) u18 <| e ?_
      replace hm := sj hm
      subst hm
      have hm := hq1
      exact ⟨true, hm, le [] (by decide) (.c (.e rfl rfl) (.c (.e rfl rfl) (.c .a (.c .a (.c .a (.c .a (.c .a (.c .a (.c .a (.c .a (.c .a (.c .a (.c .a (.c .a (.c .a (.c .a (.c .a (.c .a (.c (.e rfl rfl) (.c .a (.c .a (.c .a (.c .a (.c .a (.c .a (.c .a (.c .a (.c .a (.c .a (.c .a (.c .a (.c .a (.c .a (.c .a (.c .a (.c .a (.c .a (.c .a (.c .a (.c .a (.c .a (.c .a (.c .a (.c .a (.c .a (.c .a (.c .a (.c .a (.c .a (.c .a (.c .a (.c .a (.c .a (.c .a (.c .a (.c .a (.c .a (.c .a (.c .a (.c .a (.c .a .n))))))))))))))))))))))))))))))))))))))))))))))))))))))))))))) .n⟩
    ·
      replace hm := cf h2 hm
      refine mg n2 rfl n13 (mv (.t n1)) u14 <| mg n2 rfl n13 (mv (.t n0)) u15 <| mg n2 rfl n13 (lenm (l := b_) (f := y8) T.s174 (.t n15)) u16 <| mg n2 rfl n13 (geq (.t n14) (.t n16)) u17 <| m (pkf (.t n13) (.t n17)) u18 <| e ?_
      replace hm := sj hm
      subst hm
      have hm := hq1
      exact ⟨decide (offset_ ≥ (b_.length : Int)), hm, le [] (by decide) (.c (.e rfl rfl) (.c (.e rfl rfl) (.c .a (.c .a (.c .a (.c .a (.c .a (.c .a (.c .a (.c .a (.c .a (.c .a (.c .a (.c .a (.c .a (.c .a (.c .a (.c .a (.c (.e rfl rfl) (.c .a (.c .a (.c .a (.c .a (.c .a (.c .a (.c .a (.c .a (.c .a (.c .a (.c .a (.c .a (.c .a (.c .a (.c .a (.c .a (.c .a (.c .a (.c .a (.c .a (.c .a (.c .a (.c .a (.c .a (.c .a (.c .a (.c .a (.c .a (.c .a (.c .a (.c .a (.c .a (.c .a (.c .a (.c .a (.c .a (.c .a (.c .a (.c .a (.c .a (.c .a (.c .a .n))))))))))))))))))))))))))))))))))))))))))))))))))))))))))))) .n⟩
  ·
    refine cnd n18 (fun h3 => ?_) (fun h3 => ?_)
    ·
      replace hm := ct h3 hm
      refine sr <| m (as_ (.i rfl)) u4 <| m (as_ (.i rfl)) u5 <| m (as_ .b) u6 <| e ?_
      replace hm := sj hm
      subst hm
      exact rt (ret2 (.t n4 (.p rfl) (.t n5 (.p rfl) (.t n6 (.p rfl) .n))) rfl)
    ·
      replace hm := cf h3 hm
      refine skp ?_
      refine sr <| m (as_ (.i rfl)) u7 <| e ?_
      refine sr <| m (as_ (.i rfl)) u8 <| e ?_
      refine sq ?_
      refine sr <| m (as_ (.i rfl)) u9 <| e ?_
      refine jmx hm (fun _ : Unit => ⟨[.any, .any, .any, .any, .any, .any, .any, .any, .any, .any, .any, .any, .any, .any, .any, .any, .any, .any, .any, .any, .any, .any, .any, .any, .any, .any, .any, .any, .any, .any, .any, .any, .any, .any, .any, .any, .any, .any, .any, .any, .any, .any, .any, .any, .any, .any, .any, .any, .any, .any, .any, .any, .any, .any, .any, .any, .any, .any, .any, .any, .any], []⟩) (fun _ hm hq4 => ?_) (fun _ hm => ?_)
      ·
        refine bk ?_
        refine lpf (m := m_impl_ReadUvarint_l0 b_ offset_) hm (fun yy5_ : Int × Int × Nat => ⟨[.slice 1 (b_.map y8), .int .i64 offset_, .any, .any, .any, .any, .any, .int .i64 yy5_.1, .int .i64 yy5_.2.1, .int .i64 (yy5_.2.2 : Int), .any, .any, .any, .any, .any, .any, .any, .any, .any, .any, .any, .any, .any, .any, .any, .any, .any, .any, .any, .any, .any, .any, .any, .any, .any, .any, .any, .any, .any, .any, .any, .any, .any, .any, .any, .any, .any, .any, .any, .any, .any, .any, .any, .any, .any, .any, .any, .any, .any, .any, .any], []⟩) (fun _ => rfl) (le [] (by decide) (.c (.e rfl rfl) (.c (.e rfl rfl) (.c .a (.c .a (.c .a (.c .a (.c .a (.c (.e rfl rfl) (.c (.e rfl rfl) (.c (.e rfl rfl) (.c .a (.c .a (.c .a (.c .a (.c .a (.c .a (.c .a (.c .a (.c .a (.c .a (.c .a (.c .a (.c .a (.c .a (.c .a (.c .a (.c .a (.c .a (.c .a (.c .a (.c .a (.c .a (.c .a (.c .a (.c .a (.c .a (.c .a (.c .a (.c .a (.c .a (.c .a (.c .a (.c .a (.c .a (.c .a (.c .a (.c .a (.c .a (.c .a (.c .a (.c .a (.c .a (.c .a (.c .a (.c .a (.c .a (.c .a (.c .a (.c .a (.c .a (.c .a .n))))))))))))))))))))))))))))))))))))))))))))))))))))))))))))) .n) ?_
        rintro f ⟨v0_7, v0_8, i0⟩ hm
        rw [m_impl_ReadUvarint_l0] at hm
        dsimp only at hm ⊢
        refine sq ?_
        refine sr <| m (mv (.t n9)) u19 <| m (lss (.t n19) (.i rfl)) u20 <| e ?_
        refine cnd n20 (fun h6 => ?_) (fun h6 => ?_)
        ·
          replace hm := ct h6 hm
          have h6d := of_decide_eq_true h6
          refine skp ?_
          refine sq ?_
          refine bk ?_
          refine sq ?_
          refine sr <| m (mv (.t n1)) u23 <| m (mv (.t n9)) u24 <| m (add (.t n23) (.t n24)) u25 <| m (mv (.t n0)) u26 <| m (lenm (l := b_) (f := y8) T.s174 (.t n26)) u27 <| m (geq (.t n25) (.t n27)) u28 <| e ?_
          refine cnd n28 (fun h7 => ?_) (fun h7 => ?_)
          ·
            replace hm := ct h7 hm
            have h7d := of_decide_eq_true h7
            refine sr <| m (as_ (.i rfl)) u4 <| m (as_ (.i rfl)) u5 <| m (as_ .b) u6 <| e ?_
            replace hm := inl1 hm hq4
            subst hm
            exact rt (ret2 (.t n4 (.p rfl) (.t n5 (.p rfl) (.t n6 (.p rfl) .n))) rfl)
          ·
            replace hm := cf h7 hm
            have h7d := of_decide_eq_false h7
            refine skp ?_
            obtain ⟨z8, e9, hm⟩ := bd_some hm
            refine sr <| m (mv (.t n0)) u29 <| m (mv (.t n1)) u30 <| m (mv (.t n9)) u31 <| m (add (.t n30) (.t n31)) u32 <| m (ixq (f := y8) e9 T.s174 (.t n29) (.t n32)) u33 <| m (lde T.o5 n0 (.t n33)) u34 <| m (cnv T.is5 Tryz.underlying3 (.t n34)) u35 <| m (as_ (.t n35)) u10 <| e ?_
            refine sr <| m (mv (.t n7)) u36 <| m (mv (.t n10)) u37 <| m (rem (by decide) (.t n37) (.i rfl)) u38 <| m (mv (.t n8)) u39 <| m (mul (.t n38) (.t n39)) u40 <| m (add (.t n36) (.t n40)) u41 <| m (as_ (.t n41)) u7 <| e ?_
            refine sr <| m (mv (.t n8)) u42 <| m (mul (.t n42) (.i rfl)) u43 <| m (as_ (.t n43)) u8 <| e ?_
            refine sr <| m (mv (.t n10)) u44 <| m (lss (.t n44) (.i rfl)) u45 <| e ?_
            refine cnd n45 (fun h10 => ?_) (fun h10 => ?_)
            ·
              replace hm := ct h10 hm
              refine sq ?_
              refine sr <| rjb hm (fun j2_55 : Bool => ⟨[.any, .int .i64 offset_, .any, .any, .any, .any, .any, .int .i64 (IntKind.i64.wrap (v0_7 + IntKind.i64.wrap ((IntKind.i64.wrap z8).tmod (128 : Int) * v0_8))), .any, .int .i64 (i0 : Int), .any, .any, .any, .any, .any, .any, .any, .any, .any, .any, .any, .any, .any, .any, .any, .any, .any, .any, .any, .any, .any, .any, .any, .any, .any, .any, .any, .any, .any, .any, .any, .any, .any, .any, .any, .any, .any, .any, .any, .any, .any, .any, .any, .any, .any, .bool j2_55, .any, .any, .any, .any, .any], []⟩) (fun _ hm hq11 => ?_) (fun j2_55 hm => ?_)
              ·
                refine m (mv (.t n9)) u46 <| m (gtr (.t n46) (.i rfl)) u47 <| m (mv (.t n47)) u48 <| sp n48 u48 u48 (fun h12 => ?_) (fun h12 => ?_)
                ·
                  replace hm := ct h12 hm
                  refine mg n2 rfl n48 (mv (.t n10)) u49 <| mg n2 rfl n48 (eql (.t n49) (.i rfl)) u50 <| m (pkt (.t n48) (.t n50)) u51 <| m (mv (.t n51)) u52 <| sp n52 u52 u52 (fun h13 => ?_) (fun h13 => ?_)
                  ·
                    replace hm := ct h13 hm
                    refine sk n6 rfl n52 rfl u53 <| sk n6 rfl n52 rfl u54 <| m (pkt (.t n52) .b) u55 <| e ?_
                    replace hm := sj hm
                    subst hm
                    have hm := hq11
                    exact ⟨true, hm, le [] (by decide) (.c .a (.c (.e rfl rfl) (.c .a (.c .a (.c .a (.c .a (.c .a (.c (.e rfl rfl) (.c .a (.c (.e rfl rfl) (.c .a (.c .a (.c .a (.c .a (.c .a (.c .a (.c .a (.c .a (.c .a (.c .a (.c .a (.c .a (.c .a (.c .a (.c .a (.c .a (.c .a (.c .a (.c .a (.c .a (.c .a (.c .a (.c .a (.c .a (.c .a (.c .a (.c .a (.c .a (.c .a (.c .a (.c .a (.c .a (.c .a (.c .a (.c .a (.c .a (.c .a (.c .a (.c .a (.c .a (.c .a (.c .a (.c .a (.c .a (.c .a (.c (.e rfl rfl) (.c .a (.c .a (.c .a (.c .a (.c .a .n))))))))))))))))))))))))))))))))))))))))))))))))))))))))))))) .n⟩
                  ·
                    replace hm := cf h13 hm
                    refine mg n6 rfl n52 (mv (.t n7)) u53 <| mg n6 rfl n52 (gtr (.t n53) (.i rfl)) u54 <| m (pkf (.t n52) (.t n54)) u55 <| e ?_
                    replace hm := sj hm
                    subst hm
                    have hm := hq11
                    exact ⟨decide (IntKind.i64.wrap (v0_7 + IntKind.i64.wrap ((IntKind.i64.wrap z8).tmod (128 : Int) * v0_8)) > (1000000000000 : Int)), hm, le [] (by decide) (.c .a (.c (.e rfl rfl) (.c .a (.c .a (.c .a (.c .a (.c .a (.c (.e rfl rfl) (.c .a (.c (.e rfl rfl) (.c .a (.c .a (.c .a (.c .a (.c .a (.c .a (.c .a (.c .a (.c .a (.c .a (.c .a (.c .a (.c .a (.c .a (.c .a (.c .a (.c .a (.c .a (.c .a (.c .a (.c .a (.c .a (.c .a (.c .a (.c .a (.c .a (.c .a (.c .a (.c .a (.c .a (.c .a (.c .a (.c .a (.c .a (.c .a (.c .a (.c .a (.c .a (.c .a (.c .a (.c .a (.c .a (.c .a (.c .a (.c .a (.c (.e rfl rfl) (.c .a (.c .a (.c .a (.c .a (.c .a .n))))))))))))))))))))))))))))))))))))))))))))))))))))))))))))) .n⟩
                ·
                  replace hm := cf h12 hm
                  refine sk n2 rfl n48 rfl u49 <| sk n2 rfl n48 rfl u50 <| m (pkf (.t n48) .b) u51 <| m (mv (.t n51)) u52 <| mg n6 rfl n52 (mv (.t n7)) u53 <| mg n6 rfl n52 (gtr (.t n53) (.i rfl)) u54 <| m (pkf (.t n52) (.t n54)) u55 <| e ?_
                  replace hm := sj hm
                  subst hm
                  have hm := hq11
                  exact ⟨decide (IntKind.i64.wrap (v0_7 + IntKind.i64.wrap ((IntKind.i64.wrap z8).tmod (128 : Int) * v0_8)) > (1000000000000 : Int)), hm, le [] (by decide) (.c .a (.c (.e rfl rfl) (.c .a (.c .a (.c .a (.c .a (.c .a (.c (.e rfl rfl) (.c .a (.c (.e rfl rfl) (.c .a (.c .a (.c .a (.c .a (.c .a (.c .a (.c .a (.c .a (.c .a (.c .a (.c .a (.c .a (.c .a (.c .a (.c .a (.c .a (.c .a (.c .a (.c .a (.c .a (.c .a (.c .a (.c .a (.c .a (.c .a (.c .a (.c .a (.c .a (.c .a (.c .a (.c .a (.c .a (.c .a (.c .a (.c .a (.c .a (.c .a (.c .a (.c .a (.c .a (.c .a (.c .a (.c .a (.c .a (.c .a (.c (.e rfl rfl) (.c .a (.c .a (.c .a (.c .a (.c .a .n))))))))))))))))))))))))))))))))))))))))))))))))))))))))))))) .n⟩
              ·
                refine cnd n55 (fun h14 => ?_) (fun h14 => ?_)
                ·
                  replace hm := ct h14 hm
                  refine sr <| m (as_ (.i rfl)) u4 <| m (as_ (.i rfl)) u5 <| m (as_ .b) u6 <| e ?_
                  replace hm := inl1 hm hq4
                  subst hm
                  exact rt (ret2 (.t n4 (.p rfl) (.t n5 (.p rfl) (.t n6 (.p rfl) .n))) rfl)
                ·
                  replace hm := cf h14 hm
                  refine skp ?_
                  refine sr <| m (mv (.t n7)) u56 <| m (mv (.t n1)) u57 <| m (mv (.t n9)) u58 <| m (add (.t n57) (.t n58)) u59 <| m (add (.t n59) (.i rfl)) u60 <| m (as_ (.t n56)) u4 <| m (as_ (.t n60)) u5 <| m (as_ .b) u6 <| e ?_
                  replace hm := inl1 hm hq4
                  subst hm
                  exact rt (ret2 (.t n4 (.p rfl) (.t n5 (.p rfl) (.t n6 (.p rfl) .n))) rfl)
            ·
              replace hm := cf h10 hm
              refine skp ?_
              refine rg <| m (mv (.t n9)) u21 <| m (add (.t n21) (.i rfl)) u22 <| m (as_ (.t n22)) u9 <| e ?_
              obtain ⟨c15, hm⟩ := gd_some hm
              exact ⟨(IntKind.i64.wrap (v0_7 + IntKind.i64.wrap ((IntKind.i64.wrap z8).tmod (128 : Int) * v0_8)), IntKind.i64.wrap (v0_8 * (128 : Int)), i0 + 1), hm, le [] (by decide) (.c (.e rfl rfl) (.c (.e rfl rfl) (.c .a (.c .a (.c .a (.c .a (.c .a (.c (.e rfl rfl) (.c (.e rfl rfl) (.c (.e (wi c15) rfl) (.c .a (.c .a (.c .a (.c .a (.c .a (.c .a (.c .a (.c .a (.c .a (.c .a (.c .a (.c .a (.c .a (.c .a (.c .a (.c .a (.c .a (.c .a (.c .a (.c .a (.c .a (.c .a (.c .a (.c .a (.c .a (.c .a (.c .a (.c .a (.c .a (.c .a (.c .a (.c .a (.c .a (.c .a (.c .a (.c .a (.c .a (.c .a (.c .a (.c .a (.c .a (.c .a (.c .a (.c .a (.c .a (.c .a (.c .a (.c .a (.c .a (.c .a (.c .a .n))))))))))))))))))))))))))))))))))))))))))))))))))))))))))))) .n⟩
        ·
          replace hm := cf h6 hm
          have h6d := of_decide_eq_false h6
          refine ex (x1 ?_)
          replace hm := inr1 hm hq4
          exact ⟨(), hm, le [] (by decide) (.c .a (.c .a (.c .a (.c .a (.c .a (.c .a (.c .a (.c .a (.c .a (.c .a (.c .a (.c .a (.c .a (.c .a (.c .a (.c .a (.c .a (.c .a (.c .a (.c .a (.c .a (.c .a (.c .a (.c .a (.c .a (.c .a (.c .a (.c .a (.c .a (.c .a (.c .a (.c .a (.c .a (.c .a (.c .a (.c .a (.c .a (.c .a (.c .a (.c .a (.c .a (.c .a (.c .a (.c .a (.c .a (.c .a (.c .a (.c .a (.c .a (.c .a (.c .a (.c .a (.c .a (.c .a (.c .a (.c .a (.c .a (.c .a (.c .a (.c .a (.c .a .n))))))))))))))))))))))))))))))))))))))))))))))))))))))))))))) .n⟩
      ·
        refine sr <| m (as_ (.i rfl)) u4 <| m (as_ (.i rfl)) u5 <| m (as_ .b) u6 <| e ?_
        replace hm := sj hm
        subst hm
        exact rt (ret2 (.t n4 (.p rfl) (.t n5 (.p rfl) (.t n6 (.p rfl) .n))) rfl)

theorem tot_impl_ReadUvarint (b_ : List Int) (offset_ : Int) (hp0 : bytesOk b_) : Spec Tryz.prog G0 152 [.slice 1 (b_.map y8), .int .i64 offset_] (fun v => v = .tup [.int .i64 ((uvF b_ offset_).1), .int .i64 ((uvF b_ offset_).2.1), .bool ((uvF b_ offset_).2.2)]) := sp_impl_ReadUvarint b_ offset_ _ (t_impl_ReadUvarint b_ offset_ hp0)

theorem sp_impl_DecodeInts (b_ : List Int) (offset_ : Int) (count_ : Int) (r : (List Int) × Int × Bool) (hm : m_impl_DecodeInts b_ offset_ count_ = some r) : Spec Tryz.prog G0 114 [.slice 1 (b_.map y8), .int .i64 offset_, .int .i64 count_] (fun v => v = .tup [.slice 1 (r.1.map iV), .int .i64 r.2.1, .bool r.2.2]) := by
  rw [m_impl_DecodeInts] at hm
  refine enter (l := [.tmp 6, .tmp 7, .tmp 8]) Tryz.func114 rfl Tryz.ntmps114 rfl T.en114 fun E => ?_
  simp only [List.length_cons, List.length_nil, List.replicate_succ, List.replicate_zero, List.cons_append, List.nil_append, Nat.reduceAdd, Nat.reduceSub]
  refine sr <| m (as_ .n) u6 <| m (as_ (.i rfl)) u7 <| m (as_ .b) u8 <| e ?_
  refine sq ?_
  refine sr <| rjb hm (fun j0_29 : Bool => ⟨[.slice 1 (b_.map y8), .int .i64 offset_, .int .i64 count_, .any, .any, .any, .any, .any, .any, .any, .any, .any, .any, .any, .any, .any, .any, .any, .any, .any, .any, .any, .any, .any, .any, .any, .any, .any, .any, .bool j0_29, .any, .any, .any, .any, .any, .any, .any, .any, .any, .any, .any, .any, .any, .any, .any, .any, .any, .any, .any, .any, .any, .any], []⟩) (fun _ hm hq1 => ?_) (fun j0_29 hm => ?_)
  ·
    refine m (mv (.t n2)) u14 <| m (lss (.t n14) (.i rfl)) u15 <| m (mv (.t n15)) u16 <| sp n16 u16 u16 (fun h2 => ?_) (fun h2 => ?_)
    ·
      replace hm := ct h2 hm
      refine sk n2 rfl n16 rfl u17 <| sk n2 rfl n16 rfl u18 <| m (pkt (.t n16) .b) u19 <| m (mv (.t n19)) u20 <| sk n6 rfl n20 rfl u21 <| sk n6 rfl n20 rfl u22 <| m (pkt (.t n20) .b) u23 <| m (mv (.t n23)) u24 <| sk n10 rfl n24 rfl u25 <| sk n10 rfl n24 rfl u26 <| sk n10 rfl n24 rfl u27 <| sk n10 rfl n24 rfl u28 <| m (pkt (.t n24) .b) u29 <| e ?_
      replace hm := sj hm
      subst hm
      have hm := hq1
      exact ⟨true, hm, le [] (by decide) (.c (.e rfl rfl) (.c (.e rfl rfl) (.c (.e rfl rfl) (.c .a (.c .a (.c .a (.c .a (.c .a (.c .a (.c .a (.c .a (.c .a (.c .a (.c .a (.c .a (.c .a (.c .a (.c .a (.c .a (.c .a (.c .a (.c .a (.c .a (.c .a (.c .a (.c .a (.c .a (.c .a (.c .a (.c (.e rfl rfl) (.c .a (.c .a (.c .a (.c .a (.c .a (.c .a (.c .a (.c .a (.c .a (.c .a (.c .a (.c .a (.c .a (.c .a (.c .a (.c .a (.c .a (.c .a (.c .a (.c .a (.c .a (.c .a .n)))))))))))))))))))))))))))))))))))))))))))))))))))) .n⟩
    ·
      replace hm := cf h2 hm
      refine mg n2 rfl n16 (mv (.t n2)) u17 <| mg n2 rfl n16 (gtr (.t n17) (.i rfl)) u18 <| m (pkf (.t n16) (.t n18)) u19 <| m (mv (.t n19)) u20 <| sp n20 u20 u20 (fun h3 => ?_) (fun h3 => ?_)
      ·
        replace hm := ct h3 hm
        refine sk n6 rfl n20 rfl u21 <| sk n6 rfl n20 rfl u22 <| m (pkt (.t n20) .b) u23 <| m (mv (.t n23)) u24 <| sk n10 rfl n24 rfl u25 <| sk n10 rfl n24 rfl u26 <| sk n10 rfl n24 rfl u27 <| sk n10 rfl n24 rfl u28 <| m (pkt (.t n24) .b) u29 <| e ?_
        replace hm := sj hm
        subst hm
        have hm := hq1
        exact ⟨true, hm, le [] (by decide) (.c (.e rfl rfl) (.c (.e rfl rfl) (.c (.e rfl rfl) (.c .a (.c .a (.c .a (.c .a (.c .a (.c .a (.c .a (.c .a (.c .a (.c .a (.c .a (.c .a (.c .a (.c .a (.c .a (.c .a (.c .a (.c .a (.c .a (.c .a (.c .a (.c .a (.c .a (.c .a (.c .a (.c .a (.c (.e rfl rfl) (.c .a (.c .a (.c .a (.c .a (.c .a (.c .a (.c .a (.c .a (.c .a (.c .a (.c .a (.c .a (.c .a (.c .a (.c .a (.c .a (.c .a (.c .a (.c .a (.c .a (.c .a (.c .a .n)))))))))))))))))))))))))))))))))))))))))))))))))))) .n⟩
      ·
        replace hm := cf h3 hm
        refine mg n6 rfl n20 (mv (.t n1)) u21 <| mg n6 rfl n20 (lss (.t n21) (.i rfl)) u22 <| m (pkf (.t n20) (.t n22)) u23 <| m (mv (.t n23)) u24 <| sp n24 u24 u24 (fun h4 => ?_) (fun h4 => ?_)
        ·
          replace hm := ct h4 hm
          refine sk n10 rfl n24 rfl u25 <| sk n10 rfl n24 rfl u26 <| sk n10 rfl n24 rfl u27 <| sk n10 rfl n24 rfl u28 <| m (pkt (.t n24) .b) u29 <| e ?_
          replace hm := sj hm
          subst hm
          have hm := hq1
          exact ⟨true, hm, le [] (by decide) (.c (.e rfl rfl) (.c (.e rfl rfl) (.c (.e rfl rfl) (.c .a (.c .a (.c .a (.c .a (.c .a (.c .a (.c .a (.c .a (.c .a (.c .a (.c .a (.c .a (.c .a (.c .a (.c .a (.c .a (.c .a (.c .a (.c .a (.c .a (.c .a (.c .a (.c .a (.c .a (.c .a (.c .a (.c (.e rfl rfl) (.c .a (.c .a (.c .a (.c .a (.c .a (.c .a (.c .a (.c .a (.c .a (.c .a (.c .a (.c .a (.c .a (.c .a (.c .a (.c .a (.c .a (.c .a (.c .a (.c .a (.c .a (.c .a .n)))))))))))))))))))))))))))))))))))))))))))))))))))) .n⟩
        ·
          replace hm := cf h4 hm
          refine mg n10 rfl n24 (mv (.t n1)) u25 <| mg n10 rfl n24 (mv (.t n0)) u26 <| mg n10 rfl n24 (lenm (l := b_) (f := y8) T.s174 (.t n26)) u27 <| mg n10 rfl n24 (gtr (.t n25) (.t n27)) u28 <| m (pkf (.t n24) (.t n28)) u29 <| e ?_
          replace hm := sj hm
          subst hm
          have hm := hq1
          exact ⟨decide (offset_ > (b_.length : Int)), hm, le [] (by decide) (.c (.e rfl rfl) (.c (.e rfl rfl) (.c (.e rfl rfl) (.c .a (.c .a (.c .a (.c .a (.c .a (.c .a (.c .a (.c .a (.c .a (.c .a (.c .a (.c .a (.c .a (.c .a (.c .a (.c .a (.c .a (.c .a (.c .a (.c .a (.c .a (.c .a (.c .a (.c .a (.c .a (.c .a (.c (.e rfl rfl) (.c .a (.c .a (.c .a (.c .a (.c .a (.c .a (.c .a (.c .a (.c .a (.c .a (.c .a (.c .a (.c .a (.c .a (.c .a (.c .a (.c .a (.c .a (.c .a (.c .a (.c .a (.c .a .n)))))))))))))))))))))))))))))))))))))))))))))))))))) .n⟩
  ·
    refine cnd n29 (fun h5 => ?_) (fun h5 => ?_)
    ·
      replace hm := ct h5 hm
      refine sr <| m (as_ .n) u6 <| m (as_ (.i rfl)) u7 <| m (as_ .b) u8 <| e ?_
      replace hm := sj hm
      subst hm
      exact rt (ret2 (.t n6 .n (.t n7 (.p rfl) (.t n8 (.p rfl) .n))) rfl)
    ·
      replace hm := cf h5 hm
      refine skp ?_
      refine sr <| k (bom ([] : List Int) iV T.s95 rfl rfl .n rfl s0 u30) <| m (as_ (.t n30)) u9 <| e ?_
      refine sq ?_
      refine sr <| m (as_ (.i rfl)) u10 <| e ?_
      refine jmx hm (fun yy7_ : Int × (List Int) => ⟨[.any, .int .i64 yy7_.1, .any, .any, .any, .any, .any, .any, .any, .own 0, .any, .any, .any, .any, .any, .any, .any, .any, .any, .any, .any, .any, .any, .any, .any, .any, .any, .any, .any, .any, .any, .any, .any, .any, .any, .any, .any, .any, .any, .any, .any, .any, .any, .any, .any, .any, .any, .any, .any, .any, .any, .any], [.row 3 1 (yy7_.2.map iV)]⟩) (fun _ hm hq6 => ?_) (fun t hm => ?_)
      ·
        refine bk ?_
        refine lpf (m := m_impl_DecodeInts_l0 b_ count_) hm (fun yy8_ : Int × Nat × (List Int) => ⟨[.slice 1 (b_.map y8), .int .i64 yy8_.1, .int .i64 count_, .any, .any, .any, .any, .any, .any, .own 0, .int .i64 (yy8_.2.1 : Int), .any, .any, .any, .any, .any, .any, .any, .any, .any, .any, .any, .any, .any, .any, .any, .any, .any, .any, .any, .any, .any, .any, .any, .any, .any, .any, .any, .any, .any, .any, .any, .any, .any, .any, .any, .any, .any, .any, .any, .any, .any], [.row 3 1 (yy8_.2.2.map iV)]⟩) (fun _ => rfl) (le [0] (by decide) (.c (.e rfl rfl) (.c (.e rfl rfl) (.c (.e rfl rfl) (.c .a (.c .a (.c .a (.c .a (.c .a (.c .a (.c (.w n0) (.c (.e rfl rfl) (.c .a (.c .a (.c .a (.c .a (.c .a (.c .a (.c .a (.c .a (.c .a (.c .a (.c .a (.c .a (.c .a (.c .a (.c .a (.c .a (.c .a (.c .a (.c .a (.c .a (.c .a (.c .a (.c .a (.c .a (.c .a (.c .a (.c .a (.c .a (.c .a (.c .a (.c .a (.c .a (.c .a (.c .a (.c .a (.c .a (.c .a (.c .a (.c .a (.c .a (.c .a .n)))))))))))))))))))))))))))))))))))))))))))))))))))) (.r n0 rfl .n)) ?_
        rintro f ⟨v0_1, i0, v0r1⟩ hm
        rw [m_impl_DecodeInts_l0] at hm
        dsimp only at hm ⊢
        refine sq ?_
        refine sr <| m (mv (.t n10)) u31 <| m (mv (.t n2)) u32 <| m (lss (.t n31) (.t n32)) u33 <| e ?_
        refine rng n32 fun _ ra9 => ?_
        replace ra9 := (show (_ : Int) ≤ 9223372036854775807 from ra9)
        refine cnd n33 (fun h10 => ?_) (fun h10 => ?_)
        ·
          replace hm := ct h10 hm
          have h10d := of_decide_eq_true h10
          refine skp ?_
          refine sq ?_
          refine bk ?_
          obtain ⟨c11, hm⟩ := gd_some hm
          refine sr <| m (mv (.t n0)) u37 <| m (mv (.t n1)) u38 <| c (call (tot_impl_ReadUvarint b_ v0_1 c11) (.c (.t n37) rfl (.c (.t n38) rfl .n))) u39 <| m (mv (.t n39)) u36 <| m (ext_ n0 (.t n36)) u40 <| m (ext_ n1 (.t n36)) u41 <| m (ext_ n2 (.t n36)) u42 <| m (as_ (.t n40)) u11 <| m (as_ (.t n41)) u12 <| m (as_ (.t n42)) u13 <| e ?_
          refine sq ?_
          refine sr <| m (mv (.t n13)) u43 <| m (not_ (.t n43)) u44 <| e ?_
          refine cnd n44 (fun h12 => ?_) (fun h12 => ?_)
          ·
            replace hm := ct h12 hm
            refine sr <| m (as_ .n) u6 <| m (as_ (.i rfl)) u7 <| m (as_ .b) u8 <| e ?_
            replace hm := inl1 hm hq6
            subst hm
            exact rt (ret2 (.t n6 .n (.t n7 (.p rfl) (.t n8 (.p rfl) .n))) rfl)
          ·
            replace hm := cf h12 hm
            refine skp ?_
            obtain ⟨c13, hm⟩ := gd_some hm
            refine sr <| m (mv (.t n9)) u45 <| m (mv (.t n11)) u46 <| k (bsm ([(uvF b_ v0_1).1] : List Int) iV T.s95 rfl rfl (.c (.t n46) rfl rfl rfl .n) rfl u47) <| dr u9 <| k (apm (l := v0r1) (l2 := ([(uvF b_ v0_1).1] : List Int)) (f := iV) 45 c13 rfl (fun _ => rfl) T.s95 rfl n45 u45 n0 (.t n47) q0 rfl u48) <| m (as_ (.t n48)) u9 <| e ?_
            refine rg <| m (mv (.t n12)) u49 <| m (as_ (.t n49)) u1 <| e ?_
            refine rg <| m (mv (.t n10)) u34 <| m (add (.t n34) (.i rfl)) u35 <| m (as_ (.t n35)) u10 <| e ?_
            exact ⟨((uvF b_ v0_1).2.1, i0 + 1, (v0r1 ++ ([(uvF b_ v0_1).1] : List Int))), hm, le [0] (by decide) (.c (.e rfl rfl) (.c (.e rfl rfl) (.c (.e rfl rfl) (.c .a (.c .a (.c .a (.c .a (.c .a (.c .a (.c (.w n0) (.c (.e (wi (by omega)) rfl) (.c .a (.c .a (.c .a (.c .a (.c .a (.c .a (.c .a (.c .a (.c .a (.c .a (.c .a (.c .a (.c .a (.c .a (.c .a (.c .a (.c .a (.c .a (.c .a (.c .a (.c .a (.c .a (.c .a (.c .a (.c .a (.c .a (.c .a (.c .a (.c .a (.c .a (.c .a (.c .a (.c .a (.c .a (.c .a (.c .a (.c .a (.c .a (.c .a (.c .a (.c .a .n)))))))))))))))))))))))))))))))))))))))))))))))))))) (.r n0 rfl .n)⟩
        ·
          replace hm := cf h10 hm
          have h10d := of_decide_eq_false h10
          refine ex (x1 ?_)
          replace hm := inr1 hm hq6
          exact ⟨(v0_1, v0r1), hm, le [0] (by decide) (.c .a (.c (.e rfl rfl) (.c .a (.c .a (.c .a (.c .a (.c .a (.c .a (.c .a (.c (.w n0) (.c .a (.c .a (.c .a (.c .a (.c .a (.c .a (.c .a (.c .a (.c .a (.c .a (.c .a (.c .a (.c .a (.c .a (.c .a (.c .a (.c .a (.c .a (.c .a (.c .a (.c .a (.c .a (.c .a (.c .a (.c .a (.c .a (.c .a (.c .a (.c .a (.c .a (.c .a (.c .a (.c .a (.c .a (.c .a (.c .a (.c .a (.c .a (.c .a (.c .a (.c .a (.c .a .n)))))))))))))))))))))))))))))))))))))))))))))))))))) (.r n0 rfl .n)⟩
      ·
        obtain ⟨j1_1, j1r1⟩ := t
        dsimp only at hm ⊢
        refine sr <| m (mv (.t n9)) u50 <| m (mv (.t n1)) u51 <| m (as_ (.t n50)) u6 <| m (as_ (.t n51)) u7 <| m (as_ .b) u8 <| e ?_
        replace hm := sj hm
        subst hm
        exact rt (ret2 (.t n6 (.o n0) (.t n7 (.p rfl) (.t n8 (.p rfl) .n))) rfl)

theorem tot_impl_DecodeInts (b_ : List Int) (offset_ : Int) (count_ : Int) (hp0 : bytesOk b_) : Spec Tryz.prog G0 114 [.slice 1 (b_.map y8), .int .i64 offset_, .int .i64 count_] (fun v => v = .tup [.slice 1 (((decodeF b_ offset_ count_).1).map iV), .int .i64 ((decodeF b_ offset_ count_).2.1), .bool ((decodeF b_ offset_ count_).2.2)]) := sp_impl_DecodeInts b_ offset_ count_ _ (t_impl_DecodeInts b_ offset_ count_ hp0)

theorem sp_spec_Hash (l_ : List Int) (r : Int) (hm : m_spec_Hash l_ = some r) : Spec Tryz.prog G0 145 [.slice 1 (l_.map iV)] (fun v => v = .int .i64 r) := by
  rw [m_spec_Hash] at hm
  refine enter (l := [.tmp 2]) Tryz.func145 rfl Tryz.ntmps145 rfl T.en145 fun E => ?_
  simp only [List.length_cons, List.length_nil, List.replicate_succ, List.replicate_zero, List.cons_append, List.nil_append, Nat.reduceAdd, Nat.reduceSub]
  refine sr <| m (as_ (.i rfl)) u2 <| e ?_
  refine sr <| m (as_ (.i rfl)) u3 <| e ?_
  refine sq ?_
  refine sr <| m (as_ (.i rfl)) u4 <| e ?_
  refine jmb hm (fun j0_3 : Int => ⟨[.any, .any, .any, .int .i64 j0_3, .any, .any, .any, .any, .any, .any, .any, .any, .any, .any, .any, .any, .any, .any, .any, .any, .any, .any], []⟩) (fun _ hm hq1 => ?_) (fun j0_3 hm => ?_)
  ·
    refine bk ?_
    refine lpf (m := m_spec_Hash_l0 l_) hm (fun yy2_ : Int × Nat => ⟨[.slice 1 (l_.map iV), .any, .any, .int .i64 yy2_.1, .int .i64 (yy2_.2 : Int), .any, .any, .any, .any, .any, .any, .any, .any, .any, .any, .any, .any, .any, .any, .any, .any, .any], []⟩) (fun _ => rfl) (le [] (by decide) (.c (.e rfl rfl) (.c .a (.c .a (.c (.e rfl rfl) (.c (.e rfl rfl) (.c .a (.c .a (.c .a (.c .a (.c .a (.c .a (.c .a (.c .a (.c .a (.c .a (.c .a (.c .a (.c .a (.c .a (.c .a (.c .a (.c .a .n)))))))))))))))))))))) .n) ?_
    rintro f ⟨v0_3, i0⟩ hm
    rw [m_spec_Hash_l0] at hm
    dsimp only at hm ⊢
    refine sq ?_
    refine sr <| m (mv (.t n4)) u5 <| m (mv (.t n0)) u6 <| m (lenm (l := l_) (f := iV) T.s95 (.t n6)) u7 <| m (lss (.t n5) (.t n7)) u8 <| e ?_
    refine rng n7 fun _ ra3 => ?_
    replace ra3 := (show (_ : Int) ≤ 9223372036854775807 from ra3)
    refine cnd n8 (fun h4 => ?_) (fun h4 => ?_)
    ·
      replace hm := ct h4 hm
      have h4d := of_decide_eq_true h4
      refine skp ?_
      refine sq ?_
      refine bk ?_
      obtain ⟨z5, e6, hm⟩ := bd_some hm
      refine rg <| m (mv (.t n3)) u11 <| m (mul (.t n11) (.i rfl)) u12 <| m (mv (.t n0)) u13 <| m (mv (.t n4)) u14 <| m (ixq (f := iV) e6 T.s95 (.t n13) (.t n14)) u15 <| m (lde T.o3 n0 (.t n15)) u16 <| c (call (tot_spec_Mod z5 (2147483647 : Int)) (.c (.t n16) rfl (.c (.i rfl) rfl .n))) u17 <| m (add (.t n12) (.t n17)) u18 <| m (add (.t n18) (.i rfl)) u19 <| m (rem (by decide) (.t n19) (.i rfl)) u20 <| m (as_ (.t n20)) u3 <| e ?_
      refine rg <| m (mv (.t n4)) u9 <| m (add (.t n9) (.i rfl)) u10 <| m (as_ (.t n10)) u4 <| e ?_
      exact ⟨((IntKind.i64.wrap (IntKind.i64.wrap (IntKind.i64.wrap (v0_3 * (1000003 : Int)) + (modI z5 (2147483647 : Int))) + (13 : Int))).tmod (2147483647 : Int), i0 + 1), hm, le [] (by decide) (.c (.e rfl rfl) (.c .a (.c .a (.c (.e rfl rfl) (.c (.e (wi (by omega)) rfl) (.c .a (.c .a (.c .a (.c .a (.c .a (.c .a (.c .a (.c .a (.c .a (.c .a (.c .a (.c .a (.c .a (.c .a (.c .a (.c .a (.c .a .n)))))))))))))))))))))) .n⟩
    ·
      replace hm := cf h4 hm
      have h4d := of_decide_eq_false h4
      refine ex (x1 ?_)
      replace hm := sj hm
      subst hm
      have hm := hq1
      exact ⟨v0_3, hm, le [] (by decide) (.c .a (.c .a (.c .a (.c (.e rfl rfl) (.c .a (.c .a (.c .a (.c .a (.c .a (.c .a (.c .a (.c .a (.c .a (.c .a (.c .a (.c .a (.c .a (.c .a (.c .a (.c .a (.c .a (.c .a .n)))))))))))))))))))))) .n⟩
  ·
    refine sr <| m (mv (.t n3)) u21 <| m (as_ (.t n21)) u2 <| e ?_
    replace hm := sj hm
    subst hm
    exact rt (ret1 (.t n2 (.p rfl) .n) rfl)

theorem tot_spec_Hash (l_ : List Int)  : Spec Tryz.prog G0 145 [.slice 1 (l_.map iV)] (fun v => v = .int .i64 (hashI l_)) := sp_spec_Hash l_ _ (t_spec_Hash l_)

theorem sp_spec_KeyedHash (secret_ : Int) (l_ : List Int) (r : Int) (hm : m_spec_KeyedHash secret_ l_ = some r) : Spec Tryz.prog G0 97 [.int .i64 secret_, .slice 1 (l_.map iV)] (fun v => v = .int .i64 r) := by
  rw [m_spec_KeyedHash] at hm
  refine enter (l := [.tmp 4]) Tryz.func97 rfl Tryz.ntmps97 rfl T.en97 fun E => ?_
  simp only [List.length_cons, List.length_nil, List.replicate_succ, List.replicate_zero, List.cons_append, List.nil_append, Nat.reduceAdd, Nat.reduceSub]
  refine sr <| m (as_ (.i rfl)) u4 <| e ?_
  obtain ⟨c1, hm⟩ := gd_some hm
  obtain ⟨c2, hm⟩ := gd_some hm
  refine sr <| m (mv (.t n0)) u5 <| k (bom ([secret_] : List Int) iV T.s95 rfl rfl (.c (.t n5) rfl rfl rfl .n) rfl s0 u6) <| m (mv (.t n1)) u7 <| k (apm (l := ([secret_] : List Int)) (l2 := l_) (f := iV) 6 c1 rfl (fun _ => rfl) T.s95 rfl n6 u6 n0 (.t n7) q0 rfl u8) <| m (mv (.t n0)) u9 <| k (bsm ([secret_] : List Int) iV T.s95 rfl rfl (.c (.t n9) rfl rfl rfl .n) rfl u10) <| k (apm (l := (([secret_] : List Int) ++ l_)) (l2 := ([secret_] : List Int)) (f := iV) 8 c2 rfl (fun _ => rfl) T.s95 rfl n8 u8 n0 (.t n10) q0 rfl u11) <| c (callm (tot_spec_Hash ((([secret_] : List Int) ++ l_) ++ ([secret_] : List Int))) rfl (.c (.t n11) (.o n0) .n)) u12 <| m (as_ (.t n12)) u4 <| e ?_
  replace hm := sj hm
  subst hm
  exact rt (ret1 (.t n4 (.p rfl) .n) rfl)

theorem tot_spec_KeyedHash (secret_ : Int) (l_ : List Int) (hp0 : l_.length ≤ 34359738368) : Spec Tryz.prog G0 97 [.int .i64 secret_, .slice 1 (l_.map iV)] (fun v => v = .int .i64 (keyedI secret_ l_)) := sp_spec_KeyedHash secret_ l_ _ (t_spec_KeyedHash secret_ l_ hp0)

theorem sp_spec_IsValidKey (secret_ : Int) (r : Bool) (hm : m_spec_IsValidKey secret_ = some r) : Spec Tryz.prog G0 112 [.int .i64 secret_] (fun v => v = .bool r) := by
  rw [m_spec_IsValidKey] at hm
  refine enter (l := [.tmp 2]) Tryz.func112 rfl Tryz.ntmps112 rfl T.en112 fun E => ?_
  simp only [List.length_cons, List.length_nil, List.replicate_succ, List.replicate_zero, List.cons_append, List.nil_append, Nat.reduceAdd, Nat.reduceSub]
  refine sr <| m (as_ .b) u2 <| e ?_
  refine sr <| m (mv (.t n0)) u3 <| c (call (tot_spec_l1In secret_ (1 : Int) (2147483646 : Int)) (.c (.t n3) rfl (.c (.i rfl) rfl (.c (.i rfl) rfl .n)))) u4 <| m (as_ (.t n4)) u2 <| e ?_
  replace hm := sj hm
  subst hm
  exact rt (ret1 (.t n2 (.p rfl) .n) rfl)

theorem tot_spec_IsValidKey (secret_ : Int)  : Spec Tryz.prog G0 112 [.int .i64 secret_] (fun v => v = .bool (keyF secret_)) := sp_spec_IsValidKey secret_ _ (t_spec_IsValidKey secret_)

theorem sp_spec_BytesToInts (b_ : List Int) (r : (List Int)) (hm : m_spec_BytesToInts b_ = some r) : Spec Tryz.prog G0 147 [.slice 1 (b_.map y8)] (fun v => v = .slice 1 (r.map iV)) := by
  rw [m_spec_BytesToInts] at hm
  refine enter (l := [.tmp 2]) Tryz.func147 rfl Tryz.ntmps147 rfl T.en147 fun E => ?_
  simp only [List.length_cons, List.length_nil, List.replicate_succ, List.replicate_zero, List.cons_append, List.nil_append, Nat.reduceAdd, Nat.reduceSub]
  refine sr <| m (as_ .n) u2 <| e ?_
  refine sr <| m (mv (.t n0)) u5 <| m (lenm (l := b_) (f := y8) T.s174 (.t n5)) u6 <| k (bom ([(b_.length : Int)] : List Int) iV T.s95 rfl rfl (.c (.t n6) rfl rfl rfl .n) rfl s0 u7) <| m (as_ (.t n7)) u3 <| e ?_
  refine sq ?_
  refine sr <| m (as_ (.i rfl)) u4 <| e ?_
  refine jmb hm (fun j0r1 : List Int => ⟨[.any, .any, .any, .own 0, .any, .any, .any, .any, .any, .any, .any, .any, .any, .any, .any, .any, .any, .any, .any, .any, .any, .any, .any], [.row 3 1 (j0r1.map iV)]⟩) (fun _ hm hq1 => ?_) (fun j0r1 hm => ?_)
  ·
    refine bk ?_
    refine lpf (m := m_spec_BytesToInts_l0 b_) hm (fun yy2_ : Nat × (List Int) => ⟨[.slice 1 (b_.map y8), .any, .any, .own 0, .int .i64 (yy2_.1 : Int), .any, .any, .any, .any, .any, .any, .any, .any, .any, .any, .any, .any, .any, .any, .any, .any, .any, .any], [.row 3 1 (yy2_.2.map iV)]⟩) (fun _ => rfl) (le [0] (by decide) (.c (.e rfl rfl) (.c .a (.c .a (.c (.w n0) (.c (.e rfl rfl) (.c .a (.c .a (.c .a (.c .a (.c .a (.c .a (.c .a (.c .a (.c .a (.c .a (.c .a (.c .a (.c .a (.c .a (.c .a (.c .a (.c .a (.c .a .n))))))))))))))))))))))) (.r n0 rfl .n)) ?_
    rintro f ⟨i0, v0r1⟩ hm
    rw [m_spec_BytesToInts_l0] at hm
    dsimp only at hm ⊢
    refine sq ?_
    refine sr <| m (mv (.t n4)) u8 <| m (mv (.t n0)) u9 <| m (lenm (l := b_) (f := y8) T.s174 (.t n9)) u10 <| m (lss (.t n8) (.t n10)) u11 <| e ?_
    refine rng n10 fun _ ra3 => ?_
    replace ra3 := (show (_ : Int) ≤ 9223372036854775807 from ra3)
    refine cnd n11 (fun h4 => ?_) (fun h4 => ?_)
    ·
      replace hm := ct h4 hm
      have h4d := of_decide_eq_true h4
      refine skp ?_
      refine sq ?_
      refine bk ?_
      obtain ⟨z5, e6, hm⟩ := bd_some hm
      obtain ⟨c7, hm⟩ := gd_some hm
      refine rg <| m (mv (.t n3)) u14 <| m (mv (.t n0)) u15 <| m (mv (.t n4)) u16 <| m (ixq (f := y8) e6 T.s174 (.t n15) (.t n16)) u17 <| m (lde T.o5 n0 (.t n17)) u18 <| m (cnv T.is5 Tryz.underlying3 (.t n18)) u19 <| k (bsm ([IntKind.i64.wrap z5] : List Int) iV T.s95 rfl rfl (.c (.t n19) rfl rfl rfl .n) rfl u20) <| dr u3 <| k (apm (l := v0r1) (l2 := ([IntKind.i64.wrap z5] : List Int)) (f := iV) 14 c7 rfl (fun _ => rfl) T.s95 rfl n14 u14 n0 (.t n20) q0 rfl u21) <| m (as_ (.t n21)) u3 <| e ?_
      refine rg <| m (mv (.t n4)) u12 <| m (add (.t n12) (.i rfl)) u13 <| m (as_ (.t n13)) u4 <| e ?_
      exact ⟨(i0 + 1, (v0r1 ++ ([IntKind.i64.wrap z5] : List Int))), hm, le [0] (by decide) (.c (.e rfl rfl) (.c .a (.c .a (.c (.w n0) (.c (.e (wi (by omega)) rfl) (.c .a (.c .a (.c .a (.c .a (.c .a (.c .a (.c .a (.c .a (.c .a (.c .a (.c .a (.c .a (.c .a (.c .a (.c .a (.c .a (.c .a (.c .a .n))))))))))))))))))))))) (.r n0 rfl .n)⟩
    ·
      replace hm := cf h4 hm
      have h4d := of_decide_eq_false h4
      refine ex (x1 ?_)
      replace hm := sj hm
      subst hm
      have hm := hq1
      exact ⟨v0r1, hm, le [0] (by decide) (.c .a (.c .a (.c .a (.c (.w n0) (.c .a (.c .a (.c .a (.c .a (.c .a (.c .a (.c .a (.c .a (.c .a (.c .a (.c .a (.c .a (.c .a (.c .a (.c .a (.c .a (.c .a (.c .a (.c .a .n))))))))))))))))))))))) (.r n0 rfl .n)⟩
  ·
    refine sr <| m (mv (.t n3)) u22 <| m (as_ (.t n22)) u2 <| e ?_
    replace hm := sj hm
    subst hm
    exact rt (ret1 (.t n2 (.o n0) .n) rfl)

theorem tot_spec_BytesToInts (b_ : List Int) (hp0 : b_.length ≤ 34359738300) : Spec Tryz.prog G0 147 [.slice 1 (b_.map y8)] (fun v => v = .slice 1 ((b2iF b_).map iV)) := sp_spec_BytesToInts b_ _ (t_spec_BytesToInts b_ hp0)

theorem sp_spec_Decrypt (secret_ : Int) (b_ : List Int) (r : (List Int)) (hm : m_spec_Decrypt secret_ b_ = some r) : Spec Tryz.prog G0 175 [.int .i64 secret_, .slice 1 (b_.map y8)] (fun v => v = .slice 1 (r.map y8)) := by
  rw [m_spec_Decrypt] at hm
  refine enter (l := [.tmp 4]) Tryz.func175 rfl Tryz.ntmps175 rfl T.en175 fun E => ?_
  simp only [List.length_cons, List.length_nil, List.replicate_succ, List.replicate_zero, List.cons_append, List.nil_append, Nat.reduceAdd, Nat.reduceSub]
  refine sr <| m (as_ .n) u4 <| e ?_
  refine sr <| k (bom ([] : List Int) y8 T.s174 rfl rfl .n rfl s0 u7) <| m (as_ (.t n7)) u5 <| e ?_
  refine sq ?_
  refine sr <| m (as_ (.i rfl)) u6 <| e ?_
  refine jmb hm (fun j0r1 : List Int => ⟨[.any, .any, .any, .any, .any, .own 0, .any, .any, .any, .any, .any, .any, .any, .any, .any, .any, .any, .any, .any, .any, .any, .any, .any, .any, .any, .any, .any, .any, .any, .any, .any], [.row 5 1 (j0r1.map y8)]⟩) (fun _ hm hq1 => ?_) (fun j0r1 hm => ?_)
  ·
    refine bk ?_
    refine lpf (m := m_spec_Decrypt_l0 secret_ b_) hm (fun yy2_ : Nat × (List Int) => ⟨[.int .i64 secret_, .slice 1 (b_.map y8), .any, .any, .any, .own 0, .int .i64 (yy2_.1 : Int), .any, .any, .any, .any, .any, .any, .any, .any, .any, .any, .any, .any, .any, .any, .any, .any, .any, .any, .any, .any, .any, .any, .any, .any], [.row 5 1 (yy2_.2.map y8)]⟩) (fun _ => rfl) (le [0] (by decide) (.c (.e rfl rfl) (.c (.e rfl rfl) (.c .a (.c .a (.c .a (.c (.w n0) (.c (.e rfl rfl) (.c .a (.c .a (.c .a (.c .a (.c .a (.c .a (.c .a (.c .a (.c .a (.c .a (.c .a (.c .a (.c .a (.c .a (.c .a (.c .a (.c .a (.c .a (.c .a (.c .a (.c .a (.c .a (.c .a (.c .a .n))))))))))))))))))))))))))))))) (.r n0 rfl .n)) ?_
    rintro f ⟨i0, v0r1⟩ hm
    rw [m_spec_Decrypt_l0] at hm
    dsimp only at hm ⊢
    refine sq ?_
    refine sr <| m (mv (.t n6)) u8 <| m (mv (.t n1)) u9 <| m (lenm (l := b_) (f := y8) T.s174 (.t n9)) u10 <| m (lss (.t n8) (.t n10)) u11 <| e ?_
    refine rng n10 fun _ ra3 => ?_
    replace ra3 := (show (_ : Int) ≤ 9223372036854775807 from ra3)
    refine cnd n11 (fun h4 => ?_) (fun h4 => ?_)
    ·
      replace hm := ct h4 hm
      have h4d := of_decide_eq_true h4
      refine skp ?_
      refine sq ?_
      refine bk ?_
      obtain ⟨z5, e6, hm⟩ := bd_some hm
      obtain ⟨c7, hm⟩ := gd_some hm
      obtain ⟨c8, hm⟩ := gd_some hm
      refine rd (some 15) [(0, true), (1, true), (2, true), (3, true), (4, true), (5, true), (6, true), (7, true), (8, false), (9, false), (10, true), (11, true), (12, false), (13, true), (14, false), (15, false), (16, false)] T.mix (by kernel_rfl) <| om n0 (mv (.t n5)) u14 <| om n1 (mv (.t n1)) u15 <| om n2 (mv (.t n6)) u16 <| om n3 (ixq (f := y8) e6 T.s174 (.t n15) (.t n16)) u17 <| om n4 (lde T.o5 n0 (.t n17)) u18 <| om n5 (cnv T.is5 Tryz.underlying3 (.t n18)) u19 <| om n6 (mv (.t n0)) u20 <| om n7 (mv (.t n6)) u21 <| ok_ n8 (bsm ([(i0 : Int)] : List Int) iV T.s95 rfl rfl (.c (.t n21) rfl rfl rfl .n) rfl u22) <| oc n9 (call (tot_spec_KeyedHash secret_ ([(i0 : Int)] : List Int) c7) (.c (.t n20) rfl (.c (.t n22) rfl .n))) u23 <| om n10 (rem (by decide) (.t n23) (.i rfl)) u24 <| om n11 (sub (.t n19) (.t n24)) u25 <| oc n12 (call (tot_spec_Mod (IntKind.i64.wrap (IntKind.i64.wrap z5 - (keyedI secret_ ([(i0 : Int)] : List Int)).tmod (256 : Int))) (256 : Int)) (.c (.t n25) rfl (.c (.i rfl) rfl .n))) u26 <| om n13 (cnv T.is3 Tryz.underlying5 (.t n26)) u27 <| ok_ n14 (bsm ([IntKind.u8.wrap (modI (IntKind.i64.wrap (IntKind.i64.wrap z5 - (keyedI secret_ ([(i0 : Int)] : List Int)).tmod (256 : Int))) (256 : Int))] : List Int) y8 T.s174 rfl rfl (.c (.t n27) rfl rfl rfl .n) rfl u28) <| dro u5 <| oka n15 (apm (l := v0r1) (l2 := ([IntKind.u8.wrap (modI (IntKind.i64.wrap (IntKind.i64.wrap z5 - (keyedI secret_ ([(i0 : Int)] : List Int)).tmod (256 : Int))) (256 : Int))] : List Int)) (f := y8) 14 c8 rfl (fun _ => rfl) T.s174 rfl n14 u14 n0 (.t n28) q0 rfl u29) (hzs hz0) <| zf n16 (as_ (.t n29)) u5 <| ze ?_
      refine rg <| m (mv (.t n6)) u12 <| m (add (.t n12) (.i rfl)) u13 <| m (as_ (.t n13)) u6 <| e ?_
      exact ⟨(i0 + 1, (v0r1 ++ ([IntKind.u8.wrap (modI (IntKind.i64.wrap (IntKind.i64.wrap z5 - (keyedI secret_ ([(i0 : Int)] : List Int)).tmod (256 : Int))) (256 : Int))] : List Int))), hm, le [0] (by decide) (.c (.e rfl rfl) (.c (.e rfl rfl) (.c .a (.c .a (.c .a (.c (.w n0) (.c (.e (wi (by omega)) rfl) (.c .a (.c .a (.c .a (.c .a (.c .a (.c .a (.c .a (.c .a (.c .a (.c .a (.c .a (.c .a (.c .a (.c .a (.c .a (.c .a (.c .a (.c .a (.c .a (.c .a (.c .a (.c .a (.c .a (.c .a .n))))))))))))))))))))))))))))))) (.r n0 rfl .n)⟩
    ·
      replace hm := cf h4 hm
      have h4d := of_decide_eq_false h4
      refine ex (x1 ?_)
      replace hm := sj hm
      subst hm
      have hm := hq1
      exact ⟨v0r1, hm, le [0] (by decide) (.c .a (.c .a (.c .a (.c .a (.c .a (.c (.w n0) (.c .a (.c .a (.c .a (.c .a (.c .a (.c .a (.c .a (.c .a (.c .a (.c .a (.c .a (.c .a (.c .a (.c .a (.c .a (.c .a (.c .a (.c .a (.c .a (.c .a (.c .a (.c .a (.c .a (.c .a (.c .a .n))))))))))))))))))))))))))))))) (.r n0 rfl .n)⟩
  ·
    refine sr <| m (mv (.t n5)) u30 <| m (as_ (.t n30)) u4 <| e ?_
    replace hm := sj hm
    subst hm
    exact rt (ret1 (.t n4 (.o n0) .n) rfl)

theorem tot_spec_Decrypt (secret_ : Int) (b_ : List Int) (hp0 : b_.length ≤ 34359738368) : Spec Tryz.prog G0 175 [.int .i64 secret_, .slice 1 (b_.map y8)] (fun v => v = .slice 1 ((decF secret_ b_).map y8)) := sp_spec_Decrypt secret_ b_ _ (t_spec_Decrypt secret_ b_ hp0)

theorem sp_impl_joined (first_ : List Int) (rest_ : List (List Int)) (r : (List Int)) (hm : m_impl_joined first_ rest_ = some r) : Spec Tryz.prog G0 100 [.slice 1 (first_.map iV), .slice 1 (rest_.map (fun l => [V.slice 1 (l.map iV)]))] (fun v => v = .slice 1 (r.map iV)) := by
  rw [m_impl_joined] at hm
  refine enter (l := [.tmp 4]) Tryz.func100 rfl Tryz.ntmps100 rfl T.en100 fun E => ?_
  simp only [List.length_cons, List.length_nil, List.replicate_succ, List.replicate_zero, List.cons_append, List.nil_append, Nat.reduceAdd, Nat.reduceSub]
  refine sr <| m (as_ .n) u4 <| e ?_
  obtain ⟨c1, hm⟩ := gd_some hm
  refine sr <| k (bom ([] : List Int) iV T.s95 rfl rfl .n rfl s0 u8) <| m (mv (.t n0)) u9 <| k (apm (l := ([] : List Int)) (l2 := first_) (f := iV) 8 c1 rfl (fun _ => rfl) T.s95 rfl n8 u8 n0 (.t n9) q0 rfl u10) <| m (as_ (.t n10)) u5 <| e ?_
  refine sq ?_
  refine sr <| m (mv (.t n1)) u11 <| m (lenm (l := rest_) (f := (fun l => [V.slice 1 (l.map iV)])) T.s216 (.t n11)) u12 <| m (mv (.i rfl)) u13 <| e ?_
  refine jmb hm (fun j0r1 : List Int => ⟨[.any, .any, .any, .any, .any, .own 0, .any, .any, .any, .any, .any, .any, .any, .any, .any, .any, .any, .any, .any, .any, .any, .any], [.row 3 1 (j0r1.map iV)]⟩) (fun _ hm hq2 => ?_) (fun j0r1 hm => ?_)
  ·
    refine bk ?_
    refine lpf (m := m_impl_joined_l0 rest_) hm (fun yy3_ : Nat × (List Int) => ⟨[.any, .any, .any, .any, .any, .own 0, .any, .any, .any, .any, .any, .slice 1 (rest_.map (fun l => [V.slice 1 (l.map iV)])), .int .i64 (rest_.length : Int), .int .i64 (yy3_.1 : Int), .any, .any, .any, .any, .any, .any, .any, .any], [.row 3 1 (yy3_.2.map iV)]⟩) (fun _ => rfl) (le [0] (by decide) (.c .a (.c .a (.c .a (.c .a (.c .a (.c (.w n0) (.c .a (.c .a (.c .a (.c .a (.c .a (.c (.e rfl rfl) (.c (.e rfl rfl) (.c (.e rfl rfl) (.c .a (.c .a (.c .a (.c .a (.c .a (.c .a (.c .a (.c .a .n)))))))))))))))))))))) (.r n0 rfl .n)) ?_
    rintro f ⟨i0, v0r1⟩ hm
    rw [m_impl_joined_l0] at hm
    dsimp only at hm ⊢
    refine sr <| m (lss (.t n13) (.t n12)) u14 <| e ?_
    refine rng n12 fun _ ra4 => ?_
    replace ra4 := (show (_ : Int) ≤ 9223372036854775807 from ra4)
    refine sq ?_
    refine cnd n14 (fun h5 => ?_) (fun h5 => ?_)
    ·
      replace hm := ct h5 hm
      have h5d := of_decide_eq_true h5
      refine skp ?_
      refine sq ?_
      refine bk ?_
      obtain ⟨z6, e7, hm⟩ := bd_some hm
      refine sr <| m (ixq (f := (fun l => [V.slice 1 (l.map iV)])) e7 T.s216 (.t n11) (.t n13)) u15 <| m (lde T.o95 n0 (.t n15)) u16 <| m (as_ (.t n16)) u7 <| e ?_
      obtain ⟨c8, hm⟩ := gd_some hm
      refine rg <| m (mv (.t n5)) u17 <| m (mv (.t n7)) u18 <| dr u5 <| k (apm (l := v0r1) (l2 := z6) (f := iV) 17 c8 rfl (fun _ => rfl) T.s95 rfl n17 u17 n0 (.t n18) q0 rfl u19) <| m (as_ (.t n19)) u5 <| e ?_
      refine rg <| m (add (.t n13) (.i rfl)) u20 <| m (mv (.t n20)) u13 <| e ?_
      exact ⟨(i0 + 1, (v0r1 ++ z6)), hm, le [0] (by decide) (.c .a (.c .a (.c .a (.c .a (.c .a (.c (.w n0) (.c .a (.c .a (.c .a (.c .a (.c .a (.c (.e rfl rfl) (.c (.e rfl rfl) (.c (.e (wi (by omega)) rfl) (.c .a (.c .a (.c .a (.c .a (.c .a (.c .a (.c .a (.c .a .n)))))))))))))))))))))) (.r n0 rfl .n)⟩
    ·
      replace hm := cf h5 hm
      have h5d := of_decide_eq_false h5
      refine ex (x1 ?_)
      replace hm := sj hm
      subst hm
      have hm := hq2
      exact ⟨v0r1, hm, le [0] (by decide) (.c .a (.c .a (.c .a (.c .a (.c .a (.c (.w n0) (.c .a (.c .a (.c .a (.c .a (.c .a (.c .a (.c .a (.c .a (.c .a (.c .a (.c .a (.c .a (.c .a (.c .a (.c .a (.c .a .n)))))))))))))))))))))) (.r n0 rfl .n)⟩
  ·
    refine sr <| m (mv (.t n5)) u21 <| m (as_ (.t n21)) u4 <| e ?_
    replace hm := sj hm
    subst hm
    exact rt (ret1 (.t n4 (.o n0) .n) rfl)

theorem tot_impl_joined (first_ : List Int) (rest_ : List (List Int)) (hp0 : first_.length + rest_.flatten.length ≤ 68719476736) : Spec Tryz.prog G0 100 [.slice 1 (first_.map iV), .slice 1 (rest_.map (fun l => [V.slice 1 (l.map iV)]))] (fun v => v = .slice 1 ((joinF first_ rest_).map iV)) := sp_impl_joined first_ rest_ _ (t_impl_joined first_ rest_ hp0)

theorem sp_impl_Hash (values_ : List Int) (r : Int) (hm : m_impl_Hash values_ = some r) : Spec Tryz.prog G0 146 [.slice 1 (values_.map iV)] (fun v => v = .int .i64 r) := by
  rw [m_impl_Hash] at hm
  refine enter (l := [.tmp 2]) Tryz.func146 rfl Tryz.ntmps146 rfl T.en146 fun E => ?_
  simp only [List.length_cons, List.length_nil, List.replicate_succ, List.replicate_zero, List.cons_append, List.nil_append, Nat.reduceAdd, Nat.reduceSub]
  refine sr <| m (as_ (.i rfl)) u2 <| e ?_
  refine sr <| m (as_ (.i rfl)) u3 <| e ?_
  refine sq ?_
  refine sr <| m (mv (.t n0)) u6 <| m (lenm (l := values_) (f := iV) T.s95 (.t n6)) u7 <| m (mv (.i rfl)) u8 <| e ?_
  refine jmb hm (fun j0_3 : Int => ⟨[.any, .any, .any, .int .i64 j0_3, .any, .any, .any, .any, .any, .any, .any, .any, .any, .any, .any, .any, .any, .any, .any, .any, .any], []⟩) (fun _ hm hq1 => ?_) (fun j0_3 hm => ?_)
  ·
    refine bk ?_
    refine lpf (m := m_impl_Hash_l0 values_) hm (fun yy2_ : Int × Nat => ⟨[.any, .any, .any, .int .i64 yy2_.1, .any, .any, .slice 1 (values_.map iV), .int .i64 (values_.length : Int), .int .i64 (yy2_.2 : Int), .any, .any, .any, .any, .any, .any, .any, .any, .any, .any, .any, .any], []⟩) (fun _ => rfl) (le [] (by decide) (.c .a (.c .a (.c .a (.c (.e rfl rfl) (.c .a (.c .a (.c (.e rfl rfl) (.c (.e rfl rfl) (.c (.e rfl rfl) (.c .a (.c .a (.c .a (.c .a (.c .a (.c .a (.c .a (.c .a (.c .a (.c .a (.c .a (.c .a .n))))))))))))))))))))) .n) ?_
    rintro f ⟨v0_3, i0⟩ hm
    rw [m_impl_Hash_l0] at hm
    dsimp only at hm ⊢
    refine sr <| m (lss (.t n8) (.t n7)) u9 <| e ?_
    refine rng n7 fun _ ra3 => ?_
    replace ra3 := (show (_ : Int) ≤ 9223372036854775807 from ra3)
    refine sq ?_
    refine cnd n9 (fun h4 => ?_) (fun h4 => ?_)
    ·
      replace hm := ct h4 hm
      have h4d := of_decide_eq_true h4
      refine skp ?_
      refine sq ?_
      refine bk ?_
      obtain ⟨z5, e6, hm⟩ := bd_some hm
      refine sr <| m (ixq (f := iV) e6 T.s95 (.t n6) (.t n8)) u10 <| m (lde T.o3 n0 (.t n10)) u11 <| m (as_ (.t n11)) u5 <| e ?_
      refine rg <| m (mv (.t n3)) u12 <| m (mul (.t n12) (.i rfl)) u13 <| m (mv (.t n5)) u14 <| c (call (tot_impl_Mod z5 (2147483647 : Int)) (.c (.t n14) rfl (.c (.i rfl) rfl .n))) u15 <| m (add (.t n13) (.t n15)) u16 <| m (add (.t n16) (.i rfl)) u17 <| m (rem (by decide) (.t n17) (.i rfl)) u18 <| m (as_ (.t n18)) u3 <| e ?_
      refine rg <| m (add (.t n8) (.i rfl)) u19 <| m (mv (.t n19)) u8 <| e ?_
      exact ⟨((IntKind.i64.wrap (IntKind.i64.wrap (IntKind.i64.wrap (v0_3 * (1000003 : Int)) + (modI z5 (2147483647 : Int))) + (13 : Int))).tmod (2147483647 : Int), i0 + 1), hm, le [] (by decide) (.c .a (.c .a (.c .a (.c (.e rfl rfl) (.c .a (.c .a (.c (.e rfl rfl) (.c (.e rfl rfl) (.c (.e (wi (by omega)) rfl) (.c .a (.c .a (.c .a (.c .a (.c .a (.c .a (.c .a (.c .a (.c .a (.c .a (.c .a (.c .a .n))))))))))))))))))))) .n⟩
    ·
      replace hm := cf h4 hm
      have h4d := of_decide_eq_false h4
      refine ex (x1 ?_)
      replace hm := sj hm
      subst hm
      have hm := hq1
      exact ⟨v0_3, hm, le [] (by decide) (.c .a (.c .a (.c .a (.c (.e rfl rfl) (.c .a (.c .a (.c .a (.c .a (.c .a (.c .a (.c .a (.c .a (.c .a (.c .a (.c .a (.c .a (.c .a (.c .a (.c .a (.c .a (.c .a .n))))))))))))))))))))) .n⟩
  ·
    refine sr <| m (mv (.t n3)) u20 <| m (as_ (.t n20)) u2 <| e ?_
    replace hm := sj hm
    subst hm
    exact rt (ret1 (.t n2 (.p rfl) .n) rfl)

theorem tot_impl_Hash (values_ : List Int)  : Spec Tryz.prog G0 146 [.slice 1 (values_.map iV)] (fun v => v = .int .i64 (hashI values_)) := sp_impl_Hash values_ _ (t_impl_Hash values_)

theorem sp_impl_KeyedHash (key_ : Int) (values_ : List Int) (r : Int) (hm : m_impl_KeyedHash key_ values_ = some r) : Spec Tryz.prog G0 99 [.int .i64 key_, .slice 1 (values_.map iV)] (fun v => v = .int .i64 r) := by
  rw [m_impl_KeyedHash] at hm
  refine enter (l := [.tmp 4]) Tryz.func99 rfl Tryz.ntmps99 rfl T.en99 fun E => ?_
  simp only [List.length_cons, List.length_nil, List.replicate_succ, List.replicate_zero, List.cons_append, List.nil_append, Nat.reduceAdd, Nat.reduceSub]
  refine sr <| m (as_ (.i rfl)) u4 <| e ?_
  obtain ⟨c1, hm⟩ := gd_some hm
  refine sr <| m (mv (.t n0)) u5 <| k (bsm ([key_] : List Int) iV T.s95 rfl rfl (.c (.t n5) rfl rfl rfl .n) rfl u6) <| m (mv (.t n1)) u7 <| m (mv (.t n0)) u8 <| k (bsm ([key_] : List Int) iV T.s95 rfl rfl (.c (.t n8) rfl rfl rfl .n) rfl u9) <| k (bsm ([values_, ([key_] : List Int)] : List (List Int)) (fun l => [V.slice 1 (l.map iV)]) T.s216 rfl rfl (.c (.t n7) rfl rfl rfl (.c (.t n9) rfl rfl rfl .n)) rfl u10) <| c (call (tot_impl_joined ([key_] : List Int) ([values_, ([key_] : List Int)] : List (List Int)) c1) (.c (.t n6) rfl (.c (.t n10) rfl .n))) u11 <| c (call (tot_impl_Hash (joinF ([key_] : List Int) ([values_, ([key_] : List Int)] : List (List Int)))) (.c (.t n11) rfl .n)) u12 <| m (as_ (.t n12)) u4 <| e ?_
  replace hm := sj hm
  subst hm
  exact rt (ret1 (.t n4 (.p rfl) .n) rfl)

theorem tot_impl_KeyedHash (key_ : Int) (values_ : List Int) (hp0 : values_.length ≤ 34359738368) : Spec Tryz.prog G0 99 [.int .i64 key_, .slice 1 (values_.map iV)] (fun v => v = .int .i64 (keyedI key_ values_)) := sp_impl_KeyedHash key_ values_ _ (t_impl_KeyedHash key_ values_ hp0)

theorem sp_impl_orOne (n_ : Int) (r : Int) (hm : m_impl_orOne n_ = some r) : Spec Tryz.prog G0 98 [.int .i64 n_] (fun v => v = .int .i64 r) := by
  rw [m_impl_orOne] at hm
  refine enter (l := [.tmp 2]) Tryz.func98 rfl Tryz.ntmps98 rfl T.en98 fun E => ?_
  simp only [List.length_cons, List.length_nil, List.replicate_succ, List.replicate_zero, List.cons_append, List.nil_append, Nat.reduceAdd, Nat.reduceSub]
  refine sr <| m (as_ (.i rfl)) u2 <| e ?_
  refine sq ?_
  refine sr <| m (mv (.t n0)) u3 <| m (eql (.t n3) (.i rfl)) u4 <| e ?_
  refine cnd n4 (fun h1 => ?_) (fun h1 => ?_)
  ·
    replace hm := ct h1 hm
    refine sr <| m (as_ (.i rfl)) u2 <| e ?_
    replace hm := sj hm
    subst hm
    exact rt (ret1 (.t n2 (.p rfl) .n) rfl)
  ·
    replace hm := cf h1 hm
    refine skp ?_
    refine sr <| m (mv (.t n0)) u5 <| m (as_ (.t n5)) u2 <| e ?_
    replace hm := sj hm
    subst hm
    exact rt (ret1 (.t n2 (.p rfl) .n) rfl)

theorem tot_impl_orOne (n_ : Int)  : Spec Tryz.prog G0 98 [.int .i64 n_] (fun v => v = .int .i64 (orOneF n_)) := sp_impl_orOne n_ _ (t_impl_orOne n_)

theorem sp_impl_IsValidKey (key_ : Int) (r : Bool) (hm : m_impl_IsValidKey key_ = some r) : Spec Tryz.prog G0 115 [.int .i64 key_] (fun v => v = .bool r) := by
  rw [m_impl_IsValidKey] at hm
  refine enter (l := [.tmp 2]) Tryz.func115 rfl Tryz.ntmps115 rfl T.en115 fun E => ?_
  simp only [List.length_cons, List.length_nil, List.replicate_succ, List.replicate_zero, List.cons_append, List.nil_append, Nat.reduceAdd, Nat.reduceSub]
  refine sr <| m (as_ .b) u2 <| e ?_
  refine sr <| m (mv (.t n0)) u3 <| c (call (tot_impl_InRange key_ (1 : Int) (2147483646 : Int)) (.c (.t n3) rfl (.c (.i rfl) rfl (.c (.i rfl) rfl .n)))) u4 <| m (as_ (.t n4)) u2 <| e ?_
  replace hm := sj hm
  subst hm
  exact rt (ret1 (.t n2 (.p rfl) .n) rfl)

theorem tot_impl_IsValidKey (key_ : Int)  : Spec Tryz.prog G0 115 [.int .i64 key_] (fun v => v = .bool (keyF key_)) := sp_impl_IsValidKey key_ _ (t_impl_IsValidKey key_)

theorem sp_impl_BytesToInts (b_ : List Int) (r : (List Int)) (hm : m_impl_BytesToInts b_ = some r) : Spec Tryz.prog G0 148 [.slice 1 (b_.map y8)] (fun v => v = .slice 1 (r.map iV)) := by
  rw [m_impl_BytesToInts] at hm
  refine enter (l := [.tmp 2]) Tryz.func148 rfl Tryz.ntmps148 rfl T.en148 fun E => ?_
  simp only [List.length_cons, List.length_nil, List.replicate_succ, List.replicate_zero, List.cons_append, List.nil_append, Nat.reduceAdd, Nat.reduceSub]
  refine sr <| m (as_ .n) u2 <| e ?_
  refine sr <| m (mv (.t n0)) u6 <| m (lenm (l := b_) (f := y8) T.s174 (.t n6)) u7 <| k (bom ([(b_.length : Int)] : List Int) iV T.s95 rfl rfl (.c (.t n7) rfl rfl rfl .n) rfl s0 u8) <| m (as_ (.t n8)) u3 <| e ?_
  refine sq ?_
  refine sr <| m (mv (.t n0)) u9 <| m (lenm (l := b_) (f := y8) T.s174 (.t n9)) u10 <| m (mv (.i rfl)) u11 <| e ?_
  refine jmb hm (fun j0r1 : List Int => ⟨[.any, .any, .any, .own 0, .any, .any, .any, .any, .any, .any, .any, .any, .any, .any, .any, .any, .any, .any, .any, .any, .any, .any], [.row 3 1 (j0r1.map iV)]⟩) (fun _ hm hq1 => ?_) (fun j0r1 hm => ?_)
  ·
    refine bk ?_
    refine lpf (m := m_impl_BytesToInts_l0 b_) hm (fun yy2_ : Nat × (List Int) => ⟨[.any, .any, .any, .own 0, .any, .any, .any, .any, .any, .slice 1 (b_.map y8), .int .i64 (b_.length : Int), .int .i64 (yy2_.1 : Int), .any, .any, .any, .any, .any, .any, .any, .any, .any, .any], [.row 3 1 (yy2_.2.map iV)]⟩) (fun _ => rfl) (le [0] (by decide) (.c .a (.c .a (.c .a (.c (.w n0) (.c .a (.c .a (.c .a (.c .a (.c .a (.c (.e rfl rfl) (.c (.e rfl rfl) (.c (.e rfl rfl) (.c .a (.c .a (.c .a (.c .a (.c .a (.c .a (.c .a (.c .a (.c .a (.c .a .n)))))))))))))))))))))) (.r n0 rfl .n)) ?_
    rintro f ⟨i0, v0r1⟩ hm
    rw [m_impl_BytesToInts_l0] at hm
    dsimp only at hm ⊢
    refine sr <| m (lss (.t n11) (.t n10)) u12 <| e ?_
    refine rng n10 fun _ ra3 => ?_
    replace ra3 := (show (_ : Int) ≤ 9223372036854775807 from ra3)
    refine sq ?_
    refine cnd n12 (fun h4 => ?_) (fun h4 => ?_)
    ·
      replace hm := ct h4 hm
      have h4d := of_decide_eq_true h4
      refine skp ?_
      refine sq ?_
      refine bk ?_
      obtain ⟨z5, e6, hm⟩ := bd_some hm
      refine sr <| m (ixq (f := y8) e6 T.s174 (.t n9) (.t n11)) u13 <| m (lde T.o5 n0 (.t n13)) u14 <| m (as_ (.t n14)) u5 <| e ?_
      obtain ⟨c7, hm⟩ := gd_some hm
      refine rg <| m (mv (.t n3)) u15 <| m (mv (.t n5)) u16 <| m (cnv T.is5 Tryz.underlying3 (.t n16)) u17 <| k (bsm ([IntKind.i64.wrap z5] : List Int) iV T.s95 rfl rfl (.c (.t n17) rfl rfl rfl .n) rfl u18) <| dr u3 <| k (apm (l := v0r1) (l2 := ([IntKind.i64.wrap z5] : List Int)) (f := iV) 15 c7 rfl (fun _ => rfl) T.s95 rfl n15 u15 n0 (.t n18) q0 rfl u19) <| m (as_ (.t n19)) u3 <| e ?_
      refine rg <| m (add (.t n11) (.i rfl)) u20 <| m (mv (.t n20)) u11 <| e ?_
      exact ⟨(i0 + 1, (v0r1 ++ ([IntKind.i64.wrap z5] : List Int))), hm, le [0] (by decide) (.c .a (.c .a (.c .a (.c (.w n0) (.c .a (.c .a (.c .a (.c .a (.c .a (.c (.e rfl rfl) (.c (.e rfl rfl) (.c (.e (wi (by omega)) rfl) (.c .a (.c .a (.c .a (.c .a (.c .a (.c .a (.c .a (.c .a (.c .a (.c .a .n)))))))))))))))))))))) (.r n0 rfl .n)⟩
    ·
      replace hm := cf h4 hm
      have h4d := of_decide_eq_false h4
      refine ex (x1 ?_)
      replace hm := sj hm
      subst hm
      have hm := hq1
      exact ⟨v0r1, hm, le [0] (by decide) (.c .a (.c .a (.c .a (.c (.w n0) (.c .a (.c .a (.c .a (.c .a (.c .a (.c .a (.c .a (.c .a (.c .a (.c .a (.c .a (.c .a (.c .a (.c .a (.c .a (.c .a (.c .a (.c .a .n)))))))))))))))))))))) (.r n0 rfl .n)⟩
  ·
    refine sr <| m (mv (.t n3)) u21 <| m (as_ (.t n21)) u2 <| e ?_
    replace hm := sj hm
    subst hm
    exact rt (ret1 (.t n2 (.o n0) .n) rfl)

theorem tot_impl_BytesToInts (b_ : List Int) (hp0 : b_.length ≤ 34359738300) : Spec Tryz.prog G0 148 [.slice 1 (b_.map y8)] (fun v => v = .slice 1 ((b2iF b_).map iV)) := sp_impl_BytesToInts b_ _ (t_impl_BytesToInts b_ hp0)

theorem sp_impl_Decrypt (key_ : Int) (ciphertext_ : List Int) (r : (List Int)) (hm : m_impl_Decrypt key_ ciphertext_ = some r) : Spec Tryz.prog G0 178 [.int .i64 key_, .slice 1 (ciphertext_.map y8)] (fun v => v = .slice 1 (r.map y8)) := by
  rw [m_impl_Decrypt] at hm
  refine enter (l := [.tmp 4]) Tryz.func178 rfl Tryz.ntmps178 rfl T.en178 fun E => ?_
  simp only [List.length_cons, List.length_nil, List.replicate_succ, List.replicate_zero, List.cons_append, List.nil_append, Nat.reduceAdd, Nat.reduceSub]
  refine sr <| m (as_ .n) u4 <| e ?_
  refine sr <| k (bom ([] : List Int) y8 T.s174 rfl rfl .n rfl s0 u8) <| m (as_ (.t n8)) u5 <| e ?_
  refine sq ?_
  refine sr <| m (mv (.t n1)) u9 <| m (lenm (l := ciphertext_) (f := y8) T.s174 (.t n9)) u10 <| m (mv (.i rfl)) u11 <| e ?_
  refine jmb hm (fun j0r1 : List Int => ⟨[.any, .any, .any, .any, .any, .own 0, .any, .any, .any, .any, .any, .any, .any, .any, .any, .any, .any, .any, .any, .any, .any, .any, .any, .any, .any, .any, .any, .any, .any, .any], [.row 5 1 (j0r1.map y8)]⟩) (fun _ hm hq1 => ?_) (fun j0r1 hm => ?_)
  ·
    refine bk ?_
    refine lpf (m := m_impl_Decrypt_l0 key_ ciphertext_) hm (fun yy2_ : Nat × (List Int) => ⟨[.int .i64 key_, .any, .any, .any, .any, .own 0, .any, .any, .any, .slice 1 (ciphertext_.map y8), .int .i64 (ciphertext_.length : Int), .int .i64 (yy2_.1 : Int), .any, .any, .any, .any, .any, .any, .any, .any, .any, .any, .any, .any, .any, .any, .any, .any, .any, .any], [.row 5 1 (yy2_.2.map y8)]⟩) (fun _ => rfl) (le [0] (by decide) (.c (.e rfl rfl) (.c .a (.c .a (.c .a (.c .a (.c (.w n0) (.c .a (.c .a (.c .a (.c (.e rfl rfl) (.c (.e rfl rfl) (.c (.e rfl rfl) (.c .a (.c .a (.c .a (.c .a (.c .a (.c .a (.c .a (.c .a (.c .a (.c .a (.c .a (.c .a (.c .a (.c .a (.c .a (.c .a (.c .a (.c .a .n)))))))))))))))))))))))))))))) (.r n0 rfl .n)) ?_
    rintro f ⟨i0, v0r1⟩ hm
    rw [m_impl_Decrypt_l0] at hm
    dsimp only at hm ⊢
    refine sr <| m (lss (.t n11) (.t n10)) u12 <| e ?_
    refine rng n10 fun _ ra3 => ?_
    replace ra3 := (show (_ : Int) ≤ 9223372036854775807 from ra3)
    refine sq ?_
    refine cnd n12 (fun h4 => ?_) (fun h4 => ?_)
    ·
      replace hm := ct h4 hm
      have h4d := of_decide_eq_true h4
      refine skp ?_
      refine sq ?_
      refine bk ?_
      obtain ⟨z5, e6, hm⟩ := bd_some hm
      refine sr <| m (mv (.t n11)) u13 <| m (ixq (f := y8) e6 T.s174 (.t n9) (.t n11)) u14 <| m (lde T.o5 n0 (.t n14)) u15 <| m (as_ (.t n13)) u6 <| m (as_ (.t n15)) u7 <| e ?_
      obtain ⟨c7, hm⟩ := gd_some hm
      obtain ⟨c8, hm⟩ := gd_some hm
      refine rg <| m (mv (.t n5)) u16 <| m (mv (.t n7)) u17 <| m (cnv T.is5 Tryz.underlying3 (.t n17)) u18 <| m (mv (.t n0)) u19 <| m (mv (.t n6)) u20 <| k (bsm ([(i0 : Int)] : List Int) iV T.s95 rfl rfl (.c (.t n20) rfl rfl rfl .n) rfl u21) <| c (call (tot_impl_KeyedHash key_ ([(i0 : Int)] : List Int) c7) (.c (.t n19) rfl (.c (.t n21) rfl .n))) u22 <| m (sub (.t n18) (.t n22)) u23 <| c (call (tot_impl_Mod (IntKind.i64.wrap (IntKind.i64.wrap z5 - (keyedI key_ ([(i0 : Int)] : List Int)))) (256 : Int)) (.c (.t n23) rfl (.c (.i rfl) rfl .n))) u24 <| m (cnv T.is3 Tryz.underlying5 (.t n24)) u25 <| k (bsm ([IntKind.u8.wrap (modI (IntKind.i64.wrap (IntKind.i64.wrap z5 - (keyedI key_ ([(i0 : Int)] : List Int)))) (256 : Int))] : List Int) y8 T.s174 rfl rfl (.c (.t n25) rfl rfl rfl .n) rfl u26) <| dr u5 <| k (apm (l := v0r1) (l2 := ([IntKind.u8.wrap (modI (IntKind.i64.wrap (IntKind.i64.wrap z5 - (keyedI key_ ([(i0 : Int)] : List Int)))) (256 : Int))] : List Int)) (f := y8) 16 c8 rfl (fun _ => rfl) T.s174 rfl n16 u16 n0 (.t n26) q0 rfl u27) <| m (as_ (.t n27)) u5 <| e ?_
      refine rg <| m (add (.t n11) (.i rfl)) u28 <| m (mv (.t n28)) u11 <| e ?_
      exact ⟨(i0 + 1, (v0r1 ++ ([IntKind.u8.wrap (modI (IntKind.i64.wrap (IntKind.i64.wrap z5 - (keyedI key_ ([(i0 : Int)] : List Int)))) (256 : Int))] : List Int))), hm, le [0] (by decide) (.c (.e rfl rfl) (.c .a (.c .a (.c .a (.c .a (.c (.w n0) (.c .a (.c .a (.c .a (.c (.e rfl rfl) (.c (.e rfl rfl) (.c (.e (wi (by omega)) rfl) (.c .a (.c .a (.c .a (.c .a (.c .a (.c .a (.c .a (.c .a (.c .a (.c .a (.c .a (.c .a (.c .a (.c .a (.c .a (.c .a (.c .a (.c .a .n)))))))))))))))))))))))))))))) (.r n0 rfl .n)⟩
    ·
      replace hm := cf h4 hm
      have h4d := of_decide_eq_false h4
      refine ex (x1 ?_)
      replace hm := sj hm
      subst hm
      have hm := hq1
      exact ⟨v0r1, hm, le [0] (by decide) (.c .a (.c .a (.c .a (.c .a (.c .a (.c (.w n0) (.c .a (.c .a (.c .a (.c .a (.c .a (.c .a (.c .a (.c .a (.c .a (.c .a (.c .a (.c .a (.c .a (.c .a (.c .a (.c .a (.c .a (.c .a (.c .a (.c .a (.c .a (.c .a (.c .a (.c .a .n)))))))))))))))))))))))))))))) (.r n0 rfl .n)⟩
  ·
    refine sr <| m (mv (.t n5)) u29 <| m (as_ (.t n29)) u4 <| e ?_
    replace hm := sj hm
    subst hm
    exact rt (ret1 (.t n4 (.o n0) .n) rfl)

theorem tot_impl_Decrypt (key_ : Int) (ciphertext_ : List Int) (hp0 : ciphertext_.length ≤ 34359738368) : Spec Tryz.prog G0 178 [.int .i64 key_, .slice 1 (ciphertext_.map y8)] (fun v => v = .slice 1 ((decF key_ ciphertext_).map y8)) := sp_impl_Decrypt key_ ciphertext_ _ (t_impl_Decrypt key_ ciphertext_ hp0)

theorem sp_spec_DeriveKey (seed_ : Int) (labels_ : List Int) (r : Int) (hm : m_spec_DeriveKey seed_ labels_ = some r) : Spec Tryz.prog G0 52 [.int .i64 seed_, .slice 1 (labels_.map iV)] (fun v => v = .int .i64 r) := by
  rw [m_spec_DeriveKey] at hm
  refine enter (l := [.tmp 4]) Tryz.func52 rfl Tryz.ntmps52 rfl T.en52 fun E => ?_
  simp only [List.length_cons, List.length_nil, List.replicate_succ, List.replicate_zero, List.cons_append, List.nil_append, Nat.reduceAdd, Nat.reduceSub]
  refine sr <| m (as_ (.i rfl)) u4 <| e ?_
  obtain ⟨c1, hm⟩ := gd_some hm
  obtain ⟨c2, hm⟩ := gd_some hm
  refine sr <| m (mv (.t n0)) u5 <| k (bom ([(151 : Int)] : List Int) iV T.s95 rfl rfl (.c (.i rfl) rfl rfl rfl .n) rfl s0 u6) <| m (mv (.t n1)) u7 <| k (apm (l := ([(151 : Int)] : List Int)) (l2 := labels_) (f := iV) 6 c1 rfl (fun _ => rfl) T.s95 rfl n6 u6 n0 (.t n7) q0 rfl u8) <| c (callm (tot_spec_KeyedHash seed_ (([(151 : Int)] : List Int) ++ labels_) c2) rfl (.c (.t n5) (.p rfl) (.c (.t n8) (.o n0) .n))) u9 <| c (call (tot_spec_Max (1 : Int) (keyedI seed_ (([(151 : Int)] : List Int) ++ labels_))) (.c (.i rfl) rfl (.c (.t n9) rfl .n))) u10 <| m (as_ (.t n10)) u4 <| e ?_
  replace hm := sj hm
  subst hm
  exact rt (ret1 (.t n4 (.p rfl) .n) rfl)

theorem tot_spec_DeriveKey (seed_ : Int) (labels_ : List Int) (hp0 : labels_.length ≤ 34359738300) : Spec Tryz.prog G0 52 [.int .i64 seed_, .slice 1 (labels_.map iV)] (fun v => v = .int .i64 (deriveF seed_ labels_)) := sp_spec_DeriveKey seed_ labels_ _ (t_spec_DeriveKey seed_ labels_ hp0)

theorem sp_spec_PublicKey (private_ : Int) (r : Int) (hm : m_spec_PublicKey private_ = some r) : Spec Tryz.prog G0 101 [.int .i64 private_] (fun v => v = .int .i64 r) := by
  rw [m_spec_PublicKey] at hm
  refine enter (l := [.tmp 2]) Tryz.func101 rfl Tryz.ntmps101 rfl T.en101 fun E => ?_
  simp only [List.length_cons, List.length_nil, List.replicate_succ, List.replicate_zero, List.cons_append, List.nil_append, Nat.reduceAdd, Nat.reduceSub]
  refine sr <| m (as_ (.i rfl)) u2 <| e ?_
  refine sq ?_
  refine sr <| m (mv (.t n0)) u3 <| c (call (tot_spec_IsValidKey private_) (.c (.t n3) rfl .n)) u4 <| m (not_ (.t n4)) u5 <| e ?_
  refine cnd n5 (fun h1 => ?_) (fun h1 => ?_)
  ·
    replace hm := ct h1 hm
    refine sr <| m (as_ (.i rfl)) u2 <| e ?_
    replace hm := sj hm
    subst hm
    exact rt (ret1 (.t n2 (.p rfl) .n) rfl)
  ·
    replace hm := cf h1 hm
    refine skp ?_
    refine sr <| m (mv (.t n0)) u6 <| m (mul (.t n6) (.i rfl)) u7 <| m (rem (by decide) (.t n7) (.i rfl)) u8 <| m (as_ (.t n8)) u2 <| e ?_
    replace hm := sj hm
    subst hm
    exact rt (ret1 (.t n2 (.p rfl) .n) rfl)

theorem tot_spec_PublicKey (private_ : Int)  : Spec Tryz.prog G0 101 [.int .i64 private_] (fun v => v = .int .i64 (publicF private_)) := sp_spec_PublicKey private_ _ (t_spec_PublicKey private_)

theorem sp_impl_DeriveKey (seed_ : Int) (labels_ : List Int) (r : Int) (hm : m_impl_DeriveKey seed_ labels_ = some r) : Spec Tryz.prog G0 53 [.int .i64 seed_, .slice 1 (labels_.map iV)] (fun v => v = .int .i64 r) := by
  rw [m_impl_DeriveKey] at hm
  refine enter (l := [.tmp 4]) Tryz.func53 rfl Tryz.ntmps53 rfl T.en53 fun E => ?_
  simp only [List.length_cons, List.length_nil, List.replicate_succ, List.replicate_zero, List.cons_append, List.nil_append, Nat.reduceAdd, Nat.reduceSub]
  refine sr <| m (as_ (.i rfl)) u4 <| e ?_
  obtain ⟨c1, hm⟩ := gd_some hm
  obtain ⟨c2, hm⟩ := gd_some hm
  refine sr <| m (mv (.t n0)) u5 <| k (bsm ([(151 : Int)] : List Int) iV T.s95 rfl rfl (.c (.i rfl) rfl rfl rfl .n) rfl u6) <| m (mv (.t n1)) u7 <| k (bsm ([labels_] : List (List Int)) (fun l => [V.slice 1 (l.map iV)]) T.s216 rfl rfl (.c (.t n7) rfl rfl rfl .n) rfl u8) <| c (call (tot_impl_joined ([(151 : Int)] : List Int) ([labels_] : List (List Int)) c1) (.c (.t n6) rfl (.c (.t n8) rfl .n))) u9 <| c (call (tot_impl_KeyedHash seed_ (joinF ([(151 : Int)] : List Int) ([labels_] : List (List Int))) c2) (.c (.t n5) rfl (.c (.t n9) rfl .n))) u10 <| c (call (tot_impl_orOne (keyedI seed_ (joinF ([(151 : Int)] : List Int) ([labels_] : List (List Int))))) (.c (.t n10) rfl .n)) u11 <| m (as_ (.t n11)) u4 <| e ?_
  replace hm := sj hm
  subst hm
  exact rt (ret1 (.t n4 (.p rfl) .n) rfl)

theorem tot_impl_DeriveKey (seed_ : Int) (labels_ : List Int) (hp0 : labels_.length ≤ 34359738300) : Spec Tryz.prog G0 53 [.int .i64 seed_, .slice 1 (labels_.map iV)] (fun v => v = .int .i64 (deriveF seed_ labels_)) := sp_impl_DeriveKey seed_ labels_ _ (t_impl_DeriveKey seed_ labels_ hp0)

theorem sp_impl_PublicKey (private_ : Int) (r : Int) (hm : m_impl_PublicKey private_ = some r) : Spec Tryz.prog G0 103 [.int .i64 private_] (fun v => v = .int .i64 r) := by
  rw [m_impl_PublicKey] at hm
  refine enter (l := [.tmp 2]) Tryz.func103 rfl Tryz.ntmps103 rfl T.en103 fun E => ?_
  simp only [List.length_cons, List.length_nil, List.replicate_succ, List.replicate_zero, List.cons_append, List.nil_append, Nat.reduceAdd, Nat.reduceSub]
  refine sr <| m (as_ (.i rfl)) u2 <| e ?_
  refine sq ?_
  refine sr <| m (mv (.t n0)) u3 <| c (call (tot_impl_IsValidKey private_) (.c (.t n3) rfl .n)) u4 <| m (not_ (.t n4)) u5 <| e ?_
  refine cnd n5 (fun h1 => ?_) (fun h1 => ?_)
  ·
    replace hm := ct h1 hm
    refine sr <| m (as_ (.i rfl)) u2 <| e ?_
    replace hm := sj hm
    subst hm
    exact rt (ret1 (.t n2 (.p rfl) .n) rfl)
  ·
    replace hm := cf h1 hm
    refine skp ?_
    refine sr <| m (mv (.t n0)) u6 <| m (mul (.t n6) (.i rfl)) u7 <| m (rem (by decide) (.t n7) (.i rfl)) u8 <| m (as_ (.t n8)) u2 <| e ?_
    replace hm := sj hm
    subst hm
    exact rt (ret1 (.t n2 (.p rfl) .n) rfl)

theorem tot_impl_PublicKey (private_ : Int)  : Spec Tryz.prog G0 103 [.int .i64 private_] (fun v => v = .int .i64 (publicF private_)) := sp_impl_PublicKey private_ _ (t_impl_PublicKey private_)

theorem sp_spec_BoxKey (private_ : Int) (ephemeral_ : Int) (r : Int) (hm : m_spec_BoxKey private_ ephemeral_ = some r) : Spec Tryz.prog G0 173 [.int .i64 private_, .int .i64 ephemeral_] (fun v => v = .int .i64 r) := by
  rw [m_spec_BoxKey] at hm
  refine enter (l := [.tmp 4]) Tryz.func173 rfl Tryz.ntmps173 rfl T.en173 fun E => ?_
  simp only [List.length_cons, List.length_nil, List.replicate_succ, List.replicate_zero, List.cons_append, List.nil_append, Nat.reduceAdd, Nat.reduceSub]
  refine sr <| m (as_ (.i rfl)) u4 <| e ?_
  obtain ⟨c1, hm⟩ := gd_some hm
  refine sr <| m (mv (.t n0)) u5 <| m (mv (.t n1)) u6 <| k (bsm ([(163 : Int), ephemeral_] : List Int) iV T.s95 rfl rfl (.c (.i rfl) rfl rfl rfl (.c (.t n6) rfl rfl rfl .n)) rfl u7) <| c (call (tot_spec_DeriveKey private_ ([(163 : Int), ephemeral_] : List Int) c1) (.c (.t n5) rfl (.c (.t n7) rfl .n))) u8 <| m (as_ (.t n8)) u4 <| e ?_
  replace hm := sj hm
  subst hm
  exact rt (ret1 (.t n4 (.p rfl) .n) rfl)

theorem tot_spec_BoxKey (private_ : Int) (ephemeral_ : Int)  : Spec Tryz.prog G0 173 [.int .i64 private_, .int .i64 ephemeral_] (fun v => v = .int .i64 (boxKeyF private_ ephemeral_)) := sp_spec_BoxKey private_ ephemeral_ _ (t_spec_BoxKey private_ ephemeral_)

theorem sp_spec_BoxMAC (key_ : Int) (b_ : D.Box) (r : Int) (hm : m_spec_BoxMAC key_ b_ = some r) : Spec Tryz.prog G0 174 [.int .i64 key_, .agg (D.Box.V b_)] (fun v => v = .int .i64 r) := by
  rw [m_spec_BoxMAC] at hm
  refine enter (l := [.tmp 4]) Tryz.func174 rfl Tryz.ntmps174 rfl T.en174 fun E => ?_
  simp only [List.length_cons, List.length_nil, List.replicate_succ, List.replicate_zero, List.cons_append, List.nil_append, Nat.reduceAdd, Nat.reduceSub]
  refine sr <| k (bx rfl s0 u3 (.t n1)) <| m (as_ (.i rfl)) u4 <| e ?_
  obtain ⟨c1, hm⟩ := gd_some hm
  obtain ⟨c2, hm⟩ := gd_some hm
  obtain ⟨c3, hm⟩ := gd_some hm
  refine sdx (some 9) T.mix (by kernel_rfl) <| xj ⟨[.any, .any, .any, .any, .int .i64 (keyedI key_ (([(167 : Int), b_.To, b_.Ephemeral] : List Int) ++ (b2iF b_.Data))), .any, .any, .any, .any, .any, .any, .any, .any, .any, .any, .any], []⟩ ?_ ?_
  ·
    refine xm n0 (by kernel_rfl) (mv (.t n0)) u5 <| xm n1 (by kernel_rfl) (fab 0 rfl T.f220_0 (.t n3)) u6 <| xm n2 (by kernel_rfl) (ldb T.o3 n0 n0 (.t n6)) u7 <| xm n3 (by kernel_rfl) (fab 1 rfl T.f220_1 (.t n3)) u8 <| xm n4 (by kernel_rfl) (ldb T.o3 n0 n1 (.t n8)) u9 <| xm n6 (by kernel_rfl) (fab 2 rfl T.f220_2 (.t n3)) u11 <| xm n7 (by kernel_rfl) (ldb T.o174 n0 n2 (.t n11)) u12 <| xa2 (i := 5) (j := 8) (by kernel_rfl) ?_ ?_
    ·
      refine SK n5 (bom ([(167 : Int), b_.To, b_.Ephemeral] : List Int) iV T.s95 rfl rfl (.c (.i rfl) rfl rfl rfl (.c (.t n7) rfl rfl rfl (.c (.t n9) rfl rfl rfl .n))) rfl s1 u10) <| xa1 (i := 8) (by kernel_rfl) <| SC n8 (call (tot_spec_BytesToInts b_.Data c1) (.c (.t n12) rfl .n)) u13 <| xa1 (i := 9) (by kernel_rfl) <| SA n9 (apm (l := ([(167 : Int), b_.To, b_.Ephemeral] : List Int)) (l2 := (b2iF b_.Data)) (f := iV) 10 c2 rfl (fun _ => rfl) T.s95 rfl n10 u10 n1 (.t n13) q1 rfl u14) (by kernel_rfl) <| zc n10 (callm (tot_spec_KeyedHash key_ (([(167 : Int), b_.To, b_.Ephemeral] : List Int) ++ (b2iF b_.Data)) c3) rfl (.c (.t n5) (.p rfl) (.c (.t n14) (.o n1) .n))) u15 <| zf n11 (as_ (.t n15)) u4 <| ze ?_
      exact le [] (by decide) (.c .a (.c .a (.c .a (.c .a (.c (.e rfl rfl) (.c .a (.c .a (.c .a (.c .a (.c .a (.c .a (.c .a (.c .a (.c .a (.c .a (.c .a .n)))))))))))))))) .n
    ·
      refine SC n8 (call (tot_spec_BytesToInts b_.Data c1) (.c (.t n12) rfl .n)) u13 <| xa1 (i := 5) (by kernel_rfl) <| SK n5 (bom ([(167 : Int), b_.To, b_.Ephemeral] : List Int) iV T.s95 rfl rfl (.c (.i rfl) rfl rfl rfl (.c (.t n7) rfl rfl rfl (.c (.t n9) rfl rfl rfl .n))) rfl s1 u10) <| xa1 (i := 9) (by kernel_rfl) <| SA n9 (apm (l := ([(167 : Int), b_.To, b_.Ephemeral] : List Int)) (l2 := (b2iF b_.Data)) (f := iV) 10 c2 rfl (fun _ => rfl) T.s95 rfl n10 u10 n1 (.t n13) q1 rfl u14) (by kernel_rfl) <| zc n10 (callm (tot_spec_KeyedHash key_ (([(167 : Int), b_.To, b_.Ephemeral] : List Int) ++ (b2iF b_.Data)) c3) rfl (.c (.t n5) (.p rfl) (.c (.t n14) (.o n1) .n))) u15 <| zf n11 (as_ (.t n15)) u4 <| ze ?_
      exact le [] (by decide) (.c .a (.c .a (.c .a (.c .a (.c (.e rfl rfl) (.c .a (.c .a (.c .a (.c .a (.c .a (.c .a (.c .a (.c .a (.c .a (.c .a (.c .a .n)))))))))))))))) .n
  ·
    replace hm := sj hm
    subst hm
    exact rt (ret1 (.t n4 (.p rfl) .n) rfl)

theorem tot_spec_BoxMAC (key_ : Int) (b_ : D.Box) (hp0 : b_.Data.length ≤ 34359738200) : Spec Tryz.prog G0 174 [.int .i64 key_, .agg (D.Box.V b_)] (fun v => v = .int .i64 (macF key_ b_)) := sp_spec_BoxMAC key_ b_ _ (t_spec_BoxMAC key_ b_ hp0)

theorem sp_spec_OpenBox (private_ : Int) (b_ : D.Box) (r : (List Int) × Bool) (hm : m_spec_OpenBox private_ b_ = some r) : Spec Tryz.prog G0 149 [.int .i64 private_, .agg (D.Box.V b_)] (fun v => v = .tup [.slice 1 (r.1.map y8), .bool r.2]) := by
  rw [m_spec_OpenBox] at hm
  refine enter (l := [.tmp 4, .tmp 5]) Tryz.func149 rfl Tryz.ntmps149 rfl T.en149 fun E => ?_
  simp only [List.length_cons, List.length_nil, List.replicate_succ, List.replicate_zero, List.cons_append, List.nil_append, Nat.reduceAdd, Nat.reduceSub]
  refine sr <| k (bx rfl s0 u3 (.t n1)) <| m (as_ .n) u4 <| m (as_ .b) u5 <| e ?_
  refine sq ?_
  refine sd none [(0, true), (1, false), (2, true), (3, true), (4, true), (5, true), (6, true), (7, false), (8, true), (9, true), (10, true), (11, true), (12, true), (13, false), (14, true), (15, true), (16, true), (17, true), (18, true), (19, true), (20, true), (21, true)] T.mix (by kernel_rfl) <| rob hm (fun j0_28 : Bool => ⟨[.int .i64 private_, .any, .any, .box 0 0, .any, .any, .any, .any, .any, .any, .any, .any, .any, .any, .any, .any, .any, .any, .any, .any, .any, .any, .any, .any, .any, .any, .any, .any, .bool j0_28, .any, .any, .any, .any, .any, .any, .any, .any, .any, .any, .any, .any, .any, .any, .any, .any], [.box 220 [.int .i64 b_.To, .int .i64 b_.Ephemeral, .slice 1 (b_.Data.map y8), .int .i64 b_.MAC]]⟩) (fun _ hm hq1 => ?_) (fun j0_28 hm => ?_)
  ·
    refine om n0 (mv (.t n0)) u7 <| oc n1 (call (tot_spec_IsValidKey private_) (.c (.t n7) rfl .n)) u8 <| om n2 (not_ (.t n8)) u9 <| om n3 (mv (.t n9)) u10 <| osp n10 u10 u10 (fun h2 => ?_) (fun h2 => ?_)
    ·
      replace hm := ct h2 hm
      refine os n4 n3 rfl n10 rfl u11 <| os n5 n3 rfl n10 rfl u12 <| os n6 n3 rfl n10 rfl u13 <| osf n7 n3 rfl n10 rfl u14 <| os n8 n3 rfl n10 rfl u15 <| om n9 (pkt (.t n10) .b) u16 <| om n10 (mv (.t n16)) u17 <| os n11 n10 rfl n17 rfl u18 <| os n12 n10 rfl n17 rfl u19 <| osf n13 n10 rfl n17 rfl u20 <| os n14 n10 rfl n17 rfl u21 <| om n15 (pkt (.t n17) .b) u22 <| om n16 (mv (.t n22)) u23 <| os n17 n16 rfl n23 rfl u24 <| os n18 n16 rfl n23 rfl u25 <| os n19 n16 rfl n23 rfl u26 <| os n20 n16 rfl n23 rfl u27 <| om n21 (pkt (.t n23) .b) u28 <| oe ?_
      replace hm := sj hm
      subst hm
      have hm := hq1
      exact ⟨true, hm, le [0] (by decide) (.c (.e rfl rfl) (.c .a (.c .a (.c (.b n0) (.c .a (.c .a (.c .a (.c .a (.c .a (.c .a (.c .a (.c .a (.c .a (.c .a (.c .a (.c .a (.c .a (.c .a (.c .a (.c .a (.c .a (.c .a (.c .a (.c .a (.c .a (.c .a (.c .a (.c .a (.c (.e rfl rfl) (.c .a (.c .a (.c .a (.c .a (.c .a (.c .a (.c .a (.c .a (.c .a (.c .a (.c .a (.c .a (.c .a (.c .a (.c .a (.c .a .n))))))))))))))))))))))))))))))))))))))))))))) (.b n0 (.c (.e rfl rfl) (.c (.e rfl rfl) (.c (.e rfl rfl) (.c (.e rfl rfl) .n)))) .n)⟩
    ·
      replace hm := cf h2 hm
      refine omg n4 n3 rfl n10 (fab 0 rfl T.f220_0 (.t n3)) u11 <| omg n5 n3 rfl n10 (ldb T.o3 n0 n0 (.t n11)) u12 <| omg n6 n3 rfl n10 (mv (.t n0)) u13 <| ocg n7 n3 rfl n10 (call (tot_spec_PublicKey private_) (.c (.t n13) rfl .n)) u14 <| omg n8 n3 rfl n10 (neq (.t n12) (.t n14)) u15 <| om n9 (pkf (.t n10) (.t n15)) u16 <| om n10 (mv (.t n16)) u17 <| osp n17 u17 u17 (fun h3 => ?_) (fun h3 => ?_)
      ·
        replace hm := ct h3 hm
        refine os n11 n10 rfl n17 rfl u18 <| os n12 n10 rfl n17 rfl u19 <| osf n13 n10 rfl n17 rfl u20 <| os n14 n10 rfl n17 rfl u21 <| om n15 (pkt (.t n17) .b) u22 <| om n16 (mv (.t n22)) u23 <| os n17 n16 rfl n23 rfl u24 <| os n18 n16 rfl n23 rfl u25 <| os n19 n16 rfl n23 rfl u26 <| os n20 n16 rfl n23 rfl u27 <| om n21 (pkt (.t n23) .b) u28 <| oe ?_
        replace hm := sj hm
        subst hm
        have hm := hq1
        exact ⟨true, hm, le [0] (by decide) (.c (.e rfl rfl) (.c .a (.c .a (.c (.b n0) (.c .a (.c .a (.c .a (.c .a (.c .a (.c .a (.c .a (.c .a (.c .a (.c .a (.c .a (.c .a (.c .a (.c .a (.c .a (.c .a (.c .a (.c .a (.c .a (.c .a (.c .a (.c .a (.c .a (.c .a (.c (.e rfl rfl) (.c .a (.c .a (.c .a (.c .a (.c .a (.c .a (.c .a (.c .a (.c .a (.c .a (.c .a (.c .a (.c .a (.c .a (.c .a (.c .a .n))))))))))))))))))))))))))))))))))))))))))))) (.b n0 (.c (.e rfl rfl) (.c (.e rfl rfl) (.c (.e rfl rfl) (.c (.e rfl rfl) .n)))) .n)⟩
      ·
        replace hm := cf h3 hm
        refine omg n11 n10 rfl n17 (fab 1 rfl T.f220_1 (.t n3)) u18 <| omg n12 n10 rfl n17 (ldb T.o3 n0 n1 (.t n18)) u19 <| ocg n13 n10 rfl n17 (call (tot_spec_IsValidKey b_.Ephemeral) (.c (.t n19) rfl .n)) u20 <| omg n14 n10 rfl n17 (not_ (.t n20)) u21 <| om n15 (pkf (.t n17) (.t n21)) u22 <| om n16 (mv (.t n22)) u23 <| osp n23 u23 u23 (fun h4 => ?_) (fun h4 => ?_)
        ·
          replace hm := ct h4 hm
          refine os n17 n16 rfl n23 rfl u24 <| os n18 n16 rfl n23 rfl u25 <| os n19 n16 rfl n23 rfl u26 <| os n20 n16 rfl n23 rfl u27 <| om n21 (pkt (.t n23) .b) u28 <| oe ?_
          replace hm := sj hm
          subst hm
          have hm := hq1
          exact ⟨true, hm, le [0] (by decide) (.c (.e rfl rfl) (.c .a (.c .a (.c (.b n0) (.c .a (.c .a (.c .a (.c .a (.c .a (.c .a (.c .a (.c .a (.c .a (.c .a (.c .a (.c .a (.c .a (.c .a (.c .a (.c .a (.c .a (.c .a (.c .a (.c .a (.c .a (.c .a (.c .a (.c .a (.c (.e rfl rfl) (.c .a (.c .a (.c .a (.c .a (.c .a (.c .a (.c .a (.c .a (.c .a (.c .a (.c .a (.c .a (.c .a (.c .a (.c .a (.c .a .n))))))))))))))))))))))))))))))))))))))))))))) (.b n0 (.c (.e rfl rfl) (.c (.e rfl rfl) (.c (.e rfl rfl) (.c (.e rfl rfl) .n)))) .n)⟩
        ·
          replace hm := cf h4 hm
          refine omg n17 n16 rfl n23 (fab 2 rfl T.f220_2 (.t n3)) u24 <| omg n18 n16 rfl n23 (ldb T.o174 n0 n2 (.t n24)) u25 <| omg n19 n16 rfl n23 (lenm (l := b_.Data) (f := y8) T.s174 (.t n25)) u26 <| omg n20 n16 rfl n23 (gtr (.t n26) (.i rfl)) u27 <| om n21 (pkf (.t n23) (.t n27)) u28 <| oe ?_
          replace hm := sj hm
          subst hm
          have hm := hq1
          exact ⟨decide ((b_.Data.length : Int) > (200 : Int)), hm, le [0] (by decide) (.c (.e rfl rfl) (.c .a (.c .a (.c (.b n0) (.c .a (.c .a (.c .a (.c .a (.c .a (.c .a (.c .a (.c .a (.c .a (.c .a (.c .a (.c .a (.c .a (.c .a (.c .a (.c .a (.c .a (.c .a (.c .a (.c .a (.c .a (.c .a (.c .a (.c .a (.c (.e rfl rfl) (.c .a (.c .a (.c .a (.c .a (.c .a (.c .a (.c .a (.c .a (.c .a (.c .a (.c .a (.c .a (.c .a (.c .a (.c .a (.c .a .n))))))))))))))))))))))))))))))))))))))))))))) (.b n0 (.c (.e rfl rfl) (.c (.e rfl rfl) (.c (.e rfl rfl) (.c (.e rfl rfl) .n)))) .n)⟩
  ·
    refine cnd n28 (fun h5 => ?_) (fun h5 => ?_)
    ·
      replace hm := ct h5 hm
      refine sr <| k (bsm ([] : List Int) y8 T.s174 rfl rfl .n rfl u29) <| m (as_ (.t n29)) u4 <| m (as_ .b) u5 <| e ?_
      replace hm := sj hm
      subst hm
      exact rt (ret2 (.t n4 (.p rfl) (.t n5 (.p rfl) .n)) rfl)
    ·
      replace hm := cf h5 hm
      refine skp ?_
      refine sr <| m (mv (.t n0)) u30 <| m (fab 1 rfl T.f220_1 (.t n3)) u31 <| m (ldb T.o3 n0 n1 (.t n31)) u32 <| c (call (tot_spec_BoxKey private_ b_.Ephemeral) (.c (.t n30) rfl (.c (.t n32) rfl .n))) u33 <| m (as_ (.t n33)) u6 <| e ?_
      refine sq ?_
      obtain ⟨c6, hm⟩ := gd_some hm
      refine sd none [(0, true), (1, true), (2, true), (3, true), (4, false), (5, true)] T.mix (by kernel_rfl) <| om n0 (fab 3 rfl T.f220_3 (.t n3)) u34 <| om n1 (ldb T.o3 n0 n3 (.t n34)) u35 <| om n2 (mv (.t n6)) u36 <| om n3 (lab T.a220 n0 d0 k4 (.t n3)) u37 <| oc n4 (call (tot_spec_BoxMAC (boxKeyF private_ b_.Ephemeral) b_ c6) (.c (.t n36) rfl (.c (.t n37) rfl .n))) u38 <| om n5 (neq (.t n35) (.t n38)) u39 <| oe ?_
      refine cnd n39 (fun h7 => ?_) (fun h7 => ?_)
      ·
        replace hm := ct h7 hm
        refine sr <| k (bsm ([] : List Int) y8 T.s174 rfl rfl .n rfl u40) <| m (as_ (.t n40)) u4 <| m (as_ .b) u5 <| e ?_
        replace hm := sj hm
        subst hm
        exact rt (ret2 (.t n4 (.p rfl) (.t n5 (.p rfl) .n)) rfl)
      ·
        replace hm := cf h7 hm
        refine skp ?_
        obtain ⟨c8, hm⟩ := gd_some hm
        refine sr <| m (mv (.t n6)) u41 <| m (fab 2 rfl T.f220_2 (.t n3)) u42 <| m (ldb T.o174 n0 n2 (.t n42)) u43 <| c (call (tot_spec_Decrypt (boxKeyF private_ b_.Ephemeral) b_.Data c8) (.c (.t n41) rfl (.c (.t n43) rfl .n))) u44 <| m (as_ (.t n44)) u4 <| m (as_ .b) u5 <| e ?_
        replace hm := sj hm
        subst hm
        exact rt (ret2 (.t n4 (.p rfl) (.t n5 (.p rfl) .n)) rfl)

theorem tot_spec_OpenBox (private_ : Int) (b_ : D.Box)  : Spec Tryz.prog G0 149 [.int .i64 private_, .agg (D.Box.V b_)] (fun v => v = .tup [.slice 1 (((openBoxF private_ b_).1).map y8), .bool ((openBoxF private_ b_).2)]) := sp_spec_OpenBox private_ b_ _ (t_spec_OpenBox private_ b_)

theorem sp_spec_FindBox (boxes_ : List D.Box) (private_ : Int) (r : (List Int) × Bool) (hm : m_spec_FindBox boxes_ private_ = some r) : Spec Tryz.prog G0 110 [.slice 4 (boxes_.map D.Box.V), .int .i64 private_] (fun v => v = .tup [.slice 1 (r.1.map y8), .bool r.2]) := by
  rw [m_spec_FindBox] at hm
  refine enter (l := [.tmp 4, .tmp 5]) Tryz.func110 rfl Tryz.ntmps110 rfl T.en110 fun E => ?_
  simp only [List.length_cons, List.length_nil, List.replicate_succ, List.replicate_zero, List.cons_append, List.nil_append, Nat.reduceAdd, Nat.reduceSub]
  refine sr <| m (as_ .n) u4 <| m (as_ .b) u5 <| e ?_
  refine sq ?_
  refine sr <| m (as_ (.i rfl)) u6 <| e ?_
  refine jmx hm (fun _ : Unit => ⟨[.any, .any, .any, .any, .any, .any, .any, .any, .any, .any, .any, .any, .any, .any, .any, .any, .any, .any, .any, .any, .any, .any, .any, .any, .any, .any, .any], []⟩) (fun _ hm hq1 => ?_) (fun _ hm => ?_)
  ·
    refine bk ?_
    refine lpf (m := m_spec_FindBox_l0 boxes_ private_) hm (fun i0 : Nat => ⟨[.slice 4 (boxes_.map D.Box.V), .int .i64 private_, .any, .any, .any, .any, .int .i64 (i0 : Int), .any, .any, .any, .any, .any, .any, .any, .any, .any, .any, .any, .any, .any, .any, .any, .any, .any, .any, .any, .any], []⟩) (fun _ => rfl) (le [] (by decide) (.c (.e rfl rfl) (.c (.e rfl rfl) (.c .a (.c .a (.c .a (.c .a (.c (.e rfl rfl) (.c .a (.c .a (.c .a (.c .a (.c .a (.c .a (.c .a (.c .a (.c .a (.c .a (.c .a (.c .a (.c .a (.c .a (.c .a (.c .a (.c .a (.c .a (.c .a (.c .a .n))))))))))))))))))))))))))) .n) ?_
    rintro f i0 hm
    rw [m_spec_FindBox_l0] at hm
    refine sq ?_
    refine sr <| m (mv (.t n6)) u9 <| m (mv (.t n0)) u10 <| m (lenm (l := boxes_) (f := D.Box.V) T.s44 (.t n10)) u11 <| m (lss (.t n9) (.t n11)) u12 <| e ?_
    refine rng n11 fun _ ra2 => ?_
    replace ra2 := (show (_ : Int) ≤ 9223372036854775807 from ra2)
    refine cnd n12 (fun h3 => ?_) (fun h3 => ?_)
    ·
      replace hm := ct h3 hm
      have h3d := of_decide_eq_true h3
      refine skp ?_
      refine sq ?_
      refine bk ?_
      obtain ⟨z4, e5, hm⟩ := bd_some hm
      refine sr <| m (mv (.t n1)) u16 <| m (mv (.t n0)) u17 <| m (mv (.t n6)) u18 <| m (ixq (f := D.Box.V) e5 T.s44 (.t n17) (.t n18)) u19 <| m (lae T.a220 k4 (.t n19)) u20 <| c (call (tot_spec_OpenBox private_ z4) (.c (.t n16) rfl (.c (.t n20) rfl .n))) u21 <| m (mv (.t n21)) u15 <| m (ext_ n0 (.t n15)) u22 <| m (ext_ n1 (.t n15)) u23 <| m (as_ (.t n22)) u7 <| m (as_ (.t n23)) u8 <| e ?_
      refine sr <| m (mv (.t n8)) u24 <| e ?_
      refine cnd n24 (fun h6 => ?_) (fun h6 => ?_)
      ·
        replace hm := ct h6 hm
        refine sr <| m (mv (.t n7)) u25 <| m (as_ (.t n25)) u4 <| m (as_ .b) u5 <| e ?_
        replace hm := inl1 hm hq1
        subst hm
        exact rt (ret2 (.t n4 (.p rfl) (.t n5 (.p rfl) .n)) rfl)
      ·
        replace hm := cf h6 hm
        refine skp ?_
        refine rg <| m (mv (.t n6)) u13 <| m (add (.t n13) (.i rfl)) u14 <| m (as_ (.t n14)) u6 <| e ?_
        exact ⟨i0 + 1, hm, le [] (by decide) (.c (.e rfl rfl) (.c (.e rfl rfl) (.c .a (.c .a (.c .a (.c .a (.c (.e (wi (by omega)) rfl) (.c .a (.c .a (.c .a (.c .a (.c .a (.c .a (.c .a (.c .a (.c .a (.c .a (.c .a (.c .a (.c .a (.c .a (.c .a (.c .a (.c .a (.c .a (.c .a (.c .a .n))))))))))))))))))))))))))) .n⟩
    ·
      replace hm := cf h3 hm
      have h3d := of_decide_eq_false h3
      refine ex (x1 ?_)
      replace hm := inr1 hm hq1
      exact ⟨(), hm, le [] (by decide) (.c .a (.c .a (.c .a (.c .a (.c .a (.c .a (.c .a (.c .a (.c .a (.c .a (.c .a (.c .a (.c .a (.c .a (.c .a (.c .a (.c .a (.c .a (.c .a (.c .a (.c .a (.c .a (.c .a (.c .a (.c .a (.c .a (.c .a .n))))))))))))))))))))))))))) .n⟩
  ·
    refine sr <| k (bsm ([] : List Int) y8 T.s174 rfl rfl .n rfl u26) <| m (as_ (.t n26)) u4 <| m (as_ .b) u5 <| e ?_
    replace hm := sj hm
    subst hm
    exact rt (ret2 (.t n4 (.p rfl) (.t n5 (.p rfl) .n)) rfl)

theorem tot_spec_FindBox (boxes_ : List D.Box) (private_ : Int)  : Spec Tryz.prog G0 110 [.slice 4 (boxes_.map D.Box.V), .int .i64 private_] (fun v => v = .tup [.slice 1 (((findBoxF boxes_ private_).1).map y8), .bool ((findBoxF boxes_ private_).2)]) := sp_spec_FindBox boxes_ private_ _ (t_spec_FindBox boxes_ private_)

theorem sp_impl_BoxKey (private_ : Int) (ephemeral_ : Int) (r : Int) (hm : m_impl_BoxKey private_ ephemeral_ = some r) : Spec Tryz.prog G0 176 [.int .i64 private_, .int .i64 ephemeral_] (fun v => v = .int .i64 r) := by
  rw [m_impl_BoxKey] at hm
  refine enter (l := [.tmp 4]) Tryz.func176 rfl Tryz.ntmps176 rfl T.en176 fun E => ?_
  simp only [List.length_cons, List.length_nil, List.replicate_succ, List.replicate_zero, List.cons_append, List.nil_append, Nat.reduceAdd, Nat.reduceSub]
  refine sr <| m (as_ (.i rfl)) u4 <| e ?_
  obtain ⟨c1, hm⟩ := gd_some hm
  refine sr <| m (mv (.t n0)) u5 <| m (mv (.t n1)) u6 <| k (bsm ([(163 : Int), ephemeral_] : List Int) iV T.s95 rfl rfl (.c (.i rfl) rfl rfl rfl (.c (.t n6) rfl rfl rfl .n)) rfl u7) <| c (call (tot_impl_DeriveKey private_ ([(163 : Int), ephemeral_] : List Int) c1) (.c (.t n5) rfl (.c (.t n7) rfl .n))) u8 <| m (as_ (.t n8)) u4 <| e ?_
  replace hm := sj hm
  subst hm
  exact rt (ret1 (.t n4 (.p rfl) .n) rfl)

theorem tot_impl_BoxKey (private_ : Int) (ephemeral_ : Int)  : Spec Tryz.prog G0 176 [.int .i64 private_, .int .i64 ephemeral_] (fun v => v = .int .i64 (boxKeyF private_ ephemeral_)) := sp_impl_BoxKey private_ ephemeral_ _ (t_impl_BoxKey private_ ephemeral_)

theorem sp_impl_BoxMAC (key_ : Int) (b_ : D.Box) (r : Int) (hm : m_impl_BoxMAC key_ b_ = some r) : Spec Tryz.prog G0 177 [.int .i64 key_, .agg (D.Box.V b_)] (fun v => v = .int .i64 r) := by
  rw [m_impl_BoxMAC] at hm
  refine enter (l := [.tmp 4]) Tryz.func177 rfl Tryz.ntmps177 rfl T.en177 fun E => ?_
  simp only [List.length_cons, List.length_nil, List.replicate_succ, List.replicate_zero, List.cons_append, List.nil_append, Nat.reduceAdd, Nat.reduceSub]
  refine sr <| k (bx rfl s0 u3 (.t n1)) <| m (as_ (.i rfl)) u4 <| e ?_
  obtain ⟨c1, hm⟩ := gd_some hm
  obtain ⟨c2, hm⟩ := gd_some hm
  obtain ⟨c3, hm⟩ := gd_some hm
  refine sdx none T.mix (by kernel_rfl) <| xj ⟨[.any, .any, .any, .any, .int .i64 (keyedI key_ (joinF ([(167 : Int), b_.To, b_.Ephemeral] : List Int) ([(b2iF b_.Data)] : List (List Int)))), .any, .any, .any, .any, .any, .any, .any, .any, .any, .any, .any, .any], []⟩ ?_ ?_
  ·
    refine xm n0 (by kernel_rfl) (mv (.t n0)) u5 <| xm n1 (by kernel_rfl) (fab 0 rfl T.f220_0 (.t n3)) u6 <| xm n2 (by kernel_rfl) (ldb T.o3 n0 n0 (.t n6)) u7 <| xm n3 (by kernel_rfl) (fab 1 rfl T.f220_1 (.t n3)) u8 <| xm n4 (by kernel_rfl) (ldb T.o3 n0 n1 (.t n8)) u9 <| xm n6 (by kernel_rfl) (fab 2 rfl T.f220_2 (.t n3)) u11 <| xm n7 (by kernel_rfl) (ldb T.o174 n0 n2 (.t n11)) u12 <| xa2 (i := 5) (j := 8) (by kernel_rfl) ?_ ?_
    ·
      refine SK n5 (bsm ([(167 : Int), b_.To, b_.Ephemeral] : List Int) iV T.s95 rfl rfl (.c (.i rfl) rfl rfl rfl (.c (.t n7) rfl rfl rfl (.c (.t n9) rfl rfl rfl .n))) rfl u10) <| xa1 (i := 8) (by kernel_rfl) <| SC n8 (call (tot_impl_BytesToInts b_.Data c1) (.c (.t n12) rfl .n)) u13 <| xa1 (i := 9) (by kernel_rfl) <| SK n9 (bsm ([(b2iF b_.Data)] : List (List Int)) (fun l => [V.slice 1 (l.map iV)]) T.s216 rfl rfl (.c (.t n13) rfl rfl rfl .n) rfl u14) <| xa1 (i := 10) (by kernel_rfl) <| SC n10 (call (tot_impl_joined ([(167 : Int), b_.To, b_.Ephemeral] : List Int) ([(b2iF b_.Data)] : List (List Int)) c2) (.c (.t n10) rfl (.c (.t n14) rfl .n))) u15 <| xa1 (i := 11) (by kernel_rfl) <| SC n11 (call (tot_impl_KeyedHash key_ (joinF ([(167 : Int), b_.To, b_.Ephemeral] : List Int) ([(b2iF b_.Data)] : List (List Int))) c3) (.c (.t n5) rfl (.c (.t n15) rfl .n))) u16 <| xm n12 (by kernel_rfl) (as_ (.t n16)) u4 <| xe (by kernel_rfl) ?_
      exact le [] (by decide) (.c .a (.c .a (.c .a (.c .a (.c (.e rfl rfl) (.c .a (.c .a (.c .a (.c .a (.c .a (.c .a (.c .a (.c .a (.c .a (.c .a (.c .a (.c .a .n))))))))))))))))) .n
    ·
      refine SC n8 (call (tot_impl_BytesToInts b_.Data c1) (.c (.t n12) rfl .n)) u13 <| xa2 (i := 5) (j := 9) (by kernel_rfl) ?_ ?_
      ·
        refine SK n5 (bsm ([(167 : Int), b_.To, b_.Ephemeral] : List Int) iV T.s95 rfl rfl (.c (.i rfl) rfl rfl rfl (.c (.t n7) rfl rfl rfl (.c (.t n9) rfl rfl rfl .n))) rfl u10) <| xa1 (i := 9) (by kernel_rfl) <| SK n9 (bsm ([(b2iF b_.Data)] : List (List Int)) (fun l => [V.slice 1 (l.map iV)]) T.s216 rfl rfl (.c (.t n13) rfl rfl rfl .n) rfl u14) <| xa1 (i := 10) (by kernel_rfl) <| SC n10 (call (tot_impl_joined ([(167 : Int), b_.To, b_.Ephemeral] : List Int) ([(b2iF b_.Data)] : List (List Int)) c2) (.c (.t n10) rfl (.c (.t n14) rfl .n))) u15 <| xa1 (i := 11) (by kernel_rfl) <| SC n11 (call (tot_impl_KeyedHash key_ (joinF ([(167 : Int), b_.To, b_.Ephemeral] : List Int) ([(b2iF b_.Data)] : List (List Int))) c3) (.c (.t n5) rfl (.c (.t n15) rfl .n))) u16 <| xm n12 (by kernel_rfl) (as_ (.t n16)) u4 <| xe (by kernel_rfl) ?_
        exact le [] (by decide) (.c .a (.c .a (.c .a (.c .a (.c (.e rfl rfl) (.c .a (.c .a (.c .a (.c .a (.c .a (.c .a (.c .a (.c .a (.c .a (.c .a (.c .a (.c .a .n))))))))))))))))) .n
      ·
        refine SK n9 (bsm ([(b2iF b_.Data)] : List (List Int)) (fun l => [V.slice 1 (l.map iV)]) T.s216 rfl rfl (.c (.t n13) rfl rfl rfl .n) rfl u14) <| xa1 (i := 5) (by kernel_rfl) <| SK n5 (bsm ([(167 : Int), b_.To, b_.Ephemeral] : List Int) iV T.s95 rfl rfl (.c (.i rfl) rfl rfl rfl (.c (.t n7) rfl rfl rfl (.c (.t n9) rfl rfl rfl .n))) rfl u10) <| xa1 (i := 10) (by kernel_rfl) <| SC n10 (call (tot_impl_joined ([(167 : Int), b_.To, b_.Ephemeral] : List Int) ([(b2iF b_.Data)] : List (List Int)) c2) (.c (.t n10) rfl (.c (.t n14) rfl .n))) u15 <| xa1 (i := 11) (by kernel_rfl) <| SC n11 (call (tot_impl_KeyedHash key_ (joinF ([(167 : Int), b_.To, b_.Ephemeral] : List Int) ([(b2iF b_.Data)] : List (List Int))) c3) (.c (.t n5) rfl (.c (.t n15) rfl .n))) u16 <| xm n12 (by kernel_rfl) (as_ (.t n16)) u4 <| xe (by kernel_rfl) ?_
        exact le [] (by decide) (.c .a (.c .a (.c .a (.c .a (.c (.e rfl rfl) (.c .a (.c .a (.c .a (.c .a (.c .a (.c .a (.c .a (.c .a (.c .a (.c .a (.c .a (.c .a .n))))))))))))))))) .n
  ·
    replace hm := sj hm
    subst hm
    exact rt (ret1 (.t n4 (.p rfl) .n) rfl)

theorem tot_impl_BoxMAC (key_ : Int) (b_ : D.Box) (hp0 : b_.Data.length ≤ 34359738200) : Spec Tryz.prog G0 177 [.int .i64 key_, .agg (D.Box.V b_)] (fun v => v = .int .i64 (macF key_ b_)) := sp_impl_BoxMAC key_ b_ _ (t_impl_BoxMAC key_ b_ hp0)

theorem sp_impl_OpenBox (private_ : Int) (b_ : D.Box) (r : (List Int) × Bool) (hm : m_impl_OpenBox private_ b_ = some r) : Spec Tryz.prog G0 151 [.int .i64 private_, .agg (D.Box.V b_)] (fun v => v = .tup [.slice 1 (r.1.map y8), .bool r.2]) := by
  rw [m_impl_OpenBox] at hm
  refine enter (l := [.tmp 4, .tmp 5]) Tryz.func151 rfl Tryz.ntmps151 rfl T.en151 fun E => ?_
  simp only [List.length_cons, List.length_nil, List.replicate_succ, List.replicate_zero, List.cons_append, List.nil_append, Nat.reduceAdd, Nat.reduceSub]
  refine sr <| k (bx rfl s0 u3 (.t n1)) <| m (as_ .n) u4 <| m (as_ .b) u5 <| e ?_
  refine sq ?_
  refine sd none [(0, true), (1, false), (2, true), (3, true), (4, true), (5, true), (6, true), (7, false), (8, true), (9, true), (10, true), (11, true), (12, true), (13, false), (14, true), (15, true), (16, true), (17, true), (18, true), (19, true), (20, true), (21, true)] T.mix (by kernel_rfl) <| rob hm (fun j0_28 : Bool => ⟨[.int .i64 private_, .any, .any, .box 0 0, .any, .any, .any, .any, .any, .any, .any, .any, .any, .any, .any, .any, .any, .any, .any, .any, .any, .any, .any, .any, .any, .any, .any, .any, .bool j0_28, .any, .any, .any, .any, .any, .any, .any, .any, .any, .any, .any, .any, .any, .any], [.box 220 [.int .i64 b_.To, .int .i64 b_.Ephemeral, .slice 1 (b_.Data.map y8), .int .i64 b_.MAC]]⟩) (fun _ hm hq1 => ?_) (fun j0_28 hm => ?_)
  ·
    refine om n0 (mv (.t n0)) u7 <| oc n1 (call (tot_impl_IsValidKey private_) (.c (.t n7) rfl .n)) u8 <| om n2 (not_ (.t n8)) u9 <| om n3 (mv (.t n9)) u10 <| osp n10 u10 u10 (fun h2 => ?_) (fun h2 => ?_)
    ·
      replace hm := ct h2 hm
      refine os n4 n3 rfl n10 rfl u11 <| os n5 n3 rfl n10 rfl u12 <| os n6 n3 rfl n10 rfl u13 <| osf n7 n3 rfl n10 rfl u14 <| os n8 n3 rfl n10 rfl u15 <| om n9 (pkt (.t n10) .b) u16 <| om n10 (mv (.t n16)) u17 <| os n11 n10 rfl n17 rfl u18 <| os n12 n10 rfl n17 rfl u19 <| osf n13 n10 rfl n17 rfl u20 <| os n14 n10 rfl n17 rfl u21 <| om n15 (pkt (.t n17) .b) u22 <| om n16 (mv (.t n22)) u23 <| os n17 n16 rfl n23 rfl u24 <| os n18 n16 rfl n23 rfl u25 <| os n19 n16 rfl n23 rfl u26 <| os n20 n16 rfl n23 rfl u27 <| om n21 (pkt (.t n23) .b) u28 <| oe ?_
      replace hm := sj hm
      subst hm
      have hm := hq1
      exact ⟨true, hm, le [0] (by decide) (.c (.e rfl rfl) (.c .a (.c .a (.c (.b n0) (.c .a (.c .a (.c .a (.c .a (.c .a (.c .a (.c .a (.c .a (.c .a (.c .a (.c .a (.c .a (.c .a (.c .a (.c .a (.c .a (.c .a (.c .a (.c .a (.c .a (.c .a (.c .a (.c .a (.c .a (.c (.e rfl rfl) (.c .a (.c .a (.c .a (.c .a (.c .a (.c .a (.c .a (.c .a (.c .a (.c .a (.c .a (.c .a (.c .a (.c .a .n))))))))))))))))))))))))))))))))))))))))))) (.b n0 (.c (.e rfl rfl) (.c (.e rfl rfl) (.c (.e rfl rfl) (.c (.e rfl rfl) .n)))) .n)⟩
    ·
      replace hm := cf h2 hm
      refine omg n4 n3 rfl n10 (fab 0 rfl T.f220_0 (.t n3)) u11 <| omg n5 n3 rfl n10 (ldb T.o3 n0 n0 (.t n11)) u12 <| omg n6 n3 rfl n10 (mv (.t n0)) u13 <| ocg n7 n3 rfl n10 (call (tot_impl_PublicKey private_) (.c (.t n13) rfl .n)) u14 <| omg n8 n3 rfl n10 (neq (.t n12) (.t n14)) u15 <| om n9 (pkf (.t n10) (.t n15)) u16 <| om n10 (mv (.t n16)) u17 <| osp n17 u17 u17 (fun h3 => ?_) (fun h3 => ?_)
      ·
        replace hm := ct h3 hm
        refine os n11 n10 rfl n17 rfl u18 <| os n12 n10 rfl n17 rfl u19 <| osf n13 n10 rfl n17 rfl u20 <| os n14 n10 rfl n17 rfl u21 <| om n15 (pkt (.t n17) .b) u22 <| om n16 (mv (.t n22)) u23 <| os n17 n16 rfl n23 rfl u24 <| os n18 n16 rfl n23 rfl u25 <| os n19 n16 rfl n23 rfl u26 <| os n20 n16 rfl n23 rfl u27 <| om n21 (pkt (.t n23) .b) u28 <| oe ?_
        replace hm := sj hm
        subst hm
        have hm := hq1
        exact ⟨true, hm, le [0] (by decide) (.c (.e rfl rfl) (.c .a (.c .a (.c (.b n0) (.c .a (.c .a (.c .a (.c .a (.c .a (.c .a (.c .a (.c .a (.c .a (.c .a (.c .a (.c .a (.c .a (.c .a (.c .a (.c .a (.c .a (.c .a (.c .a (.c .a (.c .a (.c .a (.c .a (.c .a (.c (.e rfl rfl) (.c .a (.c .a (.c .a (.c .a (.c .a (.c .a (.c .a (.c .a (.c .a (.c .a (.c .a (.c .a (.c .a (.c .a .n))))))))))))))))))))))))))))))))))))))))))) (.b n0 (.c (.e rfl rfl) (.c (.e rfl rfl) (.c (.e rfl rfl) (.c (.e rfl rfl) .n)))) .n)⟩
      ·
        replace hm := cf h3 hm
        refine omg n11 n10 rfl n17 (fab 1 rfl T.f220_1 (.t n3)) u18 <| omg n12 n10 rfl n17 (ldb T.o3 n0 n1 (.t n18)) u19 <| ocg n13 n10 rfl n17 (call (tot_impl_IsValidKey b_.Ephemeral) (.c (.t n19) rfl .n)) u20 <| omg n14 n10 rfl n17 (not_ (.t n20)) u21 <| om n15 (pkf (.t n17) (.t n21)) u22 <| om n16 (mv (.t n22)) u23 <| osp n23 u23 u23 (fun h4 => ?_) (fun h4 => ?_)
        ·
          replace hm := ct h4 hm
          refine os n17 n16 rfl n23 rfl u24 <| os n18 n16 rfl n23 rfl u25 <| os n19 n16 rfl n23 rfl u26 <| os n20 n16 rfl n23 rfl u27 <| om n21 (pkt (.t n23) .b) u28 <| oe ?_
          replace hm := sj hm
          subst hm
          have hm := hq1
          exact ⟨true, hm, le [0] (by decide) (.c (.e rfl rfl) (.c .a (.c .a (.c (.b n0) (.c .a (.c .a (.c .a (.c .a (.c .a (.c .a (.c .a (.c .a (.c .a (.c .a (.c .a (.c .a (.c .a (.c .a (.c .a (.c .a (.c .a (.c .a (.c .a (.c .a (.c .a (.c .a (.c .a (.c .a (.c (.e rfl rfl) (.c .a (.c .a (.c .a (.c .a (.c .a (.c .a (.c .a (.c .a (.c .a (.c .a (.c .a (.c .a (.c .a (.c .a .n))))))))))))))))))))))))))))))))))))))))))) (.b n0 (.c (.e rfl rfl) (.c (.e rfl rfl) (.c (.e rfl rfl) (.c (.e rfl rfl) .n)))) .n)⟩
        ·
          replace hm := cf h4 hm
          refine omg n17 n16 rfl n23 (fab 2 rfl T.f220_2 (.t n3)) u24 <| omg n18 n16 rfl n23 (ldb T.o174 n0 n2 (.t n24)) u25 <| omg n19 n16 rfl n23 (lenm (l := b_.Data) (f := y8) T.s174 (.t n25)) u26 <| omg n20 n16 rfl n23 (gtr (.t n26) (.i rfl)) u27 <| om n21 (pkf (.t n23) (.t n27)) u28 <| oe ?_
          replace hm := sj hm
          subst hm
          have hm := hq1
          exact ⟨decide ((b_.Data.length : Int) > (200 : Int)), hm, le [0] (by decide) (.c (.e rfl rfl) (.c .a (.c .a (.c (.b n0) (.c .a (.c .a (.c .a (.c .a (.c .a (.c .a (.c .a (.c .a (.c .a (.c .a (.c .a (.c .a (.c .a (.c .a (.c .a (.c .a (.c .a (.c .a (.c .a (.c .a (.c .a (.c .a (.c .a (.c .a (.c (.e rfl rfl) (.c .a (.c .a (.c .a (.c .a (.c .a (.c .a (.c .a (.c .a (.c .a (.c .a (.c .a (.c .a (.c .a (.c .a .n))))))))))))))))))))))))))))))))))))))))))) (.b n0 (.c (.e rfl rfl) (.c (.e rfl rfl) (.c (.e rfl rfl) (.c (.e rfl rfl) .n)))) .n)⟩
  ·
    refine cnd n28 (fun h5 => ?_) (fun h5 => ?_)
    ·
      replace hm := ct h5 hm
      refine sr <| m (as_ .n) u4 <| m (as_ .b) u5 <| e ?_
      replace hm := sj hm
      subst hm
      exact rt (ret2 (.t n4 .n (.t n5 (.p rfl) .n)) rfl)
    ·
      replace hm := cf h5 hm
      refine skp ?_
      refine sr <| m (mv (.t n0)) u29 <| m (fab 1 rfl T.f220_1 (.t n3)) u30 <| m (ldb T.o3 n0 n1 (.t n30)) u31 <| c (call (tot_impl_BoxKey private_ b_.Ephemeral) (.c (.t n29) rfl (.c (.t n31) rfl .n))) u32 <| m (as_ (.t n32)) u6 <| e ?_
      refine sq ?_
      obtain ⟨c6, hm⟩ := gd_some hm
      refine sd none [(0, true), (1, true), (2, true), (3, true), (4, false), (5, true)] T.mix (by kernel_rfl) <| om n0 (fab 3 rfl T.f220_3 (.t n3)) u33 <| om n1 (ldb T.o3 n0 n3 (.t n33)) u34 <| om n2 (mv (.t n6)) u35 <| om n3 (lab T.a220 n0 d0 k4 (.t n3)) u36 <| oc n4 (call (tot_impl_BoxMAC (boxKeyF private_ b_.Ephemeral) b_ c6) (.c (.t n35) rfl (.c (.t n36) rfl .n))) u37 <| om n5 (neq (.t n34) (.t n37)) u38 <| oe ?_
      refine cnd n38 (fun h7 => ?_) (fun h7 => ?_)
      ·
        replace hm := ct h7 hm
        refine sr <| m (as_ .n) u4 <| m (as_ .b) u5 <| e ?_
        replace hm := sj hm
        subst hm
        exact rt (ret2 (.t n4 .n (.t n5 (.p rfl) .n)) rfl)
      ·
        replace hm := cf h7 hm
        refine skp ?_
        obtain ⟨c8, hm⟩ := gd_some hm
        refine sr <| m (mv (.t n6)) u39 <| m (fab 2 rfl T.f220_2 (.t n3)) u40 <| m (ldb T.o174 n0 n2 (.t n40)) u41 <| c (call (tot_impl_Decrypt (boxKeyF private_ b_.Ephemeral) b_.Data c8) (.c (.t n39) rfl (.c (.t n41) rfl .n))) u42 <| m (as_ (.t n42)) u4 <| m (as_ .b) u5 <| e ?_
        replace hm := sj hm
        subst hm
        exact rt (ret2 (.t n4 (.p rfl) (.t n5 (.p rfl) .n)) rfl)

theorem tot_impl_OpenBox (private_ : Int) (b_ : D.Box)  : Spec Tryz.prog G0 151 [.int .i64 private_, .agg (D.Box.V b_)] (fun v => v = .tup [.slice 1 (((openBoxF private_ b_).1).map y8), .bool ((openBoxF private_ b_).2)]) := sp_impl_OpenBox private_ b_ _ (t_impl_OpenBox private_ b_)

theorem sp_impl_FindBox (boxes_ : List D.Box) (private_ : Int) (r : (List Int) × Bool) (hm : m_impl_FindBox boxes_ private_ = some r) : Spec Tryz.prog G0 113 [.slice 4 (boxes_.map D.Box.V), .int .i64 private_] (fun v => v = .tup [.slice 1 (r.1.map y8), .bool r.2]) := by
  rw [m_impl_FindBox] at hm
  refine enter (l := [.tmp 4, .tmp 5]) Tryz.func113 rfl Tryz.ntmps113 rfl T.en113 fun E => ?_
  simp only [List.length_cons, List.length_nil, List.replicate_succ, List.replicate_zero, List.cons_append, List.nil_append, Nat.reduceAdd, Nat.reduceSub]
  refine sr <| m (as_ .n) u4 <| m (as_ .b) u5 <| e ?_
  refine sq ?_
  refine sr <| m (mv (.t n0)) u10 <| m (lenm (l := boxes_) (f := D.Box.V) T.s44 (.t n10)) u11 <| m (mv (.i rfl)) u12 <| e ?_
  refine jmx hm (fun _ : Unit => ⟨[.any, .any, .any, .any, .any, .any, .any, .any, .any, .any, .any, .any, .any, .any, .any, .any, .any, .any, .any, .any, .any, .any, .any, .any, .any], []⟩) (fun _ hm hq1 => ?_) (fun _ hm => ?_)
  ·
    refine bk ?_
    refine lpf (m := m_impl_FindBox_l0 boxes_ private_) hm (fun i0 : Nat => ⟨[.any, .int .i64 private_, .any, .any, .any, .any, .any, .any, .any, .any, .slice 4 (boxes_.map D.Box.V), .int .i64 (boxes_.length : Int), .int .i64 (i0 : Int), .any, .any, .any, .any, .any, .any, .any, .any, .any, .any, .any, .any], []⟩) (fun _ => rfl) (le [] (by decide) (.c .a (.c (.e rfl rfl) (.c .a (.c .a (.c .a (.c .a (.c .a (.c .a (.c .a (.c .a (.c (.e rfl rfl) (.c (.e rfl rfl) (.c (.e rfl rfl) (.c .a (.c .a (.c .a (.c .a (.c .a (.c .a (.c .a (.c .a (.c .a (.c .a (.c .a (.c .a .n))))))))))))))))))))))))) .n) ?_
    rintro f i0 hm
    rw [m_impl_FindBox_l0] at hm
    refine sr <| m (lss (.t n12) (.t n11)) u13 <| e ?_
    refine rng n11 fun _ ra2 => ?_
    replace ra2 := (show (_ : Int) ≤ 9223372036854775807 from ra2)
    refine sq ?_
    refine cnd n13 (fun h3 => ?_) (fun h3 => ?_)
    ·
      replace hm := ct h3 hm
      have h3d := of_decide_eq_true h3
      refine skp ?_
      refine sq ?_
      refine bk ?_
      obtain ⟨z4, e5, hm⟩ := bd_some hm
      refine sr <| m (ixq (f := D.Box.V) e5 T.s44 (.t n10) (.t n12)) u14 <| m (lae T.a220 k4 (.t n14)) u15 <| k (al T.z220 s0 u7) <| k (sta T.a220 rfl rfl n0 (.z (.z (.z (.z .n)))) q0 (.t n7) (.t n15)) <| e ?_
      refine sr <| m (mv (.t n1)) u17 <| m (lab T.a220 n0 d0 k4 (.t n7)) u18 <| c (call (tot_impl_OpenBox private_ z4) (.c (.t n17) rfl (.c (.t n18) rfl .n))) u19 <| m (mv (.t n19)) u16 <| m (ext_ n0 (.t n16)) u20 <| m (ext_ n1 (.t n16)) u21 <| m (as_ (.t n20)) u8 <| m (as_ (.t n21)) u9 <| e ?_
      refine sr <| m (mv (.t n9)) u22 <| e ?_
      refine cnd n22 (fun h6 => ?_) (fun h6 => ?_)
      ·
        replace hm := ct h6 hm
        refine sr <| m (mv (.t n8)) u23 <| m (as_ (.t n23)) u4 <| m (as_ .b) u5 <| e ?_
        replace hm := inl1 hm hq1
        subst hm
        exact rt (ret2 (.t n4 (.p rfl) (.t n5 (.p rfl) .n)) rfl)
      ·
        replace hm := cf h6 hm
        refine skp ?_
        refine rg <| m (add (.t n12) (.i rfl)) u24 <| m (mv (.t n24)) u12 <| e ?_
        exact ⟨i0 + 1, hm, le [] (by decide) (.c .a (.c (.e rfl rfl) (.c .a (.c .a (.c .a (.c .a (.c .a (.c .a (.c .a (.c .a (.c (.e rfl rfl) (.c (.e rfl rfl) (.c (.e (wi (by omega)) rfl) (.c .a (.c .a (.c .a (.c .a (.c .a (.c .a (.c .a (.c .a (.c .a (.c .a (.c .a (.c .a .n))))))))))))))))))))))))) .n⟩
    ·
      replace hm := cf h3 hm
      have h3d := of_decide_eq_false h3
      refine ex (x1 ?_)
      replace hm := inr1 hm hq1
      exact ⟨(), hm, le [] (by decide) (.c .a (.c .a (.c .a (.c .a (.c .a (.c .a (.c .a (.c .a (.c .a (.c .a (.c .a (.c .a (.c .a (.c .a (.c .a (.c .a (.c .a (.c .a (.c .a (.c .a (.c .a (.c .a (.c .a (.c .a (.c .a .n))))))))))))))))))))))))) .n⟩
  ·
    refine sr <| m (as_ .n) u4 <| m (as_ .b) u5 <| e ?_
    replace hm := sj hm
    subst hm
    exact rt (ret2 (.t n4 .n (.t n5 (.p rfl) .n)) rfl)

theorem tot_impl_FindBox (boxes_ : List D.Box) (private_ : Int)  : Spec Tryz.prog G0 113 [.slice 4 (boxes_.map D.Box.V), .int .i64 private_] (fun v => v = .tup [.slice 1 (((findBoxF boxes_ private_).1).map y8), .bool ((findBoxF boxes_ private_).2)]) := sp_impl_FindBox boxes_ private_ _ (t_impl_FindBox boxes_ private_)

theorem sp_spec_l10Device (s_ : D.KeyStore) (r : Int) (hm : m_spec_l10Device s_ = some r) : Spec Tryz.prog G0 102 [.agg (D.KeyStore.V s_)] (fun v => v = .int .i64 r) := by
  rw [m_spec_l10Device] at hm
  refine enter (l := [.tmp 2]) Tryz.func102 rfl Tryz.ntmps102 rfl T.en102 fun E => ?_
  simp only [List.length_cons, List.length_nil, List.replicate_succ, List.replicate_zero, List.cons_append, List.nil_append, Nat.reduceAdd, Nat.reduceSub]
  refine sr <| k (bx rfl s0 u1 (.t n0)) <| m (as_ (.i rfl)) u2 <| e ?_
  obtain ⟨c1, hm⟩ := gd_some hm
  refine sr <| m (fab 2 rfl T.f99_2 (.t n1)) u3 <| m (ldb T.o3 n0 n2 (.t n3)) u4 <| k (bsm ([(181 : Int)] : List Int) iV T.s95 rfl rfl (.c (.i rfl) rfl rfl rfl .n) rfl u5) <| c (call (tot_spec_DeriveKey s_.Seed ([(181 : Int)] : List Int) c1) (.c (.t n4) rfl (.c (.t n5) rfl .n))) u6 <| m (as_ (.t n6)) u2 <| e ?_
  replace hm := sj hm
  subst hm
  exact rt (ret1 (.t n2 (.p rfl) .n) rfl)

theorem tot_spec_l10Device (s_ : D.KeyStore)  : Spec Tryz.prog G0 102 [.agg (D.KeyStore.V s_)] (fun v => v = .int .i64 (devKeyF s_)) := sp_spec_l10Device s_ _ (t_spec_l10Device s_)

theorem sp_spec_DevicePublic (s_ : D.KeyStore) (r : Int) (hm : m_spec_DevicePublic s_ = some r) : Spec Tryz.prog G0 55 [.agg (D.KeyStore.V s_)] (fun v => v = .int .i64 r) := by
  rw [m_spec_DevicePublic] at hm
  refine enter (l := [.tmp 2]) Tryz.func55 rfl Tryz.ntmps55 rfl T.en55 fun E => ?_
  simp only [List.length_cons, List.length_nil, List.replicate_succ, List.replicate_zero, List.cons_append, List.nil_append, Nat.reduceAdd, Nat.reduceSub]
  refine sr <| k (bx rfl s0 u1 (.t n0)) <| m (as_ (.i rfl)) u2 <| e ?_
  refine sr <| m (lab T.a99 n0 d0 k4 (.t n1)) u3 <| c (call (tot_spec_l10Device s_) (.c (.t n3) rfl .n)) u4 <| c (call (tot_spec_PublicKey (devKeyF s_)) (.c (.t n4) rfl .n)) u5 <| m (as_ (.t n5)) u2 <| e ?_
  replace hm := sj hm
  subst hm
  exact rt (ret1 (.t n2 (.p rfl) .n) rfl)

theorem tot_spec_DevicePublic (s_ : D.KeyStore)  : Spec Tryz.prog G0 55 [.agg (D.KeyStore.V s_)] (fun v => v = .int .i64 (devPubF s_)) := sp_spec_DevicePublic s_ _ (t_spec_DevicePublic s_)

theorem sp_impl_DevicePublic (s_ : D.KeyStore) (r : Int) (hm : m_impl_DevicePublic s_ = some r) : Spec Tryz.prog G0 58 [.agg (D.KeyStore.V s_)] (fun v => v = .int .i64 r) := by
  rw [m_impl_DevicePublic] at hm
  refine enter (l := [.tmp 2]) Tryz.func58 rfl Tryz.ntmps58 rfl T.en58 fun E => ?_
  simp only [List.length_cons, List.length_nil, List.replicate_succ, List.replicate_zero, List.cons_append, List.nil_append, Nat.reduceAdd, Nat.reduceSub]
  refine sr <| k (bx rfl s0 u1 (.t n0)) <| m (as_ (.i rfl)) u2 <| e ?_
  obtain ⟨c1, hm⟩ := gd_some hm
  refine sr <| m (fab 2 rfl T.f99_2 (.t n1)) u3 <| m (ldb T.o3 n0 n2 (.t n3)) u4 <| k (bsm ([(181 : Int)] : List Int) iV T.s95 rfl rfl (.c (.i rfl) rfl rfl rfl .n) rfl u5) <| c (call (tot_impl_DeriveKey s_.Seed ([(181 : Int)] : List Int) c1) (.c (.t n4) rfl (.c (.t n5) rfl .n))) u6 <| c (call (tot_impl_PublicKey (deriveF s_.Seed ([(181 : Int)] : List Int))) (.c (.t n6) rfl .n)) u7 <| m (as_ (.t n7)) u2 <| e ?_
  replace hm := sj hm
  subst hm
  exact rt (ret1 (.t n2 (.p rfl) .n) rfl)

theorem tot_impl_DevicePublic (s_ : D.KeyStore)  : Spec Tryz.prog G0 58 [.agg (D.KeyStore.V s_)] (fun v => v = .int .i64 (devPubF s_)) := sp_impl_DevicePublic s_ _ (t_impl_DevicePublic s_)

theorem sp_spec_l19Has (l_ : List Int) (x_ : Int) (r : Bool) (hm : m_spec_l19Has l_ x_ = some r) : Spec Tryz.prog G0 106 [.slice 1 (l_.map iV), .int .i64 x_] (fun v => v = .bool r) := by
  rw [m_spec_l19Has] at hm
  refine enter (l := [.tmp 4]) Tryz.func106 rfl Tryz.ntmps106 rfl T.en106 fun E => ?_
  simp only [List.length_cons, List.length_nil, List.replicate_succ, List.replicate_zero, List.cons_append, List.nil_append, Nat.reduceAdd, Nat.reduceSub]
  refine sr <| m (as_ .b) u4 <| e ?_
  refine sq ?_
  refine sr <| m (as_ (.i rfl)) u5 <| e ?_
  refine jmx hm (fun _ : Unit => ⟨[.any, .any, .any, .any, .any, .any, .any, .any, .any, .any, .any, .any, .any, .any, .any, .any, .any, .any], []⟩) (fun _ hm hq1 => ?_) (fun _ hm => ?_)
  ·
    refine bk ?_
    refine lpf (m := m_spec_l19Has_l0 l_ x_) hm (fun i0 : Nat => ⟨[.slice 1 (l_.map iV), .int .i64 x_, .any, .any, .any, .int .i64 (i0 : Int), .any, .any, .any, .any, .any, .any, .any, .any, .any, .any, .any, .any], []⟩) (fun _ => rfl) (le [] (by decide) (.c (.e rfl rfl) (.c (.e rfl rfl) (.c .a (.c .a (.c .a (.c (.e rfl rfl) (.c .a (.c .a (.c .a (.c .a (.c .a (.c .a (.c .a (.c .a (.c .a (.c .a (.c .a (.c .a .n)))))))))))))))))) .n) ?_
    rintro f i0 hm
    rw [m_spec_l19Has_l0] at hm
    refine sq ?_
    refine sr <| m (mv (.t n5)) u6 <| m (mv (.t n0)) u7 <| m (lenm (l := l_) (f := iV) T.s95 (.t n7)) u8 <| m (lss (.t n6) (.t n8)) u9 <| e ?_
    refine rng n8 fun _ ra2 => ?_
    replace ra2 := (show (_ : Int) ≤ 9223372036854775807 from ra2)
    refine cnd n9 (fun h3 => ?_) (fun h3 => ?_)
    ·
      replace hm := ct h3 hm
      have h3d := of_decide_eq_true h3
      refine skp ?_
      refine sq ?_
      refine bk ?_
      obtain ⟨z4, e5, hm⟩ := bd_some hm
      refine sr <| m (mv (.t n0)) u12 <| m (mv (.t n5)) u13 <| m (ixq (f := iV) e5 T.s95 (.t n12) (.t n13)) u14 <| m (lde T.o3 n0 (.t n14)) u15 <| m (mv (.t n1)) u16 <| m (eql (.t n15) (.t n16)) u17 <| e ?_
      refine cnd n17 (fun h6 => ?_) (fun h6 => ?_)
      ·
        replace hm := ct h6 hm
        refine sr <| m (as_ .b) u4 <| e ?_
        replace hm := inl1 hm hq1
        subst hm
        exact rt (ret1 (.t n4 (.p rfl) .n) rfl)
      ·
        replace hm := cf h6 hm
        refine skp ?_
        refine rg <| m (mv (.t n5)) u10 <| m (add (.t n10) (.i rfl)) u11 <| m (as_ (.t n11)) u5 <| e ?_
        exact ⟨i0 + 1, hm, le [] (by decide) (.c (.e rfl rfl) (.c (.e rfl rfl) (.c .a (.c .a (.c .a (.c (.e (wi (by omega)) rfl) (.c .a (.c .a (.c .a (.c .a (.c .a (.c .a (.c .a (.c .a (.c .a (.c .a (.c .a (.c .a .n)))))))))))))))))) .n⟩
    ·
      replace hm := cf h3 hm
      have h3d := of_decide_eq_false h3
      refine ex (x1 ?_)
      replace hm := inr1 hm hq1
      exact ⟨(), hm, le [] (by decide) (.c .a (.c .a (.c .a (.c .a (.c .a (.c .a (.c .a (.c .a (.c .a (.c .a (.c .a (.c .a (.c .a (.c .a (.c .a (.c .a (.c .a (.c .a .n)))))))))))))))))) .n⟩
  ·
    refine sr <| m (as_ .b) u4 <| e ?_
    replace hm := sj hm
    subst hm
    exact rt (ret1 (.t n4 (.p rfl) .n) rfl)

theorem tot_spec_l19Has (l_ : List Int) (x_ : Int)  : Spec Tryz.prog G0 106 [.slice 1 (l_.map iV), .int .i64 x_] (fun v => v = .bool (hasF l_ x_)) := sp_spec_l19Has l_ x_ _ (t_spec_l19Has l_ x_)

theorem sp_spec_DevicesOf (log_ : List D.LogEntry) (r : (List Int)) (hm : m_spec_DevicesOf log_ = some r) : Spec Tryz.prog G0 107 [.slice 6 (log_.map D.LogEntry.V)] (fun v => v = .slice 1 (r.map iV)) := by
  rw [m_spec_DevicesOf] at hm
  refine enter (l := [.tmp 2]) Tryz.func107 rfl Tryz.ntmps107 rfl T.en107 fun E => ?_
  simp only [List.length_cons, List.length_nil, List.replicate_succ, List.replicate_zero, List.cons_append, List.nil_append, Nat.reduceAdd, Nat.reduceSub]
  refine sr <| m (as_ .n) u2 <| e ?_
  refine sr <| k (bom ([] : List Int) iV T.s95 rfl rfl .n rfl s0 u8) <| m (as_ (.t n8)) u3 <| e ?_
  refine sq ?_
  refine sr <| m (as_ (.i rfl)) u4 <| e ?_
  refine jmb hm (fun j0_3r : List Int => ⟨[.any, .any, .any, .own 0, .any, .any, .any, .any, .any, .any, .any, .any, .any, .any, .any, .any, .any, .any, .any, .any, .any, .any, .any, .any, .any, .any, .any, .any, .any, .any, .any, .any, .any, .any, .any, .any, .any, .any, .any, .any, .any, .any, .any, .any, .any, .any, .any, .any, .any, .any, .any, .any, .any, .any, .any, .any, .any, .any, .any, .any, .any, .any, .any, .any, .any, .any], [.row 3 1 (j0_3r.map iV)]⟩) (fun _ hm hq1 => ?_) (fun j0_3r hm => ?_)
  ·
    refine bk ?_
    refine lpf (m := m_spec_DevicesOf_l0 log_) hm (fun yy2_ : Nat × (List Int) => ⟨[.slice 6 (log_.map D.LogEntry.V), .any, .any, .own 0, .int .i64 (yy2_.1 : Int), .any, .any, .any, .any, .any, .any, .any, .any, .any, .any, .any, .any, .any, .any, .any, .any, .any, .any, .any, .any, .any, .any, .any, .any, .any, .any, .any, .any, .any, .any, .any, .any, .any, .any, .any, .any, .any, .any, .any, .any, .any, .any, .any, .any, .any, .any, .any, .any, .any, .any, .any, .any, .any, .any, .any, .any, .any, .any, .any, .any, .any], [.row 3 1 (yy2_.2.map iV)]⟩) (fun _ => rfl) (le [0] (by decide) (.c (.e rfl rfl) (.c .a (.c .a (.c (.w n0) (.c (.e rfl rfl) (.c .a (.c .a (.c .a (.c .a (.c .a (.c .a (.c .a (.c .a (.c .a (.c .a (.c .a (.c .a (.c .a (.c .a (.c .a (.c .a (.c .a (.c .a (.c .a (.c .a (.c .a (.c .a (.c .a (.c .a (.c .a (.c .a (.c .a (.c .a (.c .a (.c .a (.c .a (.c .a (.c .a (.c .a (.c .a (.c .a (.c .a (.c .a (.c .a (.c .a (.c .a (.c .a (.c .a (.c .a (.c .a (.c .a (.c .a (.c .a (.c .a (.c .a (.c .a (.c .a (.c .a (.c .a (.c .a (.c .a (.c .a (.c .a (.c .a (.c .a (.c .a .n)))))))))))))))))))))))))))))))))))))))))))))))))))))))))))))))))) (.r n0 rfl .n)) ?_
    rintro f ⟨i0, v0_3r⟩ hm
    rw [m_spec_DevicesOf_l0] at hm
    dsimp only at hm ⊢
    refine sq ?_
    refine sr <| m (mv (.t n4)) u9 <| m (mv (.t n0)) u10 <| m (lenm (l := log_) (f := D.LogEntry.V) T.s43 (.t n10)) u11 <| m (lss (.t n9) (.t n11)) u12 <| e ?_
    refine rng n11 fun _ ra3 => ?_
    replace ra3 := (show (_ : Int) ≤ 9223372036854775807 from ra3)
    refine cnd n12 (fun h4 => ?_) (fun h4 => ?_)
    ·
      replace hm := ct h4 hm
      have h4d := of_decide_eq_true h4
      refine skp ?_
      refine sq ?_
      refine jmb hm (fun j1_3r : List Int => ⟨[.slice 6 (log_.map D.LogEntry.V), .any, .any, .own 0, .int .i64 (i0 : Int), .any, .any, .any, .any, .any, .any, .any, .any, .any, .any, .any, .any, .any, .any, .any, .any, .any, .any, .any, .any, .any, .any, .any, .any, .any, .any, .any, .any, .any, .any, .any, .any, .any, .any, .any, .any, .any, .any, .any, .any, .any, .any, .any, .any, .any, .any, .any, .any, .any, .any, .any, .any, .any, .any, .any, .any, .any, .any, .any, .any, .any], [.row 3 1 (j1_3r.map iV)]⟩) (fun _ hm hq5 => ?_) (fun j1_3r hm => ?_)
      ·
        refine bk ?_
        obtain ⟨z6, e7, hm⟩ := bd_some hm
        refine sr <| m (mv (.t n0)) u15 <| m (mv (.t n4)) u16 <| m (ixq (f := D.LogEntry.V) e7 T.s43 (.t n15) (.t n16)) u17 <| m (fae T.f106_2 d2 (.t n17)) u18 <| m (lde T.o3 n0 (.t n18)) u19 <| m (as_ (.t n19)) u5 <| e ?_
        refine jmb hm (fun j2_3r : List Int => ⟨[.slice 6 (log_.map D.LogEntry.V), .any, .any, .own 0, .int .i64 (i0 : Int), .any, .any, .any, .any, .any, .any, .any, .any, .any, .any, .any, .any, .any, .any, .any, .any, .any, .any, .any, .any, .any, .any, .any, .any, .any, .any, .any, .any, .any, .any, .any, .any, .any, .any, .any, .any, .any, .any, .any, .any, .any, .any, .any, .any, .any, .any, .any, .any, .any, .any, .any, .any, .any, .any, .any, .any, .any, .any, .any, .any, .any], [.row 3 1 (j2_3r.map iV)]⟩) (fun _ hm hq8 => ?_) (fun j2_3r hm => ?_)
        ·
          refine bk ?_
          refine sr <| rjb hm (fun j3_20 : Bool => ⟨[.slice 6 (log_.map D.LogEntry.V), .any, .any, .own 0, .int .i64 (i0 : Int), .int .i64 z6.Device, .any, .any, .any, .any, .any, .any, .any, .any, .any, .any, .any, .any, .any, .any, .bool j3_20, .any, .any, .any, .any, .any, .any, .any, .any, .any, .any, .any, .any, .any, .any, .any, .any, .any, .any, .any, .any, .any, .any, .any, .any, .any, .any, .any, .any, .any, .any, .any, .any, .any, .any, .any, .any, .any, .any, .any, .any, .any, .any, .any, .any, .any], [.row 3 1 (v0_3r.map iV)]⟩) (fun _ hm hq9 => ?_) (fun j3_20 hm => ?_)
          ·
            refine m (mv (.t n0)) u21 <| m (mv (.t n4)) u22 <| m (ixq (f := D.LogEntry.V) e7 T.s43 (.t n21) (.t n22)) u23 <| m (fae T.f106_1 d1 (.t n23)) u24 <| m (lde T.o3 n0 (.t n24)) u25 <| m (eql (.t n25) (.i rfl)) u26 <| m (mv (.t n26)) u27 <| sp n27 u27 u27 (fun h10 => ?_) (fun h10 => ?_)
            ·
              replace hm := ct h10 hm
              refine mg n6 rfl n27 (mv (.t n3)) u28 <| mg n6 rfl n27 (mv (.t n5)) u29 <| cg n6 rfl n27 (callm (tot_spec_l19Has v0_3r z6.Device) rfl (.c (.t n28) (.o n0) (.c (.t n29) (.p rfl) .n))) u30 <| mg n6 rfl n27 (not_ (.t n30)) u31 <| m (pkt (.t n27) (.t n31)) u32 <| m (as_ (.t n32)) u20 <| e ?_
              replace hm := sj hm
              subst hm
              have hm := hq9
              exact ⟨(!(hasF v0_3r z6.Device)), hm, le [0] (by decide) (.c (.e rfl rfl) (.c .a (.c .a (.c (.w n0) (.c (.e rfl rfl) (.c (.e rfl rfl) (.c .a (.c .a (.c .a (.c .a (.c .a (.c .a (.c .a (.c .a (.c .a (.c .a (.c .a (.c .a (.c .a (.c .a (.c (.e rfl rfl) (.c .a (.c .a (.c .a (.c .a (.c .a (.c .a (.c .a (.c .a (.c .a (.c .a (.c .a (.c .a (.c .a (.c .a (.c .a (.c .a (.c .a (.c .a (.c .a (.c .a (.c .a (.c .a (.c .a (.c .a (.c .a (.c .a (.c .a (.c .a (.c .a (.c .a (.c .a (.c .a (.c .a (.c .a (.c .a (.c .a (.c .a (.c .a (.c .a (.c .a (.c .a (.c .a (.c .a (.c .a (.c .a .n)))))))))))))))))))))))))))))))))))))))))))))))))))))))))))))))))) (.r n0 rfl .n)⟩
            ·
              replace hm := cf h10 hm
              refine sk n6 rfl n27 rfl u28 <| sk n6 rfl n27 rfl u29 <| sk n6 rfl n27 rfl u30 <| sk n6 rfl n27 rfl u31 <| m (pkf (.t n27) .b) u32 <| m (as_ (.t n32)) u20 <| e ?_
              replace hm := sj hm
              subst hm
              have hm := hq9
              exact ⟨false, hm, le [0] (by decide) (.c (.e rfl rfl) (.c .a (.c .a (.c (.w n0) (.c (.e rfl rfl) (.c (.e rfl rfl) (.c .a (.c .a (.c .a (.c .a (.c .a (.c .a (.c .a (.c .a (.c .a (.c .a (.c .a (.c .a (.c .a (.c .a (.c (.e rfl rfl) (.c .a (.c .a (.c .a (.c .a (.c .a (.c .a (.c .a (.c .a (.c .a (.c .a (.c .a (.c .a (.c .a (.c .a (.c .a (.c .a (.c .a (.c .a (.c .a (.c .a (.c .a (.c .a (.c .a (.c .a (.c .a (.c .a (.c .a (.c .a (.c .a (.c .a (.c .a (.c .a (.c .a (.c .a (.c .a (.c .a (.c .a (.c .a (.c .a (.c .a (.c .a (.c .a (.c .a (.c .a (.c .a .n)))))))))))))))))))))))))))))))))))))))))))))))))))))))))))))))))) (.r n0 rfl .n)⟩
          ·
            refine cnd n20 (fun h11 => ?_) (fun h11 => ?_)
            ·
              replace hm := ct h11 hm
              obtain ⟨c12, hm⟩ := gd_some hm
              refine rg <| m (mv (.t n3)) u33 <| m (mv (.t n5)) u34 <| k (bsm ([z6.Device] : List Int) iV T.s95 rfl rfl (.c (.t n34) rfl rfl rfl .n) rfl u35) <| dr u3 <| k (apm (l := v0_3r) (l2 := ([z6.Device] : List Int)) (f := iV) 33 c12 rfl (fun _ => rfl) T.s95 rfl n33 u33 n0 (.t n35) q0 rfl u36) <| m (as_ (.t n36)) u3 <| e ?_
              replace hm := sj hm
              subst hm
              have hm := hq8
              exact ⟨(v0_3r ++ ([z6.Device] : List Int)), hm, le [0] (by decide) (.c (.e rfl rfl) (.c .a (.c .a (.c (.w n0) (.c (.e rfl rfl) (.c .a (.c .a (.c .a (.c .a (.c .a (.c .a (.c .a (.c .a (.c .a (.c .a (.c .a (.c .a (.c .a (.c .a (.c .a (.c .a (.c .a (.c .a (.c .a (.c .a (.c .a (.c .a (.c .a (.c .a (.c .a (.c .a (.c .a (.c .a (.c .a (.c .a (.c .a (.c .a (.c .a (.c .a (.c .a (.c .a (.c .a (.c .a (.c .a (.c .a (.c .a (.c .a (.c .a (.c .a (.c .a (.c .a (.c .a (.c .a (.c .a (.c .a (.c .a (.c .a (.c .a (.c .a (.c .a (.c .a (.c .a (.c .a (.c .a (.c .a (.c .a .n)))))))))))))))))))))))))))))))))))))))))))))))))))))))))))))))))) (.r n0 rfl .n)⟩
            ·
              replace hm := cf h11 hm
              refine sr <| m (mv (.t n0)) u38 <| m (mv (.t n4)) u39 <| m (ixq (f := D.LogEntry.V) e7 T.s43 (.t n38) (.t n39)) u40 <| m (fae T.f106_1 d1 (.t n40)) u41 <| m (lde T.o3 n0 (.t n41)) u42 <| m (eql (.t n42) (.i rfl)) u43 <| m (as_ (.t n43)) u37 <| e ?_
              refine cnd n37 (fun h13 => ?_) (fun h13 => ?_)
              ·
                replace hm := ct h13 hm
                refine sr <| k (bom ([] : List Int) iV T.s95 rfl rfl .n rfl s1 u44) <| m (as_ (.t n44)) u6 <| e ?_
                refine sq ?_
                refine sr <| m (as_ (.i rfl)) u7 <| e ?_
                refine jmb hm (fun j4r6 : List Int => ⟨[.slice 6 (log_.map D.LogEntry.V), .any, .any, .any, .int .i64 (i0 : Int), .any, .own 0, .any, .any, .any, .any, .any, .any, .any, .any, .any, .any, .any, .any, .any, .any, .any, .any, .any, .any, .any, .any, .any, .any, .any, .any, .any, .any, .any, .any, .any, .any, .any, .any, .any, .any, .any, .any, .any, .any, .any, .any, .any, .any, .any, .any, .any, .any, .any, .any, .any, .any, .any, .any, .any, .any, .any, .any, .any, .any, .any], [.row 3 1 (j4r6.map iV)]⟩) (fun _ hm hq14 => ?_) (fun j4r6 hm => ?_)
                ·
                  refine bk ?_
                  refine lpf (m := m_spec_DevicesOf_l1 v0_3r z6) hm (fun yy15_ : Nat × (List Int) => ⟨[.slice 6 (log_.map D.LogEntry.V), .any, .any, .own 0, .int .i64 (i0 : Int), .int .i64 z6.Device, .own 1, .int .i64 (yy15_.1 : Int), .any, .any, .any, .any, .any, .any, .any, .any, .any, .any, .any, .any, .any, .any, .any, .any, .any, .any, .any, .any, .any, .any, .any, .any, .any, .any, .any, .any, .any, .any, .any, .any, .any, .any, .any, .any, .any, .any, .any, .any, .any, .any, .any, .any, .any, .any, .any, .any, .any, .any, .any, .any, .any, .any, .any, .any, .any, .any], [.row 3 1 (v0_3r.map iV), .row 3 1 (yy15_.2.map iV)]⟩) (fun _ => rfl) (le [0, 1] (by decide) (.c (.e rfl rfl) (.c .a (.c .a (.c (.w n0) (.c (.e rfl rfl) (.c (.e rfl rfl) (.c (.w n1) (.c (.e rfl rfl) (.c .a (.c .a (.c .a (.c .a (.c .a (.c .a (.c .a (.c .a (.c .a (.c .a (.c .a (.c .a (.c .a (.c .a (.c .a (.c .a (.c .a (.c .a (.c .a (.c .a (.c .a (.c .a (.c .a (.c .a (.c .a (.c .a (.c .a (.c .a (.c .a (.c .a (.c .a (.c .a (.c .a (.c .a (.c .a (.c .a (.c .a (.c .a (.c .a (.c .a (.c .a (.c .a (.c .a (.c .a (.c .a (.c .a (.c .a (.c .a (.c .a (.c .a (.c .a (.c .a (.c .a (.c .a (.c .a (.c .a (.c .a (.c .a .n)))))))))))))))))))))))))))))))))))))))))))))))))))))))))))))))))) (.r n0 rfl (.r n1 rfl .n))) ?_
                  rintro f ⟨i1, v1r6⟩ hm
                  rw [m_spec_DevicesOf_l1] at hm
                  dsimp only at hm ⊢
                  refine sq ?_
                  refine sr <| m (mv (.t n7)) u45 <| m (mv (.t n3)) u46 <| m (lenom (l := v0_3r) (f := iV) T.s95 n0 (.t n46)) u47 <| m (lss (.t n45) (.t n47)) u48 <| e ?_
                  refine rng n47 fun _ ra16 => ?_
                  replace ra16 := (show (_ : Int) ≤ 9223372036854775807 from ra16)
                  refine cnd n48 (fun h17 => ?_) (fun h17 => ?_)
                  ·
                    replace hm := ct h17 hm
                    have h17d := of_decide_eq_true h17
                    refine skp ?_
                    refine sq ?_
                    refine jmb hm (fun j5r6 : List Int => ⟨[.slice 6 (log_.map D.LogEntry.V), .any, .any, .own 0, .int .i64 (i0 : Int), .int .i64 z6.Device, .own 1, .int .i64 (i1 : Int), .any, .any, .any, .any, .any, .any, .any, .any, .any, .any, .any, .any, .any, .any, .any, .any, .any, .any, .any, .any, .any, .any, .any, .any, .any, .any, .any, .any, .any, .any, .any, .any, .any, .any, .any, .any, .any, .any, .any, .any, .any, .any, .any, .any, .any, .any, .any, .any, .any, .any, .any, .any, .any, .any, .any, .any, .any, .any], [.row 3 1 (v0_3r.map iV), .row 3 1 (j5r6.map iV)]⟩) (fun _ hm hq18 => ?_) (fun j5r6 hm => ?_)
                    ·
                      refine bk ?_
                      obtain ⟨z19, e20, hm⟩ := bd_some hm
                      refine sr <| m (mv (.t n3)) u51 <| m (mv (.t n7)) u52 <| m (oixq (f := iV) e20 T.s95 n0 (.t n51) (.t n52)) u53 <| m (ldm1 0 e20 T.o3 n0 rfl n0 (.t n53)) u54 <| m (mv (.t n5)) u55 <| m (neq (.t n54) (.t n55)) u56 <| e ?_
                      refine cnd n56 (fun h21 => ?_) (fun h21 => ?_)
                      ·
                        replace hm := ct h21 hm
                        obtain ⟨c22, hm⟩ := gd_some hm
                        refine rg <| m (mv (.t n6)) u57 <| m (mv (.t n3)) u58 <| m (mv (.t n7)) u59 <| m (oixq (f := iV) e20 T.s95 n0 (.t n58) (.t n59)) u60 <| m (ldm1 0 e20 T.o3 n0 rfl n0 (.t n60)) u61 <| k (bsm ([z19] : List Int) iV T.s95 rfl rfl (.c (.t n61) rfl rfl rfl .n) rfl u62) <| dr u6 <| k (apm (l := v1r6) (l2 := ([z19] : List Int)) (f := iV) 57 c22 rfl (fun _ => rfl) T.s95 rfl n57 u57 n1 (.t n62) q1 rfl u63) <| m (as_ (.t n63)) u6 <| e ?_
                        replace hm := sj hm
                        subst hm
                        have hm := hq18
                        exact ⟨(v1r6 ++ ([z19] : List Int)), hm, le [0, 1] (by decide) (.c (.e rfl rfl) (.c .a (.c .a (.c (.w n0) (.c (.e rfl rfl) (.c (.e rfl rfl) (.c (.w n1) (.c (.e rfl rfl) (.c .a (.c .a (.c .a (.c .a (.c .a (.c .a (.c .a (.c .a (.c .a (.c .a (.c .a (.c .a (.c .a (.c .a (.c .a (.c .a (.c .a (.c .a (.c .a (.c .a (.c .a (.c .a (.c .a (.c .a (.c .a (.c .a (.c .a (.c .a (.c .a (.c .a (.c .a (.c .a (.c .a (.c .a (.c .a (.c .a (.c .a (.c .a (.c .a (.c .a (.c .a (.c .a (.c .a (.c .a (.c .a (.c .a (.c .a (.c .a (.c .a (.c .a (.c .a (.c .a (.c .a (.c .a (.c .a (.c .a (.c .a (.c .a .n)))))))))))))))))))))))))))))))))))))))))))))))))))))))))))))))))) (.r n0 rfl (.r n1 rfl .n))⟩
                      ·
                        replace hm := cf h21 hm
                        refine skp ?_
                        replace hm := sj hm
                        subst hm
                        have hm := hq18
                        exact ⟨v1r6, hm, le [0, 1] (by decide) (.c (.e rfl rfl) (.c .a (.c .a (.c (.w n0) (.c (.e rfl rfl) (.c (.e rfl rfl) (.c (.w n1) (.c (.e rfl rfl) (.c .a (.c .a (.c .a (.c .a (.c .a (.c .a (.c .a (.c .a (.c .a (.c .a (.c .a (.c .a (.c .a (.c .a (.c .a (.c .a (.c .a (.c .a (.c .a (.c .a (.c .a (.c .a (.c .a (.c .a (.c .a (.c .a (.c .a (.c .a (.c .a (.c .a (.c .a (.c .a (.c .a (.c .a (.c .a (.c .a (.c .a (.c .a (.c .a (.c .a (.c .a (.c .a (.c .a (.c .a (.c .a (.c .a (.c .a (.c .a (.c .a (.c .a (.c .a (.c .a (.c .a (.c .a (.c .a (.c .a (.c .a (.c .a .n)))))))))))))))))))))))))))))))))))))))))))))))))))))))))))))))))) (.r n0 rfl (.r n1 rfl .n))⟩
                    ·
                      refine rg <| m (mv (.t n7)) u49 <| m (add (.t n49) (.i rfl)) u50 <| m (as_ (.t n50)) u7 <| e ?_
                      exact ⟨(i1 + 1, j5r6), hm, le [0, 1] (by decide) (.c (.e rfl rfl) (.c .a (.c .a (.c (.w n0) (.c (.e rfl rfl) (.c (.e rfl rfl) (.c (.w n1) (.c (.e (wi (by omega)) rfl) (.c .a (.c .a (.c .a (.c .a (.c .a (.c .a (.c .a (.c .a (.c .a (.c .a (.c .a (.c .a (.c .a (.c .a (.c .a (.c .a (.c .a (.c .a (.c .a (.c .a (.c .a (.c .a (.c .a (.c .a (.c .a (.c .a (.c .a (.c .a (.c .a (.c .a (.c .a (.c .a (.c .a (.c .a (.c .a (.c .a (.c .a (.c .a (.c .a (.c .a (.c .a (.c .a (.c .a (.c .a (.c .a (.c .a (.c .a (.c .a (.c .a (.c .a (.c .a (.c .a (.c .a (.c .a (.c .a (.c .a (.c .a (.c .a .n)))))))))))))))))))))))))))))))))))))))))))))))))))))))))))))))))) (.r n0 rfl (.r n1 rfl .n))⟩
                  ·
                    replace hm := cf h17 hm
                    have h17d := of_decide_eq_false h17
                    refine ex (x1 ?_)
                    replace hm := sj hm
                    subst hm
                    have hm := hq14
                    exact ⟨v1r6, hm, le [1] (by decide) (.c (.e rfl rfl) (.c .a (.c .a (.c .a (.c (.e rfl rfl) (.c .a (.c (.w n0) (.c .a (.c .a (.c .a (.c .a (.c .a (.c .a (.c .a (.c .a (.c .a (.c .a (.c .a (.c .a (.c .a (.c .a (.c .a (.c .a (.c .a (.c .a (.c .a (.c .a (.c .a (.c .a (.c .a (.c .a (.c .a (.c .a (.c .a (.c .a (.c .a (.c .a (.c .a (.c .a (.c .a (.c .a (.c .a (.c .a (.c .a (.c .a (.c .a (.c .a (.c .a (.c .a (.c .a (.c .a (.c .a (.c .a (.c .a (.c .a (.c .a (.c .a (.c .a (.c .a (.c .a (.c .a (.c .a (.c .a (.c .a (.c .a (.c .a .n)))))))))))))))))))))))))))))))))))))))))))))))))))))))))))))))))) (.r n1 rfl .n)⟩
                ·
                  refine rg <| m (mv (.t n6)) u64 <| m (as_ (.t n64)) u3 <| e ?_
                  replace hm := sj hm
                  subst hm
                  have hm := hq8
                  exact ⟨j4r6, hm, le [0] (by decide) (.c (.e rfl rfl) (.c .a (.c .a (.c (.w n0) (.c (.e rfl rfl) (.c .a (.c .a (.c .a (.c .a (.c .a (.c .a (.c .a (.c .a (.c .a (.c .a (.c .a (.c .a (.c .a (.c .a (.c .a (.c .a (.c .a (.c .a (.c .a (.c .a (.c .a (.c .a (.c .a (.c .a (.c .a (.c .a (.c .a (.c .a (.c .a (.c .a (.c .a (.c .a (.c .a (.c .a (.c .a (.c .a (.c .a (.c .a (.c .a (.c .a (.c .a (.c .a (.c .a (.c .a (.c .a (.c .a (.c .a (.c .a (.c .a (.c .a (.c .a (.c .a (.c .a (.c .a (.c .a (.c .a (.c .a (.c .a (.c .a (.c .a (.c .a .n)))))))))))))))))))))))))))))))))))))))))))))))))))))))))))))))))) (.r n0 rfl .n)⟩
              ·
                replace hm := cf h13 hm
                refine skp ?_
                replace hm := sj hm
                subst hm
                have hm := hq8
                exact ⟨v0_3r, hm, le [0] (by decide) (.c (.e rfl rfl) (.c .a (.c .a (.c (.w n0) (.c (.e rfl rfl) (.c .a (.c .a (.c .a (.c .a (.c .a (.c .a (.c .a (.c .a (.c .a (.c .a (.c .a (.c .a (.c .a (.c .a (.c .a (.c .a (.c .a (.c .a (.c .a (.c .a (.c .a (.c .a (.c .a (.c .a (.c .a (.c .a (.c .a (.c .a (.c .a (.c .a (.c .a (.c .a (.c .a (.c .a (.c .a (.c .a (.c .a (.c .a (.c .a (.c .a (.c .a (.c .a (.c .a (.c .a (.c .a (.c .a (.c .a (.c .a (.c .a (.c .a (.c .a (.c .a (.c .a (.c .a (.c .a (.c .a (.c .a (.c .a (.c .a (.c .a (.c .a .n)))))))))))))))))))))))))))))))))))))))))))))))))))))))))))))))))) (.r n0 rfl .n)⟩
        ·
          replace hm := sj hm
          subst hm
          have hm := hq5
          exact ⟨j2_3r, hm, le [0] (by decide) (.c (.e rfl rfl) (.c .a (.c .a (.c (.w n0) (.c (.e rfl rfl) (.c .a (.c .a (.c .a (.c .a (.c .a (.c .a (.c .a (.c .a (.c .a (.c .a (.c .a (.c .a (.c .a (.c .a (.c .a (.c .a (.c .a (.c .a (.c .a (.c .a (.c .a (.c .a (.c .a (.c .a (.c .a (.c .a (.c .a (.c .a (.c .a (.c .a (.c .a (.c .a (.c .a (.c .a (.c .a (.c .a (.c .a (.c .a (.c .a (.c .a (.c .a (.c .a (.c .a (.c .a (.c .a (.c .a (.c .a (.c .a (.c .a (.c .a (.c .a (.c .a (.c .a (.c .a (.c .a (.c .a (.c .a (.c .a (.c .a (.c .a (.c .a .n)))))))))))))))))))))))))))))))))))))))))))))))))))))))))))))))))) (.r n0 rfl .n)⟩
      ·
        refine rg <| m (mv (.t n4)) u13 <| m (add (.t n13) (.i rfl)) u14 <| m (as_ (.t n14)) u4 <| e ?_
        exact ⟨(i0 + 1, j1_3r), hm, le [0] (by decide) (.c (.e rfl rfl) (.c .a (.c .a (.c (.w n0) (.c (.e (wi (by omega)) rfl) (.c .a (.c .a (.c .a (.c .a (.c .a (.c .a (.c .a (.c .a (.c .a (.c .a (.c .a (.c .a (.c .a (.c .a (.c .a (.c .a (.c .a (.c .a (.c .a (.c .a (.c .a (.c .a (.c .a (.c .a (.c .a (.c .a (.c .a (.c .a (.c .a (.c .a (.c .a (.c .a (.c .a (.c .a (.c .a (.c .a (.c .a (.c .a (.c .a (.c .a (.c .a (.c .a (.c .a (.c .a (.c .a (.c .a (.c .a (.c .a (.c .a (.c .a (.c .a (.c .a (.c .a (.c .a (.c .a (.c .a (.c .a (.c .a (.c .a (.c .a (.c .a .n)))))))))))))))))))))))))))))))))))))))))))))))))))))))))))))))))) (.r n0 rfl .n)⟩
    ·
      replace hm := cf h4 hm
      have h4d := of_decide_eq_false h4
      refine ex (x1 ?_)
      replace hm := sj hm
      subst hm
      have hm := hq1
      exact ⟨v0_3r, hm, le [0] (by decide) (.c .a (.c .a (.c .a (.c (.w n0) (.c .a (.c .a (.c .a (.c .a (.c .a (.c .a (.c .a (.c .a (.c .a (.c .a (.c .a (.c .a (.c .a (.c .a (.c .a (.c .a (.c .a (.c .a (.c .a (.c .a (.c .a (.c .a (.c .a (.c .a (.c .a (.c .a (.c .a (.c .a (.c .a (.c .a (.c .a (.c .a (.c .a (.c .a (.c .a (.c .a (.c .a (.c .a (.c .a (.c .a (.c .a (.c .a (.c .a (.c .a (.c .a (.c .a (.c .a (.c .a (.c .a (.c .a (.c .a (.c .a (.c .a (.c .a (.c .a (.c .a (.c .a (.c .a (.c .a (.c .a (.c .a (.c .a .n)))))))))))))))))))))))))))))))))))))))))))))))))))))))))))))))))) (.r n0 rfl .n)⟩
  ·
    refine sr <| m (mv (.t n3)) u65 <| m (as_ (.t n65)) u2 <| e ?_
    replace hm := sj hm
    subst hm
    exact rt (ret1 (.t n2 (.o n0) .n) rfl)

theorem tot_spec_DevicesOf (log_ : List D.LogEntry) (hp0 : log_.length ≤ 34359738368) : Spec Tryz.prog G0 107 [.slice 6 (log_.map D.LogEntry.V)] (fun v => v = .slice 1 ((devicesOfF log_).map iV)) := sp_spec_DevicesOf log_ _ (t_spec_DevicesOf log_ hp0)

theorem sp_spec_EpochOf (log_ : List D.LogEntry) (r : Int) (hm : m_spec_EpochOf log_ = some r) : Spec Tryz.prog G0 72 [.slice 6 (log_.map D.LogEntry.V)] (fun v => v = .int .i64 r) := by
  rw [m_spec_EpochOf] at hm
  refine enter (l := [.tmp 2]) Tryz.func72 rfl Tryz.ntmps72 rfl T.en72 fun E => ?_
  simp only [List.length_cons, List.length_nil, List.replicate_succ, List.replicate_zero, List.cons_append, List.nil_append, Nat.reduceAdd, Nat.reduceSub]
  refine sr <| m (as_ (.i rfl)) u2 <| e ?_
  refine sr <| m (as_ (.i rfl)) u3 <| e ?_
  refine sq ?_
  refine sr <| m (as_ (.i rfl)) u4 <| e ?_
  refine jmb hm (fun j0_3 : Int => ⟨[.any, .any, .any, .int .i64 j0_3, .any, .any, .any, .any, .any, .any, .any, .any, .any, .any, .any, .any, .any, .any, .any, .any], []⟩) (fun _ hm hq1 => ?_) (fun j0_3 hm => ?_)
  ·
    refine bk ?_
    refine lpf (m := m_spec_EpochOf_l0 log_) hm (fun yy2_ : Int × Nat => ⟨[.slice 6 (log_.map D.LogEntry.V), .any, .any, .int .i64 yy2_.1, .int .i64 (yy2_.2 : Int), .any, .any, .any, .any, .any, .any, .any, .any, .any, .any, .any, .any, .any, .any, .any], []⟩) (fun _ => rfl) (le [] (by decide) (.c (.e rfl rfl) (.c .a (.c .a (.c (.e rfl rfl) (.c (.e rfl rfl) (.c .a (.c .a (.c .a (.c .a (.c .a (.c .a (.c .a (.c .a (.c .a (.c .a (.c .a (.c .a (.c .a (.c .a (.c .a .n)))))))))))))))))))) .n) ?_
    rintro f ⟨v0_3, i0⟩ hm
    rw [m_spec_EpochOf_l0] at hm
    dsimp only at hm ⊢
    refine sq ?_
    refine sr <| m (mv (.t n4)) u5 <| m (mv (.t n0)) u6 <| m (lenm (l := log_) (f := D.LogEntry.V) T.s43 (.t n6)) u7 <| m (lss (.t n5) (.t n7)) u8 <| e ?_
    refine rng n7 fun _ ra3 => ?_
    replace ra3 := (show (_ : Int) ≤ 9223372036854775807 from ra3)
    refine cnd n8 (fun h4 => ?_) (fun h4 => ?_)
    ·
      replace hm := ct h4 hm
      have h4d := of_decide_eq_true h4
      refine skp ?_
      refine sq ?_
      refine jmb hm (fun j1_3 : Int => ⟨[.slice 6 (log_.map D.LogEntry.V), .any, .any, .int .i64 j1_3, .int .i64 (i0 : Int), .any, .any, .any, .any, .any, .any, .any, .any, .any, .any, .any, .any, .any, .any, .any], []⟩) (fun _ hm hq5 => ?_) (fun j1_3 hm => ?_)
      ·
        refine bk ?_
        obtain ⟨z6, e7, hm⟩ := bd_some hm
        refine sr <| m (mv (.t n0)) u11 <| m (mv (.t n4)) u12 <| m (ixq (f := D.LogEntry.V) e7 T.s43 (.t n11) (.t n12)) u13 <| m (fae T.f106_1 d1 (.t n13)) u14 <| m (lde T.o3 n0 (.t n14)) u15 <| m (eql (.t n15) (.i rfl)) u16 <| e ?_
        refine cnd n16 (fun h8 => ?_) (fun h8 => ?_)
        ·
          replace hm := ct h8 hm
          refine rg <| m (mv (.t n3)) u17 <| m (add (.t n17) (.i rfl)) u18 <| m (as_ (.t n18)) u3 <| e ?_
          replace hm := sj hm
          subst hm
          have hm := hq5
          exact ⟨IntKind.i64.wrap (v0_3 + (1 : Int)), hm, le [] (by decide) (.c (.e rfl rfl) (.c .a (.c .a (.c (.e rfl rfl) (.c (.e rfl rfl) (.c .a (.c .a (.c .a (.c .a (.c .a (.c .a (.c .a (.c .a (.c .a (.c .a (.c .a (.c .a (.c .a (.c .a (.c .a .n)))))))))))))))))))) .n⟩
        ·
          replace hm := cf h8 hm
          refine skp ?_
          replace hm := sj hm
          subst hm
          have hm := hq5
          exact ⟨v0_3, hm, le [] (by decide) (.c (.e rfl rfl) (.c .a (.c .a (.c (.e rfl rfl) (.c (.e rfl rfl) (.c .a (.c .a (.c .a (.c .a (.c .a (.c .a (.c .a (.c .a (.c .a (.c .a (.c .a (.c .a (.c .a (.c .a (.c .a .n)))))))))))))))))))) .n⟩
      ·
        refine rg <| m (mv (.t n4)) u9 <| m (add (.t n9) (.i rfl)) u10 <| m (as_ (.t n10)) u4 <| e ?_
        exact ⟨(j1_3, i0 + 1), hm, le [] (by decide) (.c (.e rfl rfl) (.c .a (.c .a (.c (.e rfl rfl) (.c (.e (wi (by omega)) rfl) (.c .a (.c .a (.c .a (.c .a (.c .a (.c .a (.c .a (.c .a (.c .a (.c .a (.c .a (.c .a (.c .a (.c .a (.c .a .n)))))))))))))))))))) .n⟩
    ·
      replace hm := cf h4 hm
      have h4d := of_decide_eq_false h4
      refine ex (x1 ?_)
      replace hm := sj hm
      subst hm
      have hm := hq1
      exact ⟨v0_3, hm, le [] (by decide) (.c .a (.c .a (.c .a (.c (.e rfl rfl) (.c .a (.c .a (.c .a (.c .a (.c .a (.c .a (.c .a (.c .a (.c .a (.c .a (.c .a (.c .a (.c .a (.c .a (.c .a (.c .a .n)))))))))))))))))))) .n⟩
  ·
    refine sr <| m (mv (.t n3)) u19 <| m (as_ (.t n19)) u2 <| e ?_
    replace hm := sj hm
    subst hm
    exact rt (ret1 (.t n2 (.p rfl) .n) rfl)

theorem tot_spec_EpochOf (log_ : List D.LogEntry)  : Spec Tryz.prog G0 72 [.slice 6 (log_.map D.LogEntry.V)] (fun v => v = .int .i64 (epochOfF log_)) := sp_spec_EpochOf log_ _ (t_spec_EpochOf log_)

theorem sp_impl_has (l_ : List Int) (n_ : Int) (r : Bool) (hm : m_impl_has l_ n_ = some r) : Spec Tryz.prog G0 108 [.slice 1 (l_.map iV), .int .i64 n_] (fun v => v = .bool r) := by
  rw [m_impl_has] at hm
  refine enter (l := [.tmp 4]) Tryz.func108 rfl Tryz.ntmps108 rfl T.en108 fun E => ?_
  simp only [List.length_cons, List.length_nil, List.replicate_succ, List.replicate_zero, List.cons_append, List.nil_append, Nat.reduceAdd, Nat.reduceSub]
  refine sr <| m (as_ .b) u4 <| e ?_
  refine sq ?_
  refine sr <| m (mv (.t n0)) u7 <| m (lenm (l := l_) (f := iV) T.s95 (.t n7)) u8 <| m (mv (.i rfl)) u9 <| e ?_
  refine jmx hm (fun _ : Unit => ⟨[.any, .any, .any, .any, .any, .any, .any, .any, .any, .any, .any, .any, .any, .any, .any, .any, .any], []⟩) (fun _ hm hq1 => ?_) (fun _ hm => ?_)
  ·
    refine bk ?_
    refine lpf (m := m_impl_has_l0 l_ n_) hm (fun i0 : Nat => ⟨[.any, .int .i64 n_, .any, .any, .any, .any, .any, .slice 1 (l_.map iV), .int .i64 (l_.length : Int), .int .i64 (i0 : Int), .any, .any, .any, .any, .any, .any, .any], []⟩) (fun _ => rfl) (le [] (by decide) (.c .a (.c (.e rfl rfl) (.c .a (.c .a (.c .a (.c .a (.c .a (.c (.e rfl rfl) (.c (.e rfl rfl) (.c (.e rfl rfl) (.c .a (.c .a (.c .a (.c .a (.c .a (.c .a (.c .a .n))))))))))))))))) .n) ?_
    rintro f i0 hm
    rw [m_impl_has_l0] at hm
    refine sr <| m (lss (.t n9) (.t n8)) u10 <| e ?_
    refine rng n8 fun _ ra2 => ?_
    replace ra2 := (show (_ : Int) ≤ 9223372036854775807 from ra2)
    refine sq ?_
    refine cnd n10 (fun h3 => ?_) (fun h3 => ?_)
    ·
      replace hm := ct h3 hm
      have h3d := of_decide_eq_true h3
      refine skp ?_
      refine sq ?_
      refine bk ?_
      obtain ⟨z4, e5, hm⟩ := bd_some hm
      refine sr <| m (ixq (f := iV) e5 T.s95 (.t n7) (.t n9)) u11 <| m (lde T.o3 n0 (.t n11)) u12 <| m (as_ (.t n12)) u6 <| e ?_
      refine sr <| m (mv (.t n6)) u13 <| m (mv (.t n1)) u14 <| m (eql (.t n13) (.t n14)) u15 <| e ?_
      refine cnd n15 (fun h6 => ?_) (fun h6 => ?_)
      ·
        replace hm := ct h6 hm
        refine sr <| m (as_ .b) u4 <| e ?_
        replace hm := inl1 hm hq1
        subst hm
        exact rt (ret1 (.t n4 (.p rfl) .n) rfl)
      ·
        replace hm := cf h6 hm
        refine skp ?_
        refine rg <| m (add (.t n9) (.i rfl)) u16 <| m (mv (.t n16)) u9 <| e ?_
        exact ⟨i0 + 1, hm, le [] (by decide) (.c .a (.c (.e rfl rfl) (.c .a (.c .a (.c .a (.c .a (.c .a (.c (.e rfl rfl) (.c (.e rfl rfl) (.c (.e (wi (by omega)) rfl) (.c .a (.c .a (.c .a (.c .a (.c .a (.c .a (.c .a .n))))))))))))))))) .n⟩
    ·
      replace hm := cf h3 hm
      have h3d := of_decide_eq_false h3
      refine ex (x1 ?_)
      replace hm := inr1 hm hq1
      exact ⟨(), hm, le [] (by decide) (.c .a (.c .a (.c .a (.c .a (.c .a (.c .a (.c .a (.c .a (.c .a (.c .a (.c .a (.c .a (.c .a (.c .a (.c .a (.c .a (.c .a .n))))))))))))))))) .n⟩
  ·
    refine sr <| m (as_ .b) u4 <| e ?_
    replace hm := sj hm
    subst hm
    exact rt (ret1 (.t n4 (.p rfl) .n) rfl)

theorem tot_impl_has (l_ : List Int) (n_ : Int)  : Spec Tryz.prog G0 108 [.slice 1 (l_.map iV), .int .i64 n_] (fun v => v = .bool (hasF l_ n_)) := sp_impl_has l_ n_ _ (t_impl_has l_ n_)

theorem sp_impl_DevicesOf (log_ : List D.LogEntry) (r : (List Int)) (hm : m_impl_DevicesOf log_ = some r) : Spec Tryz.prog G0 109 [.slice 6 (log_.map D.LogEntry.V)] (fun v => v = .slice 1 (r.map iV)) := by
  rw [m_impl_DevicesOf] at hm
  refine enter (l := [.tmp 2]) Tryz.func109 rfl Tryz.ntmps109 rfl T.en109 fun E => ?_
  simp only [List.length_cons, List.length_nil, List.replicate_succ, List.replicate_zero, List.cons_append, List.nil_append, Nat.reduceAdd, Nat.reduceSub]
  refine sr <| m (as_ .n) u2 <| e ?_
  refine sr <| k (bom ([] : List Int) iV T.s95 rfl rfl .n rfl s0 u9) <| m (as_ (.t n9)) u3 <| e ?_
  refine sq ?_
  refine sr <| m (mv (.t n0)) u10 <| m (lenm (l := log_) (f := D.LogEntry.V) T.s43 (.t n10)) u11 <| m (mv (.i rfl)) u12 <| e ?_
  refine jmb hm (fun j0_3r : List Int => ⟨[.any, .any, .any, .own 0, .any, .any, .any, .any, .any, .any, .any, .any, .any, .any, .any, .any, .any, .any, .any, .any, .any, .any, .any, .any, .any, .any, .any, .any, .any, .any, .any, .any, .any, .any, .any, .any, .any, .any, .any, .any, .any, .any, .any, .any, .any, .any, .any, .any, .any, .any, .any], [.row 3 1 (j0_3r.map iV)]⟩) (fun _ hm hq1 => ?_) (fun j0_3r hm => ?_)
  ·
    refine bk ?_
    refine lpf (m := m_impl_DevicesOf_l0 log_) hm (fun yy2_ : Nat × (List Int) => ⟨[.any, .any, .any, .own 0, .any, .any, .any, .any, .any, .any, .slice 6 (log_.map D.LogEntry.V), .int .i64 (log_.length : Int), .int .i64 (yy2_.1 : Int), .any, .any, .any, .any, .any, .any, .any, .any, .any, .any, .any, .any, .any, .any, .any, .any, .any, .any, .any, .any, .any, .any, .any, .any, .any, .any, .any, .any, .any, .any, .any, .any, .any, .any, .any, .any, .any, .any], [.row 3 1 (yy2_.2.map iV)]⟩) (fun _ => rfl) (le [0] (by decide) (.c .a (.c .a (.c .a (.c (.w n0) (.c .a (.c .a (.c .a (.c .a (.c .a (.c .a (.c (.e rfl rfl) (.c (.e rfl rfl) (.c (.e rfl rfl) (.c .a (.c .a (.c .a (.c .a (.c .a (.c .a (.c .a (.c .a (.c .a (.c .a (.c .a (.c .a (.c .a (.c .a (.c .a (.c .a (.c .a (.c .a (.c .a (.c .a (.c .a (.c .a (.c .a (.c .a (.c .a (.c .a (.c .a (.c .a (.c .a (.c .a (.c .a (.c .a (.c .a (.c .a (.c .a (.c .a (.c .a (.c .a .n))))))))))))))))))))))))))))))))))))))))))))))))))) (.r n0 rfl .n)) ?_
    rintro f ⟨i0, v0_3r⟩ hm
    rw [m_impl_DevicesOf_l0] at hm
    dsimp only at hm ⊢
    refine sr <| m (lss (.t n12) (.t n11)) u13 <| e ?_
    refine rng n11 fun _ ra3 => ?_
    replace ra3 := (show (_ : Int) ≤ 9223372036854775807 from ra3)
    refine sq ?_
    refine cnd n13 (fun h4 => ?_) (fun h4 => ?_)
    ·
      replace hm := ct h4 hm
      have h4d := of_decide_eq_true h4
      refine skp ?_
      refine sq ?_
      refine jmb hm (fun j1_3r : List Int => ⟨[.any, .any, .any, .own 0, .any, .any, .any, .any, .any, .any, .slice 6 (log_.map D.LogEntry.V), .int .i64 (log_.length : Int), .int .i64 (i0 : Int), .any, .any, .any, .any, .any, .any, .any, .any, .any, .any, .any, .any, .any, .any, .any, .any, .any, .any, .any, .any, .any, .any, .any, .any, .any, .any, .any, .any, .any, .any, .any, .any, .any, .any, .any, .any, .any, .any], [.row 3 1 (j1_3r.map iV)]⟩) (fun _ hm hq5 => ?_) (fun j1_3r hm => ?_)
      ·
        refine bk ?_
        obtain ⟨z6, e7, hm⟩ := bd_some hm
        refine sr <| m (ixq (f := D.LogEntry.V) e7 T.s43 (.t n10) (.t n12)) u14 <| m (lae T.a106 k6 (.t n14)) u15 <| k (al T.z106 s1 u5) <| k (sta T.a106 rfl rfl n1 (.z (.z (.z (.z (.z (.z .n)))))) q1 (.t n5) (.t n15)) <| e ?_
        refine sr <| m (fab 1 rfl T.f106_1 (.t n5)) u16 <| m (ldb T.o3 n1 n1 (.t n16)) u17 <| e ?_
        refine jmb hm (fun j2_3r : List Int => ⟨[.any, .any, .any, .own 0, .any, .any, .any, .any, .any, .any, .slice 6 (log_.map D.LogEntry.V), .int .i64 (log_.length : Int), .int .i64 (i0 : Int), .any, .any, .any, .any, .any, .any, .any, .any, .any, .any, .any, .any, .any, .any, .any, .any, .any, .any, .any, .any, .any, .any, .any, .any, .any, .any, .any, .any, .any, .any, .any, .any, .any, .any, .any, .any, .any, .any], [.row 3 1 (j2_3r.map iV)]⟩) (fun _ hm hq8 => ?_) (fun j2_3r hm => ?_)
        ·
          refine bk ?_
          refine sr <| m (eql (.t n17) (.i rfl)) u19 <| m (as_ (.t n19)) u18 <| e ?_
          refine cnd n18 (fun h9 => ?_) (fun h9 => ?_)
          ·
            replace hm := ct h9 hm
            refine sr <| m (mv (.t n3)) u20 <| m (fab 2 rfl T.f106_2 (.t n5)) u21 <| m (ldb T.o3 n1 n2 (.t n21)) u22 <| c (callm (tot_impl_has v0_3r z6.Device) rfl (.c (.t n20) (.o n0) (.c (.t n22) (.p rfl) .n))) u23 <| m (not_ (.t n23)) u24 <| e ?_
            refine cnd n24 (fun h10 => ?_) (fun h10 => ?_)
            ·
              replace hm := ct h10 hm
              obtain ⟨c11, hm⟩ := gd_some hm
              refine rg <| m (mv (.t n3)) u25 <| m (fab 2 rfl T.f106_2 (.t n5)) u26 <| m (ldb T.o3 n1 n2 (.t n26)) u27 <| k (bsm ([z6.Device] : List Int) iV T.s95 rfl rfl (.c (.t n27) rfl rfl rfl .n) rfl u28) <| dr u3 <| dr u20 <| k (apm (l := v0_3r) (l2 := ([z6.Device] : List Int)) (f := iV) 25 c11 rfl (fun _ => rfl) T.s95 rfl n25 u25 n0 (.t n28) q0 rfl u29) <| m (as_ (.t n29)) u3 <| e ?_
              replace hm := sj hm
              subst hm
              have hm := hq8
              exact ⟨(v0_3r ++ ([z6.Device] : List Int)), hm, le [0] (by decide) (.c .a (.c .a (.c .a (.c (.w n0) (.c .a (.c .a (.c .a (.c .a (.c .a (.c .a (.c (.e rfl rfl) (.c (.e rfl rfl) (.c (.e rfl rfl) (.c .a (.c .a (.c .a (.c .a (.c .a (.c .a (.c .a (.c .a (.c .a (.c .a (.c .a (.c .a (.c .a (.c .a (.c .a (.c .a (.c .a (.c .a (.c .a (.c .a (.c .a (.c .a (.c .a (.c .a (.c .a (.c .a (.c .a (.c .a (.c .a (.c .a (.c .a (.c .a (.c .a (.c .a (.c .a (.c .a (.c .a (.c .a .n))))))))))))))))))))))))))))))))))))))))))))))))))) (.r n0 rfl .n)⟩
            ·
              replace hm := cf h10 hm
              refine skp ?_
              replace hm := sj hm
              subst hm
              have hm := hq8
              exact ⟨v0_3r, hm, le [0] (by decide) (.c .a (.c .a (.c .a (.c (.w n0) (.c .a (.c .a (.c .a (.c .a (.c .a (.c .a (.c (.e rfl rfl) (.c (.e rfl rfl) (.c (.e rfl rfl) (.c .a (.c .a (.c .a (.c .a (.c .a (.c .a (.c .a (.c .a (.c .a (.c .a (.c .a (.c .a (.c .a (.c .a (.c .a (.c .a (.c .a (.c .a (.c .a (.c .a (.c .a (.c .a (.c .a (.c .a (.c .a (.c .a (.c .a (.c .a (.c .a (.c .a (.c .a (.c .a (.c .a (.c .a (.c .a (.c .a (.c .a (.c .a .n))))))))))))))))))))))))))))))))))))))))))))))))))) (.r n0 rfl .n)⟩
          ·
            replace hm := cf h9 hm
            refine sr <| m (eql (.t n17) (.i rfl)) u31 <| m (as_ (.t n31)) u30 <| e ?_
            refine cnd n30 (fun h12 => ?_) (fun h12 => ?_)
            ·
              replace hm := ct h12 hm
              refine sr <| k (bom ([] : List Int) iV T.s95 rfl rfl .n rfl s2 u32) <| m (as_ (.t n32)) u6 <| e ?_
              refine sq ?_
              refine sr <| m (mv (.t n3)) u33 <| m (lenom (l := v0_3r) (f := iV) T.s95 n0 (.t n33)) u34 <| m (mv (.i rfl)) u35 <| e ?_
              refine jmb hm (fun j3r7 : List Int => ⟨[.any, .any, .any, .any, .any, .any, .own 0, .any, .any, .any, .slice 6 (log_.map D.LogEntry.V), .int .i64 (log_.length : Int), .int .i64 (i0 : Int), .any, .any, .any, .any, .any, .any, .any, .any, .any, .any, .any, .any, .any, .any, .any, .any, .any, .any, .any, .any, .any, .any, .any, .any, .any, .any, .any, .any, .any, .any, .any, .any, .any, .any, .any, .any, .any, .any], [.row 3 1 (j3r7.map iV)]⟩) (fun _ hm hq13 => ?_) (fun j3r7 hm => ?_)
              ·
                refine bk ?_
                refine lpf (m := m_impl_DevicesOf_l1 v0_3r z6) hm (fun yy14_ : Nat × (List Int) => ⟨[.any, .any, .any, .any, .any, .box 1 0, .own 2, .any, .any, .any, .slice 6 (log_.map D.LogEntry.V), .int .i64 (log_.length : Int), .int .i64 (i0 : Int), .any, .any, .any, .any, .any, .any, .any, .any, .any, .any, .any, .any, .any, .any, .any, .any, .any, .any, .any, .any, .own 0, .int .i64 (v0_3r.length : Int), .int .i64 (yy14_.1 : Int), .any, .any, .any, .any, .any, .any, .any, .any, .any, .any, .any, .any, .any, .any, .any], [.row 3 1 (v0_3r.map iV), .box 106 [.int .i64 z6.Index, .int .i64 z6.Kind, .int .i64 z6.Device, .int .i64 z6.By, .int .i64 z6.Previous, .int .i64 z6.Signature], .row 3 1 (yy14_.2.map iV)]⟩) (fun _ => rfl) (le [0, 1, 2] (by decide) (.c .a (.c .a (.c .a (.c .a (.c .a (.c (.b n1) (.c (.w n2) (.c .a (.c .a (.c .a (.c (.e rfl rfl) (.c (.e rfl rfl) (.c (.e rfl rfl) (.c .a (.c .a (.c .a (.c .a (.c .a (.c .a (.c .a (.c .a (.c .a (.c .a (.c .a (.c .a (.c .a (.c .a (.c .a (.c .a (.c .a (.c .a (.c .a (.c .a (.c (.w n0) (.c (.e rfl rfl) (.c (.e rfl rfl) (.c .a (.c .a (.c .a (.c .a (.c .a (.c .a (.c .a (.c .a (.c .a (.c .a (.c .a (.c .a (.c .a (.c .a (.c .a .n))))))))))))))))))))))))))))))))))))))))))))))))))) (.r n0 rfl (.b n1 (.c (.e rfl rfl) (.c (.e rfl rfl) (.c (.e rfl rfl) (.c (.e rfl rfl) (.c (.e rfl rfl) (.c (.e rfl rfl) .n)))))) (.r n2 rfl .n)))) ?_
                rintro f ⟨i1, v1r7⟩ hm
                rw [m_impl_DevicesOf_l1] at hm
                dsimp only at hm ⊢
                refine sr <| m (lss (.t n35) (.t n34)) u36 <| e ?_
                refine rng n34 fun _ ra15 => ?_
                replace ra15 := (show (_ : Int) ≤ 9223372036854775807 from ra15)
                refine sq ?_
                refine cnd n36 (fun h16 => ?_) (fun h16 => ?_)
                ·
                  replace hm := ct h16 hm
                  have h16d := of_decide_eq_true h16
                  refine skp ?_
                  refine sq ?_
                  refine jmb hm (fun j4r7 : List Int => ⟨[.any, .any, .any, .any, .any, .box 1 0, .own 2, .any, .any, .any, .slice 6 (log_.map D.LogEntry.V), .int .i64 (log_.length : Int), .int .i64 (i0 : Int), .any, .any, .any, .any, .any, .any, .any, .any, .any, .any, .any, .any, .any, .any, .any, .any, .any, .any, .any, .any, .own 0, .int .i64 (v0_3r.length : Int), .int .i64 (i1 : Int), .any, .any, .any, .any, .any, .any, .any, .any, .any, .any, .any, .any, .any, .any, .any], [.row 3 1 (v0_3r.map iV), .box 106 [.int .i64 z6.Index, .int .i64 z6.Kind, .int .i64 z6.Device, .int .i64 z6.By, .int .i64 z6.Previous, .int .i64 z6.Signature], .row 3 1 (j4r7.map iV)]⟩) (fun _ hm hq17 => ?_) (fun j4r7 hm => ?_)
                  ·
                    refine bk ?_
                    obtain ⟨z18, e19, hm⟩ := bd_some hm
                    refine sr <| m (oixq (f := iV) e19 T.s95 n0 (.t n33) (.t n35)) u37 <| m (ldm1 0 e19 T.o3 n0 rfl n0 (.t n37)) u38 <| m (as_ (.t n38)) u8 <| e ?_
                    refine sr <| m (mv (.t n8)) u39 <| m (fab 2 rfl T.f106_2 (.t n5)) u40 <| m (ldb T.o3 n1 n2 (.t n40)) u41 <| m (neq (.t n39) (.t n41)) u42 <| e ?_
                    refine cnd n42 (fun h20 => ?_) (fun h20 => ?_)
                    ·
                      replace hm := ct h20 hm
                      obtain ⟨c21, hm⟩ := gd_some hm
                      refine rg <| m (mv (.t n6)) u43 <| m (mv (.t n8)) u44 <| k (bsm ([z18] : List Int) iV T.s95 rfl rfl (.c (.t n44) rfl rfl rfl .n) rfl u45) <| dr u6 <| k (apm (l := v1r7) (l2 := ([z18] : List Int)) (f := iV) 43 c21 rfl (fun _ => rfl) T.s95 rfl n43 u43 n2 (.t n45) q2 rfl u46) <| m (as_ (.t n46)) u6 <| e ?_
                      replace hm := sj hm
                      subst hm
                      have hm := hq17
                      exact ⟨(v1r7 ++ ([z18] : List Int)), hm, le [0, 1, 2] (by decide) (.c .a (.c .a (.c .a (.c .a (.c .a (.c (.b n1) (.c (.w n2) (.c .a (.c .a (.c .a (.c (.e rfl rfl) (.c (.e rfl rfl) (.c (.e rfl rfl) (.c .a (.c .a (.c .a (.c .a (.c .a (.c .a (.c .a (.c .a (.c .a (.c .a (.c .a (.c .a (.c .a (.c .a (.c .a (.c .a (.c .a (.c .a (.c .a (.c .a (.c (.w n0) (.c (.e rfl rfl) (.c (.e rfl rfl) (.c .a (.c .a (.c .a (.c .a (.c .a (.c .a (.c .a (.c .a (.c .a (.c .a (.c .a (.c .a (.c .a (.c .a (.c .a .n))))))))))))))))))))))))))))))))))))))))))))))))))) (.r n0 rfl (.b n1 (.c (.e rfl rfl) (.c (.e rfl rfl) (.c (.e rfl rfl) (.c (.e rfl rfl) (.c (.e rfl rfl) (.c (.e rfl rfl) .n)))))) (.r n2 rfl .n)))⟩
                    ·
                      replace hm := cf h20 hm
                      refine skp ?_
                      replace hm := sj hm
                      subst hm
                      have hm := hq17
                      exact ⟨v1r7, hm, le [0, 1, 2] (by decide) (.c .a (.c .a (.c .a (.c .a (.c .a (.c (.b n1) (.c (.w n2) (.c .a (.c .a (.c .a (.c (.e rfl rfl) (.c (.e rfl rfl) (.c (.e rfl rfl) (.c .a (.c .a (.c .a (.c .a (.c .a (.c .a (.c .a (.c .a (.c .a (.c .a (.c .a (.c .a (.c .a (.c .a (.c .a (.c .a (.c .a (.c .a (.c .a (.c .a (.c (.w n0) (.c (.e rfl rfl) (.c (.e rfl rfl) (.c .a (.c .a (.c .a (.c .a (.c .a (.c .a (.c .a (.c .a (.c .a (.c .a (.c .a (.c .a (.c .a (.c .a (.c .a .n))))))))))))))))))))))))))))))))))))))))))))))))))) (.r n0 rfl (.b n1 (.c (.e rfl rfl) (.c (.e rfl rfl) (.c (.e rfl rfl) (.c (.e rfl rfl) (.c (.e rfl rfl) (.c (.e rfl rfl) .n)))))) (.r n2 rfl .n)))⟩
                  ·
                    refine rg <| m (add (.t n35) (.i rfl)) u47 <| m (mv (.t n47)) u35 <| e ?_
                    exact ⟨(i1 + 1, j4r7), hm, le [0, 1, 2] (by decide) (.c .a (.c .a (.c .a (.c .a (.c .a (.c (.b n1) (.c (.w n2) (.c .a (.c .a (.c .a (.c (.e rfl rfl) (.c (.e rfl rfl) (.c (.e rfl rfl) (.c .a (.c .a (.c .a (.c .a (.c .a (.c .a (.c .a (.c .a (.c .a (.c .a (.c .a (.c .a (.c .a (.c .a (.c .a (.c .a (.c .a (.c .a (.c .a (.c .a (.c (.w n0) (.c (.e rfl rfl) (.c (.e (wi (by omega)) rfl) (.c .a (.c .a (.c .a (.c .a (.c .a (.c .a (.c .a (.c .a (.c .a (.c .a (.c .a (.c .a (.c .a (.c .a (.c .a .n))))))))))))))))))))))))))))))))))))))))))))))))))) (.r n0 rfl (.b n1 (.c (.e rfl rfl) (.c (.e rfl rfl) (.c (.e rfl rfl) (.c (.e rfl rfl) (.c (.e rfl rfl) (.c (.e rfl rfl) .n)))))) (.r n2 rfl .n)))⟩
                ·
                  replace hm := cf h16 hm
                  have h16d := of_decide_eq_false h16
                  refine ex (x1 ?_)
                  replace hm := sj hm
                  subst hm
                  have hm := hq13
                  exact ⟨v1r7, hm, le [2] (by decide) (.c .a (.c .a (.c .a (.c .a (.c .a (.c .a (.c (.w n0) (.c .a (.c .a (.c .a (.c (.e rfl rfl) (.c (.e rfl rfl) (.c (.e rfl rfl) (.c .a (.c .a (.c .a (.c .a (.c .a (.c .a (.c .a (.c .a (.c .a (.c .a (.c .a (.c .a (.c .a (.c .a (.c .a (.c .a (.c .a (.c .a (.c .a (.c .a (.c .a (.c .a (.c .a (.c .a (.c .a (.c .a (.c .a (.c .a (.c .a (.c .a (.c .a (.c .a (.c .a (.c .a (.c .a (.c .a (.c .a (.c .a .n))))))))))))))))))))))))))))))))))))))))))))))))))) (.r n2 rfl .n)⟩
              ·
                refine rg <| m (mv (.t n6)) u48 <| m (as_ (.t n48)) u3 <| e ?_
                replace hm := sj hm
                subst hm
                have hm := hq8
                exact ⟨j3r7, hm, le [0] (by decide) (.c .a (.c .a (.c .a (.c (.w n0) (.c .a (.c .a (.c .a (.c .a (.c .a (.c .a (.c (.e rfl rfl) (.c (.e rfl rfl) (.c (.e rfl rfl) (.c .a (.c .a (.c .a (.c .a (.c .a (.c .a (.c .a (.c .a (.c .a (.c .a (.c .a (.c .a (.c .a (.c .a (.c .a (.c .a (.c .a (.c .a (.c .a (.c .a (.c .a (.c .a (.c .a (.c .a (.c .a (.c .a (.c .a (.c .a (.c .a (.c .a (.c .a (.c .a (.c .a (.c .a (.c .a (.c .a (.c .a (.c .a .n))))))))))))))))))))))))))))))))))))))))))))))))))) (.r n0 rfl .n)⟩
            ·
              replace hm := cf h12 hm
              refine skp ?_
              replace hm := sj hm
              subst hm
              have hm := hq8
              exact ⟨v0_3r, hm, le [0] (by decide) (.c .a (.c .a (.c .a (.c (.w n0) (.c .a (.c .a (.c .a (.c .a (.c .a (.c .a (.c (.e rfl rfl) (.c (.e rfl rfl) (.c (.e rfl rfl) (.c .a (.c .a (.c .a (.c .a (.c .a (.c .a (.c .a (.c .a (.c .a (.c .a (.c .a (.c .a (.c .a (.c .a (.c .a (.c .a (.c .a (.c .a (.c .a (.c .a (.c .a (.c .a (.c .a (.c .a (.c .a (.c .a (.c .a (.c .a (.c .a (.c .a (.c .a (.c .a (.c .a (.c .a (.c .a (.c .a (.c .a (.c .a .n))))))))))))))))))))))))))))))))))))))))))))))))))) (.r n0 rfl .n)⟩
        ·
          replace hm := sj hm
          subst hm
          have hm := hq5
          exact ⟨j2_3r, hm, le [0] (by decide) (.c .a (.c .a (.c .a (.c (.w n0) (.c .a (.c .a (.c .a (.c .a (.c .a (.c .a (.c (.e rfl rfl) (.c (.e rfl rfl) (.c (.e rfl rfl) (.c .a (.c .a (.c .a (.c .a (.c .a (.c .a (.c .a (.c .a (.c .a (.c .a (.c .a (.c .a (.c .a (.c .a (.c .a (.c .a (.c .a (.c .a (.c .a (.c .a (.c .a (.c .a (.c .a (.c .a (.c .a (.c .a (.c .a (.c .a (.c .a (.c .a (.c .a (.c .a (.c .a (.c .a (.c .a (.c .a (.c .a (.c .a .n))))))))))))))))))))))))))))))))))))))))))))))))))) (.r n0 rfl .n)⟩
      ·
        refine rg <| m (add (.t n12) (.i rfl)) u49 <| m (mv (.t n49)) u12 <| e ?_
        exact ⟨(i0 + 1, j1_3r), hm, le [0] (by decide) (.c .a (.c .a (.c .a (.c (.w n0) (.c .a (.c .a (.c .a (.c .a (.c .a (.c .a (.c (.e rfl rfl) (.c (.e rfl rfl) (.c (.e (wi (by omega)) rfl) (.c .a (.c .a (.c .a (.c .a (.c .a (.c .a (.c .a (.c .a (.c .a (.c .a (.c .a (.c .a (.c .a (.c .a (.c .a (.c .a (.c .a (.c .a (.c .a (.c .a (.c .a (.c .a (.c .a (.c .a (.c .a (.c .a (.c .a (.c .a (.c .a (.c .a (.c .a (.c .a (.c .a (.c .a (.c .a (.c .a (.c .a (.c .a .n))))))))))))))))))))))))))))))))))))))))))))))))))) (.r n0 rfl .n)⟩
    ·
      replace hm := cf h4 hm
      have h4d := of_decide_eq_false h4
      refine ex (x1 ?_)
      replace hm := sj hm
      subst hm
      have hm := hq1
      exact ⟨v0_3r, hm, le [0] (by decide) (.c .a (.c .a (.c .a (.c (.w n0) (.c .a (.c .a (.c .a (.c .a (.c .a (.c .a (.c .a (.c .a (.c .a (.c .a (.c .a (.c .a (.c .a (.c .a (.c .a (.c .a (.c .a (.c .a (.c .a (.c .a (.c .a (.c .a (.c .a (.c .a (.c .a (.c .a (.c .a (.c .a (.c .a (.c .a (.c .a (.c .a (.c .a (.c .a (.c .a (.c .a (.c .a (.c .a (.c .a (.c .a (.c .a (.c .a (.c .a (.c .a (.c .a (.c .a (.c .a .n))))))))))))))))))))))))))))))))))))))))))))))))))) (.r n0 rfl .n)⟩
  ·
    refine sr <| m (mv (.t n3)) u50 <| m (as_ (.t n50)) u2 <| e ?_
    replace hm := sj hm
    subst hm
    exact rt (ret1 (.t n2 (.o n0) .n) rfl)

theorem tot_impl_DevicesOf (log_ : List D.LogEntry) (hp0 : log_.length ≤ 34359738368) : Spec Tryz.prog G0 109 [.slice 6 (log_.map D.LogEntry.V)] (fun v => v = .slice 1 ((devicesOfF log_).map iV)) := sp_impl_DevicesOf log_ _ (t_impl_DevicesOf log_ hp0)

theorem sp_impl_EpochOf (log_ : List D.LogEntry) (r : Int) (hm : m_impl_EpochOf log_ = some r) : Spec Tryz.prog G0 74 [.slice 6 (log_.map D.LogEntry.V)] (fun v => v = .int .i64 r) := by
  rw [m_impl_EpochOf] at hm
  refine enter (l := [.tmp 2]) Tryz.func74 rfl Tryz.ntmps74 rfl T.en74 fun E => ?_
  simp only [List.length_cons, List.length_nil, List.replicate_succ, List.replicate_zero, List.cons_append, List.nil_append, Nat.reduceAdd, Nat.reduceSub]
  refine sr <| m (as_ (.i rfl)) u2 <| e ?_
  refine sr <| m (as_ (.i rfl)) u3 <| e ?_
  refine sq ?_
  refine sr <| m (mv (.t n0)) u6 <| m (lenm (l := log_) (f := D.LogEntry.V) T.s43 (.t n6)) u7 <| m (mv (.i rfl)) u8 <| e ?_
  refine jmb hm (fun j0_3 : Int => ⟨[.any, .any, .any, .int .i64 j0_3, .any, .any, .any, .any, .any, .any, .any, .any, .any, .any, .any, .any, .any, .any, .any], []⟩) (fun _ hm hq1 => ?_) (fun j0_3 hm => ?_)
  ·
    refine bk ?_
    refine lpf (m := m_impl_EpochOf_l0 log_) hm (fun yy2_ : Int × Nat => ⟨[.any, .any, .any, .int .i64 yy2_.1, .any, .any, .slice 6 (log_.map D.LogEntry.V), .int .i64 (log_.length : Int), .int .i64 (yy2_.2 : Int), .any, .any, .any, .any, .any, .any, .any, .any, .any, .any], []⟩) (fun _ => rfl) (le [] (by decide) (.c .a (.c .a (.c .a (.c (.e rfl rfl) (.c .a (.c .a (.c (.e rfl rfl) (.c (.e rfl rfl) (.c (.e rfl rfl) (.c .a (.c .a (.c .a (.c .a (.c .a (.c .a (.c .a (.c .a (.c .a (.c .a .n))))))))))))))))))) .n) ?_
    rintro f ⟨v0_3, i0⟩ hm
    rw [m_impl_EpochOf_l0] at hm
    dsimp only at hm ⊢
    refine sr <| m (lss (.t n8) (.t n7)) u9 <| e ?_
    refine rng n7 fun _ ra3 => ?_
    replace ra3 := (show (_ : Int) ≤ 9223372036854775807 from ra3)
    refine sq ?_
    refine cnd n9 (fun h4 => ?_) (fun h4 => ?_)
    ·
      replace hm := ct h4 hm
      have h4d := of_decide_eq_true h4
      refine skp ?_
      refine sq ?_
      refine jmb hm (fun j1_3 : Int => ⟨[.any, .any, .any, .int .i64 j1_3, .any, .any, .slice 6 (log_.map D.LogEntry.V), .int .i64 (log_.length : Int), .int .i64 (i0 : Int), .any, .any, .any, .any, .any, .any, .any, .any, .any, .any], []⟩) (fun _ hm hq5 => ?_) (fun j1_3 hm => ?_)
      ·
        refine bk ?_
        obtain ⟨z6, e7, hm⟩ := bd_some hm
        refine sr <| m (ixq (f := D.LogEntry.V) e7 T.s43 (.t n6) (.t n8)) u10 <| m (lae T.a106 k6 (.t n10)) u11 <| k (al T.z106 s0 u5) <| k (sta T.a106 rfl rfl n0 (.z (.z (.z (.z (.z (.z .n)))))) q0 (.t n5) (.t n11)) <| e ?_
        refine sr <| m (fab 1 rfl T.f106_1 (.t n5)) u12 <| m (ldb T.o3 n0 n1 (.t n12)) u13 <| m (eql (.t n13) (.i rfl)) u14 <| e ?_
        refine cnd n14 (fun h8 => ?_) (fun h8 => ?_)
        ·
          replace hm := ct h8 hm
          refine rg <| m (mv (.t n3)) u15 <| m (add (.t n15) (.i rfl)) u16 <| m (as_ (.t n16)) u3 <| e ?_
          replace hm := sj hm
          subst hm
          have hm := hq5
          exact ⟨IntKind.i64.wrap (v0_3 + (1 : Int)), hm, le [] (by decide) (.c .a (.c .a (.c .a (.c (.e rfl rfl) (.c .a (.c .a (.c (.e rfl rfl) (.c (.e rfl rfl) (.c (.e rfl rfl) (.c .a (.c .a (.c .a (.c .a (.c .a (.c .a (.c .a (.c .a (.c .a (.c .a .n))))))))))))))))))) .n⟩
        ·
          replace hm := cf h8 hm
          refine skp ?_
          replace hm := sj hm
          subst hm
          have hm := hq5
          exact ⟨v0_3, hm, le [] (by decide) (.c .a (.c .a (.c .a (.c (.e rfl rfl) (.c .a (.c .a (.c (.e rfl rfl) (.c (.e rfl rfl) (.c (.e rfl rfl) (.c .a (.c .a (.c .a (.c .a (.c .a (.c .a (.c .a (.c .a (.c .a (.c .a .n))))))))))))))))))) .n⟩
      ·
        refine rg <| m (add (.t n8) (.i rfl)) u17 <| m (mv (.t n17)) u8 <| e ?_
        exact ⟨(j1_3, i0 + 1), hm, le [] (by decide) (.c .a (.c .a (.c .a (.c (.e rfl rfl) (.c .a (.c .a (.c (.e rfl rfl) (.c (.e rfl rfl) (.c (.e (wi (by omega)) rfl) (.c .a (.c .a (.c .a (.c .a (.c .a (.c .a (.c .a (.c .a (.c .a (.c .a .n))))))))))))))))))) .n⟩
    ·
      replace hm := cf h4 hm
      have h4d := of_decide_eq_false h4
      refine ex (x1 ?_)
      replace hm := sj hm
      subst hm
      have hm := hq1
      exact ⟨v0_3, hm, le [] (by decide) (.c .a (.c .a (.c .a (.c (.e rfl rfl) (.c .a (.c .a (.c .a (.c .a (.c .a (.c .a (.c .a (.c .a (.c .a (.c .a (.c .a (.c .a (.c .a (.c .a (.c .a .n))))))))))))))))))) .n⟩
  ·
    refine sr <| m (mv (.t n3)) u18 <| m (as_ (.t n18)) u2 <| e ?_
    replace hm := sj hm
    subst hm
    exact rt (ret1 (.t n2 (.p rfl) .n) rfl)

theorem tot_impl_EpochOf (log_ : List D.LogEntry)  : Spec Tryz.prog G0 74 [.slice 6 (log_.map D.LogEntry.V)] (fun v => v = .int .i64 (epochOfF log_)) := sp_impl_EpochOf log_ _ (t_impl_EpochOf log_)

theorem sp_spec_OpenEpochBoxes (s_ : D.KeyStore) (e_ : D.EpochBoxes) (r : Int × Bool) (hm : m_spec_OpenEpochBoxes s_ e_ = some r) : Spec Tryz.prog G0 71 [.agg (D.KeyStore.V s_), .agg (D.EpochBoxes.V e_)] (fun v => v = .tup [.int .i64 r.1, .bool r.2]) := by
  rw [m_spec_OpenEpochBoxes] at hm
  refine enter (l := [.tmp 4, .tmp 5]) Tryz.func71 rfl Tryz.ntmps71 rfl T.en71 fun E => ?_
  simp only [List.length_cons, List.length_nil, List.replicate_succ, List.replicate_zero, List.cons_append, List.nil_append, Nat.reduceAdd, Nat.reduceSub]
  refine sr <| k (bx rfl s0 u2 (.t n0)) <| k (bx rfl s1 u3 (.t n1)) <| m (as_ (.i rfl)) u4 <| m (as_ .b) u5 <| e ?_
  refine sd none [(0, true), (1, true), (2, true), (3, false), (4, false), (5, true), (6, true), (7, true), (8, true), (9, true)] T.mix (by kernel_rfl) <| om n0 (fab 1 rfl T.f46_1 (.t n3)) u12 <| om n1 (ldb T.o44 n1 n1 (.t n12)) u13 <| om n2 (lab T.a99 n0 d0 k4 (.t n2)) u14 <| oc n3 (call (tot_spec_l10Device s_) (.c (.t n14) rfl .n)) u15 <| oc n4 (call (tot_spec_FindBox e_.Boxes (devKeyF s_)) (.c (.t n13) rfl (.c (.t n15) rfl .n))) u16 <| om n5 (mv (.t n16)) u11 <| om n6 (ext_ n0 (.t n11)) u17 <| om n7 (ext_ n1 (.t n11)) u18 <| om n8 (as_ (.t n17)) u6 <| om n9 (as_ (.t n18)) u7 <| oe ?_
  obtain ⟨c1, hm⟩ := gd_some hm
  refine sr <| m (mv (.t n6)) u20 <| c (call (tot_spec_DecodeInts ((findBoxF e_.Boxes (devKeyF s_)).1) (0 : Int) (2 : Int) c1) (.c (.t n20) rfl (.c (.i rfl) rfl (.c (.i rfl) rfl .n)))) u21 <| m (mv (.t n21)) u19 <| m (ext_ n0 (.t n19)) u22 <| m (ext_ n1 (.t n19)) u23 <| m (ext_ n2 (.t n19)) u24 <| m (as_ (.t n22)) u8 <| m (as_ (.t n23)) u9 <| m (as_ (.t n24)) u10 <| e ?_
  refine sq ?_
  refine sd none [(0, true), (1, true), (2, true), (3, true), (4, true), (5, true), (6, true), (7, true), (8, true), (9, true), (10, true), (11, true), (12, true), (13, true), (14, true), (15, true), (16, true), (17, true), (18, true), (19, true), (20, true), (21, true), (22, true), (23, true), (24, false), (25, true), (26, true)] T.mix (by kernel_rfl) <| rob hm (fun j0_51 : Bool => ⟨[.any, .any, .any, .any, .any, .any, .any, .any, .slice 1 (((decodeF ((findBoxF e_.Boxes (devKeyF s_)).1) (0 : Int) (2 : Int)).1).map iV), .any, .any, .any, .any, .any, .any, .any, .any, .any, .any, .any, .any, .any, .any, .any, .any, .any, .any, .any, .any, .any, .any, .any, .any, .any, .any, .any, .any, .any, .any, .any, .any, .any, .any, .any, .any, .any, .any, .any, .any, .any, .any, .bool j0_51, .any, .any, .any], []⟩) (fun _ hm hq2 => ?_) (fun j0_51 hm => ?_)
  ·
    refine om n0 (mv (.t n7)) u25 <| om n1 (not_ (.t n25)) u26 <| om n2 (mv (.t n26)) u27 <| osp n27 u27 u27 (fun h3 => ?_) (fun h3 => ?_)
    ·
      replace hm := ct h3 hm
      refine os n3 n2 rfl n27 rfl u28 <| os n4 n2 rfl n27 rfl u29 <| om n5 (pkt (.t n27) .b) u30 <| om n6 (mv (.t n30)) u31 <| os n7 n6 rfl n31 rfl u32 <| os n8 n6 rfl n31 rfl u33 <| os n9 n6 rfl n31 rfl u34 <| os n10 n6 rfl n31 rfl u35 <| om n11 (pkt (.t n31) .b) u36 <| om n12 (mv (.t n36)) u37 <| os n13 n12 rfl n37 rfl u38 <| os n14 n12 rfl n37 rfl u39 <| os n15 n12 rfl n37 rfl u40 <| os n16 n12 rfl n37 rfl u41 <| os n17 n12 rfl n37 rfl u42 <| os n18 n12 rfl n37 rfl u43 <| om n19 (pkt (.t n37) .b) u44 <| om n20 (mv (.t n44)) u45 <| os n21 n20 rfl n45 rfl u46 <| os n22 n20 rfl n45 rfl u47 <| os n23 n20 rfl n45 rfl u48 <| osf n24 n20 rfl n45 rfl u49 <| os n25 n20 rfl n45 rfl u50 <| om n26 (pkt (.t n45) .b) u51 <| oe ?_
      replace hm := sj hm
      subst hm
      have hm := hq2
      exact ⟨true, hm, le [] (by decide) (.c .a (.c .a (.c .a (.c .a (.c .a (.c .a (.c .a (.c .a (.c (.e rfl rfl) (.c .a (.c .a (.c .a (.c .a (.c .a (.c .a (.c .a (.c .a (.c .a (.c .a (.c .a (.c .a (.c .a (.c .a (.c .a (.c .a (.c .a (.c .a (.c .a (.c .a (.c .a (.c .a (.c .a (.c .a (.c .a (.c .a (.c .a (.c .a (.c .a (.c .a (.c .a (.c .a (.c .a (.c .a (.c .a (.c .a (.c .a (.c .a (.c .a (.c .a (.c .a (.c .a (.c (.e rfl rfl) (.c .a (.c .a (.c .a .n))))))))))))))))))))))))))))))))))))))))))))))))))))))) .n⟩
    ·
      replace hm := cf h3 hm
      refine omg n3 n2 rfl n27 (mv (.t n10)) u28 <| omg n4 n2 rfl n27 (not_ (.t n28)) u29 <| om n5 (pkf (.t n27) (.t n29)) u30 <| om n6 (mv (.t n30)) u31 <| osp n31 u31 u31 (fun h4 => ?_) (fun h4 => ?_)
      ·
        replace hm := ct h4 hm
        refine os n7 n6 rfl n31 rfl u32 <| os n8 n6 rfl n31 rfl u33 <| os n9 n6 rfl n31 rfl u34 <| os n10 n6 rfl n31 rfl u35 <| om n11 (pkt (.t n31) .b) u36 <| om n12 (mv (.t n36)) u37 <| os n13 n12 rfl n37 rfl u38 <| os n14 n12 rfl n37 rfl u39 <| os n15 n12 rfl n37 rfl u40 <| os n16 n12 rfl n37 rfl u41 <| os n17 n12 rfl n37 rfl u42 <| os n18 n12 rfl n37 rfl u43 <| om n19 (pkt (.t n37) .b) u44 <| om n20 (mv (.t n44)) u45 <| os n21 n20 rfl n45 rfl u46 <| os n22 n20 rfl n45 rfl u47 <| os n23 n20 rfl n45 rfl u48 <| osf n24 n20 rfl n45 rfl u49 <| os n25 n20 rfl n45 rfl u50 <| om n26 (pkt (.t n45) .b) u51 <| oe ?_
        replace hm := sj hm
        subst hm
        have hm := hq2
        exact ⟨true, hm, le [] (by decide) (.c .a (.c .a (.c .a (.c .a (.c .a (.c .a (.c .a (.c .a (.c (.e rfl rfl) (.c .a (.c .a (.c .a (.c .a (.c .a (.c .a (.c .a (.c .a (.c .a (.c .a (.c .a (.c .a (.c .a (.c .a (.c .a (.c .a (.c .a (.c .a (.c .a (.c .a (.c .a (.c .a (.c .a (.c .a (.c .a (.c .a (.c .a (.c .a (.c .a (.c .a (.c .a (.c .a (.c .a (.c .a (.c .a (.c .a (.c .a (.c .a (.c .a (.c .a (.c .a (.c .a (.c (.e rfl rfl) (.c .a (.c .a (.c .a .n))))))))))))))))))))))))))))))))))))))))))))))))))))))) .n⟩
      ·
        replace hm := cf h4 hm
        refine omg n7 n6 rfl n31 (mv (.t n9)) u32 <| omg n8 n6 rfl n31 (mv (.t n6)) u33 <| omg n9 n6 rfl n31 (lenm (l := (findBoxF e_.Boxes (devKeyF s_)).1) (f := y8) T.s174 (.t n33)) u34 <| omg n10 n6 rfl n31 (neq (.t n32) (.t n34)) u35 <| om n11 (pkf (.t n31) (.t n35)) u36 <| om n12 (mv (.t n36)) u37 <| osp n37 u37 u37 (fun h5 => ?_) (fun h5 => ?_)
        ·
          replace hm := ct h5 hm
          refine os n13 n12 rfl n37 rfl u38 <| os n14 n12 rfl n37 rfl u39 <| os n15 n12 rfl n37 rfl u40 <| os n16 n12 rfl n37 rfl u41 <| os n17 n12 rfl n37 rfl u42 <| os n18 n12 rfl n37 rfl u43 <| om n19 (pkt (.t n37) .b) u44 <| om n20 (mv (.t n44)) u45 <| os n21 n20 rfl n45 rfl u46 <| os n22 n20 rfl n45 rfl u47 <| os n23 n20 rfl n45 rfl u48 <| osf n24 n20 rfl n45 rfl u49 <| os n25 n20 rfl n45 rfl u50 <| om n26 (pkt (.t n45) .b) u51 <| oe ?_
          replace hm := sj hm
          subst hm
          have hm := hq2
          exact ⟨true, hm, le [] (by decide) (.c .a (.c .a (.c .a (.c .a (.c .a (.c .a (.c .a (.c .a (.c (.e rfl rfl) (.c .a (.c .a (.c .a (.c .a (.c .a (.c .a (.c .a (.c .a (.c .a (.c .a (.c .a (.c .a (.c .a (.c .a (.c .a (.c .a (.c .a (.c .a (.c .a (.c .a (.c .a (.c .a (.c .a (.c .a (.c .a (.c .a (.c .a (.c .a (.c .a (.c .a (.c .a (.c .a (.c .a (.c .a (.c .a (.c .a (.c .a (.c .a (.c .a (.c .a (.c .a (.c .a (.c (.e rfl rfl) (.c .a (.c .a (.c .a .n))))))))))))))))))))))))))))))))))))))))))))))))))))))) .n⟩
        ·
          replace hm := cf h5 hm
          obtain ⟨z6, e7, hm⟩ := bd_some hm
          refine omg n13 n12 rfl n37 (mv (.t n8)) u38 <| omg n14 n12 rfl n37 (ixq (f := iV) e7 T.s95 (.t n38) (.i rfl)) u39 <| omg n15 n12 rfl n37 (lde T.o3 n0 (.t n39)) u40 <| omg n16 n12 rfl n37 (fab 0 rfl T.f46_0 (.t n3)) u41 <| omg n17 n12 rfl n37 (ldb T.o3 n1 n0 (.t n41)) u42 <| omg n18 n12 rfl n37 (neq (.t n40) (.t n42)) u43 <| om n19 (pkf (.t n37) (.t n43)) u44 <| om n20 (mv (.t n44)) u45 <| osp n45 u45 u45 (fun h8 => ?_) (fun h8 => ?_)
          ·
            replace hm := ct h8 hm
            refine os n21 n20 rfl n45 rfl u46 <| os n22 n20 rfl n45 rfl u47 <| os n23 n20 rfl n45 rfl u48 <| osf n24 n20 rfl n45 rfl u49 <| os n25 n20 rfl n45 rfl u50 <| om n26 (pkt (.t n45) .b) u51 <| oe ?_
            replace hm := sj hm
            subst hm
            have hm := hq2
            exact ⟨true, hm, le [] (by decide) (.c .a (.c .a (.c .a (.c .a (.c .a (.c .a (.c .a (.c .a (.c (.e rfl rfl) (.c .a (.c .a (.c .a (.c .a (.c .a (.c .a (.c .a (.c .a (.c .a (.c .a (.c .a (.c .a (.c .a (.c .a (.c .a (.c .a (.c .a (.c .a (.c .a (.c .a (.c .a (.c .a (.c .a (.c .a (.c .a (.c .a (.c .a (.c .a (.c .a (.c .a (.c .a (.c .a (.c .a (.c .a (.c .a (.c .a (.c .a (.c .a (.c .a (.c .a (.c .a (.c .a (.c (.e rfl rfl) (.c .a (.c .a (.c .a .n))))))))))))))))))))))))))))))))))))))))))))))))))))))) .n⟩
          ·
            replace hm := cf h8 hm
            obtain ⟨z9, e10, hm⟩ := bd_some hm
            refine omg n21 n20 rfl n45 (mv (.t n8)) u46 <| omg n22 n20 rfl n45 (ixq (f := iV) e10 T.s95 (.t n46) (.i rfl)) u47 <| omg n23 n20 rfl n45 (lde T.o3 n0 (.t n47)) u48 <| ocg n24 n20 rfl n45 (call (tot_spec_IsValidKey z9) (.c (.t n48) rfl .n)) u49 <| omg n25 n20 rfl n45 (not_ (.t n49)) u50 <| om n26 (pkf (.t n45) (.t n50)) u51 <| oe ?_
            replace hm := sj hm
            subst hm
            have hm := hq2
            exact ⟨(!(keyF z9)), hm, le [] (by decide) (.c .a (.c .a (.c .a (.c .a (.c .a (.c .a (.c .a (.c .a (.c (.e rfl rfl) (.c .a (.c .a (.c .a (.c .a (.c .a (.c .a (.c .a (.c .a (.c .a (.c .a (.c .a (.c .a (.c .a (.c .a (.c .a (.c .a (.c .a (.c .a (.c .a (.c .a (.c .a (.c .a (.c .a (.c .a (.c .a (.c .a (.c .a (.c .a (.c .a (.c .a (.c .a (.c .a (.c .a (.c .a (.c .a (.c .a (.c .a (.c .a (.c .a (.c .a (.c .a (.c .a (.c (.e rfl rfl) (.c .a (.c .a (.c .a .n))))))))))))))))))))))))))))))))))))))))))))))))))))))) .n⟩
  ·
    refine cnd n51 (fun h11 => ?_) (fun h11 => ?_)
    ·
      replace hm := ct h11 hm
      refine sr <| m (as_ (.i rfl)) u4 <| m (as_ .b) u5 <| e ?_
      replace hm := sj hm
      subst hm
      exact rt (ret2 (.t n4 (.p rfl) (.t n5 (.p rfl) .n)) rfl)
    ·
      replace hm := cf h11 hm
      refine skp ?_
      obtain ⟨z12, e13, hm⟩ := bd_some hm
      refine sr <| m (mv (.t n8)) u52 <| m (ixq (f := iV) e13 T.s95 (.t n52) (.i rfl)) u53 <| m (lde T.o3 n0 (.t n53)) u54 <| m (as_ (.t n54)) u4 <| m (as_ .b) u5 <| e ?_
      replace hm := sj hm
      subst hm
      exact rt (ret2 (.t n4 (.p rfl) (.t n5 (.p rfl) .n)) rfl)

theorem tot_spec_OpenEpochBoxes (s_ : D.KeyStore) (e_ : D.EpochBoxes)  : Spec Tryz.prog G0 71 [.agg (D.KeyStore.V s_), .agg (D.EpochBoxes.V e_)] (fun v => v = .tup [.int .i64 ((openEpochF s_ e_).1), .bool ((openEpochF s_ e_).2)]) := sp_spec_OpenEpochBoxes s_ e_ _ (t_spec_OpenEpochBoxes s_ e_)

theorem sp_impl_OpenEpochBoxes (s_ : D.KeyStore) (e_ : D.EpochBoxes) (r : Int × Bool) (hm : m_impl_OpenEpochBoxes s_ e_ = some r) : Spec Tryz.prog G0 73 [.agg (D.KeyStore.V s_), .agg (D.EpochBoxes.V e_)] (fun v => v = .tup [.int .i64 r.1, .bool r.2]) := by
  rw [m_impl_OpenEpochBoxes] at hm
  refine enter (l := [.tmp 4, .tmp 5]) Tryz.func73 rfl Tryz.ntmps73 rfl T.en73 fun E => ?_
  simp only [List.length_cons, List.length_nil, List.replicate_succ, List.replicate_zero, List.cons_append, List.nil_append, Nat.reduceAdd, Nat.reduceSub]
  refine sr <| k (bx rfl s0 u2 (.t n0)) <| k (bx rfl s1 u3 (.t n1)) <| m (as_ (.i rfl)) u4 <| m (as_ .b) u5 <| e ?_
  obtain ⟨c1, hm⟩ := gd_some hm
  refine sd none [(0, true), (1, true), (2, true), (3, true), (4, false), (5, false), (6, false), (7, true), (8, true), (9, true), (10, true), (11, true)] T.mix (by kernel_rfl) <| om n0 (fab 1 rfl T.f46_1 (.t n3)) u12 <| om n1 (ldb T.o44 n1 n1 (.t n12)) u13 <| om n2 (fab 2 rfl T.f99_2 (.t n2)) u14 <| om n3 (ldb T.o3 n0 n2 (.t n14)) u15 <| ok_ n4 (bsm ([(181 : Int)] : List Int) iV T.s95 rfl rfl (.c (.i rfl) rfl rfl rfl .n) rfl u16) <| oc n5 (call (tot_impl_DeriveKey s_.Seed ([(181 : Int)] : List Int) c1) (.c (.t n15) rfl (.c (.t n16) rfl .n))) u17 <| oc n6 (call (tot_impl_FindBox e_.Boxes (deriveF s_.Seed ([(181 : Int)] : List Int))) (.c (.t n13) rfl (.c (.t n17) rfl .n))) u18 <| om n7 (mv (.t n18)) u11 <| om n8 (ext_ n0 (.t n11)) u19 <| om n9 (ext_ n1 (.t n11)) u20 <| om n10 (as_ (.t n19)) u6 <| om n11 (as_ (.t n20)) u7 <| oe ?_
  refine sq ?_
  refine sr <| m (mv (.t n7)) u21 <| m (not_ (.t n21)) u22 <| e ?_
  refine cnd n22 (fun h2 => ?_) (fun h2 => ?_)
  ·
    replace hm := ct h2 hm
    refine sr <| m (as_ (.i rfl)) u4 <| m (as_ .b) u5 <| e ?_
    replace hm := sj hm
    subst hm
    exact rt (ret2 (.t n4 (.p rfl) (.t n5 (.p rfl) .n)) rfl)
  ·
    replace hm := cf h2 hm
    refine skp ?_
    obtain ⟨c3, hm⟩ := gd_some hm
    refine sr <| m (mv (.t n6)) u24 <| c (call (tot_impl_DecodeInts ((findBoxF e_.Boxes (deriveF s_.Seed ([(181 : Int)] : List Int))).1) (0 : Int) (2 : Int) c3) (.c (.t n24) rfl (.c (.i rfl) rfl (.c (.i rfl) rfl .n)))) u25 <| m (mv (.t n25)) u23 <| m (ext_ n0 (.t n23)) u26 <| m (ext_ n1 (.t n23)) u27 <| m (ext_ n2 (.t n23)) u28 <| m (as_ (.t n26)) u8 <| m (as_ (.t n27)) u9 <| m (as_ (.t n28)) u10 <| e ?_
    refine sq ?_
    refine sd none [(0, true), (1, true), (2, true), (3, true), (4, true), (5, true), (6, true), (7, true), (8, true), (9, true), (10, true), (11, true), (12, true), (13, true), (14, true), (15, true), (16, true), (17, true), (18, true), (19, true), (20, false), (21, true), (22, true)] T.mix (by kernel_rfl) <| rob hm (fun j0_51 : Bool => ⟨[.any, .any, .any, .any, .any, .any, .any, .any, .slice 1 (((decodeF ((findBoxF e_.Boxes (deriveF s_.Seed ([(181 : Int)] : List Int))).1) (0 : Int) (2 : Int)).1).map iV), .any, .any, .any, .any, .any, .any, .any, .any, .any, .any, .any, .any, .any, .any, .any, .any, .any, .any, .any, .any, .any, .any, .any, .any, .any, .any, .any, .any, .any, .any, .any, .any, .any, .any, .any, .any, .any, .any, .any, .any, .any, .any, .bool j0_51, .any, .any, .any], []⟩) (fun _ hm hq4 => ?_) (fun j0_51 hm => ?_)
    ·
      refine om n0 (mv (.t n10)) u29 <| om n1 (not_ (.t n29)) u30 <| om n2 (mv (.t n30)) u31 <| osp n31 u31 u31 (fun h5 => ?_) (fun h5 => ?_)
      ·
        replace hm := ct h5 hm
        refine os n3 n2 rfl n31 rfl u32 <| os n4 n2 rfl n31 rfl u33 <| os n5 n2 rfl n31 rfl u34 <| os n6 n2 rfl n31 rfl u35 <| om n7 (pkt (.t n31) .b) u36 <| om n8 (mv (.t n36)) u37 <| os n9 n8 rfl n37 rfl u38 <| os n10 n8 rfl n37 rfl u39 <| os n11 n8 rfl n37 rfl u40 <| os n12 n8 rfl n37 rfl u41 <| os n13 n8 rfl n37 rfl u42 <| os n14 n8 rfl n37 rfl u43 <| om n15 (pkt (.t n37) .b) u44 <| om n16 (mv (.t n44)) u45 <| os n17 n16 rfl n45 rfl u46 <| os n18 n16 rfl n45 rfl u47 <| os n19 n16 rfl n45 rfl u48 <| osf n20 n16 rfl n45 rfl u49 <| os n21 n16 rfl n45 rfl u50 <| om n22 (pkt (.t n45) .b) u51 <| oe ?_
        replace hm := sj hm
        subst hm
        have hm := hq4
        exact ⟨true, hm, le [] (by decide) (.c .a (.c .a (.c .a (.c .a (.c .a (.c .a (.c .a (.c .a (.c (.e rfl rfl) (.c .a (.c .a (.c .a (.c .a (.c .a (.c .a (.c .a (.c .a (.c .a (.c .a (.c .a (.c .a (.c .a (.c .a (.c .a (.c .a (.c .a (.c .a (.c .a (.c .a (.c .a (.c .a (.c .a (.c .a (.c .a (.c .a (.c .a (.c .a (.c .a (.c .a (.c .a (.c .a (.c .a (.c .a (.c .a (.c .a (.c .a (.c .a (.c .a (.c .a (.c .a (.c .a (.c (.e rfl rfl) (.c .a (.c .a (.c .a .n))))))))))))))))))))))))))))))))))))))))))))))))))))))) .n⟩
      ·
        replace hm := cf h5 hm
        refine omg n3 n2 rfl n31 (mv (.t n9)) u32 <| omg n4 n2 rfl n31 (mv (.t n6)) u33 <| omg n5 n2 rfl n31 (lenm (l := (findBoxF e_.Boxes (deriveF s_.Seed ([(181 : Int)] : List Int))).1) (f := y8) T.s174 (.t n33)) u34 <| omg n6 n2 rfl n31 (neq (.t n32) (.t n34)) u35 <| om n7 (pkf (.t n31) (.t n35)) u36 <| om n8 (mv (.t n36)) u37 <| osp n37 u37 u37 (fun h6 => ?_) (fun h6 => ?_)
        ·
          replace hm := ct h6 hm
          refine os n9 n8 rfl n37 rfl u38 <| os n10 n8 rfl n37 rfl u39 <| os n11 n8 rfl n37 rfl u40 <| os n12 n8 rfl n37 rfl u41 <| os n13 n8 rfl n37 rfl u42 <| os n14 n8 rfl n37 rfl u43 <| om n15 (pkt (.t n37) .b) u44 <| om n16 (mv (.t n44)) u45 <| os n17 n16 rfl n45 rfl u46 <| os n18 n16 rfl n45 rfl u47 <| os n19 n16 rfl n45 rfl u48 <| osf n20 n16 rfl n45 rfl u49 <| os n21 n16 rfl n45 rfl u50 <| om n22 (pkt (.t n45) .b) u51 <| oe ?_
          replace hm := sj hm
          subst hm
          have hm := hq4
          exact ⟨true, hm, le [] (by decide) (.c .a (.c .a (.c .a (.c .a (.c .a (.c .a (.c .a (.c .a (.c (.e rfl rfl) (.c .a (.c .a (.c .a (.c .a (.c .a (.c .a (.c .a (.c .a (.c .a (.c .a (.c .a (.c .a (.c .a (.c .a (.c .a (.c .a (.c .a (.c .a (.c .a (.c .a (.c .a (.c .a (.c .a (.c .a (.c .a (.c .a (.c .a (.c .a (.c .a (.c .a (.c .a (.c .a (.c .a (.c .a (.c .a (.c .a (.c .a (.c .a (.c .a (.c .a (.c .a (.c .a (.c (.e rfl rfl) (.c .a (.c .a (.c .a .n))))))))))))))))))))))))))))))))))))))))))))))))))))))) .n⟩
        ·
          replace hm := cf h6 hm
          obtain ⟨z7, e8, hm⟩ := bd_some hm
          refine omg n9 n8 rfl n37 (mv (.t n8)) u38 <| omg n10 n8 rfl n37 (ixq (f := iV) e8 T.s95 (.t n38) (.i rfl)) u39 <| omg n11 n8 rfl n37 (lde T.o3 n0 (.t n39)) u40 <| omg n12 n8 rfl n37 (fab 0 rfl T.f46_0 (.t n3)) u41 <| omg n13 n8 rfl n37 (ldb T.o3 n1 n0 (.t n41)) u42 <| omg n14 n8 rfl n37 (neq (.t n40) (.t n42)) u43 <| om n15 (pkf (.t n37) (.t n43)) u44 <| om n16 (mv (.t n44)) u45 <| osp n45 u45 u45 (fun h9 => ?_) (fun h9 => ?_)
          ·
            replace hm := ct h9 hm
            refine os n17 n16 rfl n45 rfl u46 <| os n18 n16 rfl n45 rfl u47 <| os n19 n16 rfl n45 rfl u48 <| osf n20 n16 rfl n45 rfl u49 <| os n21 n16 rfl n45 rfl u50 <| om n22 (pkt (.t n45) .b) u51 <| oe ?_
            replace hm := sj hm
            subst hm
            have hm := hq4
            exact ⟨true, hm, le [] (by decide) (.c .a (.c .a (.c .a (.c .a (.c .a (.c .a (.c .a (.c .a (.c (.e rfl rfl) (.c .a (.c .a (.c .a (.c .a (.c .a (.c .a (.c .a (.c .a (.c .a (.c .a (.c .a (.c .a (.c .a (.c .a (.c .a (.c .a (.c .a (.c .a (.c .a (.c .a (.c .a (.c .a (.c .a (.c .a (.c .a (.c .a (.c .a (.c .a (.c .a (.c .a (.c .a (.c .a (.c .a (.c .a (.c .a (.c .a (.c .a (.c .a (.c .a (.c .a (.c .a (.c .a (.c (.e rfl rfl) (.c .a (.c .a (.c .a .n))))))))))))))))))))))))))))))))))))))))))))))))))))))) .n⟩
          ·
            replace hm := cf h9 hm
            obtain ⟨z10, e11, hm⟩ := bd_some hm
            refine omg n17 n16 rfl n45 (mv (.t n8)) u46 <| omg n18 n16 rfl n45 (ixq (f := iV) e11 T.s95 (.t n46) (.i rfl)) u47 <| omg n19 n16 rfl n45 (lde T.o3 n0 (.t n47)) u48 <| ocg n20 n16 rfl n45 (call (tot_impl_IsValidKey z10) (.c (.t n48) rfl .n)) u49 <| omg n21 n16 rfl n45 (not_ (.t n49)) u50 <| om n22 (pkf (.t n45) (.t n50)) u51 <| oe ?_
            replace hm := sj hm
            subst hm
            have hm := hq4
            exact ⟨(!(keyF z10)), hm, le [] (by decide) (.c .a (.c .a (.c .a (.c .a (.c .a (.c .a (.c .a (.c .a (.c (.e rfl rfl) (.c .a (.c .a (.c .a (.c .a (.c .a (.c .a (.c .a (.c .a (.c .a (.c .a (.c .a (.c .a (.c .a (.c .a (.c .a (.c .a (.c .a (.c .a (.c .a (.c .a (.c .a (.c .a (.c .a (.c .a (.c .a (.c .a (.c .a (.c .a (.c .a (.c .a (.c .a (.c .a (.c .a (.c .a (.c .a (.c .a (.c .a (.c .a (.c .a (.c .a (.c .a (.c .a (.c (.e rfl rfl) (.c .a (.c .a (.c .a .n))))))))))))))))))))))))))))))))))))))))))))))))))))))) .n⟩
    ·
      refine cnd n51 (fun h12 => ?_) (fun h12 => ?_)
      ·
        replace hm := ct h12 hm
        refine sr <| m (as_ (.i rfl)) u4 <| m (as_ .b) u5 <| e ?_
        replace hm := sj hm
        subst hm
        exact rt (ret2 (.t n4 (.p rfl) (.t n5 (.p rfl) .n)) rfl)
      ·
        replace hm := cf h12 hm
        refine skp ?_
        obtain ⟨z13, e14, hm⟩ := bd_some hm
        refine sr <| m (mv (.t n8)) u52 <| m (ixq (f := iV) e14 T.s95 (.t n52) (.i rfl)) u53 <| m (lde T.o3 n0 (.t n53)) u54 <| m (as_ (.t n54)) u4 <| m (as_ .b) u5 <| e ?_
        replace hm := sj hm
        subst hm
        exact rt (ret2 (.t n4 (.p rfl) (.t n5 (.p rfl) .n)) rfl)

theorem tot_impl_OpenEpochBoxes (s_ : D.KeyStore) (e_ : D.EpochBoxes)  : Spec Tryz.prog G0 73 [.agg (D.KeyStore.V s_), .agg (D.EpochBoxes.V e_)] (fun v => v = .tup [.int .i64 ((openEpochF s_ e_).1), .bool ((openEpochF s_ e_).2)]) := sp_impl_OpenEpochBoxes s_ e_ _ (t_impl_OpenEpochBoxes s_ e_)

theorem sp_spec_InList (w_ : D.World) (device_ : Int) (r : Bool) (hm : m_spec_InList w_ device_ = some r) : Spec Tryz.prog G0 68 [.agg (D.World.V w_), .int .i64 device_] (fun v => v = .bool r) := by
  rw [m_spec_InList] at hm
  refine enter (l := [.tmp 4]) Tryz.func68 rfl Tryz.ntmps68 rfl T.en68 fun E => ?_
  simp only [List.length_cons, List.length_nil, List.replicate_succ, List.replicate_zero, List.cons_append, List.nil_append, Nat.reduceAdd, Nat.reduceSub]
  refine sr <| k (bx rfl s0 u2 (.t n0)) <| m (as_ .b) u4 <| e ?_
  refine sd none [(0, true), (1, true), (2, true), (3, true), (4, true), (5, false), (6, true), (7, true), (8, true), (9, true), (11, true), (12, true), (13, true), (14, true), (15, true), (16, true), (10, false), (17, false), (18, false), (19, true), (20, true)] T.mix (by kernel_rfl) <| rob hm (fun j0_4 : Bool => ⟨[.any, .any, .any, .any, .bool j0_4, .any, .any, .any, .any, .any, .any, .any, .any, .any, .any, .any, .any, .any, .any, .any, .any, .any, .any, .any, .any], []⟩) (fun _ hm hq1 => ?_) (fun j0_4 hm => ?_)
  ·
    refine om n0 (mv (.t n1)) u5 <| om n1 (fab 2 rfl T.f57_2 (.t n2)) u6 <| om n2 (ldb T.o42 n0 n2 (.t n6)) u7 <| om n3 (lenm (l := w_.Devices) (f := D.Device.V) T.s42 (.t n7)) u8 <| om n4 (sub (.t n8) (.i rfl)) u9 <| oc n5 (call (tot_spec_l1In device_ (0 : Int) (IntKind.i64.wrap ((w_.Devices.length : Int) - (1 : Int)))) (.c (.t n5) rfl (.c (.i rfl) rfl (.c (.t n9) rfl .n)))) u10 <| om n6 (mv (.t n10)) u11 <| osp n11 u11 u11 (fun h2 => ?_) (fun h2 => ?_)
    ·
      replace hm := ct h2 hm
      obtain ⟨z3, e4, hm⟩ := bd_some hm
      obtain ⟨c5, hm⟩ := gd_some hm
      refine omg n7 n6 rfl n11 (fab 4 rfl T.f57_4 (.t n2)) u12 <| omg n8 n6 rfl n11 (fab 4 rfl T.f49_0 (.t n12)) u13 <| omg n9 n6 rfl n11 (ldb T.o43 n0 n4 (.t n13)) u14 <| omg n11 n6 rfl n11 (fab 2 rfl T.f57_2 (.t n2)) u16 <| omg n12 n6 rfl n11 (ldb T.o42 n0 n2 (.t n16)) u17 <| omg n13 n6 rfl n11 (mv (.t n1)) u18 <| omg n14 n6 rfl n11 (ixq (f := D.Device.V) e4 T.s42 (.t n17) (.t n18)) u19 <| omg n15 n6 rfl n11 (fae T.f104_0 d0 (.t n19)) u20 <| omg n16 n6 rfl n11 (lae T.a99 k4 (.t n20)) u21 <| ocg n10 n6 rfl n11 (call (tot_spec_DevicesOf w_.Cloud.Log c5) (.c (.t n14) rfl .n)) u15 <| ocg n17 n6 rfl n11 (call (tot_spec_DevicePublic z3.Store) (.c (.t n21) rfl .n)) u22 <| ocg n18 n6 rfl n11 (call (tot_spec_l19Has (devicesOfF w_.Cloud.Log) (devPubF z3.Store)) (.c (.t n15) rfl (.c (.t n22) rfl .n))) u23 <| om n19 (pkt (.t n11) (.t n23)) u24 <| om n20 (as_ (.t n24)) u4 <| oe ?_
      replace hm := sj hm
      subst hm
      have hm := hq1
      exact ⟨(hasF (devicesOfF w_.Cloud.Log) (devPubF z3.Store)), hm, le [] (by decide) (.c .a (.c .a (.c .a (.c .a (.c (.e rfl rfl) (.c .a (.c .a (.c .a (.c .a (.c .a (.c .a (.c .a (.c .a (.c .a (.c .a (.c .a (.c .a (.c .a (.c .a (.c .a (.c .a (.c .a (.c .a (.c .a (.c .a .n))))))))))))))))))))))))) .n⟩
    ·
      replace hm := cf h2 hm
      refine os n7 n6 rfl n11 rfl u12 <| os n8 n6 rfl n11 rfl u13 <| os n9 n6 rfl n11 rfl u14 <| os n11 n6 rfl n11 rfl u16 <| os n12 n6 rfl n11 rfl u17 <| os n13 n6 rfl n11 rfl u18 <| os n14 n6 rfl n11 rfl u19 <| os n15 n6 rfl n11 rfl u20 <| os n16 n6 rfl n11 rfl u21 <| osf n10 n6 rfl n11 rfl u15 <| osf n17 n6 rfl n11 rfl u22 <| osf n18 n6 rfl n11 rfl u23 <| om n19 (pkf (.t n11) .b) u24 <| om n20 (as_ (.t n24)) u4 <| oe ?_
      replace hm := sj hm
      subst hm
      have hm := hq1
      exact ⟨false, hm, le [] (by decide) (.c .a (.c .a (.c .a (.c .a (.c (.e rfl rfl) (.c .a (.c .a (.c .a (.c .a (.c .a (.c .a (.c .a (.c .a (.c .a (.c .a (.c .a (.c .a (.c .a (.c .a (.c .a (.c .a (.c .a (.c .a (.c .a (.c .a .n))))))))))))))))))))))))) .n⟩
  ·
    replace hm := sj hm
    subst hm
    exact rt (ret1 (.t n4 (.p rfl) .n) rfl)

theorem tot_spec_InList (w_ : D.World) (device_ : Int) (hp0 : WOk w_) : Spec Tryz.prog G0 68 [.agg (D.World.V w_), .int .i64 device_] (fun v => v = .bool (inListF w_ device_)) := sp_spec_InList w_ device_ _ (t_spec_InList w_ device_ hp0)
end Go.VK
