/-
  Printed by wip/tools (own work of this part): models of functions, walks over the value kit, and proofs.
-/
import Derived.Test.YtpblmeojgboagaaGreatDoorXmFormatWorld
import Derived.Test.YtpblmeojgboagaaGreatDoorProg
import Derived.Test.YtpblmeojgboagaaGreatDoorRows
import Derived.Test.YtpblmeojgboagaaGreatDoorTryzShelf
set_option linter.unusedVariables false
set_option linter.unusedSimpArgs false
set_option maxRecDepth 100000
set_option maxHeartbeats 4000000
namespace Go.VK
open Go.RowKit Go.Proofs
abbrev G0 : GI := GT Tryz.prog
theorem T.tab {W : World} (h : laidMet Tryz.prog [("math/bits.deBruijn32tab", YtpblmeojgboagaaGreatDoor.Rows.laid_math_bits_deBruijn32tab), ("math/bits.deBruijn64tab", YtpblmeojgboagaaGreatDoor.Rows.laid_math_bits_deBruijn64tab), ("internal/strconv.uint64pow10", YtpblmeojgboagaaGreatDoor.Rows.laid_internal_strconv_uint64pow10)] W) : G0.G W :=
  tabIs_of_reads (g := 0) (by kernel_rfl) (by kernel_rfl) Tryz.underlying279 Tryz.underlying262 (by kernel_rfl) (by kernel_rfl) (Lib.laidMet.reads h (.tail _ (.tail _ (.head _))))
theorem sp_strings_Join (l : List ByteArray) (sep : ByteArray) (h0 : l ≠ []) (hsz : (joinB sep l).size ≤ 140737488355328) (hln : l.length ≤ 140737488355328) : Spec Tryz.prog G0 206 [.slice 1 (l.map sV), .str sep] (fun r => r = .str (joinB sep l)) :=
  spec_join (fun args w => by kernel_rfl) Tryz.strings_Join l sep h0 hsz hln
theorem sp_strconv_Itoa (n : Int) : Spec Tryz.prog G0 67 [.int .i64 n] (fun r => r = .str (fmtInt n)) := by
  refine ⟨fun args w => by kernel_rfl, fun w X0 vs hG hX0 hvs => ?_⟩
  obtain ⟨v, rfl⟩ : ∃ v, vs = [v] := by
    match vs, hvs.1 with
    | [v], _ => exact ⟨v, rfl⟩
  obtain ⟨rfl, h0, h1⟩ := (hvs.2 0 v _ rfl rfl).int_inv
  refine (Tryz.strconv_Itoa n h0 h1 w hG).mono ?_
  rintro e w' ⟨rfl, k, os, rfl⟩
  refine ⟨_, _, rfl, rfl, ?_, ext_grow _ _ _⟩
  rw [← fmtInt_eq h0 h1]
  exact .str (by have := fmtInt_sz n; unfold maxLen; omega)

theorem T.a100 : aggB Tryz.prog 100 1 = true := by kernel_rfl
theorem T.a102 : aggB Tryz.prog 102 9 = true := by kernel_rfl
theorem T.a110 : aggB Tryz.prog 110 3 = true := by kernel_rfl
theorem T.a113 : aggB Tryz.prog 113 6 = true := by kernel_rfl
theorem T.a115 : aggB Tryz.prog 115 2 = true := by kernel_rfl
theorem T.a117 : aggB Tryz.prog 117 5 = true := by kernel_rfl
theorem T.a120 : aggB Tryz.prog 120 7 = true := by kernel_rfl
theorem T.a125 : aggB Tryz.prog 125 6 = true := by kernel_rfl
theorem T.a126 : aggB Tryz.prog 126 4 = true := by kernel_rfl
theorem T.a129 : aggB Tryz.prog 129 1 = true := by kernel_rfl
theorem T.a131 : aggB Tryz.prog 131 9 = true := by kernel_rfl
theorem T.a139 : aggB Tryz.prog 139 3 = true := by kernel_rfl
theorem T.a141 : aggB Tryz.prog 141 6 = true := by kernel_rfl
theorem T.a160 : aggB Tryz.prog 160 3 = true := by kernel_rfl
theorem T.a162 : aggB Tryz.prog 162 4 = true := by kernel_rfl
theorem T.a169 : aggB Tryz.prog 169 4 = true := by kernel_rfl
theorem T.a177 : aggB Tryz.prog 177 6 = true := by kernel_rfl
theorem T.a179 : aggB Tryz.prog 179 4 = true := by kernel_rfl
theorem T.a187 : aggB Tryz.prog 187 4 = true := by kernel_rfl
theorem T.a189 : aggB Tryz.prog 189 4 = true := by kernel_rfl
theorem T.a220 : aggB Tryz.prog 220 4 = true := by kernel_rfl
theorem T.a225 : aggB Tryz.prog 225 3 = true := by kernel_rfl
theorem T.a228 : aggB Tryz.prog 228 4 = true := by kernel_rfl
theorem T.a246 : aggB Tryz.prog 246 3 = true := by kernel_rfl
theorem T.a255 : aggB Tryz.prog 255 4 = true := by kernel_rfl
theorem T.a257 : aggB Tryz.prog 257 4 = true := by kernel_rfl
theorem T.a260 : aggB Tryz.prog 260 3 = true := by kernel_rfl
theorem T.a27 : aggB Tryz.prog 27 2 = true := by kernel_rfl
theorem T.a277 : aggB Tryz.prog 277 4 = true := by kernel_rfl
theorem T.a30 : aggB Tryz.prog 30 4 = true := by kernel_rfl
theorem T.a33 : aggB Tryz.prog 33 4 = true := by kernel_rfl
theorem T.a37 : aggB Tryz.prog 37 1 = true := by kernel_rfl
theorem T.a39 : aggB Tryz.prog 39 16 = true := by kernel_rfl
theorem T.a46 : aggB Tryz.prog 46 2 = true := by kernel_rfl
theorem T.a49 : aggB Tryz.prog 49 4 = true := by kernel_rfl
theorem T.a51 : aggB Tryz.prog 51 4 = true := by kernel_rfl
theorem T.a55 : aggB Tryz.prog 55 1 = true := by kernel_rfl
theorem T.a57 : aggB Tryz.prog 57 16 = true := by kernel_rfl
theorem T.a86 : aggB Tryz.prog 86 2 = true := by kernel_rfl
theorem T.a88 : aggB Tryz.prog 88 5 = true := by kernel_rfl
theorem T.a91 : aggB Tryz.prog 91 7 = true := by kernel_rfl
theorem T.a97 : aggB Tryz.prog 97 4 = true := by kernel_rfl
theorem T.en10 (args : Array Value) (w : World) : (callFunc 10 args).run Tryz.prog w = .ok (.enter 10 args) w := by kernel_rfl
theorem T.en100 (args : Array Value) (w : World) : (callFunc 100 args).run Tryz.prog w = .ok (.enter 100 args) w := by kernel_rfl
theorem T.en101 (args : Array Value) (w : World) : (callFunc 101 args).run Tryz.prog w = .ok (.enter 101 args) w := by kernel_rfl
theorem T.en102 (args : Array Value) (w : World) : (callFunc 102 args).run Tryz.prog w = .ok (.enter 102 args) w := by kernel_rfl
theorem T.en103 (args : Array Value) (w : World) : (callFunc 103 args).run Tryz.prog w = .ok (.enter 103 args) w := by kernel_rfl
theorem T.en104 (args : Array Value) (w : World) : (callFunc 104 args).run Tryz.prog w = .ok (.enter 104 args) w := by kernel_rfl
theorem T.en105 (args : Array Value) (w : World) : (callFunc 105 args).run Tryz.prog w = .ok (.enter 105 args) w := by kernel_rfl
theorem T.en106 (args : Array Value) (w : World) : (callFunc 106 args).run Tryz.prog w = .ok (.enter 106 args) w := by kernel_rfl
theorem T.en107 (args : Array Value) (w : World) : (callFunc 107 args).run Tryz.prog w = .ok (.enter 107 args) w := by kernel_rfl
theorem T.en108 (args : Array Value) (w : World) : (callFunc 108 args).run Tryz.prog w = .ok (.enter 108 args) w := by kernel_rfl
theorem T.en109 (args : Array Value) (w : World) : (callFunc 109 args).run Tryz.prog w = .ok (.enter 109 args) w := by kernel_rfl
theorem T.en110 (args : Array Value) (w : World) : (callFunc 110 args).run Tryz.prog w = .ok (.enter 110 args) w := by kernel_rfl
theorem T.en111 (args : Array Value) (w : World) : (callFunc 111 args).run Tryz.prog w = .ok (.enter 111 args) w := by kernel_rfl
theorem T.en112 (args : Array Value) (w : World) : (callFunc 112 args).run Tryz.prog w = .ok (.enter 112 args) w := by kernel_rfl
theorem T.en113 (args : Array Value) (w : World) : (callFunc 113 args).run Tryz.prog w = .ok (.enter 113 args) w := by kernel_rfl
theorem T.en114 (args : Array Value) (w : World) : (callFunc 114 args).run Tryz.prog w = .ok (.enter 114 args) w := by kernel_rfl
theorem T.en116 (args : Array Value) (w : World) : (callFunc 116 args).run Tryz.prog w = .ok (.enter 116 args) w := by kernel_rfl
theorem T.en117 (args : Array Value) (w : World) : (callFunc 117 args).run Tryz.prog w = .ok (.enter 117 args) w := by kernel_rfl
theorem T.en118 (args : Array Value) (w : World) : (callFunc 118 args).run Tryz.prog w = .ok (.enter 118 args) w := by kernel_rfl
theorem T.en119 (args : Array Value) (w : World) : (callFunc 119 args).run Tryz.prog w = .ok (.enter 119 args) w := by kernel_rfl
theorem T.en120 (args : Array Value) (w : World) : (callFunc 120 args).run Tryz.prog w = .ok (.enter 120 args) w := by kernel_rfl
theorem T.en121 (args : Array Value) (w : World) : (callFunc 121 args).run Tryz.prog w = .ok (.enter 121 args) w := by kernel_rfl
theorem T.en122 (args : Array Value) (w : World) : (callFunc 122 args).run Tryz.prog w = .ok (.enter 122 args) w := by kernel_rfl
theorem T.en123 (args : Array Value) (w : World) : (callFunc 123 args).run Tryz.prog w = .ok (.enter 123 args) w := by kernel_rfl
theorem T.en124 (args : Array Value) (w : World) : (callFunc 124 args).run Tryz.prog w = .ok (.enter 124 args) w := by kernel_rfl
theorem T.en125 (args : Array Value) (w : World) : (callFunc 125 args).run Tryz.prog w = .ok (.enter 125 args) w := by kernel_rfl
theorem T.en126 (args : Array Value) (w : World) : (callFunc 126 args).run Tryz.prog w = .ok (.enter 126 args) w := by kernel_rfl
theorem T.en134 (args : Array Value) (w : World) : (callFunc 134 args).run Tryz.prog w = .ok (.enter 134 args) w := by kernel_rfl
theorem T.en136 (args : Array Value) (w : World) : (callFunc 136 args).run Tryz.prog w = .ok (.enter 136 args) w := by kernel_rfl
theorem T.en140 (args : Array Value) (w : World) : (callFunc 140 args).run Tryz.prog w = .ok (.enter 140 args) w := by kernel_rfl
theorem T.en141 (args : Array Value) (w : World) : (callFunc 141 args).run Tryz.prog w = .ok (.enter 141 args) w := by kernel_rfl
theorem T.en142 (args : Array Value) (w : World) : (callFunc 142 args).run Tryz.prog w = .ok (.enter 142 args) w := by kernel_rfl
theorem T.en144 (args : Array Value) (w : World) : (callFunc 144 args).run Tryz.prog w = .ok (.enter 144 args) w := by kernel_rfl
theorem T.en146 (args : Array Value) (w : World) : (callFunc 146 args).run Tryz.prog w = .ok (.enter 146 args) w := by kernel_rfl
theorem T.en148 (args : Array Value) (w : World) : (callFunc 148 args).run Tryz.prog w = .ok (.enter 148 args) w := by kernel_rfl
theorem T.en15 (args : Array Value) (w : World) : (callFunc 15 args).run Tryz.prog w = .ok (.enter 15 args) w := by kernel_rfl
theorem T.en150 (args : Array Value) (w : World) : (callFunc 150 args).run Tryz.prog w = .ok (.enter 150 args) w := by kernel_rfl
theorem T.en151 (args : Array Value) (w : World) : (callFunc 151 args).run Tryz.prog w = .ok (.enter 151 args) w := by kernel_rfl
theorem T.en152 (args : Array Value) (w : World) : (callFunc 152 args).run Tryz.prog w = .ok (.enter 152 args) w := by kernel_rfl
theorem T.en153 (args : Array Value) (w : World) : (callFunc 153 args).run Tryz.prog w = .ok (.enter 153 args) w := by kernel_rfl
theorem T.en154 (args : Array Value) (w : World) : (callFunc 154 args).run Tryz.prog w = .ok (.enter 154 args) w := by kernel_rfl
theorem T.en155 (args : Array Value) (w : World) : (callFunc 155 args).run Tryz.prog w = .ok (.enter 155 args) w := by kernel_rfl
theorem T.en156 (args : Array Value) (w : World) : (callFunc 156 args).run Tryz.prog w = .ok (.enter 156 args) w := by kernel_rfl
theorem T.en157 (args : Array Value) (w : World) : (callFunc 157 args).run Tryz.prog w = .ok (.enter 157 args) w := by kernel_rfl
theorem T.en158 (args : Array Value) (w : World) : (callFunc 158 args).run Tryz.prog w = .ok (.enter 158 args) w := by kernel_rfl
theorem T.en159 (args : Array Value) (w : World) : (callFunc 159 args).run Tryz.prog w = .ok (.enter 159 args) w := by kernel_rfl
theorem T.en16 (args : Array Value) (w : World) : (callFunc 16 args).run Tryz.prog w = .ok (.enter 16 args) w := by kernel_rfl
theorem T.en160 (args : Array Value) (w : World) : (callFunc 160 args).run Tryz.prog w = .ok (.enter 160 args) w := by kernel_rfl
theorem T.en162 (args : Array Value) (w : World) : (callFunc 162 args).run Tryz.prog w = .ok (.enter 162 args) w := by kernel_rfl
theorem T.en163 (args : Array Value) (w : World) : (callFunc 163 args).run Tryz.prog w = .ok (.enter 163 args) w := by kernel_rfl
theorem T.en164 (args : Array Value) (w : World) : (callFunc 164 args).run Tryz.prog w = .ok (.enter 164 args) w := by kernel_rfl
theorem T.en165 (args : Array Value) (w : World) : (callFunc 165 args).run Tryz.prog w = .ok (.enter 165 args) w := by kernel_rfl
theorem T.en166 (args : Array Value) (w : World) : (callFunc 166 args).run Tryz.prog w = .ok (.enter 166 args) w := by kernel_rfl
theorem T.en167 (args : Array Value) (w : World) : (callFunc 167 args).run Tryz.prog w = .ok (.enter 167 args) w := by kernel_rfl
theorem T.en17 (args : Array Value) (w : World) : (callFunc 17 args).run Tryz.prog w = .ok (.enter 17 args) w := by kernel_rfl
theorem T.en179 (args : Array Value) (w : World) : (callFunc 179 args).run Tryz.prog w = .ok (.enter 179 args) w := by kernel_rfl
theorem T.en18 (args : Array Value) (w : World) : (callFunc 18 args).run Tryz.prog w = .ok (.enter 18 args) w := by kernel_rfl
theorem T.en180 (args : Array Value) (w : World) : (callFunc 180 args).run Tryz.prog w = .ok (.enter 180 args) w := by kernel_rfl
theorem T.en182 (args : Array Value) (w : World) : (callFunc 182 args).run Tryz.prog w = .ok (.enter 182 args) w := by kernel_rfl
theorem T.en184 (args : Array Value) (w : World) : (callFunc 184 args).run Tryz.prog w = .ok (.enter 184 args) w := by kernel_rfl
theorem T.en186 (args : Array Value) (w : World) : (callFunc 186 args).run Tryz.prog w = .ok (.enter 186 args) w := by kernel_rfl
theorem T.en187 (args : Array Value) (w : World) : (callFunc 187 args).run Tryz.prog w = .ok (.enter 187 args) w := by kernel_rfl
theorem T.en188 (args : Array Value) (w : World) : (callFunc 188 args).run Tryz.prog w = .ok (.enter 188 args) w := by kernel_rfl
theorem T.en19 (args : Array Value) (w : World) : (callFunc 19 args).run Tryz.prog w = .ok (.enter 19 args) w := by kernel_rfl
theorem T.en190 (args : Array Value) (w : World) : (callFunc 190 args).run Tryz.prog w = .ok (.enter 190 args) w := by kernel_rfl
theorem T.en191 (args : Array Value) (w : World) : (callFunc 191 args).run Tryz.prog w = .ok (.enter 191 args) w := by kernel_rfl
theorem T.en192 (args : Array Value) (w : World) : (callFunc 192 args).run Tryz.prog w = .ok (.enter 192 args) w := by kernel_rfl
theorem T.en193 (args : Array Value) (w : World) : (callFunc 193 args).run Tryz.prog w = .ok (.enter 193 args) w := by kernel_rfl
theorem T.en198 (args : Array Value) (w : World) : (callFunc 198 args).run Tryz.prog w = .ok (.enter 198 args) w := by kernel_rfl
theorem T.en199 (args : Array Value) (w : World) : (callFunc 199 args).run Tryz.prog w = .ok (.enter 199 args) w := by kernel_rfl
theorem T.en20 (args : Array Value) (w : World) : (callFunc 20 args).run Tryz.prog w = .ok (.enter 20 args) w := by kernel_rfl
theorem T.en200 (args : Array Value) (w : World) : (callFunc 200 args).run Tryz.prog w = .ok (.enter 200 args) w := by kernel_rfl
theorem T.en204 (args : Array Value) (w : World) : (callFunc 204 args).run Tryz.prog w = .ok (.enter 204 args) w := by kernel_rfl
theorem T.en208 (args : Array Value) (w : World) : (callFunc 208 args).run Tryz.prog w = .ok (.enter 208 args) w := by kernel_rfl
theorem T.en21 (args : Array Value) (w : World) : (callFunc 21 args).run Tryz.prog w = .ok (.enter 21 args) w := by kernel_rfl
theorem T.en212 (args : Array Value) (w : World) : (callFunc 212 args).run Tryz.prog w = .ok (.enter 212 args) w := by kernel_rfl
theorem T.en213 (args : Array Value) (w : World) : (callFunc 213 args).run Tryz.prog w = .ok (.enter 213 args) w := by kernel_rfl
theorem T.en217 (args : Array Value) (w : World) : (callFunc 217 args).run Tryz.prog w = .ok (.enter 217 args) w := by kernel_rfl
theorem T.en22 (args : Array Value) (w : World) : (callFunc 22 args).run Tryz.prog w = .ok (.enter 22 args) w := by kernel_rfl
theorem T.en223 (args : Array Value) (w : World) : (callFunc 223 args).run Tryz.prog w = .ok (.enter 223 args) w := by kernel_rfl
theorem T.en224 (args : Array Value) (w : World) : (callFunc 224 args).run Tryz.prog w = .ok (.enter 224 args) w := by kernel_rfl
theorem T.en23 (args : Array Value) (w : World) : (callFunc 23 args).run Tryz.prog w = .ok (.enter 23 args) w := by kernel_rfl
theorem T.en24 (args : Array Value) (w : World) : (callFunc 24 args).run Tryz.prog w = .ok (.enter 24 args) w := by kernel_rfl
theorem T.en25 (args : Array Value) (w : World) : (callFunc 25 args).run Tryz.prog w = .ok (.enter 25 args) w := by kernel_rfl
theorem T.en26 (args : Array Value) (w : World) : (callFunc 26 args).run Tryz.prog w = .ok (.enter 26 args) w := by kernel_rfl
theorem T.en27 (args : Array Value) (w : World) : (callFunc 27 args).run Tryz.prog w = .ok (.enter 27 args) w := by kernel_rfl
theorem T.en28 (args : Array Value) (w : World) : (callFunc 28 args).run Tryz.prog w = .ok (.enter 28 args) w := by kernel_rfl
theorem T.en29 (args : Array Value) (w : World) : (callFunc 29 args).run Tryz.prog w = .ok (.enter 29 args) w := by kernel_rfl
theorem T.en3 (args : Array Value) (w : World) : (callFunc 3 args).run Tryz.prog w = .ok (.enter 3 args) w := by kernel_rfl
theorem T.en30 (args : Array Value) (w : World) : (callFunc 30 args).run Tryz.prog w = .ok (.enter 30 args) w := by kernel_rfl
theorem T.en31 (args : Array Value) (w : World) : (callFunc 31 args).run Tryz.prog w = .ok (.enter 31 args) w := by kernel_rfl
theorem T.en32 (args : Array Value) (w : World) : (callFunc 32 args).run Tryz.prog w = .ok (.enter 32 args) w := by kernel_rfl
theorem T.en33 (args : Array Value) (w : World) : (callFunc 33 args).run Tryz.prog w = .ok (.enter 33 args) w := by kernel_rfl
theorem T.en34 (args : Array Value) (w : World) : (callFunc 34 args).run Tryz.prog w = .ok (.enter 34 args) w := by kernel_rfl
theorem T.en35 (args : Array Value) (w : World) : (callFunc 35 args).run Tryz.prog w = .ok (.enter 35 args) w := by kernel_rfl
theorem T.en36 (args : Array Value) (w : World) : (callFunc 36 args).run Tryz.prog w = .ok (.enter 36 args) w := by kernel_rfl
theorem T.en37 (args : Array Value) (w : World) : (callFunc 37 args).run Tryz.prog w = .ok (.enter 37 args) w := by kernel_rfl
theorem T.en38 (args : Array Value) (w : World) : (callFunc 38 args).run Tryz.prog w = .ok (.enter 38 args) w := by kernel_rfl
theorem T.en39 (args : Array Value) (w : World) : (callFunc 39 args).run Tryz.prog w = .ok (.enter 39 args) w := by kernel_rfl
theorem T.en40 (args : Array Value) (w : World) : (callFunc 40 args).run Tryz.prog w = .ok (.enter 40 args) w := by kernel_rfl
theorem T.en52 (args : Array Value) (w : World) : (callFunc 52 args).run Tryz.prog w = .ok (.enter 52 args) w := by kernel_rfl
theorem T.en53 (args : Array Value) (w : World) : (callFunc 53 args).run Tryz.prog w = .ok (.enter 53 args) w := by kernel_rfl
theorem T.en54 (args : Array Value) (w : World) : (callFunc 54 args).run Tryz.prog w = .ok (.enter 54 args) w := by kernel_rfl
theorem T.en55 (args : Array Value) (w : World) : (callFunc 55 args).run Tryz.prog w = .ok (.enter 55 args) w := by kernel_rfl
theorem T.en56 (args : Array Value) (w : World) : (callFunc 56 args).run Tryz.prog w = .ok (.enter 56 args) w := by kernel_rfl
theorem T.en57 (args : Array Value) (w : World) : (callFunc 57 args).run Tryz.prog w = .ok (.enter 57 args) w := by kernel_rfl
theorem T.en58 (args : Array Value) (w : World) : (callFunc 58 args).run Tryz.prog w = .ok (.enter 58 args) w := by kernel_rfl
theorem T.en59 (args : Array Value) (w : World) : (callFunc 59 args).run Tryz.prog w = .ok (.enter 59 args) w := by kernel_rfl
theorem T.en6 (args : Array Value) (w : World) : (callFunc 6 args).run Tryz.prog w = .ok (.enter 6 args) w := by kernel_rfl
theorem T.en60 (args : Array Value) (w : World) : (callFunc 60 args).run Tryz.prog w = .ok (.enter 60 args) w := by kernel_rfl
theorem T.en61 (args : Array Value) (w : World) : (callFunc 61 args).run Tryz.prog w = .ok (.enter 61 args) w := by kernel_rfl
theorem T.en62 (args : Array Value) (w : World) : (callFunc 62 args).run Tryz.prog w = .ok (.enter 62 args) w := by kernel_rfl
theorem T.en63 (args : Array Value) (w : World) : (callFunc 63 args).run Tryz.prog w = .ok (.enter 63 args) w := by kernel_rfl
theorem T.en64 (args : Array Value) (w : World) : (callFunc 64 args).run Tryz.prog w = .ok (.enter 64 args) w := by kernel_rfl
theorem T.en65 (args : Array Value) (w : World) : (callFunc 65 args).run Tryz.prog w = .ok (.enter 65 args) w := by kernel_rfl
theorem T.en66 (args : Array Value) (w : World) : (callFunc 66 args).run Tryz.prog w = .ok (.enter 66 args) w := by kernel_rfl
theorem T.en68 (args : Array Value) (w : World) : (callFunc 68 args).run Tryz.prog w = .ok (.enter 68 args) w := by kernel_rfl
theorem T.en69 (args : Array Value) (w : World) : (callFunc 69 args).run Tryz.prog w = .ok (.enter 69 args) w := by kernel_rfl
theorem T.en7 (args : Array Value) (w : World) : (callFunc 7 args).run Tryz.prog w = .ok (.enter 7 args) w := by kernel_rfl
theorem T.en70 (args : Array Value) (w : World) : (callFunc 70 args).run Tryz.prog w = .ok (.enter 70 args) w := by kernel_rfl
theorem T.en71 (args : Array Value) (w : World) : (callFunc 71 args).run Tryz.prog w = .ok (.enter 71 args) w := by kernel_rfl
theorem T.en72 (args : Array Value) (w : World) : (callFunc 72 args).run Tryz.prog w = .ok (.enter 72 args) w := by kernel_rfl
theorem T.en73 (args : Array Value) (w : World) : (callFunc 73 args).run Tryz.prog w = .ok (.enter 73 args) w := by kernel_rfl
theorem T.en74 (args : Array Value) (w : World) : (callFunc 74 args).run Tryz.prog w = .ok (.enter 74 args) w := by kernel_rfl
theorem T.en75 (args : Array Value) (w : World) : (callFunc 75 args).run Tryz.prog w = .ok (.enter 75 args) w := by kernel_rfl
theorem T.en78 (args : Array Value) (w : World) : (callFunc 78 args).run Tryz.prog w = .ok (.enter 78 args) w := by kernel_rfl
theorem T.en8 (args : Array Value) (w : World) : (callFunc 8 args).run Tryz.prog w = .ok (.enter 8 args) w := by kernel_rfl
theorem T.en81 (args : Array Value) (w : World) : (callFunc 81 args).run Tryz.prog w = .ok (.enter 81 args) w := by kernel_rfl
theorem T.en82 (args : Array Value) (w : World) : (callFunc 82 args).run Tryz.prog w = .ok (.enter 82 args) w := by kernel_rfl
theorem T.en87 (args : Array Value) (w : World) : (callFunc 87 args).run Tryz.prog w = .ok (.enter 87 args) w := by kernel_rfl
theorem T.en9 (args : Array Value) (w : World) : (callFunc 9 args).run Tryz.prog w = .ok (.enter 9 args) w := by kernel_rfl
theorem T.en90 (args : Array Value) (w : World) : (callFunc 90 args).run Tryz.prog w = .ok (.enter 90 args) w := by kernel_rfl
theorem T.en93 (args : Array Value) (w : World) : (callFunc 93 args).run Tryz.prog w = .ok (.enter 93 args) w := by kernel_rfl
theorem T.en95 (args : Array Value) (w : World) : (callFunc 95 args).run Tryz.prog w = .ok (.enter 95 args) w := by kernel_rfl
theorem T.en97 (args : Array Value) (w : World) : (callFunc 97 args).run Tryz.prog w = .ok (.enter 97 args) w := by kernel_rfl
theorem T.en98 (args : Array Value) (w : World) : (callFunc 98 args).run Tryz.prog w = .ok (.enter 98 args) w := by kernel_rfl
theorem T.en99 (args : Array Value) (w : World) : (callFunc 99 args).run Tryz.prog w = .ok (.enter 99 args) w := by kernel_rfl
theorem T.f100_0 : fldB Tryz.prog 100 0 0 = true := by kernel_rfl
theorem T.f102_0 : fldB Tryz.prog 102 0 0 = true := by kernel_rfl
theorem T.f102_1 : fldB Tryz.prog 102 1 4 = true := by kernel_rfl
theorem T.f102_2 : fldB Tryz.prog 102 2 5 = true := by kernel_rfl
theorem T.f102_3 : fldB Tryz.prog 102 3 6 = true := by kernel_rfl
theorem T.f102_4 : fldB Tryz.prog 102 4 7 = true := by kernel_rfl
theorem T.f102_5 : fldB Tryz.prog 102 5 8 = true := by kernel_rfl
theorem T.f110_0 : fldB Tryz.prog 110 0 0 = true := by kernel_rfl
theorem T.f110_1 : fldB Tryz.prog 110 1 1 = true := by kernel_rfl
theorem T.f110_2 : fldB Tryz.prog 110 2 2 = true := by kernel_rfl
theorem T.f113_0 : fldB Tryz.prog 113 0 0 = true := by kernel_rfl
theorem T.f113_1 : fldB Tryz.prog 113 1 1 = true := by kernel_rfl
theorem T.f113_2 : fldB Tryz.prog 113 2 2 = true := by kernel_rfl
theorem T.f113_3 : fldB Tryz.prog 113 3 5 = true := by kernel_rfl
theorem T.f115_0 : fldB Tryz.prog 115 0 0 = true := by kernel_rfl
theorem T.f115_1 : fldB Tryz.prog 115 1 1 = true := by kernel_rfl
theorem T.f117_0 : fldB Tryz.prog 117 0 0 = true := by kernel_rfl
theorem T.f117_1 : fldB Tryz.prog 117 1 2 = true := by kernel_rfl
theorem T.f117_2 : fldB Tryz.prog 117 2 3 = true := by kernel_rfl
theorem T.f117_3 : fldB Tryz.prog 117 3 4 = true := by kernel_rfl
theorem T.f120_0 : fldB Tryz.prog 120 0 0 = true := by kernel_rfl
theorem T.f120_1 : fldB Tryz.prog 120 1 5 = true := by kernel_rfl
theorem T.f120_2 : fldB Tryz.prog 120 2 6 = true := by kernel_rfl
theorem T.f125_0 : fldB Tryz.prog 125 0 0 = true := by kernel_rfl
theorem T.f125_1 : fldB Tryz.prog 125 1 1 = true := by kernel_rfl
theorem T.f125_2 : fldB Tryz.prog 125 2 2 = true := by kernel_rfl
theorem T.f125_3 : fldB Tryz.prog 125 3 3 = true := by kernel_rfl
theorem T.f125_4 : fldB Tryz.prog 125 4 4 = true := by kernel_rfl
theorem T.f125_5 : fldB Tryz.prog 125 5 5 = true := by kernel_rfl
theorem T.f126_0 : fldB Tryz.prog 126 0 0 = true := by kernel_rfl
theorem T.f126_1 : fldB Tryz.prog 126 1 1 = true := by kernel_rfl
theorem T.f126_2 : fldB Tryz.prog 126 2 2 = true := by kernel_rfl
theorem T.f126_3 : fldB Tryz.prog 126 3 3 = true := by kernel_rfl
theorem T.f129_0 : fldB Tryz.prog 129 0 0 = true := by kernel_rfl
theorem T.f131_0 : fldB Tryz.prog 131 0 0 = true := by kernel_rfl
theorem T.f131_1 : fldB Tryz.prog 131 1 4 = true := by kernel_rfl
theorem T.f131_2 : fldB Tryz.prog 131 2 5 = true := by kernel_rfl
theorem T.f131_3 : fldB Tryz.prog 131 3 6 = true := by kernel_rfl
theorem T.f131_4 : fldB Tryz.prog 131 4 7 = true := by kernel_rfl
theorem T.f131_5 : fldB Tryz.prog 131 5 8 = true := by kernel_rfl
theorem T.f139_0 : fldB Tryz.prog 139 0 0 = true := by kernel_rfl
theorem T.f139_1 : fldB Tryz.prog 139 1 1 = true := by kernel_rfl
theorem T.f139_2 : fldB Tryz.prog 139 2 2 = true := by kernel_rfl
theorem T.f141_0 : fldB Tryz.prog 141 0 0 = true := by kernel_rfl
theorem T.f141_1 : fldB Tryz.prog 141 1 1 = true := by kernel_rfl
theorem T.f141_2 : fldB Tryz.prog 141 2 2 = true := by kernel_rfl
theorem T.f141_3 : fldB Tryz.prog 141 3 5 = true := by kernel_rfl
theorem T.f160_0 : fldB Tryz.prog 160 0 0 = true := by kernel_rfl
theorem T.f160_1 : fldB Tryz.prog 160 1 1 = true := by kernel_rfl
theorem T.f160_2 : fldB Tryz.prog 160 2 2 = true := by kernel_rfl
theorem T.f162_0 : fldB Tryz.prog 162 0 0 = true := by kernel_rfl
theorem T.f162_1 : fldB Tryz.prog 162 1 1 = true := by kernel_rfl
theorem T.f162_2 : fldB Tryz.prog 162 2 2 = true := by kernel_rfl
theorem T.f162_3 : fldB Tryz.prog 162 3 3 = true := by kernel_rfl
theorem T.f169_0 : fldB Tryz.prog 169 0 0 = true := by kernel_rfl
theorem T.f169_1 : fldB Tryz.prog 169 1 1 = true := by kernel_rfl
theorem T.f169_2 : fldB Tryz.prog 169 2 2 = true := by kernel_rfl
theorem T.f169_3 : fldB Tryz.prog 169 3 3 = true := by kernel_rfl
theorem T.f177_0 : fldB Tryz.prog 177 0 0 = true := by kernel_rfl
theorem T.f177_1 : fldB Tryz.prog 177 1 1 = true := by kernel_rfl
theorem T.f177_2 : fldB Tryz.prog 177 2 2 = true := by kernel_rfl
theorem T.f177_3 : fldB Tryz.prog 177 3 3 = true := by kernel_rfl
theorem T.f177_4 : fldB Tryz.prog 177 4 4 = true := by kernel_rfl
theorem T.f177_5 : fldB Tryz.prog 177 5 5 = true := by kernel_rfl
theorem T.f179_0 : fldB Tryz.prog 179 0 0 = true := by kernel_rfl
theorem T.f179_1 : fldB Tryz.prog 179 1 1 = true := by kernel_rfl
theorem T.f179_2 : fldB Tryz.prog 179 2 2 = true := by kernel_rfl
theorem T.f179_3 : fldB Tryz.prog 179 3 3 = true := by kernel_rfl
theorem T.f187_0 : fldB Tryz.prog 187 0 0 = true := by kernel_rfl
theorem T.f187_1 : fldB Tryz.prog 187 1 1 = true := by kernel_rfl
theorem T.f187_2 : fldB Tryz.prog 187 2 2 = true := by kernel_rfl
theorem T.f187_3 : fldB Tryz.prog 187 3 3 = true := by kernel_rfl
theorem T.f189_0 : fldB Tryz.prog 189 0 0 = true := by kernel_rfl
theorem T.f189_1 : fldB Tryz.prog 189 1 1 = true := by kernel_rfl
theorem T.f189_2 : fldB Tryz.prog 189 2 2 = true := by kernel_rfl
theorem T.f189_3 : fldB Tryz.prog 189 3 3 = true := by kernel_rfl
theorem T.f220_0 : fldB Tryz.prog 220 0 0 = true := by kernel_rfl
theorem T.f220_1 : fldB Tryz.prog 220 1 1 = true := by kernel_rfl
theorem T.f220_2 : fldB Tryz.prog 220 2 2 = true := by kernel_rfl
theorem T.f220_3 : fldB Tryz.prog 220 3 3 = true := by kernel_rfl
theorem T.f225_0 : fldB Tryz.prog 225 0 0 = true := by kernel_rfl
theorem T.f225_1 : fldB Tryz.prog 225 1 1 = true := by kernel_rfl
theorem T.f225_2 : fldB Tryz.prog 225 2 2 = true := by kernel_rfl
theorem T.f228_0 : fldB Tryz.prog 228 0 0 = true := by kernel_rfl
theorem T.f228_1 : fldB Tryz.prog 228 1 1 = true := by kernel_rfl
theorem T.f228_2 : fldB Tryz.prog 228 2 2 = true := by kernel_rfl
theorem T.f228_3 : fldB Tryz.prog 228 3 3 = true := by kernel_rfl
theorem T.f246_0 : fldB Tryz.prog 246 0 0 = true := by kernel_rfl
theorem T.f246_1 : fldB Tryz.prog 246 1 1 = true := by kernel_rfl
theorem T.f246_2 : fldB Tryz.prog 246 2 2 = true := by kernel_rfl
theorem T.f255_0 : fldB Tryz.prog 255 0 0 = true := by kernel_rfl
theorem T.f255_1 : fldB Tryz.prog 255 1 1 = true := by kernel_rfl
theorem T.f255_2 : fldB Tryz.prog 255 2 2 = true := by kernel_rfl
theorem T.f255_3 : fldB Tryz.prog 255 3 3 = true := by kernel_rfl
theorem T.f257_0 : fldB Tryz.prog 257 0 0 = true := by kernel_rfl
theorem T.f257_1 : fldB Tryz.prog 257 1 1 = true := by kernel_rfl
theorem T.f257_2 : fldB Tryz.prog 257 2 2 = true := by kernel_rfl
theorem T.f257_3 : fldB Tryz.prog 257 3 3 = true := by kernel_rfl
theorem T.f260_0 : fldB Tryz.prog 260 0 0 = true := by kernel_rfl
theorem T.f260_1 : fldB Tryz.prog 260 1 1 = true := by kernel_rfl
theorem T.f260_2 : fldB Tryz.prog 260 2 2 = true := by kernel_rfl
theorem T.f277_0 : fldB Tryz.prog 277 0 0 = true := by kernel_rfl
theorem T.f277_1 : fldB Tryz.prog 277 1 1 = true := by kernel_rfl
theorem T.f277_2 : fldB Tryz.prog 277 2 2 = true := by kernel_rfl
theorem T.f277_3 : fldB Tryz.prog 277 3 3 = true := by kernel_rfl
theorem T.f27_0 : fldB Tryz.prog 27 0 0 = true := by kernel_rfl
theorem T.f27_1 : fldB Tryz.prog 27 1 1 = true := by kernel_rfl
theorem T.f30_0 : fldB Tryz.prog 30 0 0 = true := by kernel_rfl
theorem T.f30_1 : fldB Tryz.prog 30 1 1 = true := by kernel_rfl
theorem T.f30_2 : fldB Tryz.prog 30 2 3 = true := by kernel_rfl
theorem T.f33_0 : fldB Tryz.prog 33 0 0 = true := by kernel_rfl
theorem T.f33_1 : fldB Tryz.prog 33 1 1 = true := by kernel_rfl
theorem T.f33_2 : fldB Tryz.prog 33 2 2 = true := by kernel_rfl
theorem T.f33_3 : fldB Tryz.prog 33 3 3 = true := by kernel_rfl
theorem T.f37_0 : fldB Tryz.prog 37 0 0 = true := by kernel_rfl
theorem T.f39_0 : fldB Tryz.prog 39 0 0 = true := by kernel_rfl
theorem T.f39_1 : fldB Tryz.prog 39 1 1 = true := by kernel_rfl
theorem T.f39_2 : fldB Tryz.prog 39 2 2 = true := by kernel_rfl
theorem T.f39_3 : fldB Tryz.prog 39 3 3 = true := by kernel_rfl
theorem T.f39_4 : fldB Tryz.prog 39 4 4 = true := by kernel_rfl
theorem T.f39_5 : fldB Tryz.prog 39 5 8 = true := by kernel_rfl
theorem T.f39_6 : fldB Tryz.prog 39 6 9 = true := by kernel_rfl
theorem T.f39_7 : fldB Tryz.prog 39 7 13 = true := by kernel_rfl
theorem T.f39_8 : fldB Tryz.prog 39 8 14 = true := by kernel_rfl
theorem T.f39_9 : fldB Tryz.prog 39 9 15 = true := by kernel_rfl
theorem T.f46_0 : fldB Tryz.prog 46 0 0 = true := by kernel_rfl
theorem T.f46_1 : fldB Tryz.prog 46 1 1 = true := by kernel_rfl
theorem T.f49_0 : fldB Tryz.prog 49 0 0 = true := by kernel_rfl
theorem T.f49_1 : fldB Tryz.prog 49 1 1 = true := by kernel_rfl
theorem T.f49_2 : fldB Tryz.prog 49 2 3 = true := by kernel_rfl
theorem T.f51_0 : fldB Tryz.prog 51 0 0 = true := by kernel_rfl
theorem T.f51_1 : fldB Tryz.prog 51 1 1 = true := by kernel_rfl
theorem T.f51_2 : fldB Tryz.prog 51 2 2 = true := by kernel_rfl
theorem T.f51_3 : fldB Tryz.prog 51 3 3 = true := by kernel_rfl
theorem T.f55_0 : fldB Tryz.prog 55 0 0 = true := by kernel_rfl
theorem T.f57_0 : fldB Tryz.prog 57 0 0 = true := by kernel_rfl
theorem T.f57_1 : fldB Tryz.prog 57 1 1 = true := by kernel_rfl
theorem T.f57_2 : fldB Tryz.prog 57 2 2 = true := by kernel_rfl
theorem T.f57_3 : fldB Tryz.prog 57 3 3 = true := by kernel_rfl
theorem T.f57_4 : fldB Tryz.prog 57 4 4 = true := by kernel_rfl
theorem T.f57_5 : fldB Tryz.prog 57 5 8 = true := by kernel_rfl
theorem T.f57_6 : fldB Tryz.prog 57 6 9 = true := by kernel_rfl
theorem T.f57_7 : fldB Tryz.prog 57 7 13 = true := by kernel_rfl
theorem T.f57_8 : fldB Tryz.prog 57 8 14 = true := by kernel_rfl
theorem T.f57_9 : fldB Tryz.prog 57 9 15 = true := by kernel_rfl
theorem T.f86_0 : fldB Tryz.prog 86 0 0 = true := by kernel_rfl
theorem T.f86_1 : fldB Tryz.prog 86 1 1 = true := by kernel_rfl
theorem T.f88_0 : fldB Tryz.prog 88 0 0 = true := by kernel_rfl
theorem T.f88_1 : fldB Tryz.prog 88 1 2 = true := by kernel_rfl
theorem T.f88_2 : fldB Tryz.prog 88 2 3 = true := by kernel_rfl
theorem T.f88_3 : fldB Tryz.prog 88 3 4 = true := by kernel_rfl
theorem T.f91_0 : fldB Tryz.prog 91 0 0 = true := by kernel_rfl
theorem T.f91_1 : fldB Tryz.prog 91 1 5 = true := by kernel_rfl
theorem T.f91_2 : fldB Tryz.prog 91 2 6 = true := by kernel_rfl
theorem T.f97_0 : fldB Tryz.prog 97 0 0 = true := by kernel_rfl
theorem T.f97_1 : fldB Tryz.prog 97 1 1 = true := by kernel_rfl
theorem T.f97_2 : fldB Tryz.prog 97 2 2 = true := by kernel_rfl
theorem T.f97_3 : fldB Tryz.prog 97 3 3 = true := by kernel_rfl
theorem T.is3 : (Tryz.prog.underlying 3).isSome = true := by kernel_rfl
theorem T.mix : Tryz.prog.follows .mixedOrders = true := by kernel_rfl
theorem T.o107 : oneB Tryz.prog 107 = true := by kernel_rfl
theorem T.o108 : oneB Tryz.prog 108 = true := by kernel_rfl
theorem T.o111 : oneB Tryz.prog 111 = true := by kernel_rfl
theorem T.o118 : oneB Tryz.prog 118 = true := by kernel_rfl
theorem T.o122 : oneB Tryz.prog 122 = true := by kernel_rfl
theorem T.o127 : oneB Tryz.prog 127 = true := by kernel_rfl
theorem T.o136 : oneB Tryz.prog 136 = true := by kernel_rfl
theorem T.o137 : oneB Tryz.prog 137 = true := by kernel_rfl
theorem T.o158 : oneB Tryz.prog 158 = true := by kernel_rfl
theorem T.o22 : oneB Tryz.prog 22 = true := by kernel_rfl
theorem T.o223 : oneB Tryz.prog 223 = true := by kernel_rfl
theorem T.o23 : oneB Tryz.prog 23 = true := by kernel_rfl
theorem T.o24 : oneB Tryz.prog 24 = true := by kernel_rfl
theorem T.o25 : oneB Tryz.prog 25 = true := by kernel_rfl
theorem T.o28 : oneB Tryz.prog 28 = true := by kernel_rfl
theorem T.o3 : oneB Tryz.prog 3 = true := by kernel_rfl
theorem T.o31 : oneB Tryz.prog 31 = true := by kernel_rfl
theorem T.o34 : oneB Tryz.prog 34 = true := by kernel_rfl
theorem T.o35 : oneB Tryz.prog 35 = true := by kernel_rfl
theorem T.o4 : oneB Tryz.prog 4 = true := by kernel_rfl
theorem T.o42 : oneB Tryz.prog 42 = true := by kernel_rfl
theorem T.o43 : oneB Tryz.prog 43 = true := by kernel_rfl
theorem T.o44 : oneB Tryz.prog 44 = true := by kernel_rfl
theorem T.o47 : oneB Tryz.prog 47 = true := by kernel_rfl
theorem T.o5 : oneB Tryz.prog 5 = true := by kernel_rfl
theorem T.o50 : oneB Tryz.prog 50 = true := by kernel_rfl
theorem T.o52 : oneB Tryz.prog 52 = true := by kernel_rfl
theorem T.o53 : oneB Tryz.prog 53 = true := by kernel_rfl
theorem T.o89 : oneB Tryz.prog 89 = true := by kernel_rfl
theorem T.o9 : oneB Tryz.prog 9 = true := by kernel_rfl
theorem T.o98 : oneB Tryz.prog 98 = true := by kernel_rfl
theorem T.s107 : slB Tryz.prog 107 225 3 40 = true := by kernel_rfl
theorem T.s108 : slB Tryz.prog 108 260 3 24 = true := by kernel_rfl
theorem T.s111 : slB Tryz.prog 111 3 1 8 = true := by kernel_rfl
theorem T.s118 : slB Tryz.prog 118 117 5 40 = true := by kernel_rfl
theorem T.s122 : slB Tryz.prog 122 5 1 1 = true := by kernel_rfl
theorem T.s127 : slB Tryz.prog 127 255 4 32 = true := by kernel_rfl
theorem T.s136 : slB Tryz.prog 136 160 3 40 = true := by kernel_rfl
theorem T.s137 : slB Tryz.prog 137 246 3 24 = true := by kernel_rfl
theorem T.s158 : slB Tryz.prog 158 162 4 32 = true := by kernel_rfl
theorem T.s22 : slB Tryz.prog 22 102 9 104 = true := by kernel_rfl
theorem T.s223 : slB Tryz.prog 223 277 4 32 = true := by kernel_rfl
theorem T.s23 : slB Tryz.prog 23 4 1 1 = true := by kernel_rfl
theorem T.s24 : slB Tryz.prog 24 177 6 48 = true := by kernel_rfl
theorem T.s25 : slB Tryz.prog 25 220 4 48 = true := by kernel_rfl
theorem T.s275 : slB Tryz.prog 275 111 1 24 = true := by kernel_rfl
theorem T.s28 : slB Tryz.prog 28 169 4 48 = true := by kernel_rfl
theorem T.s31 : slB Tryz.prog 31 113 6 104 = true := by kernel_rfl
theorem T.s34 : slB Tryz.prog 34 120 7 72 = true := by kernel_rfl
theorem T.s35 : slB Tryz.prog 35 189 4 32 = true := by kernel_rfl
theorem T.s42 : slB Tryz.prog 42 131 9 104 = true := by kernel_rfl
theorem T.s43 : slB Tryz.prog 43 125 6 48 = true := by kernel_rfl
theorem T.s44 : slB Tryz.prog 44 228 4 48 = true := by kernel_rfl
theorem T.s47 : slB Tryz.prog 47 179 4 48 = true := by kernel_rfl
theorem T.s50 : slB Tryz.prog 50 141 6 104 = true := by kernel_rfl
theorem T.s52 : slB Tryz.prog 52 91 7 72 = true := by kernel_rfl
theorem T.s53 : slB Tryz.prog 53 187 4 32 = true := by kernel_rfl
theorem T.s89 : slB Tryz.prog 89 88 5 40 = true := by kernel_rfl
theorem T.s98 : slB Tryz.prog 98 257 4 32 = true := by kernel_rfl
theorem T.z125 : zerosOf Tryz.prog 125 = some [.int .i64 0, .int .i64 0, .int .i64 0, .int .i64 0, .int .i64 0, .int .i64 0] := by kernel_rfl
theorem T.z126 : zerosOf Tryz.prog 126 = some [.int .i64 0, .int .i64 0, .int .i64 0, .int .i64 0] := by kernel_rfl
theorem T.z129 : zerosOf Tryz.prog 129 = some [.nil] := by kernel_rfl
theorem T.z131 : zerosOf Tryz.prog 131 = some [.int .i64 0, .int .i64 0, .int .i64 0, .int .i64 0, .nil, .int .i64 0, .int .i64 0, .int .i64 0, .nil] := by kernel_rfl
theorem T.z139 : zerosOf Tryz.prog 139 = some [.int .i64 0, .int .i64 0, .nil] := by kernel_rfl
theorem T.z141 : zerosOf Tryz.prog 141 = some [.str ⟨#[]⟩, .nil, .int .i64 0, .int .i64 0, .nil, .nil] := by kernel_rfl
theorem T.z160 : zerosOf Tryz.prog 160 = some [.int .i64 0, .int .i64 0, .nil] := by kernel_rfl
theorem T.z162 : zerosOf Tryz.prog 162 = some [.int .i64 0, .int .i64 0, .int .i64 0, .bool false] := by kernel_rfl
theorem T.z179 : zerosOf Tryz.prog 179 = some [.int .i64 0, .int .i64 0, .nil, .int .i64 0] := by kernel_rfl
theorem T.z187 : zerosOf Tryz.prog 187 = some [.int .i64 0, .int .i64 0, .int .i64 0, .bool false] := by kernel_rfl
theorem T.z228 : zerosOf Tryz.prog 228 = some [.int .i64 0, .int .i64 0, .nil, .int .i64 0] := by kernel_rfl
theorem T.z246 : zerosOf Tryz.prog 246 = some [.int .i64 0, .int .i64 0, .int .i64 0] := by kernel_rfl
theorem T.z255 : zerosOf Tryz.prog 255 = some [.int .i64 0, .int .i64 0, .int .i64 0, .bool false] := by kernel_rfl
theorem T.z3 : zerosOf Tryz.prog 3 = some [.int .i64 0] := by kernel_rfl
theorem T.z4 : zerosOf Tryz.prog 4 = some [.bool false] := by kernel_rfl
theorem T.z46 : zerosOf Tryz.prog 46 = some [.int .i64 0, .nil] := by kernel_rfl
theorem T.z49 : zerosOf Tryz.prog 49 = some [.nil, .int .i64 0, .nil, .nil] := by kernel_rfl
theorem T.z5 : zerosOf Tryz.prog 5 = some [.int .u8 0] := by kernel_rfl
theorem T.z51 : zerosOf Tryz.prog 51 = some [.int .i64 0, .int .i64 0, .int .i64 0, .int .i64 0] := by kernel_rfl
theorem T.z55 : zerosOf Tryz.prog 55 = some [.nil] := by kernel_rfl
theorem T.z57 : zerosOf Tryz.prog 57 = some [.int .i64 0, .int .i64 0, .nil, .nil, .nil, .int .i64 0, .nil, .nil, .nil, .int .i64 0, .int .i64 0, .int .i64 0, .int .i64 0, .nil, .int .i64 0, .nil] := by kernel_rfl
theorem T.z86 : zerosOf Tryz.prog 86 = some [.int .i64 0, .int .i64 0] := by kernel_rfl
theorem T.z88 : zerosOf Tryz.prog 88 = some [.int .i64 0, .int .i64 0, .int .i64 0, .int .i64 0, .int .i64 0] := by kernel_rfl
theorem T.z91 : zerosOf Tryz.prog 91 = some [.int .i64 0, .int .i64 0, .int .i64 0, .int .i64 0, .int .i64 0, .nil, .int .i64 0] := by kernel_rfl
theorem sp_spec_FormatInt (n : Int) : Spec Tryz.prog G0 21 [.int .i64 n] (fun r => r = .str (fmtInt n)) := by
  refine enter (l := [.tmp 2]) Tryz.func21 rfl Tryz.ntmps21 rfl T.en21 fun E => ?_
  simp only [List.length_cons, List.length_nil, List.replicate_succ, List.replicate_zero, List.cons_append, List.nil_append, Nat.reduceAdd, Nat.reduceSub]
  refine rng n0 fun hn0 hn1 => ?_
  refine sr <| m (as_ (.s rfl)) u2 <| e ?_
  refine sq ?_
  refine sr <| m (mv (.t n0)) u6 <| m (eql (.t n6) (.i rfl)) u7 <| e ?_
  refine cnd n7 (fun h1 => ?_) (fun h1 => ?_)
  ·
    replace h1 := eq_of_beq h1
    refine sr <| m (as_ (.s rfl)) u2 <| e ?_
    refine rt (ret1 (.t n2 (.p rfl) .n) ?_)
    show V.str _ = V.str _
    rw [h1, fmtInt_0]
  ·
    replace h1 := ne_of_beq_false h1
    refine skp ?_
    refine sr <| m (as_ (.s rfl)) u3 <| e ?_
    refine sq ?_
    refine sr <| m (mv (.t n0)) u8 <| m (as_ (.t n8)) u4 <| e ?_
    refine bk ?_
    refine lp (fun x0 : Int × ByteArray => ⟨[.int .i64 n, .any, .any, .str x0.2, .int .i64 x0.1, .any, .any, .any, .any, .any, .any, .any, .any, .any, .any, .any, .any, .any, .any, .any, .any, .any, .any, .any, .any, .any, .any, .any, .any, .any, .any], []⟩) (fun x0 : Int × ByteArray => -9223372036854775808 ≤ x0.1 ∧ x0.1 ≤ 9223372036854775807 ∧ absd x0.1 ++ x0.2.data.toList = absd n) (fun x0 : Int × ByteArray => x0.1.natAbs) ((n, ⟨#[]⟩)) ⟨hn0, hn1, by simp⟩ (le [] (by decide) (.c (.e rfl rfl) (.c .a (.c .a (.c (.e rfl rfl) (.c (.e rfl rfl) (.c .a (.c .a (.c .a (.c .a (.c .a (.c .a (.c .a (.c .a (.c .a (.c .a (.c .a (.c .a (.c .a (.c .a (.c .a (.c .a (.c .a (.c .a (.c .a (.c .a (.c .a (.c .a (.c .a (.c .a (.c .a (.c .a .n))))))))))))))))))))))))))))))) .n) ?_
    rintro ⟨x, s⟩ hJ
    try dsimp only at hJ ⊢
    refine sq ?_
    refine sr <| m (mv (.t n4)) u9 <| m (neq (.t n9) (.i rfl)) u10 <| e ?_
    refine cnd n10 (fun h2 => ?_) (fun h2 => ?_)
    ·
      replace h2 := bne_iff_ne.1 h2
      refine skp ?_
      refine sq ?_
      refine bk ?_
      refine sr <| m (mv (.t n4)) u13 <| m (rem (by decide) (.t n13) (.i rfl)) u14 <| m (as_ (.t n14)) u5 <| e ?_
      refine sq ?_
      refine sr <| m (mv (.t n5)) u15 <| m (lss (.t n15) (.i rfl)) u16 <| e ?_
      refine cnd n16 (fun h3 => ?_) (fun h3 => ?_)
      ·
        replace h3 := of_decide_eq_true h3
        refine rg <| m (mv (.t n5)) u17 <| m (neg_ (.t n17)) u18 <| m (as_ (.t n18)) u5 <| e ?_
        refine rg <| m (mv (.t n5)) u19 <| m (add (.i rfl) (.t n19)) u20 <| m (cnv T.is3 Tryz.underlying5 (.t n20)) u21 <| k (bs T.s122 rfl rfl (.c (.t n21) rfl rfl rfl .n) u22) <| m (b2s (ns := [_]) Tryz.underlying122 Tryz.underlying5 Tryz.underlying9 (by simp [maxLen]) (.t n22)) u23 <| m (mv (.t n3)) u24 <| m (sadd (by have h := absd_sz hJ.2.2 hn0 hn1; have h2 := push_sz; simp only [h2]; omega) (.t n23) (.t n24)) u25 <| m (as_ (.t n25)) u3 <| e ?_
        refine rg <| m (mv (.t n4)) u11 <| m (quo (by decide) (.t n11) (.i rfl)) u12 <| m (as_ (.t n12)) u4 <| e ?_
        have ht := tdiv10 x
        have hw : IntKind.i64.wrap (x.tdiv 10) = x.tdiv 10 := wrap64_id (by omega) (by omega)
        rw [hw]
        exact ⟨(x.tdiv 10, _), ⟨by omega, by omega, absd_put hJ.2.2 h2 (digit_byte (by first | (rw [wrap64_id (by have := tmod_abs x; omega) (by have := tmod_abs x; omega)]; have := tmod_abs x; omega) | (have := tmod_abs x; omega)))⟩, (by have := tdiv10 x; omega), le [] (by decide) (.c (.e rfl rfl) (.c .a (.c .a (.c (.e rfl rfl) (.c (.e rfl rfl) (.c .a (.c .a (.c .a (.c .a (.c .a (.c .a (.c .a (.c .a (.c .a (.c .a (.c .a (.c .a (.c .a (.c .a (.c .a (.c .a (.c .a (.c .a (.c .a (.c .a (.c .a (.c .a (.c .a (.c .a (.c .a (.c .a .n))))))))))))))))))))))))))))))) .n⟩
      ·
        replace h3 := of_decide_eq_false h3
        refine skp ?_
        refine rg <| m (mv (.t n5)) u19 <| m (add (.i rfl) (.t n19)) u20 <| m (cnv T.is3 Tryz.underlying5 (.t n20)) u21 <| k (bs T.s122 rfl rfl (.c (.t n21) rfl rfl rfl .n) u22) <| m (b2s (ns := [_]) Tryz.underlying122 Tryz.underlying5 Tryz.underlying9 (by simp [maxLen]) (.t n22)) u23 <| m (mv (.t n3)) u24 <| m (sadd (by have h := absd_sz hJ.2.2 hn0 hn1; have h2 := push_sz; simp only [h2]; omega) (.t n23) (.t n24)) u25 <| m (as_ (.t n25)) u3 <| e ?_
        refine rg <| m (mv (.t n4)) u11 <| m (quo (by decide) (.t n11) (.i rfl)) u12 <| m (as_ (.t n12)) u4 <| e ?_
        have ht := tdiv10 x
        have hw : IntKind.i64.wrap (x.tdiv 10) = x.tdiv 10 := wrap64_id (by omega) (by omega)
        rw [hw]
        exact ⟨(x.tdiv 10, _), ⟨by omega, by omega, absd_put hJ.2.2 h2 (digit_byte (by first | (rw [wrap64_id (by have := tmod_abs x; omega) (by have := tmod_abs x; omega)]; have := tmod_abs x; omega) | (have := tmod_abs x; omega)))⟩, (by have := tdiv10 x; omega), le [] (by decide) (.c (.e rfl rfl) (.c .a (.c .a (.c (.e rfl rfl) (.c (.e rfl rfl) (.c .a (.c .a (.c .a (.c .a (.c .a (.c .a (.c .a (.c .a (.c .a (.c .a (.c .a (.c .a (.c .a (.c .a (.c .a (.c .a (.c .a (.c .a (.c .a (.c .a (.c .a (.c .a (.c .a (.c .a (.c .a (.c .a .n))))))))))))))))))))))))))))))) .n⟩
    ·
      replace h2 := eq_of_bne h2
      refine ex (x1 ?_)
      refine sq ?_
      refine sr <| m (mv (.t n0)) u26 <| m (lss (.t n26) (.i rfl)) u27 <| e ?_
      refine cnd n27 (fun h4 => ?_) (fun h4 => ?_)
      ·
        replace h4 := of_decide_eq_true h4
        refine sr <| m (mv (.t n3)) u28 <| m (sadd (by have h := absd_sz hJ.2.2 hn0 hn1; have h2 : (⟨#[45]⟩ : ByteArray).size = 1 := rfl; omega) (.s rfl) (.t n28)) u29 <| m (as_ (.t n29)) u2 <| e ?_
        refine rt (ret1 (.t n2 (.p rfl) .n) ?_)
        show V.str _ = V.str _
        have hj := hJ.2.2
        rw [h2] at hj
        exact congrArg _ (fmtInt_neg (by omega) hn0 hj)
      ·
        replace h4 := of_decide_eq_false h4
        refine skp ?_
        refine sr <| m (mv (.t n3)) u30 <| m (as_ (.t n30)) u2 <| e ?_
        refine rt (ret1 (.t n2 (.p rfl) .n) ?_)
        show V.str _ = V.str _
        have hj := hJ.2.2
        rw [h2] at hj
        exact congrArg _ (fmtInt_pos (by omega) hn1 hj)

theorem sp_spec_l1In (x_ : Int) (least_ : Int) (most_ : Int) (r : Bool) (hm : m_spec_l1In x_ least_ most_ = some r) : Spec Tryz.prog G0 78 [.int .i64 x_, .int .i64 least_, .int .i64 most_] (fun v => v = .bool r) := by
  rw [m_spec_l1In] at hm
  refine enter (l := [.tmp 6]) Tryz.func78 rfl Tryz.ntmps78 rfl T.en78 fun E => ?_
  simp only [List.length_cons, List.length_nil, List.replicate_succ, List.replicate_zero, List.cons_append, List.nil_append, Nat.reduceAdd, Nat.reduceSub]
  refine sr <| m (as_ .b) u6 <| e ?_
  refine sr <| rjb hm (fun j0_6 : Bool => ⟨[.any, .any, .any, .any, .any, .any, .bool j0_6, .any, .any, .any, .any, .any, .any, .any, .any], []⟩) (fun _ hm hq1 => ?_) (fun j0_6 hm => ?_)
  ·
    refine m (mv (.t n0)) u7 <| m (mv (.t n1)) u8 <| m (geq (.t n7) (.t n8)) u9 <| m (mv (.t n9)) u10 <| sp n10 u10 u10 (fun h2 => ?_) (fun h2 => ?_)
    ·
      replace hm := ct h2 hm
      refine mg n3 rfl n10 (mv (.t n0)) u11 <| mg n3 rfl n10 (mv (.t n2)) u12 <| mg n3 rfl n10 (leq (.t n11) (.t n12)) u13 <| m (pkt (.t n10) (.t n13)) u14 <| m (as_ (.t n14)) u6 <| e ?_
      replace hm := sj hm
      subst hm
      have hm := hq1
      exact ⟨decide (x_ ≤ most_), hm, le [] (by decide) (.c .a (.c .a (.c .a (.c .a (.c .a (.c .a (.c (.e rfl rfl) (.c .a (.c .a (.c .a (.c .a (.c .a (.c .a (.c .a (.c .a .n))))))))))))))) .n⟩
    ·
      replace hm := cf h2 hm
      refine sk n3 rfl n10 rfl u11 <| sk n3 rfl n10 rfl u12 <| sk n3 rfl n10 rfl u13 <| m (pkf (.t n10) .b) u14 <| m (as_ (.t n14)) u6 <| e ?_
      replace hm := sj hm
      subst hm
      have hm := hq1
      exact ⟨false, hm, le [] (by decide) (.c .a (.c .a (.c .a (.c .a (.c .a (.c .a (.c (.e rfl rfl) (.c .a (.c .a (.c .a (.c .a (.c .a (.c .a (.c .a (.c .a .n))))))))))))))) .n⟩
  ·
    replace hm := sj hm
    subst hm
    exact rt (ret1 (.t n6 (.p rfl) .n) rfl)

theorem tot_spec_l1In (x_ : Int) (least_ : Int) (most_ : Int)  : Spec Tryz.prog G0 78 [.int .i64 x_, .int .i64 least_, .int .i64 most_] (fun v => v = .bool (inR x_ least_ most_)) := sp_spec_l1In x_ least_ most_ _ (t_spec_l1In x_ least_ most_)

theorem sp_spec_Mod (n_ : Int) (m_ : Int) (r : Int) (hm : m_spec_Mod n_ m_ = some r) : Spec Tryz.prog G0 224 [.int .i64 n_, .int .i64 m_] (fun v => v = .int .i64 r) := by
  rw [m_spec_Mod] at hm
  refine enter (l := [.tmp 4]) Tryz.func224 rfl Tryz.ntmps224 rfl T.en224 fun E => ?_
  simp only [List.length_cons, List.length_nil, List.replicate_succ, List.replicate_zero, List.cons_append, List.nil_append, Nat.reduceAdd, Nat.reduceSub]
  refine sr <| m (as_ (.i rfl)) u4 <| e ?_
  refine sq ?_
  refine sr <| m (mv (.t n1)) u5 <| c (call (tot_spec_l1In m_ (1 : Int) (1000000000000 : Int)) (.c (.t n5) rfl (.c (.i rfl) rfl (.c (.i rfl) rfl .n)))) u6 <| m (not_ (.t n6)) u7 <| e ?_
  refine cnd n7 (fun h1 => ?_) (fun h1 => ?_)
  ·
    replace hm := ct h1 hm
    refine sr <| m (as_ (.i rfl)) u4 <| e ?_
    replace hm := sj hm
    subst hm
    exact rt (ret1 (.t n4 (.p rfl) .n) rfl)
  ·
    replace hm := cf h1 hm
    refine skp ?_
    obtain ⟨c2, hm⟩ := gd_some hm
    obtain ⟨c3, hm⟩ := gd_some hm
    refine sr <| m (mv (.t n0)) u8 <| m (mv (.t n1)) u9 <| m (rem c2 (.t n8) (.t n9)) u10 <| m (mv (.t n1)) u11 <| m (add (.t n10) (.t n11)) u12 <| m (mv (.t n1)) u13 <| m (rem c3 (.t n12) (.t n13)) u14 <| m (as_ (.t n14)) u4 <| e ?_
    replace hm := sj hm
    subst hm
    exact rt (ret1 (.t n4 (.p rfl) .n) rfl)

theorem tot_spec_Mod (n_ : Int) (m_ : Int)  : Spec Tryz.prog G0 224 [.int .i64 n_, .int .i64 m_] (fun v => v = .int .i64 (modI n_ m_)) := sp_spec_Mod n_ m_ _ (t_spec_Mod n_ m_)

theorem sp_spec_Max (a_ : Int) (b_ : Int) (r : Int) (hm : m_spec_Max a_ b_ = some r) : Spec Tryz.prog G0 212 [.int .i64 a_, .int .i64 b_] (fun v => v = .int .i64 r) := by
  rw [m_spec_Max] at hm
  refine enter (l := [.tmp 4]) Tryz.func212 rfl Tryz.ntmps212 rfl T.en212 fun E => ?_
  simp only [List.length_cons, List.length_nil, List.replicate_succ, List.replicate_zero, List.cons_append, List.nil_append, Nat.reduceAdd, Nat.reduceSub]
  refine sr <| m (as_ (.i rfl)) u4 <| e ?_
  refine sq ?_
  refine sr <| m (mv (.t n1)) u5 <| m (mv (.t n0)) u6 <| m (gtr (.t n5) (.t n6)) u7 <| e ?_
  refine cnd n7 (fun h1 => ?_) (fun h1 => ?_)
  ·
    replace hm := ct h1 hm
    refine sr <| m (mv (.t n1)) u8 <| m (as_ (.t n8)) u4 <| e ?_
    replace hm := sj hm
    subst hm
    exact rt (ret1 (.t n4 (.p rfl) .n) rfl)
  ·
    replace hm := cf h1 hm
    refine skp ?_
    refine sr <| m (mv (.t n0)) u9 <| m (as_ (.t n9)) u4 <| e ?_
    replace hm := sj hm
    subst hm
    exact rt (ret1 (.t n4 (.p rfl) .n) rfl)

theorem tot_spec_Max (a_ : Int) (b_ : Int)  : Spec Tryz.prog G0 212 [.int .i64 a_, .int .i64 b_] (fun v => v = .int .i64 (maxF a_ b_)) := sp_spec_Max a_ b_ _ (t_spec_Max a_ b_)

theorem sp_impl_FormatInt (n_ : Int) (r : ByteArray) (hm : m_impl_FormatInt n_ = some r) : Spec Tryz.prog G0 31 [.int .i64 n_] (fun v => v = .str r) := by
  rw [m_impl_FormatInt] at hm
  refine enter (l := [.tmp 2]) Tryz.func31 rfl Tryz.ntmps31 rfl T.en31 fun E => ?_
  simp only [List.length_cons, List.length_nil, List.replicate_succ, List.replicate_zero, List.cons_append, List.nil_append, Nat.reduceAdd, Nat.reduceSub]
  refine sr <| m (as_ (.s rfl)) u2 <| e ?_
  refine sr <| m (mv (.t n0)) u3 <| c (call (sp_strconv_Itoa n_) (.c (.t n3) rfl .n)) u4 <| m (as_ (.t n4)) u2 <| e ?_
  replace hm := sj hm
  subst hm
  exact rt (ret1 (.t n2 (.p rfl) .n) rfl)

theorem tot_impl_FormatInt (n_ : Int)  : Spec Tryz.prog G0 31 [.int .i64 n_] (fun v => v = .str (fmtInt n_)) := sp_impl_FormatInt n_ _ (t_impl_FormatInt n_)

theorem sp_impl_Mod (p_ : Int) (q_ : Int) (r : Int) (hm : m_impl_Mod p_ q_ = some r) : Spec Tryz.prog G0 208 [.int .i64 p_, .int .i64 q_] (fun v => v = .int .i64 r) := by
  rw [m_impl_Mod] at hm
  refine enter (l := [.tmp 4]) Tryz.func208 rfl Tryz.ntmps208 rfl T.en208 fun E => ?_
  simp only [List.length_cons, List.length_nil, List.replicate_succ, List.replicate_zero, List.cons_append, List.nil_append, Nat.reduceAdd, Nat.reduceSub]
  refine sr <| m (as_ (.i rfl)) u4 <| e ?_
  refine sq ?_
  refine sr <| rjb hm (fun j0_11 : Bool => ⟨[.int .i64 p_, .int .i64 q_, .any, .any, .any, .any, .any, .any, .any, .any, .any, .bool j0_11, .any, .any, .any, .any, .any, .any, .any, .any, .any], []⟩) (fun _ hm hq1 => ?_) (fun j0_11 hm => ?_)
  ·
    refine m (mv (.t n1)) u6 <| m (lss (.t n6) (.i rfl)) u7 <| m (mv (.t n7)) u8 <| sp n8 u8 u8 (fun h2 => ?_) (fun h2 => ?_)
    ·
      replace hm := ct h2 hm
      refine sk n2 rfl n8 rfl u9 <| sk n2 rfl n8 rfl u10 <| m (pkt (.t n8) .b) u11 <| e ?_
      replace hm := sj hm
      subst hm
      have hm := hq1
      exact ⟨true, hm, le [] (by decide) (.c (.e rfl rfl) (.c (.e rfl rfl) (.c .a (.c .a (.c .a (.c .a (.c .a (.c .a (.c .a (.c .a (.c .a (.c (.e rfl rfl) (.c .a (.c .a (.c .a (.c .a (.c .a (.c .a (.c .a (.c .a (.c .a .n))))))))))))))))))))) .n⟩
    ·
      replace hm := cf h2 hm
      refine mg n2 rfl n8 (mv (.t n1)) u9 <| mg n2 rfl n8 (gtr (.t n9) (.i rfl)) u10 <| m (pkf (.t n8) (.t n10)) u11 <| e ?_
      replace hm := sj hm
      subst hm
      have hm := hq1
      exact ⟨decide (q_ > (1000000000000 : Int)), hm, le [] (by decide) (.c (.e rfl rfl) (.c (.e rfl rfl) (.c .a (.c .a (.c .a (.c .a (.c .a (.c .a (.c .a (.c .a (.c .a (.c (.e rfl rfl) (.c .a (.c .a (.c .a (.c .a (.c .a (.c .a (.c .a (.c .a (.c .a .n))))))))))))))))))))) .n⟩
  ·
    refine cnd n11 (fun h3 => ?_) (fun h3 => ?_)
    ·
      replace hm := ct h3 hm
      refine sr <| m (as_ (.i rfl)) u4 <| e ?_
      replace hm := sj hm
      subst hm
      exact rt (ret1 (.t n4 (.p rfl) .n) rfl)
    ·
      replace hm := cf h3 hm
      refine skp ?_
      obtain ⟨c4, hm⟩ := gd_some hm
      refine sr <| m (mv (.t n0)) u12 <| m (mv (.t n1)) u13 <| m (rem c4 (.t n12) (.t n13)) u14 <| m (as_ (.t n14)) u5 <| e ?_
      refine sq ?_
      refine sr <| m (mv (.t n5)) u15 <| m (lss (.t n15) (.i rfl)) u16 <| e ?_
      refine jmb hm (fun j1_5 : Int => ⟨[.any, .any, .any, .any, .any, .int .i64 j1_5, .any, .any, .any, .any, .any, .any, .any, .any, .any, .any, .any, .any, .any, .any, .any], []⟩) (fun _ hm hq5 => ?_) (fun j1_5 hm => ?_)
      ·
        refine cnd n16 (fun h6 => ?_) (fun h6 => ?_)
        ·
          replace hm := ct h6 hm
          refine rg <| m (mv (.t n5)) u17 <| m (mv (.t n1)) u18 <| m (add (.t n17) (.t n18)) u19 <| m (as_ (.t n19)) u5 <| e ?_
          replace hm := sj hm
          subst hm
          have hm := hq5
          exact ⟨IntKind.i64.wrap (p_.tmod q_ + q_), hm, le [] (by decide) (.c .a (.c .a (.c .a (.c .a (.c .a (.c (.e rfl rfl) (.c .a (.c .a (.c .a (.c .a (.c .a (.c .a (.c .a (.c .a (.c .a (.c .a (.c .a (.c .a (.c .a (.c .a (.c .a .n))))))))))))))))))))) .n⟩
        ·
          replace hm := cf h6 hm
          refine skp ?_
          replace hm := sj hm
          subst hm
          have hm := hq5
          exact ⟨p_.tmod q_, hm, le [] (by decide) (.c .a (.c .a (.c .a (.c .a (.c .a (.c (.e rfl rfl) (.c .a (.c .a (.c .a (.c .a (.c .a (.c .a (.c .a (.c .a (.c .a (.c .a (.c .a (.c .a (.c .a (.c .a (.c .a .n))))))))))))))))))))) .n⟩
      ·
        refine sr <| m (mv (.t n5)) u20 <| m (as_ (.t n20)) u4 <| e ?_
        replace hm := sj hm
        subst hm
        exact rt (ret1 (.t n4 (.p rfl) .n) rfl)

theorem tot_impl_Mod (p_ : Int) (q_ : Int)  : Spec Tryz.prog G0 208 [.int .i64 p_, .int .i64 q_] (fun v => v = .int .i64 (modI p_ q_)) := sp_impl_Mod p_ q_ _ (t_impl_Mod p_ q_)

theorem sp_impl_InRange (n_ : Int) (low_ : Int) (high_ : Int) (r : Bool) (hm : m_impl_InRange n_ low_ high_ = some r) : Spec Tryz.prog G0 82 [.int .i64 n_, .int .i64 low_, .int .i64 high_] (fun v => v = .bool r) := by
  rw [m_impl_InRange] at hm
  refine enter (l := [.tmp 6]) Tryz.func82 rfl Tryz.ntmps82 rfl T.en82 fun E => ?_
  simp only [List.length_cons, List.length_nil, List.replicate_succ, List.replicate_zero, List.cons_append, List.nil_append, Nat.reduceAdd, Nat.reduceSub]
  refine sr <| m (as_ .b) u6 <| e ?_
  refine sr <| rjb hm (fun j0_6 : Bool => ⟨[.any, .any, .any, .any, .any, .any, .bool j0_6, .any, .any, .any, .any, .any, .any, .any, .any], []⟩) (fun _ hm hq1 => ?_) (fun j0_6 hm => ?_)
  ·
    refine m (mv (.t n1)) u7 <| m (mv (.t n0)) u8 <| m (leq (.t n7) (.t n8)) u9 <| m (mv (.t n9)) u10 <| sp n10 u10 u10 (fun h2 => ?_) (fun h2 => ?_)
    ·
      replace hm := ct h2 hm
      refine mg n3 rfl n10 (mv (.t n0)) u11 <| mg n3 rfl n10 (mv (.t n2)) u12 <| mg n3 rfl n10 (leq (.t n11) (.t n12)) u13 <| m (pkt (.t n10) (.t n13)) u14 <| m (as_ (.t n14)) u6 <| e ?_
      replace hm := sj hm
      subst hm
      have hm := hq1
      exact ⟨decide (n_ ≤ high_), hm, le [] (by decide) (.c .a (.c .a (.c .a (.c .a (.c .a (.c .a (.c (.e rfl rfl) (.c .a (.c .a (.c .a (.c .a (.c .a (.c .a (.c .a (.c .a .n))))))))))))))) .n⟩
    ·
      replace hm := cf h2 hm
      refine sk n3 rfl n10 rfl u11 <| sk n3 rfl n10 rfl u12 <| sk n3 rfl n10 rfl u13 <| m (pkf (.t n10) .b) u14 <| m (as_ (.t n14)) u6 <| e ?_
      replace hm := sj hm
      subst hm
      have hm := hq1
      exact ⟨false, hm, le [] (by decide) (.c .a (.c .a (.c .a (.c .a (.c .a (.c .a (.c (.e rfl rfl) (.c .a (.c .a (.c .a (.c .a (.c .a (.c .a (.c .a (.c .a .n))))))))))))))) .n⟩
  ·
    replace hm := sj hm
    subst hm
    exact rt (ret1 (.t n6 (.p rfl) .n) rfl)

theorem tot_impl_InRange (n_ : Int) (low_ : Int) (high_ : Int)  : Spec Tryz.prog G0 82 [.int .i64 n_, .int .i64 low_, .int .i64 high_] (fun v => v = .bool (inR n_ low_ high_)) := sp_impl_InRange n_ low_ high_ _ (t_impl_InRange n_ low_ high_)

theorem sp_spec_Hash (l_ : List Int) (r : Int) (hm : m_spec_Hash l_ = some r) : Spec Tryz.prog G0 204 [.slice 1 (l_.map iV)] (fun v => v = .int .i64 r) := by
  rw [m_spec_Hash] at hm
  refine enter (l := [.tmp 2]) Tryz.func204 rfl Tryz.ntmps204 rfl T.en204 fun E => ?_
  simp only [List.length_cons, List.length_nil, List.replicate_succ, List.replicate_zero, List.cons_append, List.nil_append, Nat.reduceAdd, Nat.reduceSub]
  refine sr <| m (as_ (.i rfl)) u2 <| e ?_
  refine sr <| m (as_ (.i rfl)) u3 <| e ?_
  refine sq ?_
  refine sr <| m (as_ (.i rfl)) u4 <| e ?_
  refine jmb hm (fun j0_3 : Int => ⟨[.any, .any, .any, .int .i64 j0_3, .any, .any, .any, .any, .any, .any, .any, .any, .any, .any, .any, .any, .any, .any, .any, .any, .any, .any], []⟩) (fun _ hm hq1 => ?_) (fun j0_3 hm => ?_)
  ·
    refine bk ?_
    refine lpf (m := m_spec_Hash_l0 l_) hm (fun yy2_ : Int × Nat => ⟨[.slice 1 (l_.map iV), .any, .any, .int .i64 yy2_.1, .int .i64 (yy2_.2 : Int), .any, .any, .any, .any, .any, .any, .any, .any, .any, .any, .any, .any, .any, .any, .any, .any, .any], []⟩) (fun _ => rfl) (le [] (by decide) (.c (.e rfl rfl) (.c .a (.c .a (.c (.e rfl rfl) (.c (.e rfl rfl) (.c .a (.c .a (.c .a (.c .a (.c .a (.c .a (.c .a (.c .a (.c .a (.c .a (.c .a (.c .a (.c .a (.c .a (.c .a (.c .a (.c .a .n)))))))))))))))))))))) .n) ?_
    rintro f ⟨v0_3, i0⟩ hm
    rw [m_spec_Hash_l0] at hm
    dsimp only at hm ⊢
    refine sq ?_
    refine sr <| m (mv (.t n4)) u5 <| m (mv (.t n0)) u6 <| m (lenm (l := l_) (f := iV) T.s111 (.t n6)) u7 <| m (lss (.t n5) (.t n7)) u8 <| e ?_
    refine rng n7 fun _ ra3 => ?_
    replace ra3 := (show (_ : Int) ≤ 9223372036854775807 from ra3)
    refine cnd n8 (fun h4 => ?_) (fun h4 => ?_)
    ·
      replace hm := ct h4 hm
      have h4d := of_decide_eq_true h4
      refine skp ?_
      refine sq ?_
      refine bk ?_
      obtain ⟨z5, e6, hm⟩ := bd_some hm
      refine rg <| m (mv (.t n3)) u11 <| m (mul (.t n11) (.i rfl)) u12 <| m (mv (.t n0)) u13 <| m (mv (.t n4)) u14 <| m (ixq (f := iV) e6 T.s111 (.t n13) (.t n14)) u15 <| m (lde T.o3 n0 (.t n15)) u16 <| c (call (tot_spec_Mod z5 (2147483647 : Int)) (.c (.t n16) rfl (.c (.i rfl) rfl .n))) u17 <| m (add (.t n12) (.t n17)) u18 <| m (add (.t n18) (.i rfl)) u19 <| m (rem (by decide) (.t n19) (.i rfl)) u20 <| m (as_ (.t n20)) u3 <| e ?_
      refine rg <| m (mv (.t n4)) u9 <| m (add (.t n9) (.i rfl)) u10 <| m (as_ (.t n10)) u4 <| e ?_
      exact ⟨((IntKind.i64.wrap (IntKind.i64.wrap (IntKind.i64.wrap (v0_3 * (1000003 : Int)) + (modI z5 (2147483647 : Int))) + (13 : Int))).tmod (2147483647 : Int), i0 + 1), hm, le [] (by decide) (.c (.e rfl rfl) (.c .a (.c .a (.c (.e rfl rfl) (.c (.e (wi (by omega)) rfl) (.c .a (.c .a (.c .a (.c .a (.c .a (.c .a (.c .a (.c .a (.c .a (.c .a (.c .a (.c .a (.c .a (.c .a (.c .a (.c .a (.c .a .n)))))))))))))))))))))) .n⟩
    ·
      replace hm := cf h4 hm
      have h4d := of_decide_eq_false h4
      refine ex (x1 ?_)
      replace hm := sj hm
      subst hm
      have hm := hq1
      exact ⟨v0_3, hm, le [] (by decide) (.c .a (.c .a (.c .a (.c (.e rfl rfl) (.c .a (.c .a (.c .a (.c .a (.c .a (.c .a (.c .a (.c .a (.c .a (.c .a (.c .a (.c .a (.c .a (.c .a (.c .a (.c .a (.c .a (.c .a .n)))))))))))))))))))))) .n⟩
  ·
    refine sr <| m (mv (.t n3)) u21 <| m (as_ (.t n21)) u2 <| e ?_
    replace hm := sj hm
    subst hm
    exact rt (ret1 (.t n2 (.p rfl) .n) rfl)

theorem tot_spec_Hash (l_ : List Int)  : Spec Tryz.prog G0 204 [.slice 1 (l_.map iV)] (fun v => v = .int .i64 (hashI l_)) := sp_spec_Hash l_ _ (t_spec_Hash l_)

theorem sp_spec_KeyedHash (secret_ : Int) (l_ : List Int) (r : Int) (hm : m_spec_KeyedHash secret_ l_ = some r) : Spec Tryz.prog G0 213 [.int .i64 secret_, .slice 1 (l_.map iV)] (fun v => v = .int .i64 r) := by
  rw [m_spec_KeyedHash] at hm
  refine enter (l := [.tmp 4]) Tryz.func213 rfl Tryz.ntmps213 rfl T.en213 fun E => ?_
  simp only [List.length_cons, List.length_nil, List.replicate_succ, List.replicate_zero, List.cons_append, List.nil_append, Nat.reduceAdd, Nat.reduceSub]
  refine sr <| m (as_ (.i rfl)) u4 <| e ?_
  obtain ⟨c1, hm⟩ := gd_some hm
  obtain ⟨c2, hm⟩ := gd_some hm
  refine sr <| m (mv (.t n0)) u5 <| k (bom ([secret_] : List Int) iV T.s111 rfl rfl (.c (.t n5) rfl rfl rfl .n) rfl s0 u6) <| m (mv (.t n1)) u7 <| k (apm (l := ([secret_] : List Int)) (l2 := l_) (f := iV) 6 c1 rfl (fun _ => rfl) T.s111 rfl n6 u6 n0 (.t n7) q0 rfl u8) <| m (mv (.t n0)) u9 <| k (bsm ([secret_] : List Int) iV T.s111 rfl rfl (.c (.t n9) rfl rfl rfl .n) rfl u10) <| k (apm (l := (([secret_] : List Int) ++ l_)) (l2 := ([secret_] : List Int)) (f := iV) 8 c2 rfl (fun _ => rfl) T.s111 rfl n8 u8 n0 (.t n10) q0 rfl u11) <| c (callm (tot_spec_Hash ((([secret_] : List Int) ++ l_) ++ ([secret_] : List Int))) rfl (.c (.t n11) (.o n0) .n)) u12 <| m (as_ (.t n12)) u4 <| e ?_
  replace hm := sj hm
  subst hm
  exact rt (ret1 (.t n4 (.p rfl) .n) rfl)

theorem tot_spec_KeyedHash (secret_ : Int) (l_ : List Int) (hp0 : l_.length ≤ 34359738368) : Spec Tryz.prog G0 213 [.int .i64 secret_, .slice 1 (l_.map iV)] (fun v => v = .int .i64 (keyedI secret_ l_)) := sp_spec_KeyedHash secret_ l_ _ (t_spec_KeyedHash secret_ l_ hp0)

theorem sp_spec_IsValidKey (secret_ : Int) (r : Bool) (hm : m_spec_IsValidKey secret_ = some r) : Spec Tryz.prog G0 81 [.int .i64 secret_] (fun v => v = .bool r) := by
  rw [m_spec_IsValidKey] at hm
  refine enter (l := [.tmp 2]) Tryz.func81 rfl Tryz.ntmps81 rfl T.en81 fun E => ?_
  simp only [List.length_cons, List.length_nil, List.replicate_succ, List.replicate_zero, List.cons_append, List.nil_append, Nat.reduceAdd, Nat.reduceSub]
  refine sr <| m (as_ .b) u2 <| e ?_
  refine sr <| m (mv (.t n0)) u3 <| c (call (tot_spec_l1In secret_ (1 : Int) (2147483646 : Int)) (.c (.t n3) rfl (.c (.i rfl) rfl (.c (.i rfl) rfl .n)))) u4 <| m (as_ (.t n4)) u2 <| e ?_
  replace hm := sj hm
  subst hm
  exact rt (ret1 (.t n2 (.p rfl) .n) rfl)

theorem tot_spec_IsValidKey (secret_ : Int)  : Spec Tryz.prog G0 81 [.int .i64 secret_] (fun v => v = .bool (keyF secret_)) := sp_spec_IsValidKey secret_ _ (t_spec_IsValidKey secret_)

theorem sp_impl_joined (first_ : List Int) (rest_ : List (List Int)) (r : (List Int)) (hm : m_impl_joined first_ rest_ = some r) : Spec Tryz.prog G0 188 [.slice 1 (first_.map iV), .slice 1 (rest_.map (fun l => [V.slice 1 (l.map iV)]))] (fun v => v = .slice 1 (r.map iV)) := by
  rw [m_impl_joined] at hm
  refine enter (l := [.tmp 4]) Tryz.func188 rfl Tryz.ntmps188 rfl T.en188 fun E => ?_
  simp only [List.length_cons, List.length_nil, List.replicate_succ, List.replicate_zero, List.cons_append, List.nil_append, Nat.reduceAdd, Nat.reduceSub]
  refine sr <| m (as_ .n) u4 <| e ?_
  obtain ⟨c1, hm⟩ := gd_some hm
  refine sr <| k (bom ([] : List Int) iV T.s111 rfl rfl .n rfl s0 u8) <| m (mv (.t n0)) u9 <| k (apm (l := ([] : List Int)) (l2 := first_) (f := iV) 8 c1 rfl (fun _ => rfl) T.s111 rfl n8 u8 n0 (.t n9) q0 rfl u10) <| m (as_ (.t n10)) u5 <| e ?_
  refine sq ?_
  refine sr <| m (mv (.t n1)) u11 <| m (lenm (l := rest_) (f := (fun l => [V.slice 1 (l.map iV)])) T.s275 (.t n11)) u12 <| m (mv (.i rfl)) u13 <| e ?_
  refine jmb hm (fun j0r1 : List Int => ⟨[.any, .any, .any, .any, .any, .own 0, .any, .any, .any, .any, .any, .any, .any, .any, .any, .any, .any, .any, .any, .any, .any, .any], [.row 3 1 (j0r1.map iV)]⟩) (fun _ hm hq2 => ?_) (fun j0r1 hm => ?_)
  ·
    refine bk ?_
    refine lpf (m := m_impl_joined_l0 rest_) hm (fun yy3_ : Nat × (List Int) => ⟨[.any, .any, .any, .any, .any, .own 0, .any, .any, .any, .any, .any, .slice 1 (rest_.map (fun l => [V.slice 1 (l.map iV)])), .int .i64 (rest_.length : Int), .int .i64 (yy3_.1 : Int), .any, .any, .any, .any, .any, .any, .any, .any], [.row 3 1 (yy3_.2.map iV)]⟩) (fun _ => rfl) (le [0] (by decide) (.c .a (.c .a (.c .a (.c .a (.c .a (.c (.w n0) (.c .a (.c .a (.c .a (.c .a (.c .a (.c (.e rfl rfl) (.c (.e rfl rfl) (.c (.e rfl rfl) (.c .a (.c .a (.c .a (.c .a (.c .a (.c .a (.c .a (.c .a .n)))))))))))))))))))))) (.r n0 rfl .n)) ?_
    rintro f ⟨i0, v0r1⟩ hm
    rw [m_impl_joined_l0] at hm
    dsimp only at hm ⊢
    refine sr <| m (lss (.t n13) (.t n12)) u14 <| e ?_
    refine rng n12 fun _ ra4 => ?_
    replace ra4 := (show (_ : Int) ≤ 9223372036854775807 from ra4)
    refine sq ?_
    refine cnd n14 (fun h5 => ?_) (fun h5 => ?_)
    ·
      replace hm := ct h5 hm
      have h5d := of_decide_eq_true h5
      refine skp ?_
      refine sq ?_
      refine bk ?_
      obtain ⟨z6, e7, hm⟩ := bd_some hm
      refine sr <| m (ixq (f := (fun l => [V.slice 1 (l.map iV)])) e7 T.s275 (.t n11) (.t n13)) u15 <| m (lde T.o111 n0 (.t n15)) u16 <| m (as_ (.t n16)) u7 <| e ?_
      obtain ⟨c8, hm⟩ := gd_some hm
      refine rg <| m (mv (.t n5)) u17 <| m (mv (.t n7)) u18 <| dr u5 <| k (apm (l := v0r1) (l2 := z6) (f := iV) 17 c8 rfl (fun _ => rfl) T.s111 rfl n17 u17 n0 (.t n18) q0 rfl u19) <| m (as_ (.t n19)) u5 <| e ?_
      refine rg <| m (add (.t n13) (.i rfl)) u20 <| m (mv (.t n20)) u13 <| e ?_
      exact ⟨(i0 + 1, (v0r1 ++ z6)), hm, le [0] (by decide) (.c .a (.c .a (.c .a (.c .a (.c .a (.c (.w n0) (.c .a (.c .a (.c .a (.c .a (.c .a (.c (.e rfl rfl) (.c (.e rfl rfl) (.c (.e (wi (by omega)) rfl) (.c .a (.c .a (.c .a (.c .a (.c .a (.c .a (.c .a (.c .a .n)))))))))))))))))))))) (.r n0 rfl .n)⟩
    ·
      replace hm := cf h5 hm
      have h5d := of_decide_eq_false h5
      refine ex (x1 ?_)
      replace hm := sj hm
      subst hm
      have hm := hq2
      exact ⟨v0r1, hm, le [0] (by decide) (.c .a (.c .a (.c .a (.c .a (.c .a (.c (.w n0) (.c .a (.c .a (.c .a (.c .a (.c .a (.c .a (.c .a (.c .a (.c .a (.c .a (.c .a (.c .a (.c .a (.c .a (.c .a (.c .a .n)))))))))))))))))))))) (.r n0 rfl .n)⟩
  ·
    refine sr <| m (mv (.t n5)) u21 <| m (as_ (.t n21)) u4 <| e ?_
    replace hm := sj hm
    subst hm
    exact rt (ret1 (.t n4 (.o n0) .n) rfl)

theorem tot_impl_joined (first_ : List Int) (rest_ : List (List Int)) (hp0 : first_.length + rest_.flatten.length ≤ 68719476736) : Spec Tryz.prog G0 188 [.slice 1 (first_.map iV), .slice 1 (rest_.map (fun l => [V.slice 1 (l.map iV)]))] (fun v => v = .slice 1 ((joinF first_ rest_).map iV)) := sp_impl_joined first_ rest_ _ (t_impl_joined first_ rest_ hp0)

theorem sp_impl_Hash (values_ : List Int) (r : Int) (hm : m_impl_Hash values_ = some r) : Spec Tryz.prog G0 179 [.slice 1 (values_.map iV)] (fun v => v = .int .i64 r) := by
  rw [m_impl_Hash] at hm
  refine enter (l := [.tmp 2]) Tryz.func179 rfl Tryz.ntmps179 rfl T.en179 fun E => ?_
  simp only [List.length_cons, List.length_nil, List.replicate_succ, List.replicate_zero, List.cons_append, List.nil_append, Nat.reduceAdd, Nat.reduceSub]
  refine sr <| m (as_ (.i rfl)) u2 <| e ?_
  refine sr <| m (as_ (.i rfl)) u3 <| e ?_
  refine sq ?_
  refine sr <| m (mv (.t n0)) u6 <| m (lenm (l := values_) (f := iV) T.s111 (.t n6)) u7 <| m (mv (.i rfl)) u8 <| e ?_
  refine jmb hm (fun j0_3 : Int => ⟨[.any, .any, .any, .int .i64 j0_3, .any, .any, .any, .any, .any, .any, .any, .any, .any, .any, .any, .any, .any, .any, .any, .any, .any], []⟩) (fun _ hm hq1 => ?_) (fun j0_3 hm => ?_)
  ·
    refine bk ?_
    refine lpf (m := m_impl_Hash_l0 values_) hm (fun yy2_ : Int × Nat => ⟨[.any, .any, .any, .int .i64 yy2_.1, .any, .any, .slice 1 (values_.map iV), .int .i64 (values_.length : Int), .int .i64 (yy2_.2 : Int), .any, .any, .any, .any, .any, .any, .any, .any, .any, .any, .any, .any], []⟩) (fun _ => rfl) (le [] (by decide) (.c .a (.c .a (.c .a (.c (.e rfl rfl) (.c .a (.c .a (.c (.e rfl rfl) (.c (.e rfl rfl) (.c (.e rfl rfl) (.c .a (.c .a (.c .a (.c .a (.c .a (.c .a (.c .a (.c .a (.c .a (.c .a (.c .a (.c .a .n))))))))))))))))))))) .n) ?_
    rintro f ⟨v0_3, i0⟩ hm
    rw [m_impl_Hash_l0] at hm
    dsimp only at hm ⊢
    refine sr <| m (lss (.t n8) (.t n7)) u9 <| e ?_
    refine rng n7 fun _ ra3 => ?_
    replace ra3 := (show (_ : Int) ≤ 9223372036854775807 from ra3)
    refine sq ?_
    refine cnd n9 (fun h4 => ?_) (fun h4 => ?_)
    ·
      replace hm := ct h4 hm
      have h4d := of_decide_eq_true h4
      refine skp ?_
      refine sq ?_
      refine bk ?_
      obtain ⟨z5, e6, hm⟩ := bd_some hm
      refine sr <| m (ixq (f := iV) e6 T.s111 (.t n6) (.t n8)) u10 <| m (lde T.o3 n0 (.t n10)) u11 <| m (as_ (.t n11)) u5 <| e ?_
      refine rg <| m (mv (.t n3)) u12 <| m (mul (.t n12) (.i rfl)) u13 <| m (mv (.t n5)) u14 <| c (call (tot_impl_Mod z5 (2147483647 : Int)) (.c (.t n14) rfl (.c (.i rfl) rfl .n))) u15 <| m (add (.t n13) (.t n15)) u16 <| m (add (.t n16) (.i rfl)) u17 <| m (rem (by decide) (.t n17) (.i rfl)) u18 <| m (as_ (.t n18)) u3 <| e ?_
      refine rg <| m (add (.t n8) (.i rfl)) u19 <| m (mv (.t n19)) u8 <| e ?_
      exact ⟨((IntKind.i64.wrap (IntKind.i64.wrap (IntKind.i64.wrap (v0_3 * (1000003 : Int)) + (modI z5 (2147483647 : Int))) + (13 : Int))).tmod (2147483647 : Int), i0 + 1), hm, le [] (by decide) (.c .a (.c .a (.c .a (.c (.e rfl rfl) (.c .a (.c .a (.c (.e rfl rfl) (.c (.e rfl rfl) (.c (.e (wi (by omega)) rfl) (.c .a (.c .a (.c .a (.c .a (.c .a (.c .a (.c .a (.c .a (.c .a (.c .a (.c .a (.c .a .n))))))))))))))))))))) .n⟩
    ·
      replace hm := cf h4 hm
      have h4d := of_decide_eq_false h4
      refine ex (x1 ?_)
      replace hm := sj hm
      subst hm
      have hm := hq1
      exact ⟨v0_3, hm, le [] (by decide) (.c .a (.c .a (.c .a (.c (.e rfl rfl) (.c .a (.c .a (.c .a (.c .a (.c .a (.c .a (.c .a (.c .a (.c .a (.c .a (.c .a (.c .a (.c .a (.c .a (.c .a (.c .a (.c .a .n))))))))))))))))))))) .n⟩
  ·
    refine sr <| m (mv (.t n3)) u20 <| m (as_ (.t n20)) u2 <| e ?_
    replace hm := sj hm
    subst hm
    exact rt (ret1 (.t n2 (.p rfl) .n) rfl)

theorem tot_impl_Hash (values_ : List Int)  : Spec Tryz.prog G0 179 [.slice 1 (values_.map iV)] (fun v => v = .int .i64 (hashI values_)) := sp_impl_Hash values_ _ (t_impl_Hash values_)

theorem sp_impl_KeyedHash (key_ : Int) (values_ : List Int) (r : Int) (hm : m_impl_KeyedHash key_ values_ = some r) : Spec Tryz.prog G0 187 [.int .i64 key_, .slice 1 (values_.map iV)] (fun v => v = .int .i64 r) := by
  rw [m_impl_KeyedHash] at hm
  refine enter (l := [.tmp 4]) Tryz.func187 rfl Tryz.ntmps187 rfl T.en187 fun E => ?_
  simp only [List.length_cons, List.length_nil, List.replicate_succ, List.replicate_zero, List.cons_append, List.nil_append, Nat.reduceAdd, Nat.reduceSub]
  refine sr <| m (as_ (.i rfl)) u4 <| e ?_
  obtain ⟨c1, hm⟩ := gd_some hm
  refine sr <| m (mv (.t n0)) u5 <| k (bsm ([key_] : List Int) iV T.s111 rfl rfl (.c (.t n5) rfl rfl rfl .n) rfl u6) <| m (mv (.t n1)) u7 <| m (mv (.t n0)) u8 <| k (bsm ([key_] : List Int) iV T.s111 rfl rfl (.c (.t n8) rfl rfl rfl .n) rfl u9) <| k (bsm ([values_, ([key_] : List Int)] : List (List Int)) (fun l => [V.slice 1 (l.map iV)]) T.s275 rfl rfl (.c (.t n7) rfl rfl rfl (.c (.t n9) rfl rfl rfl .n)) rfl u10) <| c (call (tot_impl_joined ([key_] : List Int) ([values_, ([key_] : List Int)] : List (List Int)) c1) (.c (.t n6) rfl (.c (.t n10) rfl .n))) u11 <| c (call (tot_impl_Hash (joinF ([key_] : List Int) ([values_, ([key_] : List Int)] : List (List Int)))) (.c (.t n11) rfl .n)) u12 <| m (as_ (.t n12)) u4 <| e ?_
  replace hm := sj hm
  subst hm
  exact rt (ret1 (.t n4 (.p rfl) .n) rfl)

theorem tot_impl_KeyedHash (key_ : Int) (values_ : List Int) (hp0 : values_.length ≤ 34359738368) : Spec Tryz.prog G0 187 [.int .i64 key_, .slice 1 (values_.map iV)] (fun v => v = .int .i64 (keyedI key_ values_)) := sp_impl_KeyedHash key_ values_ _ (t_impl_KeyedHash key_ values_ hp0)

theorem sp_impl_orOne (n_ : Int) (r : Int) (hm : m_impl_orOne n_ = some r) : Spec Tryz.prog G0 186 [.int .i64 n_] (fun v => v = .int .i64 r) := by
  rw [m_impl_orOne] at hm
  refine enter (l := [.tmp 2]) Tryz.func186 rfl Tryz.ntmps186 rfl T.en186 fun E => ?_
  simp only [List.length_cons, List.length_nil, List.replicate_succ, List.replicate_zero, List.cons_append, List.nil_append, Nat.reduceAdd, Nat.reduceSub]
  refine sr <| m (as_ (.i rfl)) u2 <| e ?_
  refine sq ?_
  refine sr <| m (mv (.t n0)) u3 <| m (eql (.t n3) (.i rfl)) u4 <| e ?_
  refine cnd n4 (fun h1 => ?_) (fun h1 => ?_)
  ·
    replace hm := ct h1 hm
    refine sr <| m (as_ (.i rfl)) u2 <| e ?_
    replace hm := sj hm
    subst hm
    exact rt (ret1 (.t n2 (.p rfl) .n) rfl)
  ·
    replace hm := cf h1 hm
    refine skp ?_
    refine sr <| m (mv (.t n0)) u5 <| m (as_ (.t n5)) u2 <| e ?_
    replace hm := sj hm
    subst hm
    exact rt (ret1 (.t n2 (.p rfl) .n) rfl)

theorem tot_impl_orOne (n_ : Int)  : Spec Tryz.prog G0 186 [.int .i64 n_] (fun v => v = .int .i64 (orOneF n_)) := sp_impl_orOne n_ _ (t_impl_orOne n_)

theorem sp_impl_IsValidKey (key_ : Int) (r : Bool) (hm : m_impl_IsValidKey key_ = some r) : Spec Tryz.prog G0 87 [.int .i64 key_] (fun v => v = .bool r) := by
  rw [m_impl_IsValidKey] at hm
  refine enter (l := [.tmp 2]) Tryz.func87 rfl Tryz.ntmps87 rfl T.en87 fun E => ?_
  simp only [List.length_cons, List.length_nil, List.replicate_succ, List.replicate_zero, List.cons_append, List.nil_append, Nat.reduceAdd, Nat.reduceSub]
  refine sr <| m (as_ .b) u2 <| e ?_
  refine sr <| m (mv (.t n0)) u3 <| c (call (tot_impl_InRange key_ (1 : Int) (2147483646 : Int)) (.c (.t n3) rfl (.c (.i rfl) rfl (.c (.i rfl) rfl .n)))) u4 <| m (as_ (.t n4)) u2 <| e ?_
  replace hm := sj hm
  subst hm
  exact rt (ret1 (.t n2 (.p rfl) .n) rfl)

theorem tot_impl_IsValidKey (key_ : Int)  : Spec Tryz.prog G0 87 [.int .i64 key_] (fun v => v = .bool (keyF key_)) := sp_impl_IsValidKey key_ _ (t_impl_IsValidKey key_)

theorem sp_spec_DeriveKey (seed_ : Int) (labels_ : List Int) (r : Int) (hm : m_spec_DeriveKey seed_ labels_ = some r) : Spec Tryz.prog G0 182 [.int .i64 seed_, .slice 1 (labels_.map iV)] (fun v => v = .int .i64 r) := by
  rw [m_spec_DeriveKey] at hm
  refine enter (l := [.tmp 4]) Tryz.func182 rfl Tryz.ntmps182 rfl T.en182 fun E => ?_
  simp only [List.length_cons, List.length_nil, List.replicate_succ, List.replicate_zero, List.cons_append, List.nil_append, Nat.reduceAdd, Nat.reduceSub]
  refine sr <| m (as_ (.i rfl)) u4 <| e ?_
  obtain ⟨c1, hm⟩ := gd_some hm
  obtain ⟨c2, hm⟩ := gd_some hm
  refine sr <| m (mv (.t n0)) u5 <| k (bom ([(151 : Int)] : List Int) iV T.s111 rfl rfl (.c (.i rfl) rfl rfl rfl .n) rfl s0 u6) <| m (mv (.t n1)) u7 <| k (apm (l := ([(151 : Int)] : List Int)) (l2 := labels_) (f := iV) 6 c1 rfl (fun _ => rfl) T.s111 rfl n6 u6 n0 (.t n7) q0 rfl u8) <| c (callm (tot_spec_KeyedHash seed_ (([(151 : Int)] : List Int) ++ labels_) c2) rfl (.c (.t n5) (.p rfl) (.c (.t n8) (.o n0) .n))) u9 <| c (call (tot_spec_Max (1 : Int) (keyedI seed_ (([(151 : Int)] : List Int) ++ labels_))) (.c (.i rfl) rfl (.c (.t n9) rfl .n))) u10 <| m (as_ (.t n10)) u4 <| e ?_
  replace hm := sj hm
  subst hm
  exact rt (ret1 (.t n4 (.p rfl) .n) rfl)

theorem tot_spec_DeriveKey (seed_ : Int) (labels_ : List Int) (hp0 : labels_.length ≤ 34359738300) : Spec Tryz.prog G0 182 [.int .i64 seed_, .slice 1 (labels_.map iV)] (fun v => v = .int .i64 (deriveF seed_ labels_)) := sp_spec_DeriveKey seed_ labels_ _ (t_spec_DeriveKey seed_ labels_ hp0)

theorem sp_spec_PublicKey (private_ : Int) (r : Int) (hm : m_spec_PublicKey private_ = some r) : Spec Tryz.prog G0 180 [.int .i64 private_] (fun v => v = .int .i64 r) := by
  rw [m_spec_PublicKey] at hm
  refine enter (l := [.tmp 2]) Tryz.func180 rfl Tryz.ntmps180 rfl T.en180 fun E => ?_
  simp only [List.length_cons, List.length_nil, List.replicate_succ, List.replicate_zero, List.cons_append, List.nil_append, Nat.reduceAdd, Nat.reduceSub]
  refine sr <| m (as_ (.i rfl)) u2 <| e ?_
  refine sq ?_
  refine sr <| m (mv (.t n0)) u3 <| c (call (tot_spec_IsValidKey private_) (.c (.t n3) rfl .n)) u4 <| m (not_ (.t n4)) u5 <| e ?_
  refine cnd n5 (fun h1 => ?_) (fun h1 => ?_)
  ·
    replace hm := ct h1 hm
    refine sr <| m (as_ (.i rfl)) u2 <| e ?_
    replace hm := sj hm
    subst hm
    exact rt (ret1 (.t n2 (.p rfl) .n) rfl)
  ·
    replace hm := cf h1 hm
    refine skp ?_
    refine sr <| m (mv (.t n0)) u6 <| m (mul (.t n6) (.i rfl)) u7 <| m (rem (by decide) (.t n7) (.i rfl)) u8 <| m (as_ (.t n8)) u2 <| e ?_
    replace hm := sj hm
    subst hm
    exact rt (ret1 (.t n2 (.p rfl) .n) rfl)

theorem tot_spec_PublicKey (private_ : Int)  : Spec Tryz.prog G0 180 [.int .i64 private_] (fun v => v = .int .i64 (publicF private_)) := sp_spec_PublicKey private_ _ (t_spec_PublicKey private_)

theorem sp_impl_DeriveKey (seed_ : Int) (labels_ : List Int) (r : Int) (hm : m_impl_DeriveKey seed_ labels_ = some r) : Spec Tryz.prog G0 148 [.int .i64 seed_, .slice 1 (labels_.map iV)] (fun v => v = .int .i64 r) := by
  rw [m_impl_DeriveKey] at hm
  refine enter (l := [.tmp 4]) Tryz.func148 rfl Tryz.ntmps148 rfl T.en148 fun E => ?_
  simp only [List.length_cons, List.length_nil, List.replicate_succ, List.replicate_zero, List.cons_append, List.nil_append, Nat.reduceAdd, Nat.reduceSub]
  refine sr <| m (as_ (.i rfl)) u4 <| e ?_
  obtain ⟨c1, hm⟩ := gd_some hm
  obtain ⟨c2, hm⟩ := gd_some hm
  refine sr <| m (mv (.t n0)) u5 <| k (bsm ([(151 : Int)] : List Int) iV T.s111 rfl rfl (.c (.i rfl) rfl rfl rfl .n) rfl u6) <| m (mv (.t n1)) u7 <| k (bsm ([labels_] : List (List Int)) (fun l => [V.slice 1 (l.map iV)]) T.s275 rfl rfl (.c (.t n7) rfl rfl rfl .n) rfl u8) <| c (call (tot_impl_joined ([(151 : Int)] : List Int) ([labels_] : List (List Int)) c1) (.c (.t n6) rfl (.c (.t n8) rfl .n))) u9 <| c (call (tot_impl_KeyedHash seed_ (joinF ([(151 : Int)] : List Int) ([labels_] : List (List Int))) c2) (.c (.t n5) rfl (.c (.t n9) rfl .n))) u10 <| c (call (tot_impl_orOne (keyedI seed_ (joinF ([(151 : Int)] : List Int) ([labels_] : List (List Int))))) (.c (.t n10) rfl .n)) u11 <| m (as_ (.t n11)) u4 <| e ?_
  replace hm := sj hm
  subst hm
  exact rt (ret1 (.t n4 (.p rfl) .n) rfl)

theorem tot_impl_DeriveKey (seed_ : Int) (labels_ : List Int) (hp0 : labels_.length ≤ 34359738300) : Spec Tryz.prog G0 148 [.int .i64 seed_, .slice 1 (labels_.map iV)] (fun v => v = .int .i64 (deriveF seed_ labels_)) := sp_impl_DeriveKey seed_ labels_ _ (t_impl_DeriveKey seed_ labels_ hp0)

theorem sp_impl_PublicKey (private_ : Int) (r : Int) (hm : m_impl_PublicKey private_ = some r) : Spec Tryz.prog G0 184 [.int .i64 private_] (fun v => v = .int .i64 r) := by
  rw [m_impl_PublicKey] at hm
  refine enter (l := [.tmp 2]) Tryz.func184 rfl Tryz.ntmps184 rfl T.en184 fun E => ?_
  simp only [List.length_cons, List.length_nil, List.replicate_succ, List.replicate_zero, List.cons_append, List.nil_append, Nat.reduceAdd, Nat.reduceSub]
  refine sr <| m (as_ (.i rfl)) u2 <| e ?_
  refine sq ?_
  refine sr <| m (mv (.t n0)) u3 <| c (call (tot_impl_IsValidKey private_) (.c (.t n3) rfl .n)) u4 <| m (not_ (.t n4)) u5 <| e ?_
  refine cnd n5 (fun h1 => ?_) (fun h1 => ?_)
  ·
    replace hm := ct h1 hm
    refine sr <| m (as_ (.i rfl)) u2 <| e ?_
    replace hm := sj hm
    subst hm
    exact rt (ret1 (.t n2 (.p rfl) .n) rfl)
  ·
    replace hm := cf h1 hm
    refine skp ?_
    refine sr <| m (mv (.t n0)) u6 <| m (mul (.t n6) (.i rfl)) u7 <| m (rem (by decide) (.t n7) (.i rfl)) u8 <| m (as_ (.t n8)) u2 <| e ?_
    replace hm := sj hm
    subst hm
    exact rt (ret1 (.t n2 (.p rfl) .n) rfl)

theorem tot_impl_PublicKey (private_ : Int)  : Spec Tryz.prog G0 184 [.int .i64 private_] (fun v => v = .int .i64 (publicF private_)) := sp_impl_PublicKey private_ _ (t_impl_PublicKey private_)

theorem sp_spec_l10Device (s_ : D.KeyStore) (r : Int) (hm : m_spec_l10Device s_ = some r) : Spec Tryz.prog G0 144 [.agg (D.KeyStore.V s_)] (fun v => v = .int .i64 r) := by
  rw [m_spec_l10Device] at hm
  refine enter (l := [.tmp 2]) Tryz.func144 rfl Tryz.ntmps144 rfl T.en144 fun E => ?_
  simp only [List.length_cons, List.length_nil, List.replicate_succ, List.replicate_zero, List.cons_append, List.nil_append, Nat.reduceAdd, Nat.reduceSub]
  refine sr <| k (bx rfl s0 u1 (.t n0)) <| m (as_ (.i rfl)) u2 <| e ?_
  obtain ⟨c1, hm⟩ := gd_some hm
  refine sr <| m (fab 2 rfl T.f126_2 (.t n1)) u3 <| m (ldb T.o3 n0 n2 (.t n3)) u4 <| k (bsm ([(181 : Int)] : List Int) iV T.s111 rfl rfl (.c (.i rfl) rfl rfl rfl .n) rfl u5) <| c (call (tot_spec_DeriveKey s_.Seed ([(181 : Int)] : List Int) c1) (.c (.t n4) rfl (.c (.t n5) rfl .n))) u6 <| m (as_ (.t n6)) u2 <| e ?_
  replace hm := sj hm
  subst hm
  exact rt (ret1 (.t n2 (.p rfl) .n) rfl)

theorem tot_spec_l10Device (s_ : D.KeyStore)  : Spec Tryz.prog G0 144 [.agg (D.KeyStore.V s_)] (fun v => v = .int .i64 (devKeyF s_)) := sp_spec_l10Device s_ _ (t_spec_l10Device s_)

theorem sp_spec_DevicePublic (s_ : D.KeyStore) (r : Int) (hm : m_spec_DevicePublic s_ = some r) : Spec Tryz.prog G0 140 [.agg (D.KeyStore.V s_)] (fun v => v = .int .i64 r) := by
  rw [m_spec_DevicePublic] at hm
  refine enter (l := [.tmp 2]) Tryz.func140 rfl Tryz.ntmps140 rfl T.en140 fun E => ?_
  simp only [List.length_cons, List.length_nil, List.replicate_succ, List.replicate_zero, List.cons_append, List.nil_append, Nat.reduceAdd, Nat.reduceSub]
  refine sr <| k (bx rfl s0 u1 (.t n0)) <| m (as_ (.i rfl)) u2 <| e ?_
  refine sr <| m (lab T.a126 n0 d0 k4 (.t n1)) u3 <| c (call (tot_spec_l10Device s_) (.c (.t n3) rfl .n)) u4 <| c (call (tot_spec_PublicKey (devKeyF s_)) (.c (.t n4) rfl .n)) u5 <| m (as_ (.t n5)) u2 <| e ?_
  replace hm := sj hm
  subst hm
  exact rt (ret1 (.t n2 (.p rfl) .n) rfl)

theorem tot_spec_DevicePublic (s_ : D.KeyStore)  : Spec Tryz.prog G0 140 [.agg (D.KeyStore.V s_)] (fun v => v = .int .i64 (devPubF s_)) := sp_spec_DevicePublic s_ _ (t_spec_DevicePublic s_)

theorem sp_impl_DevicePublic (s_ : D.KeyStore) (r : Int) (hm : m_impl_DevicePublic s_ = some r) : Spec Tryz.prog G0 146 [.agg (D.KeyStore.V s_)] (fun v => v = .int .i64 r) := by
  rw [m_impl_DevicePublic] at hm
  refine enter (l := [.tmp 2]) Tryz.func146 rfl Tryz.ntmps146 rfl T.en146 fun E => ?_
  simp only [List.length_cons, List.length_nil, List.replicate_succ, List.replicate_zero, List.cons_append, List.nil_append, Nat.reduceAdd, Nat.reduceSub]
  refine sr <| k (bx rfl s0 u1 (.t n0)) <| m (as_ (.i rfl)) u2 <| e ?_
  obtain ⟨c1, hm⟩ := gd_some hm
  refine sr <| m (fab 2 rfl T.f126_2 (.t n1)) u3 <| m (ldb T.o3 n0 n2 (.t n3)) u4 <| k (bsm ([(181 : Int)] : List Int) iV T.s111 rfl rfl (.c (.i rfl) rfl rfl rfl .n) rfl u5) <| c (call (tot_impl_DeriveKey s_.Seed ([(181 : Int)] : List Int) c1) (.c (.t n4) rfl (.c (.t n5) rfl .n))) u6 <| c (call (tot_impl_PublicKey (deriveF s_.Seed ([(181 : Int)] : List Int))) (.c (.t n6) rfl .n)) u7 <| m (as_ (.t n7)) u2 <| e ?_
  replace hm := sj hm
  subst hm
  exact rt (ret1 (.t n2 (.p rfl) .n) rfl)

theorem tot_impl_DevicePublic (s_ : D.KeyStore)  : Spec Tryz.prog G0 146 [.agg (D.KeyStore.V s_)] (fun v => v = .int .i64 (devPubF s_)) := sp_impl_DevicePublic s_ _ (t_impl_DevicePublic s_)

theorem sp_spec_l19Has (l_ : List Int) (x_ : Int) (r : Bool) (hm : m_spec_l19Has l_ x_ = some r) : Spec Tryz.prog G0 141 [.slice 1 (l_.map iV), .int .i64 x_] (fun v => v = .bool r) := by
  rw [m_spec_l19Has] at hm
  refine enter (l := [.tmp 4]) Tryz.func141 rfl Tryz.ntmps141 rfl T.en141 fun E => ?_
  simp only [List.length_cons, List.length_nil, List.replicate_succ, List.replicate_zero, List.cons_append, List.nil_append, Nat.reduceAdd, Nat.reduceSub]
  refine sr <| m (as_ .b) u4 <| e ?_
  refine sq ?_
  refine sr <| m (as_ (.i rfl)) u5 <| e ?_
  refine jmx hm (fun _ : Unit => ⟨[.any, .any, .any, .any, .any, .any, .any, .any, .any, .any, .any, .any, .any, .any, .any, .any, .any, .any], []⟩) (fun _ hm hq1 => ?_) (fun _ hm => ?_)
  ·
    refine bk ?_
    refine lpf (m := m_spec_l19Has_l0 l_ x_) hm (fun i0 : Nat => ⟨[.slice 1 (l_.map iV), .int .i64 x_, .any, .any, .any, .int .i64 (i0 : Int), .any, .any, .any, .any, .any, .any, .any, .any, .any, .any, .any, .any], []⟩) (fun _ => rfl) (le [] (by decide) (.c (.e rfl rfl) (.c (.e rfl rfl) (.c .a (.c .a (.c .a (.c (.e rfl rfl) (.c .a (.c .a (.c .a (.c .a (.c .a (.c .a (.c .a (.c .a (.c .a (.c .a (.c .a (.c .a .n)))))))))))))))))) .n) ?_
    rintro f i0 hm
    rw [m_spec_l19Has_l0] at hm
    refine sq ?_
    refine sr <| m (mv (.t n5)) u6 <| m (mv (.t n0)) u7 <| m (lenm (l := l_) (f := iV) T.s111 (.t n7)) u8 <| m (lss (.t n6) (.t n8)) u9 <| e ?_
    refine rng n8 fun _ ra2 => ?_
    replace ra2 := (show (_ : Int) ≤ 9223372036854775807 from ra2)
    refine cnd n9 (fun h3 => ?_) (fun h3 => ?_)
    ·
      replace hm := ct h3 hm
      have h3d := of_decide_eq_true h3
      refine skp ?_
      refine sq ?_
      refine bk ?_
      obtain ⟨z4, e5, hm⟩ := bd_some hm
      refine sr <| m (mv (.t n0)) u12 <| m (mv (.t n5)) u13 <| m (ixq (f := iV) e5 T.s111 (.t n12) (.t n13)) u14 <| m (lde T.o3 n0 (.t n14)) u15 <| m (mv (.t n1)) u16 <| m (eql (.t n15) (.t n16)) u17 <| e ?_
      refine cnd n17 (fun h6 => ?_) (fun h6 => ?_)
      ·
        replace hm := ct h6 hm
        refine sr <| m (as_ .b) u4 <| e ?_
        replace hm := inl1 hm hq1
        subst hm
        exact rt (ret1 (.t n4 (.p rfl) .n) rfl)
      ·
        replace hm := cf h6 hm
        refine skp ?_
        refine rg <| m (mv (.t n5)) u10 <| m (add (.t n10) (.i rfl)) u11 <| m (as_ (.t n11)) u5 <| e ?_
        exact ⟨i0 + 1, hm, le [] (by decide) (.c (.e rfl rfl) (.c (.e rfl rfl) (.c .a (.c .a (.c .a (.c (.e (wi (by omega)) rfl) (.c .a (.c .a (.c .a (.c .a (.c .a (.c .a (.c .a (.c .a (.c .a (.c .a (.c .a (.c .a .n)))))))))))))))))) .n⟩
    ·
      replace hm := cf h3 hm
      have h3d := of_decide_eq_false h3
      refine ex (x1 ?_)
      replace hm := inr1 hm hq1
      exact ⟨(), hm, le [] (by decide) (.c .a (.c .a (.c .a (.c .a (.c .a (.c .a (.c .a (.c .a (.c .a (.c .a (.c .a (.c .a (.c .a (.c .a (.c .a (.c .a (.c .a (.c .a .n)))))))))))))))))) .n⟩
  ·
    refine sr <| m (as_ .b) u4 <| e ?_
    replace hm := sj hm
    subst hm
    exact rt (ret1 (.t n4 (.p rfl) .n) rfl)

theorem tot_spec_l19Has (l_ : List Int) (x_ : Int)  : Spec Tryz.prog G0 141 [.slice 1 (l_.map iV), .int .i64 x_] (fun v => v = .bool (hasF l_ x_)) := sp_spec_l19Has l_ x_ _ (t_spec_l19Has l_ x_)

theorem sp_spec_DevicesOf (log_ : List D.LogEntry) (r : (List Int)) (hm : m_spec_DevicesOf log_ = some r) : Spec Tryz.prog G0 142 [.slice 6 (log_.map D.LogEntry.V)] (fun v => v = .slice 1 (r.map iV)) := by
  rw [m_spec_DevicesOf] at hm
  refine enter (l := [.tmp 2]) Tryz.func142 rfl Tryz.ntmps142 rfl T.en142 fun E => ?_
  simp only [List.length_cons, List.length_nil, List.replicate_succ, List.replicate_zero, List.cons_append, List.nil_append, Nat.reduceAdd, Nat.reduceSub]
  refine sr <| m (as_ .n) u2 <| e ?_
  refine sr <| k (bom ([] : List Int) iV T.s111 rfl rfl .n rfl s0 u8) <| m (as_ (.t n8)) u3 <| e ?_
  refine sq ?_
  refine sr <| m (as_ (.i rfl)) u4 <| e ?_
  refine jmb hm (fun j0_3r : List Int => ⟨[.any, .any, .any, .own 0, .any, .any, .any, .any, .any, .any, .any, .any, .any, .any, .any, .any, .any, .any, .any, .any, .any, .any, .any, .any, .any, .any, .any, .any, .any, .any, .any, .any, .any, .any, .any, .any, .any, .any, .any, .any, .any, .any, .any, .any, .any, .any, .any, .any, .any, .any, .any, .any, .any, .any, .any, .any, .any, .any, .any, .any, .any, .any, .any, .any, .any, .any], [.row 3 1 (j0_3r.map iV)]⟩) (fun _ hm hq1 => ?_) (fun j0_3r hm => ?_)
  ·
    refine bk ?_
    refine lpf (m := m_spec_DevicesOf_l0 log_) hm (fun yy2_ : Nat × (List Int) => ⟨[.slice 6 (log_.map D.LogEntry.V), .any, .any, .own 0, .int .i64 (yy2_.1 : Int), .any, .any, .any, .any, .any, .any, .any, .any, .any, .any, .any, .any, .any, .any, .any, .any, .any, .any, .any, .any, .any, .any, .any, .any, .any, .any, .any, .any, .any, .any, .any, .any, .any, .any, .any, .any, .any, .any, .any, .any, .any, .any, .any, .any, .any, .any, .any, .any, .any, .any, .any, .any, .any, .any, .any, .any, .any, .any, .any, .any, .any], [.row 3 1 (yy2_.2.map iV)]⟩) (fun _ => rfl) (le [0] (by decide) (.c (.e rfl rfl) (.c .a (.c .a (.c (.w n0) (.c (.e rfl rfl) (.c .a (.c .a (.c .a (.c .a (.c .a (.c .a (.c .a (.c .a (.c .a (.c .a (.c .a (.c .a (.c .a (.c .a (.c .a (.c .a (.c .a (.c .a (.c .a (.c .a (.c .a (.c .a (.c .a (.c .a (.c .a (.c .a (.c .a (.c .a (.c .a (.c .a (.c .a (.c .a (.c .a (.c .a (.c .a (.c .a (.c .a (.c .a (.c .a (.c .a (.c .a (.c .a (.c .a (.c .a (.c .a (.c .a (.c .a (.c .a (.c .a (.c .a (.c .a (.c .a (.c .a (.c .a (.c .a (.c .a (.c .a (.c .a (.c .a (.c .a (.c .a .n)))))))))))))))))))))))))))))))))))))))))))))))))))))))))))))))))) (.r n0 rfl .n)) ?_
    rintro f ⟨i0, v0_3r⟩ hm
    rw [m_spec_DevicesOf_l0] at hm
    dsimp only at hm ⊢
    refine sq ?_
    refine sr <| m (mv (.t n4)) u9 <| m (mv (.t n0)) u10 <| m (lenm (l := log_) (f := D.LogEntry.V) T.s43 (.t n10)) u11 <| m (lss (.t n9) (.t n11)) u12 <| e ?_
    refine rng n11 fun _ ra3 => ?_
    replace ra3 := (show (_ : Int) ≤ 9223372036854775807 from ra3)
    refine cnd n12 (fun h4 => ?_) (fun h4 => ?_)
    ·
      replace hm := ct h4 hm
      have h4d := of_decide_eq_true h4
      refine skp ?_
      refine sq ?_
      refine jmb hm (fun j1_3r : List Int => ⟨[.slice 6 (log_.map D.LogEntry.V), .any, .any, .own 0, .int .i64 (i0 : Int), .any, .any, .any, .any, .any, .any, .any, .any, .any, .any, .any, .any, .any, .any, .any, .any, .any, .any, .any, .any, .any, .any, .any, .any, .any, .any, .any, .any, .any, .any, .any, .any, .any, .any, .any, .any, .any, .any, .any, .any, .any, .any, .any, .any, .any, .any, .any, .any, .any, .any, .any, .any, .any, .any, .any, .any, .any, .any, .any, .any, .any], [.row 3 1 (j1_3r.map iV)]⟩) (fun _ hm hq5 => ?_) (fun j1_3r hm => ?_)
      ·
        refine bk ?_
        obtain ⟨z6, e7, hm⟩ := bd_some hm
        refine sr <| m (mv (.t n0)) u15 <| m (mv (.t n4)) u16 <| m (ixq (f := D.LogEntry.V) e7 T.s43 (.t n15) (.t n16)) u17 <| m (fae T.f125_2 d2 (.t n17)) u18 <| m (lde T.o3 n0 (.t n18)) u19 <| m (as_ (.t n19)) u5 <| e ?_
        refine jmb hm (fun j2_3r : List Int => ⟨[.slice 6 (log_.map D.LogEntry.V), .any, .any, .own 0, .int .i64 (i0 : Int), .any, .any, .any, .any, .any, .any, .any, .any, .any, .any, .any, .any, .any, .any, .any, .any, .any, .any, .any, .any, .any, .any, .any, .any, .any, .any, .any, .any, .any, .any, .any, .any, .any, .any, .any, .any, .any, .any, .any, .any, .any, .any, .any, .any, .any, .any, .any, .any, .any, .any, .any, .any, .any, .any, .any, .any, .any, .any, .any, .any, .any], [.row 3 1 (j2_3r.map iV)]⟩) (fun _ hm hq8 => ?_) (fun j2_3r hm => ?_)
        ·
          refine bk ?_
          refine sr <| rjb hm (fun j3_20 : Bool => ⟨[.slice 6 (log_.map D.LogEntry.V), .any, .any, .own 0, .int .i64 (i0 : Int), .int .i64 z6.Device, .any, .any, .any, .any, .any, .any, .any, .any, .any, .any, .any, .any, .any, .any, .bool j3_20, .any, .any, .any, .any, .any, .any, .any, .any, .any, .any, .any, .any, .any, .any, .any, .any, .any, .any, .any, .any, .any, .any, .any, .any, .any, .any, .any, .any, .any, .any, .any, .any, .any, .any, .any, .any, .any, .any, .any, .any, .any, .any, .any, .any, .any], [.row 3 1 (v0_3r.map iV)]⟩) (fun _ hm hq9 => ?_) (fun j3_20 hm => ?_)
          ·
            refine m (mv (.t n0)) u21 <| m (mv (.t n4)) u22 <| m (ixq (f := D.LogEntry.V) e7 T.s43 (.t n21) (.t n22)) u23 <| m (fae T.f125_1 d1 (.t n23)) u24 <| m (lde T.o3 n0 (.t n24)) u25 <| m (eql (.t n25) (.i rfl)) u26 <| m (mv (.t n26)) u27 <| sp n27 u27 u27 (fun h10 => ?_) (fun h10 => ?_)
            ·
              replace hm := ct h10 hm
              refine mg n6 rfl n27 (mv (.t n3)) u28 <| mg n6 rfl n27 (mv (.t n5)) u29 <| cg n6 rfl n27 (callm (tot_spec_l19Has v0_3r z6.Device) rfl (.c (.t n28) (.o n0) (.c (.t n29) (.p rfl) .n))) u30 <| mg n6 rfl n27 (not_ (.t n30)) u31 <| m (pkt (.t n27) (.t n31)) u32 <| m (as_ (.t n32)) u20 <| e ?_
              replace hm := sj hm
              subst hm
              have hm := hq9
              exact ⟨(!(hasF v0_3r z6.Device)), hm, le [0] (by decide) (.c (.e rfl rfl) (.c .a (.c .a (.c (.w n0) (.c (.e rfl rfl) (.c (.e rfl rfl) (.c .a (.c .a (.c .a (.c .a (.c .a (.c .a (.c .a (.c .a (.c .a (.c .a (.c .a (.c .a (.c .a (.c .a (.c (.e rfl rfl) (.c .a (.c .a (.c .a (.c .a (.c .a (.c .a (.c .a (.c .a (.c .a (.c .a (.c .a (.c .a (.c .a (.c .a (.c .a (.c .a (.c .a (.c .a (.c .a (.c .a (.c .a (.c .a (.c .a (.c .a (.c .a (.c .a (.c .a (.c .a (.c .a (.c .a (.c .a (.c .a (.c .a (.c .a (.c .a (.c .a (.c .a (.c .a (.c .a (.c .a (.c .a (.c .a (.c .a (.c .a (.c .a .n)))))))))))))))))))))))))))))))))))))))))))))))))))))))))))))))))) (.r n0 rfl .n)⟩
            ·
              replace hm := cf h10 hm
              refine sk n6 rfl n27 rfl u28 <| sk n6 rfl n27 rfl u29 <| sk n6 rfl n27 rfl u30 <| sk n6 rfl n27 rfl u31 <| m (pkf (.t n27) .b) u32 <| m (as_ (.t n32)) u20 <| e ?_
              replace hm := sj hm
              subst hm
              have hm := hq9
              exact ⟨false, hm, le [0] (by decide) (.c (.e rfl rfl) (.c .a (.c .a (.c (.w n0) (.c (.e rfl rfl) (.c (.e rfl rfl) (.c .a (.c .a (.c .a (.c .a (.c .a (.c .a (.c .a (.c .a (.c .a (.c .a (.c .a (.c .a (.c .a (.c .a (.c (.e rfl rfl) (.c .a (.c .a (.c .a (.c .a (.c .a (.c .a (.c .a (.c .a (.c .a (.c .a (.c .a (.c .a (.c .a (.c .a (.c .a (.c .a (.c .a (.c .a (.c .a (.c .a (.c .a (.c .a (.c .a (.c .a (.c .a (.c .a (.c .a (.c .a (.c .a (.c .a (.c .a (.c .a (.c .a (.c .a (.c .a (.c .a (.c .a (.c .a (.c .a (.c .a (.c .a (.c .a (.c .a (.c .a (.c .a .n)))))))))))))))))))))))))))))))))))))))))))))))))))))))))))))))))) (.r n0 rfl .n)⟩
          ·
            refine cnd n20 (fun h11 => ?_) (fun h11 => ?_)
            ·
              replace hm := ct h11 hm
              obtain ⟨c12, hm⟩ := gd_some hm
              refine rg <| m (mv (.t n3)) u33 <| m (mv (.t n5)) u34 <| k (bsm ([z6.Device] : List Int) iV T.s111 rfl rfl (.c (.t n34) rfl rfl rfl .n) rfl u35) <| dr u3 <| k (apm (l := v0_3r) (l2 := ([z6.Device] : List Int)) (f := iV) 33 c12 rfl (fun _ => rfl) T.s111 rfl n33 u33 n0 (.t n35) q0 rfl u36) <| m (as_ (.t n36)) u3 <| e ?_
              replace hm := sj hm
              subst hm
              have hm := hq8
              exact ⟨(v0_3r ++ ([z6.Device] : List Int)), hm, le [0] (by decide) (.c (.e rfl rfl) (.c .a (.c .a (.c (.w n0) (.c (.e rfl rfl) (.c .a (.c .a (.c .a (.c .a (.c .a (.c .a (.c .a (.c .a (.c .a (.c .a (.c .a (.c .a (.c .a (.c .a (.c .a (.c .a (.c .a (.c .a (.c .a (.c .a (.c .a (.c .a (.c .a (.c .a (.c .a (.c .a (.c .a (.c .a (.c .a (.c .a (.c .a (.c .a (.c .a (.c .a (.c .a (.c .a (.c .a (.c .a (.c .a (.c .a (.c .a (.c .a (.c .a (.c .a (.c .a (.c .a (.c .a (.c .a (.c .a (.c .a (.c .a (.c .a (.c .a (.c .a (.c .a (.c .a (.c .a (.c .a (.c .a (.c .a (.c .a .n)))))))))))))))))))))))))))))))))))))))))))))))))))))))))))))))))) (.r n0 rfl .n)⟩
            ·
              replace hm := cf h11 hm
              refine sr <| m (mv (.t n0)) u38 <| m (mv (.t n4)) u39 <| m (ixq (f := D.LogEntry.V) e7 T.s43 (.t n38) (.t n39)) u40 <| m (fae T.f125_1 d1 (.t n40)) u41 <| m (lde T.o3 n0 (.t n41)) u42 <| m (eql (.t n42) (.i rfl)) u43 <| m (as_ (.t n43)) u37 <| e ?_
              refine cnd n37 (fun h13 => ?_) (fun h13 => ?_)
              ·
                replace hm := ct h13 hm
                refine sr <| k (bom ([] : List Int) iV T.s111 rfl rfl .n rfl s1 u44) <| m (as_ (.t n44)) u6 <| e ?_
                refine sq ?_
                refine sr <| m (as_ (.i rfl)) u7 <| e ?_
                refine jmb hm (fun j4r6 : List Int => ⟨[.slice 6 (log_.map D.LogEntry.V), .any, .any, .any, .int .i64 (i0 : Int), .any, .own 0, .any, .any, .any, .any, .any, .any, .any, .any, .any, .any, .any, .any, .any, .any, .any, .any, .any, .any, .any, .any, .any, .any, .any, .any, .any, .any, .any, .any, .any, .any, .any, .any, .any, .any, .any, .any, .any, .any, .any, .any, .any, .any, .any, .any, .any, .any, .any, .any, .any, .any, .any, .any, .any, .any, .any, .any, .any, .any, .any], [.row 3 1 (j4r6.map iV)]⟩) (fun _ hm hq14 => ?_) (fun j4r6 hm => ?_)
                ·
                  refine bk ?_
                  refine lpf (m := m_spec_DevicesOf_l1 v0_3r z6) hm (fun yy15_ : Nat × (List Int) => ⟨[.slice 6 (log_.map D.LogEntry.V), .any, .any, .own 0, .int .i64 (i0 : Int), .int .i64 z6.Device, .own 1, .int .i64 (yy15_.1 : Int), .any, .any, .any, .any, .any, .any, .any, .any, .any, .any, .any, .any, .any, .any, .any, .any, .any, .any, .any, .any, .any, .any, .any, .any, .any, .any, .any, .any, .any, .any, .any, .any, .any, .any, .any, .any, .any, .any, .any, .any, .any, .any, .any, .any, .any, .any, .any, .any, .any, .any, .any, .any, .any, .any, .any, .any, .any, .any], [.row 3 1 (v0_3r.map iV), .row 3 1 (yy15_.2.map iV)]⟩) (fun _ => rfl) (le [0, 1] (by decide) (.c (.e rfl rfl) (.c .a (.c .a (.c (.w n0) (.c (.e rfl rfl) (.c (.e rfl rfl) (.c (.w n1) (.c (.e rfl rfl) (.c .a (.c .a (.c .a (.c .a (.c .a (.c .a (.c .a (.c .a (.c .a (.c .a (.c .a (.c .a (.c .a (.c .a (.c .a (.c .a (.c .a (.c .a (.c .a (.c .a (.c .a (.c .a (.c .a (.c .a (.c .a (.c .a (.c .a (.c .a (.c .a (.c .a (.c .a (.c .a (.c .a (.c .a (.c .a (.c .a (.c .a (.c .a (.c .a (.c .a (.c .a (.c .a (.c .a (.c .a (.c .a (.c .a (.c .a (.c .a (.c .a (.c .a (.c .a (.c .a (.c .a (.c .a (.c .a (.c .a (.c .a (.c .a .n)))))))))))))))))))))))))))))))))))))))))))))))))))))))))))))))))) (.r n0 rfl (.r n1 rfl .n))) ?_
                  rintro f ⟨i1, v1r6⟩ hm
                  rw [m_spec_DevicesOf_l1] at hm
                  dsimp only at hm ⊢
                  refine sq ?_
                  refine sr <| m (mv (.t n7)) u45 <| m (mv (.t n3)) u46 <| m (lenom (l := v0_3r) (f := iV) T.s111 n0 (.t n46)) u47 <| m (lss (.t n45) (.t n47)) u48 <| e ?_
                  refine rng n47 fun _ ra16 => ?_
                  replace ra16 := (show (_ : Int) ≤ 9223372036854775807 from ra16)
                  refine cnd n48 (fun h17 => ?_) (fun h17 => ?_)
                  ·
                    replace hm := ct h17 hm
                    have h17d := of_decide_eq_true h17
                    refine skp ?_
                    refine sq ?_
                    refine jmb hm (fun j5r6 : List Int => ⟨[.slice 6 (log_.map D.LogEntry.V), .any, .any, .own 0, .int .i64 (i0 : Int), .int .i64 z6.Device, .own 1, .int .i64 (i1 : Int), .any, .any, .any, .any, .any, .any, .any, .any, .any, .any, .any, .any, .any, .any, .any, .any, .any, .any, .any, .any, .any, .any, .any, .any, .any, .any, .any, .any, .any, .any, .any, .any, .any, .any, .any, .any, .any, .any, .any, .any, .any, .any, .any, .any, .any, .any, .any, .any, .any, .any, .any, .any, .any, .any, .any, .any, .any, .any], [.row 3 1 (v0_3r.map iV), .row 3 1 (j5r6.map iV)]⟩) (fun _ hm hq18 => ?_) (fun j5r6 hm => ?_)
                    ·
                      refine bk ?_
                      obtain ⟨z19, e20, hm⟩ := bd_some hm
                      refine sr <| m (mv (.t n3)) u51 <| m (mv (.t n7)) u52 <| m (oixq (f := iV) e20 T.s111 n0 (.t n51) (.t n52)) u53 <| m (ldm1 0 e20 T.o3 n0 rfl n0 (.t n53)) u54 <| m (mv (.t n5)) u55 <| m (neq (.t n54) (.t n55)) u56 <| e ?_
                      refine cnd n56 (fun h21 => ?_) (fun h21 => ?_)
                      ·
                        replace hm := ct h21 hm
                        obtain ⟨c22, hm⟩ := gd_some hm
                        refine rg <| m (mv (.t n6)) u57 <| m (mv (.t n3)) u58 <| m (mv (.t n7)) u59 <| m (oixq (f := iV) e20 T.s111 n0 (.t n58) (.t n59)) u60 <| m (ldm1 0 e20 T.o3 n0 rfl n0 (.t n60)) u61 <| k (bsm ([z19] : List Int) iV T.s111 rfl rfl (.c (.t n61) rfl rfl rfl .n) rfl u62) <| dr u6 <| k (apm (l := v1r6) (l2 := ([z19] : List Int)) (f := iV) 57 c22 rfl (fun _ => rfl) T.s111 rfl n57 u57 n1 (.t n62) q1 rfl u63) <| m (as_ (.t n63)) u6 <| e ?_
                        replace hm := sj hm
                        subst hm
                        have hm := hq18
                        exact ⟨(v1r6 ++ ([z19] : List Int)), hm, le [0, 1] (by decide) (.c (.e rfl rfl) (.c .a (.c .a (.c (.w n0) (.c (.e rfl rfl) (.c (.e rfl rfl) (.c (.w n1) (.c (.e rfl rfl) (.c .a (.c .a (.c .a (.c .a (.c .a (.c .a (.c .a (.c .a (.c .a (.c .a (.c .a (.c .a (.c .a (.c .a (.c .a (.c .a (.c .a (.c .a (.c .a (.c .a (.c .a (.c .a (.c .a (.c .a (.c .a (.c .a (.c .a (.c .a (.c .a (.c .a (.c .a (.c .a (.c .a (.c .a (.c .a (.c .a (.c .a (.c .a (.c .a (.c .a (.c .a (.c .a (.c .a (.c .a (.c .a (.c .a (.c .a (.c .a (.c .a (.c .a (.c .a (.c .a (.c .a (.c .a (.c .a (.c .a (.c .a (.c .a .n)))))))))))))))))))))))))))))))))))))))))))))))))))))))))))))))))) (.r n0 rfl (.r n1 rfl .n))⟩
                      ·
                        replace hm := cf h21 hm
                        refine skp ?_
                        replace hm := sj hm
                        subst hm
                        have hm := hq18
                        exact ⟨v1r6, hm, le [0, 1] (by decide) (.c (.e rfl rfl) (.c .a (.c .a (.c (.w n0) (.c (.e rfl rfl) (.c (.e rfl rfl) (.c (.w n1) (.c (.e rfl rfl) (.c .a (.c .a (.c .a (.c .a (.c .a (.c .a (.c .a (.c .a (.c .a (.c .a (.c .a (.c .a (.c .a (.c .a (.c .a (.c .a (.c .a (.c .a (.c .a (.c .a (.c .a (.c .a (.c .a (.c .a (.c .a (.c .a (.c .a (.c .a (.c .a (.c .a (.c .a (.c .a (.c .a (.c .a (.c .a (.c .a (.c .a (.c .a (.c .a (.c .a (.c .a (.c .a (.c .a (.c .a (.c .a (.c .a (.c .a (.c .a (.c .a (.c .a (.c .a (.c .a (.c .a (.c .a (.c .a (.c .a (.c .a (.c .a .n)))))))))))))))))))))))))))))))))))))))))))))))))))))))))))))))))) (.r n0 rfl (.r n1 rfl .n))⟩
                    ·
                      refine rg <| m (mv (.t n7)) u49 <| m (add (.t n49) (.i rfl)) u50 <| m (as_ (.t n50)) u7 <| e ?_
                      exact ⟨(i1 + 1, j5r6), hm, le [0, 1] (by decide) (.c (.e rfl rfl) (.c .a (.c .a (.c (.w n0) (.c (.e rfl rfl) (.c (.e rfl rfl) (.c (.w n1) (.c (.e (wi (by omega)) rfl) (.c .a (.c .a (.c .a (.c .a (.c .a (.c .a (.c .a (.c .a (.c .a (.c .a (.c .a (.c .a (.c .a (.c .a (.c .a (.c .a (.c .a (.c .a (.c .a (.c .a (.c .a (.c .a (.c .a (.c .a (.c .a (.c .a (.c .a (.c .a (.c .a (.c .a (.c .a (.c .a (.c .a (.c .a (.c .a (.c .a (.c .a (.c .a (.c .a (.c .a (.c .a (.c .a (.c .a (.c .a (.c .a (.c .a (.c .a (.c .a (.c .a (.c .a (.c .a (.c .a (.c .a (.c .a (.c .a (.c .a (.c .a (.c .a .n)))))))))))))))))))))))))))))))))))))))))))))))))))))))))))))))))) (.r n0 rfl (.r n1 rfl .n))⟩
                  ·
                    replace hm := cf h17 hm
                    have h17d := of_decide_eq_false h17
                    refine ex (x1 ?_)
                    replace hm := sj hm
                    subst hm
                    have hm := hq14
                    exact ⟨v1r6, hm, le [1] (by decide) (.c (.e rfl rfl) (.c .a (.c .a (.c .a (.c (.e rfl rfl) (.c .a (.c (.w n0) (.c .a (.c .a (.c .a (.c .a (.c .a (.c .a (.c .a (.c .a (.c .a (.c .a (.c .a (.c .a (.c .a (.c .a (.c .a (.c .a (.c .a (.c .a (.c .a (.c .a (.c .a (.c .a (.c .a (.c .a (.c .a (.c .a (.c .a (.c .a (.c .a (.c .a (.c .a (.c .a (.c .a (.c .a (.c .a (.c .a (.c .a (.c .a (.c .a (.c .a (.c .a (.c .a (.c .a (.c .a (.c .a (.c .a (.c .a (.c .a (.c .a (.c .a (.c .a (.c .a (.c .a (.c .a (.c .a (.c .a (.c .a (.c .a (.c .a .n)))))))))))))))))))))))))))))))))))))))))))))))))))))))))))))))))) (.r n1 rfl .n)⟩
                ·
                  refine rg <| m (mv (.t n6)) u64 <| m (as_ (.t n64)) u3 <| e ?_
                  replace hm := sj hm
                  subst hm
                  have hm := hq8
                  exact ⟨j4r6, hm, le [0] (by decide) (.c (.e rfl rfl) (.c .a (.c .a (.c (.w n0) (.c (.e rfl rfl) (.c .a (.c .a (.c .a (.c .a (.c .a (.c .a (.c .a (.c .a (.c .a (.c .a (.c .a (.c .a (.c .a (.c .a (.c .a (.c .a (.c .a (.c .a (.c .a (.c .a (.c .a (.c .a (.c .a (.c .a (.c .a (.c .a (.c .a (.c .a (.c .a (.c .a (.c .a (.c .a (.c .a (.c .a (.c .a (.c .a (.c .a (.c .a (.c .a (.c .a (.c .a (.c .a (.c .a (.c .a (.c .a (.c .a (.c .a (.c .a (.c .a (.c .a (.c .a (.c .a (.c .a (.c .a (.c .a (.c .a (.c .a (.c .a (.c .a (.c .a (.c .a .n)))))))))))))))))))))))))))))))))))))))))))))))))))))))))))))))))) (.r n0 rfl .n)⟩
              ·
                replace hm := cf h13 hm
                refine skp ?_
                replace hm := sj hm
                subst hm
                have hm := hq8
                exact ⟨v0_3r, hm, le [0] (by decide) (.c (.e rfl rfl) (.c .a (.c .a (.c (.w n0) (.c (.e rfl rfl) (.c .a (.c .a (.c .a (.c .a (.c .a (.c .a (.c .a (.c .a (.c .a (.c .a (.c .a (.c .a (.c .a (.c .a (.c .a (.c .a (.c .a (.c .a (.c .a (.c .a (.c .a (.c .a (.c .a (.c .a (.c .a (.c .a (.c .a (.c .a (.c .a (.c .a (.c .a (.c .a (.c .a (.c .a (.c .a (.c .a (.c .a (.c .a (.c .a (.c .a (.c .a (.c .a (.c .a (.c .a (.c .a (.c .a (.c .a (.c .a (.c .a (.c .a (.c .a (.c .a (.c .a (.c .a (.c .a (.c .a (.c .a (.c .a (.c .a (.c .a (.c .a .n)))))))))))))))))))))))))))))))))))))))))))))))))))))))))))))))))) (.r n0 rfl .n)⟩
        ·
          replace hm := sj hm
          subst hm
          have hm := hq5
          exact ⟨j2_3r, hm, le [0] (by decide) (.c (.e rfl rfl) (.c .a (.c .a (.c (.w n0) (.c (.e rfl rfl) (.c .a (.c .a (.c .a (.c .a (.c .a (.c .a (.c .a (.c .a (.c .a (.c .a (.c .a (.c .a (.c .a (.c .a (.c .a (.c .a (.c .a (.c .a (.c .a (.c .a (.c .a (.c .a (.c .a (.c .a (.c .a (.c .a (.c .a (.c .a (.c .a (.c .a (.c .a (.c .a (.c .a (.c .a (.c .a (.c .a (.c .a (.c .a (.c .a (.c .a (.c .a (.c .a (.c .a (.c .a (.c .a (.c .a (.c .a (.c .a (.c .a (.c .a (.c .a (.c .a (.c .a (.c .a (.c .a (.c .a (.c .a (.c .a (.c .a (.c .a (.c .a .n)))))))))))))))))))))))))))))))))))))))))))))))))))))))))))))))))) (.r n0 rfl .n)⟩
      ·
        refine rg <| m (mv (.t n4)) u13 <| m (add (.t n13) (.i rfl)) u14 <| m (as_ (.t n14)) u4 <| e ?_
        exact ⟨(i0 + 1, j1_3r), hm, le [0] (by decide) (.c (.e rfl rfl) (.c .a (.c .a (.c (.w n0) (.c (.e (wi (by omega)) rfl) (.c .a (.c .a (.c .a (.c .a (.c .a (.c .a (.c .a (.c .a (.c .a (.c .a (.c .a (.c .a (.c .a (.c .a (.c .a (.c .a (.c .a (.c .a (.c .a (.c .a (.c .a (.c .a (.c .a (.c .a (.c .a (.c .a (.c .a (.c .a (.c .a (.c .a (.c .a (.c .a (.c .a (.c .a (.c .a (.c .a (.c .a (.c .a (.c .a (.c .a (.c .a (.c .a (.c .a (.c .a (.c .a (.c .a (.c .a (.c .a (.c .a (.c .a (.c .a (.c .a (.c .a (.c .a (.c .a (.c .a (.c .a (.c .a (.c .a (.c .a (.c .a .n)))))))))))))))))))))))))))))))))))))))))))))))))))))))))))))))))) (.r n0 rfl .n)⟩
    ·
      replace hm := cf h4 hm
      have h4d := of_decide_eq_false h4
      refine ex (x1 ?_)
      replace hm := sj hm
      subst hm
      have hm := hq1
      exact ⟨v0_3r, hm, le [0] (by decide) (.c .a (.c .a (.c .a (.c (.w n0) (.c .a (.c .a (.c .a (.c .a (.c .a (.c .a (.c .a (.c .a (.c .a (.c .a (.c .a (.c .a (.c .a (.c .a (.c .a (.c .a (.c .a (.c .a (.c .a (.c .a (.c .a (.c .a (.c .a (.c .a (.c .a (.c .a (.c .a (.c .a (.c .a (.c .a (.c .a (.c .a (.c .a (.c .a (.c .a (.c .a (.c .a (.c .a (.c .a (.c .a (.c .a (.c .a (.c .a (.c .a (.c .a (.c .a (.c .a (.c .a (.c .a (.c .a (.c .a (.c .a (.c .a (.c .a (.c .a (.c .a (.c .a (.c .a (.c .a (.c .a (.c .a (.c .a .n)))))))))))))))))))))))))))))))))))))))))))))))))))))))))))))))))) (.r n0 rfl .n)⟩
  ·
    refine sr <| m (mv (.t n3)) u65 <| m (as_ (.t n65)) u2 <| e ?_
    replace hm := sj hm
    subst hm
    exact rt (ret1 (.t n2 (.o n0) .n) rfl)

theorem tot_spec_DevicesOf (log_ : List D.LogEntry) (hp0 : log_.length ≤ 34359738368) : Spec Tryz.prog G0 142 [.slice 6 (log_.map D.LogEntry.V)] (fun v => v = .slice 1 ((devicesOfF log_).map iV)) := sp_spec_DevicesOf log_ _ (t_spec_DevicesOf log_ hp0)

theorem sp_spec_EpochOf (log_ : List D.LogEntry) (r : Int) (hm : m_spec_EpochOf log_ = some r) : Spec Tryz.prog G0 23 [.slice 6 (log_.map D.LogEntry.V)] (fun v => v = .int .i64 r) := by
  rw [m_spec_EpochOf] at hm
  refine enter (l := [.tmp 2]) Tryz.func23 rfl Tryz.ntmps23 rfl T.en23 fun E => ?_
  simp only [List.length_cons, List.length_nil, List.replicate_succ, List.replicate_zero, List.cons_append, List.nil_append, Nat.reduceAdd, Nat.reduceSub]
  refine sr <| m (as_ (.i rfl)) u2 <| e ?_
  refine sr <| m (as_ (.i rfl)) u3 <| e ?_
  refine sq ?_
  refine sr <| m (as_ (.i rfl)) u4 <| e ?_
  refine jmb hm (fun j0_3 : Int => ⟨[.any, .any, .any, .int .i64 j0_3, .any, .any, .any, .any, .any, .any, .any, .any, .any, .any, .any, .any, .any, .any, .any, .any], []⟩) (fun _ hm hq1 => ?_) (fun j0_3 hm => ?_)
  ·
    refine bk ?_
    refine lpf (m := m_spec_EpochOf_l0 log_) hm (fun yy2_ : Int × Nat => ⟨[.slice 6 (log_.map D.LogEntry.V), .any, .any, .int .i64 yy2_.1, .int .i64 (yy2_.2 : Int), .any, .any, .any, .any, .any, .any, .any, .any, .any, .any, .any, .any, .any, .any, .any], []⟩) (fun _ => rfl) (le [] (by decide) (.c (.e rfl rfl) (.c .a (.c .a (.c (.e rfl rfl) (.c (.e rfl rfl) (.c .a (.c .a (.c .a (.c .a (.c .a (.c .a (.c .a (.c .a (.c .a (.c .a (.c .a (.c .a (.c .a (.c .a (.c .a .n)))))))))))))))))))) .n) ?_
    rintro f ⟨v0_3, i0⟩ hm
    rw [m_spec_EpochOf_l0] at hm
    dsimp only at hm ⊢
    refine sq ?_
    refine sr <| m (mv (.t n4)) u5 <| m (mv (.t n0)) u6 <| m (lenm (l := log_) (f := D.LogEntry.V) T.s43 (.t n6)) u7 <| m (lss (.t n5) (.t n7)) u8 <| e ?_
    refine rng n7 fun _ ra3 => ?_
    replace ra3 := (show (_ : Int) ≤ 9223372036854775807 from ra3)
    refine cnd n8 (fun h4 => ?_) (fun h4 => ?_)
    ·
      replace hm := ct h4 hm
      have h4d := of_decide_eq_true h4
      refine skp ?_
      refine sq ?_
      refine jmb hm (fun j1_3 : Int => ⟨[.slice 6 (log_.map D.LogEntry.V), .any, .any, .int .i64 j1_3, .int .i64 (i0 : Int), .any, .any, .any, .any, .any, .any, .any, .any, .any, .any, .any, .any, .any, .any, .any], []⟩) (fun _ hm hq5 => ?_) (fun j1_3 hm => ?_)
      ·
        refine bk ?_
        obtain ⟨z6, e7, hm⟩ := bd_some hm
        refine sr <| m (mv (.t n0)) u11 <| m (mv (.t n4)) u12 <| m (ixq (f := D.LogEntry.V) e7 T.s43 (.t n11) (.t n12)) u13 <| m (fae T.f125_1 d1 (.t n13)) u14 <| m (lde T.o3 n0 (.t n14)) u15 <| m (eql (.t n15) (.i rfl)) u16 <| e ?_
        refine cnd n16 (fun h8 => ?_) (fun h8 => ?_)
        ·
          replace hm := ct h8 hm
          refine rg <| m (mv (.t n3)) u17 <| m (add (.t n17) (.i rfl)) u18 <| m (as_ (.t n18)) u3 <| e ?_
          replace hm := sj hm
          subst hm
          have hm := hq5
          exact ⟨IntKind.i64.wrap (v0_3 + (1 : Int)), hm, le [] (by decide) (.c (.e rfl rfl) (.c .a (.c .a (.c (.e rfl rfl) (.c (.e rfl rfl) (.c .a (.c .a (.c .a (.c .a (.c .a (.c .a (.c .a (.c .a (.c .a (.c .a (.c .a (.c .a (.c .a (.c .a (.c .a .n)))))))))))))))))))) .n⟩
        ·
          replace hm := cf h8 hm
          refine skp ?_
          replace hm := sj hm
          subst hm
          have hm := hq5
          exact ⟨v0_3, hm, le [] (by decide) (.c (.e rfl rfl) (.c .a (.c .a (.c (.e rfl rfl) (.c (.e rfl rfl) (.c .a (.c .a (.c .a (.c .a (.c .a (.c .a (.c .a (.c .a (.c .a (.c .a (.c .a (.c .a (.c .a (.c .a (.c .a .n)))))))))))))))))))) .n⟩
      ·
        refine rg <| m (mv (.t n4)) u9 <| m (add (.t n9) (.i rfl)) u10 <| m (as_ (.t n10)) u4 <| e ?_
        exact ⟨(j1_3, i0 + 1), hm, le [] (by decide) (.c (.e rfl rfl) (.c .a (.c .a (.c (.e rfl rfl) (.c (.e (wi (by omega)) rfl) (.c .a (.c .a (.c .a (.c .a (.c .a (.c .a (.c .a (.c .a (.c .a (.c .a (.c .a (.c .a (.c .a (.c .a (.c .a .n)))))))))))))))))))) .n⟩
    ·
      replace hm := cf h4 hm
      have h4d := of_decide_eq_false h4
      refine ex (x1 ?_)
      replace hm := sj hm
      subst hm
      have hm := hq1
      exact ⟨v0_3, hm, le [] (by decide) (.c .a (.c .a (.c .a (.c (.e rfl rfl) (.c .a (.c .a (.c .a (.c .a (.c .a (.c .a (.c .a (.c .a (.c .a (.c .a (.c .a (.c .a (.c .a (.c .a (.c .a (.c .a .n)))))))))))))))))))) .n⟩
  ·
    refine sr <| m (mv (.t n3)) u19 <| m (as_ (.t n19)) u2 <| e ?_
    replace hm := sj hm
    subst hm
    exact rt (ret1 (.t n2 (.p rfl) .n) rfl)

theorem tot_spec_EpochOf (log_ : List D.LogEntry)  : Spec Tryz.prog G0 23 [.slice 6 (log_.map D.LogEntry.V)] (fun v => v = .int .i64 (epochOfF log_)) := sp_spec_EpochOf log_ _ (t_spec_EpochOf log_)

theorem sp_impl_has (l_ : List Int) (n_ : Int) (r : Bool) (hm : m_impl_has l_ n_ = some r) : Spec Tryz.prog G0 136 [.slice 1 (l_.map iV), .int .i64 n_] (fun v => v = .bool r) := by
  rw [m_impl_has] at hm
  refine enter (l := [.tmp 4]) Tryz.func136 rfl Tryz.ntmps136 rfl T.en136 fun E => ?_
  simp only [List.length_cons, List.length_nil, List.replicate_succ, List.replicate_zero, List.cons_append, List.nil_append, Nat.reduceAdd, Nat.reduceSub]
  refine sr <| m (as_ .b) u4 <| e ?_
  refine sq ?_
  refine sr <| m (mv (.t n0)) u7 <| m (lenm (l := l_) (f := iV) T.s111 (.t n7)) u8 <| m (mv (.i rfl)) u9 <| e ?_
  refine jmx hm (fun _ : Unit => ⟨[.any, .any, .any, .any, .any, .any, .any, .any, .any, .any, .any, .any, .any, .any, .any, .any, .any], []⟩) (fun _ hm hq1 => ?_) (fun _ hm => ?_)
  ·
    refine bk ?_
    refine lpf (m := m_impl_has_l0 l_ n_) hm (fun i0 : Nat => ⟨[.any, .int .i64 n_, .any, .any, .any, .any, .any, .slice 1 (l_.map iV), .int .i64 (l_.length : Int), .int .i64 (i0 : Int), .any, .any, .any, .any, .any, .any, .any], []⟩) (fun _ => rfl) (le [] (by decide) (.c .a (.c (.e rfl rfl) (.c .a (.c .a (.c .a (.c .a (.c .a (.c (.e rfl rfl) (.c (.e rfl rfl) (.c (.e rfl rfl) (.c .a (.c .a (.c .a (.c .a (.c .a (.c .a (.c .a .n))))))))))))))))) .n) ?_
    rintro f i0 hm
    rw [m_impl_has_l0] at hm
    refine sr <| m (lss (.t n9) (.t n8)) u10 <| e ?_
    refine rng n8 fun _ ra2 => ?_
    replace ra2 := (show (_ : Int) ≤ 9223372036854775807 from ra2)
    refine sq ?_
    refine cnd n10 (fun h3 => ?_) (fun h3 => ?_)
    ·
      replace hm := ct h3 hm
      have h3d := of_decide_eq_true h3
      refine skp ?_
      refine sq ?_
      refine bk ?_
      obtain ⟨z4, e5, hm⟩ := bd_some hm
      refine sr <| m (ixq (f := iV) e5 T.s111 (.t n7) (.t n9)) u11 <| m (lde T.o3 n0 (.t n11)) u12 <| m (as_ (.t n12)) u6 <| e ?_
      refine sr <| m (mv (.t n6)) u13 <| m (mv (.t n1)) u14 <| m (eql (.t n13) (.t n14)) u15 <| e ?_
      refine cnd n15 (fun h6 => ?_) (fun h6 => ?_)
      ·
        replace hm := ct h6 hm
        refine sr <| m (as_ .b) u4 <| e ?_
        replace hm := inl1 hm hq1
        subst hm
        exact rt (ret1 (.t n4 (.p rfl) .n) rfl)
      ·
        replace hm := cf h6 hm
        refine skp ?_
        refine rg <| m (add (.t n9) (.i rfl)) u16 <| m (mv (.t n16)) u9 <| e ?_
        exact ⟨i0 + 1, hm, le [] (by decide) (.c .a (.c (.e rfl rfl) (.c .a (.c .a (.c .a (.c .a (.c .a (.c (.e rfl rfl) (.c (.e rfl rfl) (.c (.e (wi (by omega)) rfl) (.c .a (.c .a (.c .a (.c .a (.c .a (.c .a (.c .a .n))))))))))))))))) .n⟩
    ·
      replace hm := cf h3 hm
      have h3d := of_decide_eq_false h3
      refine ex (x1 ?_)
      replace hm := inr1 hm hq1
      exact ⟨(), hm, le [] (by decide) (.c .a (.c .a (.c .a (.c .a (.c .a (.c .a (.c .a (.c .a (.c .a (.c .a (.c .a (.c .a (.c .a (.c .a (.c .a (.c .a (.c .a .n))))))))))))))))) .n⟩
  ·
    refine sr <| m (as_ .b) u4 <| e ?_
    replace hm := sj hm
    subst hm
    exact rt (ret1 (.t n4 (.p rfl) .n) rfl)

theorem tot_impl_has (l_ : List Int) (n_ : Int)  : Spec Tryz.prog G0 136 [.slice 1 (l_.map iV), .int .i64 n_] (fun v => v = .bool (hasF l_ n_)) := sp_impl_has l_ n_ _ (t_impl_has l_ n_)

theorem sp_impl_DevicesOf (log_ : List D.LogEntry) (r : (List Int)) (hm : m_impl_DevicesOf log_ = some r) : Spec Tryz.prog G0 134 [.slice 6 (log_.map D.LogEntry.V)] (fun v => v = .slice 1 (r.map iV)) := by
  rw [m_impl_DevicesOf] at hm
  refine enter (l := [.tmp 2]) Tryz.func134 rfl Tryz.ntmps134 rfl T.en134 fun E => ?_
  simp only [List.length_cons, List.length_nil, List.replicate_succ, List.replicate_zero, List.cons_append, List.nil_append, Nat.reduceAdd, Nat.reduceSub]
  refine sr <| m (as_ .n) u2 <| e ?_
  refine sr <| k (bom ([] : List Int) iV T.s111 rfl rfl .n rfl s0 u9) <| m (as_ (.t n9)) u3 <| e ?_
  refine sq ?_
  refine sr <| m (mv (.t n0)) u10 <| m (lenm (l := log_) (f := D.LogEntry.V) T.s43 (.t n10)) u11 <| m (mv (.i rfl)) u12 <| e ?_
  refine jmb hm (fun j0_3r : List Int => ⟨[.any, .any, .any, .own 0, .any, .any, .any, .any, .any, .any, .any, .any, .any, .any, .any, .any, .any, .any, .any, .any, .any, .any, .any, .any, .any, .any, .any, .any, .any, .any, .any, .any, .any, .any, .any, .any, .any, .any, .any, .any, .any, .any, .any, .any, .any, .any, .any, .any, .any, .any, .any], [.row 3 1 (j0_3r.map iV)]⟩) (fun _ hm hq1 => ?_) (fun j0_3r hm => ?_)
  ·
    refine bk ?_
    refine lpf (m := m_impl_DevicesOf_l0 log_) hm (fun yy2_ : Nat × (List Int) => ⟨[.any, .any, .any, .own 0, .any, .any, .any, .any, .any, .any, .slice 6 (log_.map D.LogEntry.V), .int .i64 (log_.length : Int), .int .i64 (yy2_.1 : Int), .any, .any, .any, .any, .any, .any, .any, .any, .any, .any, .any, .any, .any, .any, .any, .any, .any, .any, .any, .any, .any, .any, .any, .any, .any, .any, .any, .any, .any, .any, .any, .any, .any, .any, .any, .any, .any, .any], [.row 3 1 (yy2_.2.map iV)]⟩) (fun _ => rfl) (le [0] (by decide) (.c .a (.c .a (.c .a (.c (.w n0) (.c .a (.c .a (.c .a (.c .a (.c .a (.c .a (.c (.e rfl rfl) (.c (.e rfl rfl) (.c (.e rfl rfl) (.c .a (.c .a (.c .a (.c .a (.c .a (.c .a (.c .a (.c .a (.c .a (.c .a (.c .a (.c .a (.c .a (.c .a (.c .a (.c .a (.c .a (.c .a (.c .a (.c .a (.c .a (.c .a (.c .a (.c .a (.c .a (.c .a (.c .a (.c .a (.c .a (.c .a (.c .a (.c .a (.c .a (.c .a (.c .a (.c .a (.c .a (.c .a .n))))))))))))))))))))))))))))))))))))))))))))))))))) (.r n0 rfl .n)) ?_
    rintro f ⟨i0, v0_3r⟩ hm
    rw [m_impl_DevicesOf_l0] at hm
    dsimp only at hm ⊢
    refine sr <| m (lss (.t n12) (.t n11)) u13 <| e ?_
    refine rng n11 fun _ ra3 => ?_
    replace ra3 := (show (_ : Int) ≤ 9223372036854775807 from ra3)
    refine sq ?_
    refine cnd n13 (fun h4 => ?_) (fun h4 => ?_)
    ·
      replace hm := ct h4 hm
      have h4d := of_decide_eq_true h4
      refine skp ?_
      refine sq ?_
      refine jmb hm (fun j1_3r : List Int => ⟨[.any, .any, .any, .own 0, .any, .any, .any, .any, .any, .any, .slice 6 (log_.map D.LogEntry.V), .int .i64 (log_.length : Int), .int .i64 (i0 : Int), .any, .any, .any, .any, .any, .any, .any, .any, .any, .any, .any, .any, .any, .any, .any, .any, .any, .any, .any, .any, .any, .any, .any, .any, .any, .any, .any, .any, .any, .any, .any, .any, .any, .any, .any, .any, .any, .any], [.row 3 1 (j1_3r.map iV)]⟩) (fun _ hm hq5 => ?_) (fun j1_3r hm => ?_)
      ·
        refine bk ?_
        obtain ⟨z6, e7, hm⟩ := bd_some hm
        refine sr <| m (ixq (f := D.LogEntry.V) e7 T.s43 (.t n10) (.t n12)) u14 <| m (lae T.a125 k6 (.t n14)) u15 <| k (al T.z125 s1 u5) <| k (sta T.a125 rfl rfl n1 (.z (.z (.z (.z (.z (.z .n)))))) q1 (.t n5) (.t n15)) <| e ?_
        refine sr <| m (fab 1 rfl T.f125_1 (.t n5)) u16 <| m (ldb T.o3 n1 n1 (.t n16)) u17 <| e ?_
        refine jmb hm (fun j2_3r : List Int => ⟨[.any, .any, .any, .own 0, .any, .any, .any, .any, .any, .any, .slice 6 (log_.map D.LogEntry.V), .int .i64 (log_.length : Int), .int .i64 (i0 : Int), .any, .any, .any, .any, .any, .any, .any, .any, .any, .any, .any, .any, .any, .any, .any, .any, .any, .any, .any, .any, .any, .any, .any, .any, .any, .any, .any, .any, .any, .any, .any, .any, .any, .any, .any, .any, .any, .any], [.row 3 1 (j2_3r.map iV)]⟩) (fun _ hm hq8 => ?_) (fun j2_3r hm => ?_)
        ·
          refine bk ?_
          refine sr <| m (eql (.t n17) (.i rfl)) u19 <| m (as_ (.t n19)) u18 <| e ?_
          refine cnd n18 (fun h9 => ?_) (fun h9 => ?_)
          ·
            replace hm := ct h9 hm
            refine sr <| m (mv (.t n3)) u20 <| m (fab 2 rfl T.f125_2 (.t n5)) u21 <| m (ldb T.o3 n1 n2 (.t n21)) u22 <| c (callm (tot_impl_has v0_3r z6.Device) rfl (.c (.t n20) (.o n0) (.c (.t n22) (.p rfl) .n))) u23 <| m (not_ (.t n23)) u24 <| e ?_
            refine cnd n24 (fun h10 => ?_) (fun h10 => ?_)
            ·
              replace hm := ct h10 hm
              obtain ⟨c11, hm⟩ := gd_some hm
              refine rg <| m (mv (.t n3)) u25 <| m (fab 2 rfl T.f125_2 (.t n5)) u26 <| m (ldb T.o3 n1 n2 (.t n26)) u27 <| k (bsm ([z6.Device] : List Int) iV T.s111 rfl rfl (.c (.t n27) rfl rfl rfl .n) rfl u28) <| dr u3 <| dr u20 <| k (apm (l := v0_3r) (l2 := ([z6.Device] : List Int)) (f := iV) 25 c11 rfl (fun _ => rfl) T.s111 rfl n25 u25 n0 (.t n28) q0 rfl u29) <| m (as_ (.t n29)) u3 <| e ?_
              replace hm := sj hm
              subst hm
              have hm := hq8
              exact ⟨(v0_3r ++ ([z6.Device] : List Int)), hm, le [0] (by decide) (.c .a (.c .a (.c .a (.c (.w n0) (.c .a (.c .a (.c .a (.c .a (.c .a (.c .a (.c (.e rfl rfl) (.c (.e rfl rfl) (.c (.e rfl rfl) (.c .a (.c .a (.c .a (.c .a (.c .a (.c .a (.c .a (.c .a (.c .a (.c .a (.c .a (.c .a (.c .a (.c .a (.c .a (.c .a (.c .a (.c .a (.c .a (.c .a (.c .a (.c .a (.c .a (.c .a (.c .a (.c .a (.c .a (.c .a (.c .a (.c .a (.c .a (.c .a (.c .a (.c .a (.c .a (.c .a (.c .a (.c .a .n))))))))))))))))))))))))))))))))))))))))))))))))))) (.r n0 rfl .n)⟩
            ·
              replace hm := cf h10 hm
              refine skp ?_
              replace hm := sj hm
              subst hm
              have hm := hq8
              exact ⟨v0_3r, hm, le [0] (by decide) (.c .a (.c .a (.c .a (.c (.w n0) (.c .a (.c .a (.c .a (.c .a (.c .a (.c .a (.c (.e rfl rfl) (.c (.e rfl rfl) (.c (.e rfl rfl) (.c .a (.c .a (.c .a (.c .a (.c .a (.c .a (.c .a (.c .a (.c .a (.c .a (.c .a (.c .a (.c .a (.c .a (.c .a (.c .a (.c .a (.c .a (.c .a (.c .a (.c .a (.c .a (.c .a (.c .a (.c .a (.c .a (.c .a (.c .a (.c .a (.c .a (.c .a (.c .a (.c .a (.c .a (.c .a (.c .a (.c .a (.c .a .n))))))))))))))))))))))))))))))))))))))))))))))))))) (.r n0 rfl .n)⟩
          ·
            replace hm := cf h9 hm
            refine sr <| m (eql (.t n17) (.i rfl)) u31 <| m (as_ (.t n31)) u30 <| e ?_
            refine cnd n30 (fun h12 => ?_) (fun h12 => ?_)
            ·
              replace hm := ct h12 hm
              refine sr <| k (bom ([] : List Int) iV T.s111 rfl rfl .n rfl s2 u32) <| m (as_ (.t n32)) u6 <| e ?_
              refine sq ?_
              refine sr <| m (mv (.t n3)) u33 <| m (lenom (l := v0_3r) (f := iV) T.s111 n0 (.t n33)) u34 <| m (mv (.i rfl)) u35 <| e ?_
              refine jmb hm (fun j3r7 : List Int => ⟨[.any, .any, .any, .any, .any, .any, .own 0, .any, .any, .any, .slice 6 (log_.map D.LogEntry.V), .int .i64 (log_.length : Int), .int .i64 (i0 : Int), .any, .any, .any, .any, .any, .any, .any, .any, .any, .any, .any, .any, .any, .any, .any, .any, .any, .any, .any, .any, .any, .any, .any, .any, .any, .any, .any, .any, .any, .any, .any, .any, .any, .any, .any, .any, .any, .any], [.row 3 1 (j3r7.map iV)]⟩) (fun _ hm hq13 => ?_) (fun j3r7 hm => ?_)
              ·
                refine bk ?_
                refine lpf (m := m_impl_DevicesOf_l1 v0_3r z6) hm (fun yy14_ : Nat × (List Int) => ⟨[.any, .any, .any, .any, .any, .box 1 0, .own 2, .any, .any, .any, .slice 6 (log_.map D.LogEntry.V), .int .i64 (log_.length : Int), .int .i64 (i0 : Int), .any, .any, .any, .any, .any, .any, .any, .any, .any, .any, .any, .any, .any, .any, .any, .any, .any, .any, .any, .any, .own 0, .int .i64 (v0_3r.length : Int), .int .i64 (yy14_.1 : Int), .any, .any, .any, .any, .any, .any, .any, .any, .any, .any, .any, .any, .any, .any, .any], [.row 3 1 (v0_3r.map iV), .box 125 [.int .i64 z6.Index, .int .i64 z6.Kind, .int .i64 z6.Device, .int .i64 z6.By, .int .i64 z6.Previous, .int .i64 z6.Signature], .row 3 1 (yy14_.2.map iV)]⟩) (fun _ => rfl) (le [0, 1, 2] (by decide) (.c .a (.c .a (.c .a (.c .a (.c .a (.c (.b n1) (.c (.w n2) (.c .a (.c .a (.c .a (.c (.e rfl rfl) (.c (.e rfl rfl) (.c (.e rfl rfl) (.c .a (.c .a (.c .a (.c .a (.c .a (.c .a (.c .a (.c .a (.c .a (.c .a (.c .a (.c .a (.c .a (.c .a (.c .a (.c .a (.c .a (.c .a (.c .a (.c .a (.c (.w n0) (.c (.e rfl rfl) (.c (.e rfl rfl) (.c .a (.c .a (.c .a (.c .a (.c .a (.c .a (.c .a (.c .a (.c .a (.c .a (.c .a (.c .a (.c .a (.c .a (.c .a .n))))))))))))))))))))))))))))))))))))))))))))))))))) (.r n0 rfl (.b n1 (.c (.e rfl rfl) (.c (.e rfl rfl) (.c (.e rfl rfl) (.c (.e rfl rfl) (.c (.e rfl rfl) (.c (.e rfl rfl) .n)))))) (.r n2 rfl .n)))) ?_
                rintro f ⟨i1, v1r7⟩ hm
                rw [m_impl_DevicesOf_l1] at hm
                dsimp only at hm ⊢
                refine sr <| m (lss (.t n35) (.t n34)) u36 <| e ?_
                refine rng n34 fun _ ra15 => ?_
                replace ra15 := (show (_ : Int) ≤ 9223372036854775807 from ra15)
                refine sq ?_
                refine cnd n36 (fun h16 => ?_) (fun h16 => ?_)
                ·
                  replace hm := ct h16 hm
                  have h16d := of_decide_eq_true h16
                  refine skp ?_
                  refine sq ?_
                  refine jmb hm (fun j4r7 : List Int => ⟨[.any, .any, .any, .any, .any, .box 1 0, .own 2, .any, .any, .any, .slice 6 (log_.map D.LogEntry.V), .int .i64 (log_.length : Int), .int .i64 (i0 : Int), .any, .any, .any, .any, .any, .any, .any, .any, .any, .any, .any, .any, .any, .any, .any, .any, .any, .any, .any, .any, .own 0, .int .i64 (v0_3r.length : Int), .int .i64 (i1 : Int), .any, .any, .any, .any, .any, .any, .any, .any, .any, .any, .any, .any, .any, .any, .any], [.row 3 1 (v0_3r.map iV), .box 125 [.int .i64 z6.Index, .int .i64 z6.Kind, .int .i64 z6.Device, .int .i64 z6.By, .int .i64 z6.Previous, .int .i64 z6.Signature], .row 3 1 (j4r7.map iV)]⟩) (fun _ hm hq17 => ?_) (fun j4r7 hm => ?_)
                  ·
                    refine bk ?_
                    obtain ⟨z18, e19, hm⟩ := bd_some hm
                    refine sr <| m (oixq (f := iV) e19 T.s111 n0 (.t n33) (.t n35)) u37 <| m (ldm1 0 e19 T.o3 n0 rfl n0 (.t n37)) u38 <| m (as_ (.t n38)) u8 <| e ?_
                    refine sr <| m (mv (.t n8)) u39 <| m (fab 2 rfl T.f125_2 (.t n5)) u40 <| m (ldb T.o3 n1 n2 (.t n40)) u41 <| m (neq (.t n39) (.t n41)) u42 <| e ?_
                    refine cnd n42 (fun h20 => ?_) (fun h20 => ?_)
                    ·
                      replace hm := ct h20 hm
                      obtain ⟨c21, hm⟩ := gd_some hm
                      refine rg <| m (mv (.t n6)) u43 <| m (mv (.t n8)) u44 <| k (bsm ([z18] : List Int) iV T.s111 rfl rfl (.c (.t n44) rfl rfl rfl .n) rfl u45) <| dr u6 <| k (apm (l := v1r7) (l2 := ([z18] : List Int)) (f := iV) 43 c21 rfl (fun _ => rfl) T.s111 rfl n43 u43 n2 (.t n45) q2 rfl u46) <| m (as_ (.t n46)) u6 <| e ?_
                      replace hm := sj hm
                      subst hm
                      have hm := hq17
                      exact ⟨(v1r7 ++ ([z18] : List Int)), hm, le [0, 1, 2] (by decide) (.c .a (.c .a (.c .a (.c .a (.c .a (.c (.b n1) (.c (.w n2) (.c .a (.c .a (.c .a (.c (.e rfl rfl) (.c (.e rfl rfl) (.c (.e rfl rfl) (.c .a (.c .a (.c .a (.c .a (.c .a (.c .a (.c .a (.c .a (.c .a (.c .a (.c .a (.c .a (.c .a (.c .a (.c .a (.c .a (.c .a (.c .a (.c .a (.c .a (.c (.w n0) (.c (.e rfl rfl) (.c (.e rfl rfl) (.c .a (.c .a (.c .a (.c .a (.c .a (.c .a (.c .a (.c .a (.c .a (.c .a (.c .a (.c .a (.c .a (.c .a (.c .a .n))))))))))))))))))))))))))))))))))))))))))))))))))) (.r n0 rfl (.b n1 (.c (.e rfl rfl) (.c (.e rfl rfl) (.c (.e rfl rfl) (.c (.e rfl rfl) (.c (.e rfl rfl) (.c (.e rfl rfl) .n)))))) (.r n2 rfl .n)))⟩
                    ·
                      replace hm := cf h20 hm
                      refine skp ?_
                      replace hm := sj hm
                      subst hm
                      have hm := hq17
                      exact ⟨v1r7, hm, le [0, 1, 2] (by decide) (.c .a (.c .a (.c .a (.c .a (.c .a (.c (.b n1) (.c (.w n2) (.c .a (.c .a (.c .a (.c (.e rfl rfl) (.c (.e rfl rfl) (.c (.e rfl rfl) (.c .a (.c .a (.c .a (.c .a (.c .a (.c .a (.c .a (.c .a (.c .a (.c .a (.c .a (.c .a (.c .a (.c .a (.c .a (.c .a (.c .a (.c .a (.c .a (.c .a (.c (.w n0) (.c (.e rfl rfl) (.c (.e rfl rfl) (.c .a (.c .a (.c .a (.c .a (.c .a (.c .a (.c .a (.c .a (.c .a (.c .a (.c .a (.c .a (.c .a (.c .a (.c .a .n))))))))))))))))))))))))))))))))))))))))))))))))))) (.r n0 rfl (.b n1 (.c (.e rfl rfl) (.c (.e rfl rfl) (.c (.e rfl rfl) (.c (.e rfl rfl) (.c (.e rfl rfl) (.c (.e rfl rfl) .n)))))) (.r n2 rfl .n)))⟩
                  ·
                    refine rg <| m (add (.t n35) (.i rfl)) u47 <| m (mv (.t n47)) u35 <| e ?_
                    exact ⟨(i1 + 1, j4r7), hm, le [0, 1, 2] (by decide) (.c .a (.c .a (.c .a (.c .a (.c .a (.c (.b n1) (.c (.w n2) (.c .a (.c .a (.c .a (.c (.e rfl rfl) (.c (.e rfl rfl) (.c (.e rfl rfl) (.c .a (.c .a (.c .a (.c .a (.c .a (.c .a (.c .a (.c .a (.c .a (.c .a (.c .a (.c .a (.c .a (.c .a (.c .a (.c .a (.c .a (.c .a (.c .a (.c .a (.c (.w n0) (.c (.e rfl rfl) (.c (.e (wi (by omega)) rfl) (.c .a (.c .a (.c .a (.c .a (.c .a (.c .a (.c .a (.c .a (.c .a (.c .a (.c .a (.c .a (.c .a (.c .a (.c .a .n))))))))))))))))))))))))))))))))))))))))))))))))))) (.r n0 rfl (.b n1 (.c (.e rfl rfl) (.c (.e rfl rfl) (.c (.e rfl rfl) (.c (.e rfl rfl) (.c (.e rfl rfl) (.c (.e rfl rfl) .n)))))) (.r n2 rfl .n)))⟩
                ·
                  replace hm := cf h16 hm
                  have h16d := of_decide_eq_false h16
                  refine ex (x1 ?_)
                  replace hm := sj hm
                  subst hm
                  have hm := hq13
                  exact ⟨v1r7, hm, le [2] (by decide) (.c .a (.c .a (.c .a (.c .a (.c .a (.c .a (.c (.w n0) (.c .a (.c .a (.c .a (.c (.e rfl rfl) (.c (.e rfl rfl) (.c (.e rfl rfl) (.c .a (.c .a (.c .a (.c .a (.c .a (.c .a (.c .a (.c .a (.c .a (.c .a (.c .a (.c .a (.c .a (.c .a (.c .a (.c .a (.c .a (.c .a (.c .a (.c .a (.c .a (.c .a (.c .a (.c .a (.c .a (.c .a (.c .a (.c .a (.c .a (.c .a (.c .a (.c .a (.c .a (.c .a (.c .a (.c .a (.c .a (.c .a .n))))))))))))))))))))))))))))))))))))))))))))))))))) (.r n2 rfl .n)⟩
              ·
                refine rg <| m (mv (.t n6)) u48 <| m (as_ (.t n48)) u3 <| e ?_
                replace hm := sj hm
                subst hm
                have hm := hq8
                exact ⟨j3r7, hm, le [0] (by decide) (.c .a (.c .a (.c .a (.c (.w n0) (.c .a (.c .a (.c .a (.c .a (.c .a (.c .a (.c (.e rfl rfl) (.c (.e rfl rfl) (.c (.e rfl rfl) (.c .a (.c .a (.c .a (.c .a (.c .a (.c .a (.c .a (.c .a (.c .a (.c .a (.c .a (.c .a (.c .a (.c .a (.c .a (.c .a (.c .a (.c .a (.c .a (.c .a (.c .a (.c .a (.c .a (.c .a (.c .a (.c .a (.c .a (.c .a (.c .a (.c .a (.c .a (.c .a (.c .a (.c .a (.c .a (.c .a (.c .a (.c .a .n))))))))))))))))))))))))))))))))))))))))))))))))))) (.r n0 rfl .n)⟩
            ·
              replace hm := cf h12 hm
              refine skp ?_
              replace hm := sj hm
              subst hm
              have hm := hq8
              exact ⟨v0_3r, hm, le [0] (by decide) (.c .a (.c .a (.c .a (.c (.w n0) (.c .a (.c .a (.c .a (.c .a (.c .a (.c .a (.c (.e rfl rfl) (.c (.e rfl rfl) (.c (.e rfl rfl) (.c .a (.c .a (.c .a (.c .a (.c .a (.c .a (.c .a (.c .a (.c .a (.c .a (.c .a (.c .a (.c .a (.c .a (.c .a (.c .a (.c .a (.c .a (.c .a (.c .a (.c .a (.c .a (.c .a (.c .a (.c .a (.c .a (.c .a (.c .a (.c .a (.c .a (.c .a (.c .a (.c .a (.c .a (.c .a (.c .a (.c .a (.c .a .n))))))))))))))))))))))))))))))))))))))))))))))))))) (.r n0 rfl .n)⟩
        ·
          replace hm := sj hm
          subst hm
          have hm := hq5
          exact ⟨j2_3r, hm, le [0] (by decide) (.c .a (.c .a (.c .a (.c (.w n0) (.c .a (.c .a (.c .a (.c .a (.c .a (.c .a (.c (.e rfl rfl) (.c (.e rfl rfl) (.c (.e rfl rfl) (.c .a (.c .a (.c .a (.c .a (.c .a (.c .a (.c .a (.c .a (.c .a (.c .a (.c .a (.c .a (.c .a (.c .a (.c .a (.c .a (.c .a (.c .a (.c .a (.c .a (.c .a (.c .a (.c .a (.c .a (.c .a (.c .a (.c .a (.c .a (.c .a (.c .a (.c .a (.c .a (.c .a (.c .a (.c .a (.c .a (.c .a (.c .a .n))))))))))))))))))))))))))))))))))))))))))))))))))) (.r n0 rfl .n)⟩
      ·
        refine rg <| m (add (.t n12) (.i rfl)) u49 <| m (mv (.t n49)) u12 <| e ?_
        exact ⟨(i0 + 1, j1_3r), hm, le [0] (by decide) (.c .a (.c .a (.c .a (.c (.w n0) (.c .a (.c .a (.c .a (.c .a (.c .a (.c .a (.c (.e rfl rfl) (.c (.e rfl rfl) (.c (.e (wi (by omega)) rfl) (.c .a (.c .a (.c .a (.c .a (.c .a (.c .a (.c .a (.c .a (.c .a (.c .a (.c .a (.c .a (.c .a (.c .a (.c .a (.c .a (.c .a (.c .a (.c .a (.c .a (.c .a (.c .a (.c .a (.c .a (.c .a (.c .a (.c .a (.c .a (.c .a (.c .a (.c .a (.c .a (.c .a (.c .a (.c .a (.c .a (.c .a (.c .a .n))))))))))))))))))))))))))))))))))))))))))))))))))) (.r n0 rfl .n)⟩
    ·
      replace hm := cf h4 hm
      have h4d := of_decide_eq_false h4
      refine ex (x1 ?_)
      replace hm := sj hm
      subst hm
      have hm := hq1
      exact ⟨v0_3r, hm, le [0] (by decide) (.c .a (.c .a (.c .a (.c (.w n0) (.c .a (.c .a (.c .a (.c .a (.c .a (.c .a (.c .a (.c .a (.c .a (.c .a (.c .a (.c .a (.c .a (.c .a (.c .a (.c .a (.c .a (.c .a (.c .a (.c .a (.c .a (.c .a (.c .a (.c .a (.c .a (.c .a (.c .a (.c .a (.c .a (.c .a (.c .a (.c .a (.c .a (.c .a (.c .a (.c .a (.c .a (.c .a (.c .a (.c .a (.c .a (.c .a (.c .a (.c .a (.c .a (.c .a (.c .a .n))))))))))))))))))))))))))))))))))))))))))))))))))) (.r n0 rfl .n)⟩
  ·
    refine sr <| m (mv (.t n3)) u50 <| m (as_ (.t n50)) u2 <| e ?_
    replace hm := sj hm
    subst hm
    exact rt (ret1 (.t n2 (.o n0) .n) rfl)

theorem tot_impl_DevicesOf (log_ : List D.LogEntry) (hp0 : log_.length ≤ 34359738368) : Spec Tryz.prog G0 134 [.slice 6 (log_.map D.LogEntry.V)] (fun v => v = .slice 1 ((devicesOfF log_).map iV)) := sp_impl_DevicesOf log_ _ (t_impl_DevicesOf log_ hp0)

theorem sp_impl_EpochOf (log_ : List D.LogEntry) (r : Int) (hm : m_impl_EpochOf log_ = some r) : Spec Tryz.prog G0 33 [.slice 6 (log_.map D.LogEntry.V)] (fun v => v = .int .i64 r) := by
  rw [m_impl_EpochOf] at hm
  refine enter (l := [.tmp 2]) Tryz.func33 rfl Tryz.ntmps33 rfl T.en33 fun E => ?_
  simp only [List.length_cons, List.length_nil, List.replicate_succ, List.replicate_zero, List.cons_append, List.nil_append, Nat.reduceAdd, Nat.reduceSub]
  refine sr <| m (as_ (.i rfl)) u2 <| e ?_
  refine sr <| m (as_ (.i rfl)) u3 <| e ?_
  refine sq ?_
  refine sr <| m (mv (.t n0)) u6 <| m (lenm (l := log_) (f := D.LogEntry.V) T.s43 (.t n6)) u7 <| m (mv (.i rfl)) u8 <| e ?_
  refine jmb hm (fun j0_3 : Int => ⟨[.any, .any, .any, .int .i64 j0_3, .any, .any, .any, .any, .any, .any, .any, .any, .any, .any, .any, .any, .any, .any, .any], []⟩) (fun _ hm hq1 => ?_) (fun j0_3 hm => ?_)
  ·
    refine bk ?_
    refine lpf (m := m_impl_EpochOf_l0 log_) hm (fun yy2_ : Int × Nat => ⟨[.any, .any, .any, .int .i64 yy2_.1, .any, .any, .slice 6 (log_.map D.LogEntry.V), .int .i64 (log_.length : Int), .int .i64 (yy2_.2 : Int), .any, .any, .any, .any, .any, .any, .any, .any, .any, .any], []⟩) (fun _ => rfl) (le [] (by decide) (.c .a (.c .a (.c .a (.c (.e rfl rfl) (.c .a (.c .a (.c (.e rfl rfl) (.c (.e rfl rfl) (.c (.e rfl rfl) (.c .a (.c .a (.c .a (.c .a (.c .a (.c .a (.c .a (.c .a (.c .a (.c .a .n))))))))))))))))))) .n) ?_
    rintro f ⟨v0_3, i0⟩ hm
    rw [m_impl_EpochOf_l0] at hm
    dsimp only at hm ⊢
    refine sr <| m (lss (.t n8) (.t n7)) u9 <| e ?_
    refine rng n7 fun _ ra3 => ?_
    replace ra3 := (show (_ : Int) ≤ 9223372036854775807 from ra3)
    refine sq ?_
    refine cnd n9 (fun h4 => ?_) (fun h4 => ?_)
    ·
      replace hm := ct h4 hm
      have h4d := of_decide_eq_true h4
      refine skp ?_
      refine sq ?_
      refine jmb hm (fun j1_3 : Int => ⟨[.any, .any, .any, .int .i64 j1_3, .any, .any, .slice 6 (log_.map D.LogEntry.V), .int .i64 (log_.length : Int), .int .i64 (i0 : Int), .any, .any, .any, .any, .any, .any, .any, .any, .any, .any], []⟩) (fun _ hm hq5 => ?_) (fun j1_3 hm => ?_)
      ·
        refine bk ?_
        obtain ⟨z6, e7, hm⟩ := bd_some hm
        refine sr <| m (ixq (f := D.LogEntry.V) e7 T.s43 (.t n6) (.t n8)) u10 <| m (lae T.a125 k6 (.t n10)) u11 <| k (al T.z125 s0 u5) <| k (sta T.a125 rfl rfl n0 (.z (.z (.z (.z (.z (.z .n)))))) q0 (.t n5) (.t n11)) <| e ?_
        refine sr <| m (fab 1 rfl T.f125_1 (.t n5)) u12 <| m (ldb T.o3 n0 n1 (.t n12)) u13 <| m (eql (.t n13) (.i rfl)) u14 <| e ?_
        refine cnd n14 (fun h8 => ?_) (fun h8 => ?_)
        ·
          replace hm := ct h8 hm
          refine rg <| m (mv (.t n3)) u15 <| m (add (.t n15) (.i rfl)) u16 <| m (as_ (.t n16)) u3 <| e ?_
          replace hm := sj hm
          subst hm
          have hm := hq5
          exact ⟨IntKind.i64.wrap (v0_3 + (1 : Int)), hm, le [] (by decide) (.c .a (.c .a (.c .a (.c (.e rfl rfl) (.c .a (.c .a (.c (.e rfl rfl) (.c (.e rfl rfl) (.c (.e rfl rfl) (.c .a (.c .a (.c .a (.c .a (.c .a (.c .a (.c .a (.c .a (.c .a (.c .a .n))))))))))))))))))) .n⟩
        ·
          replace hm := cf h8 hm
          refine skp ?_
          replace hm := sj hm
          subst hm
          have hm := hq5
          exact ⟨v0_3, hm, le [] (by decide) (.c .a (.c .a (.c .a (.c (.e rfl rfl) (.c .a (.c .a (.c (.e rfl rfl) (.c (.e rfl rfl) (.c (.e rfl rfl) (.c .a (.c .a (.c .a (.c .a (.c .a (.c .a (.c .a (.c .a (.c .a (.c .a .n))))))))))))))))))) .n⟩
      ·
        refine rg <| m (add (.t n8) (.i rfl)) u17 <| m (mv (.t n17)) u8 <| e ?_
        exact ⟨(j1_3, i0 + 1), hm, le [] (by decide) (.c .a (.c .a (.c .a (.c (.e rfl rfl) (.c .a (.c .a (.c (.e rfl rfl) (.c (.e rfl rfl) (.c (.e (wi (by omega)) rfl) (.c .a (.c .a (.c .a (.c .a (.c .a (.c .a (.c .a (.c .a (.c .a (.c .a .n))))))))))))))))))) .n⟩
    ·
      replace hm := cf h4 hm
      have h4d := of_decide_eq_false h4
      refine ex (x1 ?_)
      replace hm := sj hm
      subst hm
      have hm := hq1
      exact ⟨v0_3, hm, le [] (by decide) (.c .a (.c .a (.c .a (.c (.e rfl rfl) (.c .a (.c .a (.c .a (.c .a (.c .a (.c .a (.c .a (.c .a (.c .a (.c .a (.c .a (.c .a (.c .a (.c .a (.c .a .n))))))))))))))))))) .n⟩
  ·
    refine sr <| m (mv (.t n3)) u18 <| m (as_ (.t n18)) u2 <| e ?_
    replace hm := sj hm
    subst hm
    exact rt (ret1 (.t n2 (.p rfl) .n) rfl)

theorem tot_impl_EpochOf (log_ : List D.LogEntry)  : Spec Tryz.prog G0 33 [.slice 6 (log_.map D.LogEntry.V)] (fun v => v = .int .i64 (epochOfF log_)) := sp_impl_EpochOf log_ _ (t_impl_EpochOf log_)

theorem sp_spec_InList (w_ : D.World) (device_ : Int) (r : Bool) (hm : m_spec_InList w_ device_ = some r) : Spec Tryz.prog G0 90 [.agg (D.World.V w_), .int .i64 device_] (fun v => v = .bool r) := by
  rw [m_spec_InList] at hm
  refine enter (l := [.tmp 4]) Tryz.func90 rfl Tryz.ntmps90 rfl T.en90 fun E => ?_
  simp only [List.length_cons, List.length_nil, List.replicate_succ, List.replicate_zero, List.cons_append, List.nil_append, Nat.reduceAdd, Nat.reduceSub]
  refine sr <| k (bx rfl s0 u2 (.t n0)) <| m (as_ .b) u4 <| e ?_
  refine sd none [(0, true), (1, true), (2, true), (3, true), (4, true), (5, false), (6, true), (7, true), (8, true), (9, true), (11, true), (12, true), (13, true), (14, true), (15, true), (16, true), (10, false), (17, false), (18, false), (19, true), (20, true)] T.mix (by kernel_rfl) <| rob hm (fun j0_4 : Bool => ⟨[.any, .any, .any, .any, .bool j0_4, .any, .any, .any, .any, .any, .any, .any, .any, .any, .any, .any, .any, .any, .any, .any, .any, .any, .any, .any, .any], []⟩) (fun _ hm hq1 => ?_) (fun j0_4 hm => ?_)
  ·
    refine om n0 (mv (.t n1)) u5 <| om n1 (fab 2 rfl T.f57_2 (.t n2)) u6 <| om n2 (ldb T.o42 n0 n2 (.t n6)) u7 <| om n3 (lenm (l := w_.Devices) (f := D.Device.V) T.s42 (.t n7)) u8 <| om n4 (sub (.t n8) (.i rfl)) u9 <| oc n5 (call (tot_spec_l1In device_ (0 : Int) (IntKind.i64.wrap ((w_.Devices.length : Int) - (1 : Int)))) (.c (.t n5) rfl (.c (.i rfl) rfl (.c (.t n9) rfl .n)))) u10 <| om n6 (mv (.t n10)) u11 <| osp n11 u11 u11 (fun h2 => ?_) (fun h2 => ?_)
    ·
      replace hm := ct h2 hm
      obtain ⟨z3, e4, hm⟩ := bd_some hm
      obtain ⟨c5, hm⟩ := gd_some hm
      refine omg n7 n6 rfl n11 (fab 4 rfl T.f57_4 (.t n2)) u12 <| omg n8 n6 rfl n11 (fab 4 rfl T.f49_0 (.t n12)) u13 <| omg n9 n6 rfl n11 (ldb T.o43 n0 n4 (.t n13)) u14 <| omg n11 n6 rfl n11 (fab 2 rfl T.f57_2 (.t n2)) u16 <| omg n12 n6 rfl n11 (ldb T.o42 n0 n2 (.t n16)) u17 <| omg n13 n6 rfl n11 (mv (.t n1)) u18 <| omg n14 n6 rfl n11 (ixq (f := D.Device.V) e4 T.s42 (.t n17) (.t n18)) u19 <| omg n15 n6 rfl n11 (fae T.f131_0 d0 (.t n19)) u20 <| omg n16 n6 rfl n11 (lae T.a126 k4 (.t n20)) u21 <| ocg n10 n6 rfl n11 (call (tot_spec_DevicesOf w_.Cloud.Log c5) (.c (.t n14) rfl .n)) u15 <| ocg n17 n6 rfl n11 (call (tot_spec_DevicePublic z3.Store) (.c (.t n21) rfl .n)) u22 <| ocg n18 n6 rfl n11 (call (tot_spec_l19Has (devicesOfF w_.Cloud.Log) (devPubF z3.Store)) (.c (.t n15) rfl (.c (.t n22) rfl .n))) u23 <| om n19 (pkt (.t n11) (.t n23)) u24 <| om n20 (as_ (.t n24)) u4 <| oe ?_
      replace hm := sj hm
      subst hm
      have hm := hq1
      exact ⟨(hasF (devicesOfF w_.Cloud.Log) (devPubF z3.Store)), hm, le [] (by decide) (.c .a (.c .a (.c .a (.c .a (.c (.e rfl rfl) (.c .a (.c .a (.c .a (.c .a (.c .a (.c .a (.c .a (.c .a (.c .a (.c .a (.c .a (.c .a (.c .a (.c .a (.c .a (.c .a (.c .a (.c .a (.c .a (.c .a .n))))))))))))))))))))))))) .n⟩
    ·
      replace hm := cf h2 hm
      refine os n7 n6 rfl n11 rfl u12 <| os n8 n6 rfl n11 rfl u13 <| os n9 n6 rfl n11 rfl u14 <| os n11 n6 rfl n11 rfl u16 <| os n12 n6 rfl n11 rfl u17 <| os n13 n6 rfl n11 rfl u18 <| os n14 n6 rfl n11 rfl u19 <| os n15 n6 rfl n11 rfl u20 <| os n16 n6 rfl n11 rfl u21 <| osf n10 n6 rfl n11 rfl u15 <| osf n17 n6 rfl n11 rfl u22 <| osf n18 n6 rfl n11 rfl u23 <| om n19 (pkf (.t n11) .b) u24 <| om n20 (as_ (.t n24)) u4 <| oe ?_
      replace hm := sj hm
      subst hm
      have hm := hq1
      exact ⟨false, hm, le [] (by decide) (.c .a (.c .a (.c .a (.c .a (.c (.e rfl rfl) (.c .a (.c .a (.c .a (.c .a (.c .a (.c .a (.c .a (.c .a (.c .a (.c .a (.c .a (.c .a (.c .a (.c .a (.c .a (.c .a (.c .a (.c .a (.c .a (.c .a .n))))))))))))))))))))))))) .n⟩
  ·
    replace hm := sj hm
    subst hm
    exact rt (ret1 (.t n4 (.p rfl) .n) rfl)

theorem tot_spec_InList (w_ : D.World) (device_ : Int) (hp0 : WOk w_) : Spec Tryz.prog G0 90 [.agg (D.World.V w_), .int .i64 device_] (fun v => v = .bool (inListF w_ device_)) := sp_spec_InList w_ device_ _ (t_spec_InList w_ device_ hp0)

theorem sp_impl_hasDevice (w_ : D.World) (device_ : Int) (r : Bool) (hm : m_impl_hasDevice w_ device_ = some r) : Spec Tryz.prog G0 95 [.agg (D.World.V w_), .int .i64 device_] (fun v => v = .bool r) := by
  rw [m_impl_hasDevice] at hm
  refine enter (l := [.tmp 4]) Tryz.func95 rfl Tryz.ntmps95 rfl T.en95 fun E => ?_
  simp only [List.length_cons, List.length_nil, List.replicate_succ, List.replicate_zero, List.cons_append, List.nil_append, Nat.reduceAdd, Nat.reduceSub]
  refine sr <| k (bx rfl s0 u2 (.t n0)) <| m (as_ .b) u4 <| e ?_
  refine sr <| rjb hm (fun j0_4 : Bool => ⟨[.any, .any, .any, .any, .bool j0_4, .any, .any, .any, .any, .any, .any, .any, .any, .any], []⟩) (fun _ hm hq1 => ?_) (fun j0_4 hm => ?_)
  ·
    refine m (mv (.t n1)) u5 <| m (geq (.t n5) (.i rfl)) u6 <| m (mv (.t n6)) u7 <| sp n7 u7 u7 (fun h2 => ?_) (fun h2 => ?_)
    ·
      replace hm := ct h2 hm
      refine mg n2 rfl n7 (mv (.t n1)) u8 <| mg n2 rfl n7 (fab 2 rfl T.f57_2 (.t n2)) u9 <| mg n2 rfl n7 (ldb T.o42 n0 n2 (.t n9)) u10 <| mg n2 rfl n7 (lenm (l := w_.Devices) (f := D.Device.V) T.s42 (.t n10)) u11 <| mg n2 rfl n7 (lss (.t n8) (.t n11)) u12 <| m (pkt (.t n7) (.t n12)) u13 <| m (as_ (.t n13)) u4 <| e ?_
      replace hm := sj hm
      subst hm
      have hm := hq1
      exact ⟨decide (device_ < (w_.Devices.length : Int)), hm, le [] (by decide) (.c .a (.c .a (.c .a (.c .a (.c (.e rfl rfl) (.c .a (.c .a (.c .a (.c .a (.c .a (.c .a (.c .a (.c .a (.c .a .n)))))))))))))) .n⟩
    ·
      replace hm := cf h2 hm
      refine sk n2 rfl n7 rfl u8 <| sk n2 rfl n7 rfl u9 <| sk n2 rfl n7 rfl u10 <| sk n2 rfl n7 rfl u11 <| sk n2 rfl n7 rfl u12 <| m (pkf (.t n7) .b) u13 <| m (as_ (.t n13)) u4 <| e ?_
      replace hm := sj hm
      subst hm
      have hm := hq1
      exact ⟨false, hm, le [] (by decide) (.c .a (.c .a (.c .a (.c .a (.c (.e rfl rfl) (.c .a (.c .a (.c .a (.c .a (.c .a (.c .a (.c .a (.c .a (.c .a .n)))))))))))))) .n⟩
  ·
    replace hm := sj hm
    subst hm
    exact rt (ret1 (.t n4 (.p rfl) .n) rfl)

theorem tot_impl_hasDevice (w_ : D.World) (device_ : Int)  : Spec Tryz.prog G0 95 [.agg (D.World.V w_), .int .i64 device_] (fun v => v = .bool (hasDevF w_ device_)) := sp_impl_hasDevice w_ device_ _ (t_impl_hasDevice w_ device_)

theorem sp_impl_InList (w_ : D.World) (device_ : Int) (r : Bool) (hm : m_impl_InList w_ device_ = some r) : Spec Tryz.prog G0 93 [.agg (D.World.V w_), .int .i64 device_] (fun v => v = .bool r) := by
  rw [m_impl_InList] at hm
  refine enter (l := [.tmp 4]) Tryz.func93 rfl Tryz.ntmps93 rfl T.en93 fun E => ?_
  simp only [List.length_cons, List.length_nil, List.replicate_succ, List.replicate_zero, List.cons_append, List.nil_append, Nat.reduceAdd, Nat.reduceSub]
  refine sr <| k (bx rfl s0 u2 (.t n0)) <| m (as_ .b) u4 <| e ?_
  refine sd none [(0, true), (1, true), (2, false), (3, true), (4, true), (5, true), (6, true), (8, true), (9, true), (10, true), (11, true), (12, true), (13, true), (7, false), (14, false), (15, false), (16, true), (17, true)] T.mix (by kernel_rfl) <| rob hm (fun j0_4 : Bool => ⟨[.any, .any, .any, .any, .bool j0_4, .any, .any, .any, .any, .any, .any, .any, .any, .any, .any, .any, .any, .any, .any, .any, .any, .any], []⟩) (fun _ hm hq1 => ?_) (fun j0_4 hm => ?_)
  ·
    refine om n0 (lab T.a57 n0 d0 k16 (.t n2)) u5 <| om n1 (mv (.t n1)) u6 <| oc n2 (call (tot_impl_hasDevice w_ device_) (.c (.t n5) rfl (.c (.t n6) rfl .n))) u7 <| om n3 (mv (.t n7)) u8 <| osp n8 u8 u8 (fun h2 => ?_) (fun h2 => ?_)
    ·
      replace hm := ct h2 hm
      obtain ⟨z3, e4, hm⟩ := bd_some hm
      obtain ⟨c5, hm⟩ := gd_some hm
      refine omg n4 n3 rfl n8 (fab 4 rfl T.f57_4 (.t n2)) u9 <| omg n5 n3 rfl n8 (fab 4 rfl T.f49_0 (.t n9)) u10 <| omg n6 n3 rfl n8 (ldb T.o43 n0 n4 (.t n10)) u11 <| omg n8 n3 rfl n8 (fab 2 rfl T.f57_2 (.t n2)) u13 <| omg n9 n3 rfl n8 (ldb T.o42 n0 n2 (.t n13)) u14 <| omg n10 n3 rfl n8 (mv (.t n1)) u15 <| omg n11 n3 rfl n8 (ixq (f := D.Device.V) e4 T.s42 (.t n14) (.t n15)) u16 <| omg n12 n3 rfl n8 (fae T.f131_0 d0 (.t n16)) u17 <| omg n13 n3 rfl n8 (lae T.a126 k4 (.t n17)) u18 <| ocg n7 n3 rfl n8 (call (tot_impl_DevicesOf w_.Cloud.Log c5) (.c (.t n11) rfl .n)) u12 <| ocg n14 n3 rfl n8 (call (tot_impl_DevicePublic z3.Store) (.c (.t n18) rfl .n)) u19 <| ocg n15 n3 rfl n8 (call (tot_impl_has (devicesOfF w_.Cloud.Log) (devPubF z3.Store)) (.c (.t n12) rfl (.c (.t n19) rfl .n))) u20 <| om n16 (pkt (.t n8) (.t n20)) u21 <| om n17 (as_ (.t n21)) u4 <| oe ?_
      replace hm := sj hm
      subst hm
      have hm := hq1
      exact ⟨(hasF (devicesOfF w_.Cloud.Log) (devPubF z3.Store)), hm, le [] (by decide) (.c .a (.c .a (.c .a (.c .a (.c (.e rfl rfl) (.c .a (.c .a (.c .a (.c .a (.c .a (.c .a (.c .a (.c .a (.c .a (.c .a (.c .a (.c .a (.c .a (.c .a (.c .a (.c .a (.c .a .n)))))))))))))))))))))) .n⟩
    ·
      replace hm := cf h2 hm
      refine os n4 n3 rfl n8 rfl u9 <| os n5 n3 rfl n8 rfl u10 <| os n6 n3 rfl n8 rfl u11 <| os n8 n3 rfl n8 rfl u13 <| os n9 n3 rfl n8 rfl u14 <| os n10 n3 rfl n8 rfl u15 <| os n11 n3 rfl n8 rfl u16 <| os n12 n3 rfl n8 rfl u17 <| os n13 n3 rfl n8 rfl u18 <| osf n7 n3 rfl n8 rfl u12 <| osf n14 n3 rfl n8 rfl u19 <| osf n15 n3 rfl n8 rfl u20 <| om n16 (pkf (.t n8) .b) u21 <| om n17 (as_ (.t n21)) u4 <| oe ?_
      replace hm := sj hm
      subst hm
      have hm := hq1
      exact ⟨false, hm, le [] (by decide) (.c .a (.c .a (.c .a (.c .a (.c (.e rfl rfl) (.c .a (.c .a (.c .a (.c .a (.c .a (.c .a (.c .a (.c .a (.c .a (.c .a (.c .a (.c .a (.c .a (.c .a (.c .a (.c .a (.c .a .n)))))))))))))))))))))) .n⟩
  ·
    replace hm := sj hm
    subst hm
    exact rt (ret1 (.t n4 (.p rfl) .n) rfl)

theorem tot_impl_InList (w_ : D.World) (device_ : Int) (hp0 : WOk w_) : Spec Tryz.prog G0 93 [.agg (D.World.V w_), .int .i64 device_] (fun v => v = .bool (inListF w_ device_)) := sp_impl_InList w_ device_ _ (t_impl_InList w_ device_ hp0)

theorem sp_spec_ReachableDevices (w_ : D.World) (r : (List Int)) (hm : m_spec_ReachableDevices w_ = some r) : Spec Tryz.prog G0 59 [.agg (D.World.V w_)] (fun v => v = .slice 1 (r.map iV)) := by
  rw [m_spec_ReachableDevices] at hm
  refine enter (l := [.tmp 2]) Tryz.func59 rfl Tryz.ntmps59 rfl T.en59 fun E => ?_
  simp only [List.length_cons, List.length_nil, List.replicate_succ, List.replicate_zero, List.cons_append, List.nil_append, Nat.reduceAdd, Nat.reduceSub]
  refine sr <| k (bx rfl s0 u1 (.t n0)) <| m (as_ .n) u2 <| e ?_
  refine sr <| k (bom ([] : List Int) iV T.s111 rfl rfl .n rfl s1 u5) <| m (as_ (.t n5)) u3 <| e ?_
  refine sq ?_
  refine sr <| m (as_ (.i rfl)) u4 <| e ?_
  refine jmb hm (fun j0r2 : List Int => ⟨[.any, .any, .any, .own 0, .any, .any, .any, .any, .any, .any, .any, .any, .any, .any, .any, .any, .any, .any, .any, .any, .any, .any, .any, .any, .any, .any, .any, .any, .any, .any, .any, .any, .any, .any, .any, .any], [.row 3 1 (j0r2.map iV)]⟩) (fun _ hm hq1 => ?_) (fun j0r2 hm => ?_)
  ·
    refine bk ?_
    refine lpf (m := m_spec_ReachableDevices_l0 w_) hm (fun yy2_ : Nat × (List Int) => ⟨[.any, .box 0 0, .any, .own 1, .int .i64 (yy2_.1 : Int), .any, .any, .any, .any, .any, .any, .any, .any, .any, .any, .any, .any, .any, .any, .any, .any, .any, .any, .any, .any, .any, .any, .any, .any, .any, .any, .any, .any, .any, .any, .any], [.box 57 [.int .i64 w_.Now, .int .i64 w_.Seed, .slice 9 (w_.Devices.map D.Device.V), .slice 1 (w_.Stolen.map bV), .slice 6 (w_.Cloud.Log.map D.LogEntry.V), .int .i64 w_.Cloud.Boxes.Epoch, .slice 4 (w_.Cloud.Boxes.Boxes.map D.Box.V), .slice 4 (w_.Cloud.History.map D.SealedBundle.V), .slice 6 (w_.Sites.map D.Site.V), .int .i64 w_.Vault.Salt, .int .i64 w_.Vault.Threshold, .int .i64 w_.Vault.Check, .int .i64 w_.Vault.Masked, .slice 7 (w_.Hosts.map D.KeeperHost.V), .int .i64 w_.Pin, .slice 4 (w_.Mail.Notices.map D.Notice.V)], .row 3 1 (yy2_.2.map iV)]⟩) (fun _ => rfl) (le [0, 1] (by decide) (.c .a (.c (.b n0) (.c .a (.c (.w n1) (.c (.e rfl rfl) (.c .a (.c .a (.c .a (.c .a (.c .a (.c .a (.c .a (.c .a (.c .a (.c .a (.c .a (.c .a (.c .a (.c .a (.c .a (.c .a (.c .a (.c .a (.c .a (.c .a (.c .a (.c .a (.c .a (.c .a (.c .a (.c .a (.c .a (.c .a (.c .a (.c .a (.c .a .n)))))))))))))))))))))))))))))))))))) (.b n0 (.c (.e rfl rfl) (.c (.e rfl rfl) (.c (.e rfl rfl) (.c (.e rfl rfl) (.c (.e rfl rfl) (.c (.e rfl rfl) (.c (.e rfl rfl) (.c (.e rfl rfl) (.c (.e rfl rfl) (.c (.e rfl rfl) (.c (.e rfl rfl) (.c (.e rfl rfl) (.c (.e rfl rfl) (.c (.e rfl rfl) (.c (.e rfl rfl) (.c (.e rfl rfl) .n)))))))))))))))) (.r n1 rfl .n))) ?_
    rintro f ⟨i0, v0r2⟩ hm
    rw [m_spec_ReachableDevices_l0] at hm
    dsimp only at hm ⊢
    refine sq ?_
    refine sr <| rjb hm (fun j1_17 : Bool => ⟨[.any, .box 0 0, .any, .own 1, .int .i64 (i0 : Int), .any, .any, .any, .any, .any, .any, .any, .any, .any, .any, .any, .any, .bool j1_17, .any, .any, .any, .any, .any, .any, .any, .any, .any, .any, .any, .any, .any, .any, .any, .any, .any, .any], [.box 57 [.int .i64 w_.Now, .int .i64 w_.Seed, .slice 9 (w_.Devices.map D.Device.V), .slice 1 (w_.Stolen.map bV), .slice 6 (w_.Cloud.Log.map D.LogEntry.V), .int .i64 w_.Cloud.Boxes.Epoch, .slice 4 (w_.Cloud.Boxes.Boxes.map D.Box.V), .slice 4 (w_.Cloud.History.map D.SealedBundle.V), .slice 6 (w_.Sites.map D.Site.V), .int .i64 w_.Vault.Salt, .int .i64 w_.Vault.Threshold, .int .i64 w_.Vault.Check, .int .i64 w_.Vault.Masked, .slice 7 (w_.Hosts.map D.KeeperHost.V), .int .i64 w_.Pin, .slice 4 (w_.Mail.Notices.map D.Notice.V)], .row 3 1 (v0r2.map iV)]⟩) (fun _ hm hq3 => ?_) (fun j1_17 hm => ?_)
    ·
      refine m (mv (.t n4)) u6 <| m (fab 2 rfl T.f57_2 (.t n1)) u7 <| m (ldb T.o42 n0 n2 (.t n7)) u8 <| m (lenm (l := w_.Devices) (f := D.Device.V) T.s42 (.t n8)) u9 <| m (lss (.t n6) (.t n9)) u10 <| m (mv (.t n10)) u11 <| sp n11 u11 u11 (fun h4 => ?_) (fun h4 => ?_)
      ·
        replace hm := ct h4 hm
        refine mg n5 rfl n11 (mv (.t n4)) u12 <| mg n5 rfl n11 (fab 3 rfl T.f57_3 (.t n1)) u13 <| mg n5 rfl n11 (ldb T.o23 n0 n3 (.t n13)) u14 <| mg n5 rfl n11 (lenm (l := w_.Stolen) (f := bV) T.s23 (.t n14)) u15 <| mg n5 rfl n11 (lss (.t n12) (.t n15)) u16 <| m (pkt (.t n11) (.t n16)) u17 <| e ?_
        replace hm := sj hm
        subst hm
        have hm := hq3
        exact ⟨decide ((i0 : Int) < (w_.Stolen.length : Int)), hm, le [0, 1] (by decide) (.c .a (.c (.b n0) (.c .a (.c (.w n1) (.c (.e rfl rfl) (.c .a (.c .a (.c .a (.c .a (.c .a (.c .a (.c .a (.c .a (.c .a (.c .a (.c .a (.c .a (.c (.e rfl rfl) (.c .a (.c .a (.c .a (.c .a (.c .a (.c .a (.c .a (.c .a (.c .a (.c .a (.c .a (.c .a (.c .a (.c .a (.c .a (.c .a (.c .a (.c .a .n)))))))))))))))))))))))))))))))))))) (.b n0 (.c (.e rfl rfl) (.c (.e rfl rfl) (.c (.e rfl rfl) (.c (.e rfl rfl) (.c (.e rfl rfl) (.c (.e rfl rfl) (.c (.e rfl rfl) (.c (.e rfl rfl) (.c (.e rfl rfl) (.c (.e rfl rfl) (.c (.e rfl rfl) (.c (.e rfl rfl) (.c (.e rfl rfl) (.c (.e rfl rfl) (.c (.e rfl rfl) (.c (.e rfl rfl) .n)))))))))))))))) (.r n1 rfl .n))⟩
      ·
        replace hm := cf h4 hm
        refine sk n5 rfl n11 rfl u12 <| sk n5 rfl n11 rfl u13 <| sk n5 rfl n11 rfl u14 <| sk n5 rfl n11 rfl u15 <| sk n5 rfl n11 rfl u16 <| m (pkf (.t n11) .b) u17 <| e ?_
        replace hm := sj hm
        subst hm
        have hm := hq3
        exact ⟨false, hm, le [0, 1] (by decide) (.c .a (.c (.b n0) (.c .a (.c (.w n1) (.c (.e rfl rfl) (.c .a (.c .a (.c .a (.c .a (.c .a (.c .a (.c .a (.c .a (.c .a (.c .a (.c .a (.c .a (.c (.e rfl rfl) (.c .a (.c .a (.c .a (.c .a (.c .a (.c .a (.c .a (.c .a (.c .a (.c .a (.c .a (.c .a (.c .a (.c .a (.c .a (.c .a (.c .a (.c .a .n)))))))))))))))))))))))))))))))))))) (.b n0 (.c (.e rfl rfl) (.c (.e rfl rfl) (.c (.e rfl rfl) (.c (.e rfl rfl) (.c (.e rfl rfl) (.c (.e rfl rfl) (.c (.e rfl rfl) (.c (.e rfl rfl) (.c (.e rfl rfl) (.c (.e rfl rfl) (.c (.e rfl rfl) (.c (.e rfl rfl) (.c (.e rfl rfl) (.c (.e rfl rfl) (.c (.e rfl rfl) (.c (.e rfl rfl) .n)))))))))))))))) (.r n1 rfl .n))⟩
    ·
      refine cnd n17 (fun h5 => ?_) (fun h5 => ?_)
      ·
        replace hm := ct h5 hm
        refine skp ?_
        refine sq ?_
        refine jmb hm (fun j2r2 : List Int => ⟨[.any, .box 0 0, .any, .own 1, .int .i64 (i0 : Int), .any, .any, .any, .any, .any, .any, .any, .any, .any, .any, .any, .any, .any, .any, .any, .any, .any, .any, .any, .any, .any, .any, .any, .any, .any, .any, .any, .any, .any, .any, .any], [.box 57 [.int .i64 w_.Now, .int .i64 w_.Seed, .slice 9 (w_.Devices.map D.Device.V), .slice 1 (w_.Stolen.map bV), .slice 6 (w_.Cloud.Log.map D.LogEntry.V), .int .i64 w_.Cloud.Boxes.Epoch, .slice 4 (w_.Cloud.Boxes.Boxes.map D.Box.V), .slice 4 (w_.Cloud.History.map D.SealedBundle.V), .slice 6 (w_.Sites.map D.Site.V), .int .i64 w_.Vault.Salt, .int .i64 w_.Vault.Threshold, .int .i64 w_.Vault.Check, .int .i64 w_.Vault.Masked, .slice 7 (w_.Hosts.map D.KeeperHost.V), .int .i64 w_.Pin, .slice 4 (w_.Mail.Notices.map D.Notice.V)], .row 3 1 (j2r2.map iV)]⟩) (fun _ hm hq6 => ?_) (fun j2r2 hm => ?_)
        ·
          refine bk ?_
          refine sr <| rjb hm (fun j3_30 : Bool => ⟨[.any, .box 0 0, .any, .own 1, .int .i64 (i0 : Int), .any, .any, .any, .any, .any, .any, .any, .any, .any, .any, .any, .any, .any, .any, .any, .any, .any, .any, .any, .any, .any, .any, .any, .any, .any, .bool j3_30, .any, .any, .any, .any, .any], [.box 57 [.int .i64 w_.Now, .int .i64 w_.Seed, .slice 9 (w_.Devices.map D.Device.V), .slice 1 (w_.Stolen.map bV), .slice 6 (w_.Cloud.Log.map D.LogEntry.V), .int .i64 w_.Cloud.Boxes.Epoch, .slice 4 (w_.Cloud.Boxes.Boxes.map D.Box.V), .slice 4 (w_.Cloud.History.map D.SealedBundle.V), .slice 6 (w_.Sites.map D.Site.V), .int .i64 w_.Vault.Salt, .int .i64 w_.Vault.Threshold, .int .i64 w_.Vault.Check, .int .i64 w_.Vault.Masked, .slice 7 (w_.Hosts.map D.KeeperHost.V), .int .i64 w_.Pin, .slice 4 (w_.Mail.Notices.map D.Notice.V)], .row 3 1 (v0r2.map iV)]⟩) (fun _ hm hq7 => ?_) (fun j3_30 hm => ?_)
          ·
            obtain ⟨c8, hm⟩ := gd_some hm
            refine m (lab T.a57 n0 d0 k16 (.t n1)) u20 <| m (mv (.t n4)) u21 <| c (call (tot_spec_InList w_ (i0 : Int) c8) (.c (.t n20) rfl (.c (.t n21) rfl .n))) u22 <| m (mv (.t n22)) u23 <| sp n23 u23 u23 (fun h9 => ?_) (fun h9 => ?_)
            ·
              replace hm := ct h9 hm
              obtain ⟨z10, e11, hm⟩ := bd_some hm
              refine mg n3 rfl n23 (fab 3 rfl T.f57_3 (.t n1)) u24 <| mg n3 rfl n23 (ldb T.o23 n0 n3 (.t n24)) u25 <| mg n3 rfl n23 (mv (.t n4)) u26 <| mg n3 rfl n23 (ixq (f := bV) e11 T.s23 (.t n25) (.t n26)) u27 <| mg n3 rfl n23 (lde T.o4 n0 (.t n27)) u28 <| mg n3 rfl n23 (not_ (.t n28)) u29 <| m (pkt (.t n23) (.t n29)) u30 <| e ?_
              replace hm := sj hm
              subst hm
              have hm := hq7
              exact ⟨(!z10), hm, le [0, 1] (by decide) (.c .a (.c (.b n0) (.c .a (.c (.w n1) (.c (.e rfl rfl) (.c .a (.c .a (.c .a (.c .a (.c .a (.c .a (.c .a (.c .a (.c .a (.c .a (.c .a (.c .a (.c .a (.c .a (.c .a (.c .a (.c .a (.c .a (.c .a (.c .a (.c .a (.c .a (.c .a (.c .a (.c .a (.c (.e rfl rfl) (.c .a (.c .a (.c .a (.c .a (.c .a .n)))))))))))))))))))))))))))))))))))) (.b n0 (.c (.e rfl rfl) (.c (.e rfl rfl) (.c (.e rfl rfl) (.c (.e rfl rfl) (.c (.e rfl rfl) (.c (.e rfl rfl) (.c (.e rfl rfl) (.c (.e rfl rfl) (.c (.e rfl rfl) (.c (.e rfl rfl) (.c (.e rfl rfl) (.c (.e rfl rfl) (.c (.e rfl rfl) (.c (.e rfl rfl) (.c (.e rfl rfl) (.c (.e rfl rfl) .n)))))))))))))))) (.r n1 rfl .n))⟩
            ·
              replace hm := cf h9 hm
              refine sk n3 rfl n23 rfl u24 <| sk n3 rfl n23 rfl u25 <| sk n3 rfl n23 rfl u26 <| sk n3 rfl n23 rfl u27 <| sk n3 rfl n23 rfl u28 <| sk n3 rfl n23 rfl u29 <| m (pkf (.t n23) .b) u30 <| e ?_
              replace hm := sj hm
              subst hm
              have hm := hq7
              exact ⟨false, hm, le [0, 1] (by decide) (.c .a (.c (.b n0) (.c .a (.c (.w n1) (.c (.e rfl rfl) (.c .a (.c .a (.c .a (.c .a (.c .a (.c .a (.c .a (.c .a (.c .a (.c .a (.c .a (.c .a (.c .a (.c .a (.c .a (.c .a (.c .a (.c .a (.c .a (.c .a (.c .a (.c .a (.c .a (.c .a (.c .a (.c (.e rfl rfl) (.c .a (.c .a (.c .a (.c .a (.c .a .n)))))))))))))))))))))))))))))))))))) (.b n0 (.c (.e rfl rfl) (.c (.e rfl rfl) (.c (.e rfl rfl) (.c (.e rfl rfl) (.c (.e rfl rfl) (.c (.e rfl rfl) (.c (.e rfl rfl) (.c (.e rfl rfl) (.c (.e rfl rfl) (.c (.e rfl rfl) (.c (.e rfl rfl) (.c (.e rfl rfl) (.c (.e rfl rfl) (.c (.e rfl rfl) (.c (.e rfl rfl) (.c (.e rfl rfl) .n)))))))))))))))) (.r n1 rfl .n))⟩
          ·
            refine cnd n30 (fun h12 => ?_) (fun h12 => ?_)
            ·
              replace hm := ct h12 hm
              obtain ⟨c13, hm⟩ := gd_some hm
              refine rg <| m (mv (.t n3)) u31 <| m (mv (.t n4)) u32 <| k (bsm ([(i0 : Int)] : List Int) iV T.s111 rfl rfl (.c (.t n32) rfl rfl rfl .n) rfl u33) <| dr u3 <| k (apm (l := v0r2) (l2 := ([(i0 : Int)] : List Int)) (f := iV) 31 c13 rfl (fun _ => rfl) T.s111 rfl n31 u31 n1 (.t n33) q1 rfl u34) <| m (as_ (.t n34)) u3 <| e ?_
              replace hm := sj hm
              subst hm
              have hm := hq6
              exact ⟨(v0r2 ++ ([(i0 : Int)] : List Int)), hm, le [0, 1] (by decide) (.c .a (.c (.b n0) (.c .a (.c (.w n1) (.c (.e rfl rfl) (.c .a (.c .a (.c .a (.c .a (.c .a (.c .a (.c .a (.c .a (.c .a (.c .a (.c .a (.c .a (.c .a (.c .a (.c .a (.c .a (.c .a (.c .a (.c .a (.c .a (.c .a (.c .a (.c .a (.c .a (.c .a (.c .a (.c .a (.c .a (.c .a (.c .a (.c .a .n)))))))))))))))))))))))))))))))))))) (.b n0 (.c (.e rfl rfl) (.c (.e rfl rfl) (.c (.e rfl rfl) (.c (.e rfl rfl) (.c (.e rfl rfl) (.c (.e rfl rfl) (.c (.e rfl rfl) (.c (.e rfl rfl) (.c (.e rfl rfl) (.c (.e rfl rfl) (.c (.e rfl rfl) (.c (.e rfl rfl) (.c (.e rfl rfl) (.c (.e rfl rfl) (.c (.e rfl rfl) (.c (.e rfl rfl) .n)))))))))))))))) (.r n1 rfl .n))⟩
            ·
              replace hm := cf h12 hm
              refine skp ?_
              replace hm := sj hm
              subst hm
              have hm := hq6
              exact ⟨v0r2, hm, le [0, 1] (by decide) (.c .a (.c (.b n0) (.c .a (.c (.w n1) (.c (.e rfl rfl) (.c .a (.c .a (.c .a (.c .a (.c .a (.c .a (.c .a (.c .a (.c .a (.c .a (.c .a (.c .a (.c .a (.c .a (.c .a (.c .a (.c .a (.c .a (.c .a (.c .a (.c .a (.c .a (.c .a (.c .a (.c .a (.c .a (.c .a (.c .a (.c .a (.c .a (.c .a .n)))))))))))))))))))))))))))))))))))) (.b n0 (.c (.e rfl rfl) (.c (.e rfl rfl) (.c (.e rfl rfl) (.c (.e rfl rfl) (.c (.e rfl rfl) (.c (.e rfl rfl) (.c (.e rfl rfl) (.c (.e rfl rfl) (.c (.e rfl rfl) (.c (.e rfl rfl) (.c (.e rfl rfl) (.c (.e rfl rfl) (.c (.e rfl rfl) (.c (.e rfl rfl) (.c (.e rfl rfl) (.c (.e rfl rfl) .n)))))))))))))))) (.r n1 rfl .n))⟩
        ·
          refine rg <| m (mv (.t n4)) u18 <| m (add (.t n18) (.i rfl)) u19 <| m (as_ (.t n19)) u4 <| e ?_
          obtain ⟨c14, hm⟩ := gd_some hm
          exact ⟨(i0 + 1, j2r2), hm, le [0, 1] (by decide) (.c .a (.c (.b n0) (.c .a (.c (.w n1) (.c (.e (wi c14) rfl) (.c .a (.c .a (.c .a (.c .a (.c .a (.c .a (.c .a (.c .a (.c .a (.c .a (.c .a (.c .a (.c .a (.c .a (.c .a (.c .a (.c .a (.c .a (.c .a (.c .a (.c .a (.c .a (.c .a (.c .a (.c .a (.c .a (.c .a (.c .a (.c .a (.c .a (.c .a .n)))))))))))))))))))))))))))))))))))) (.b n0 (.c (.e rfl rfl) (.c (.e rfl rfl) (.c (.e rfl rfl) (.c (.e rfl rfl) (.c (.e rfl rfl) (.c (.e rfl rfl) (.c (.e rfl rfl) (.c (.e rfl rfl) (.c (.e rfl rfl) (.c (.e rfl rfl) (.c (.e rfl rfl) (.c (.e rfl rfl) (.c (.e rfl rfl) (.c (.e rfl rfl) (.c (.e rfl rfl) (.c (.e rfl rfl) .n)))))))))))))))) (.r n1 rfl .n))⟩
      ·
        replace hm := cf h5 hm
        refine ex (x1 ?_)
        replace hm := sj hm
        subst hm
        have hm := hq1
        exact ⟨v0r2, hm, le [1] (by decide) (.c .a (.c .a (.c .a (.c (.w n0) (.c .a (.c .a (.c .a (.c .a (.c .a (.c .a (.c .a (.c .a (.c .a (.c .a (.c .a (.c .a (.c .a (.c .a (.c .a (.c .a (.c .a (.c .a (.c .a (.c .a (.c .a (.c .a (.c .a (.c .a (.c .a (.c .a (.c .a (.c .a (.c .a (.c .a (.c .a (.c .a .n)))))))))))))))))))))))))))))))))))) (.r n1 rfl .n)⟩
  ·
    refine sr <| m (mv (.t n3)) u35 <| m (as_ (.t n35)) u2 <| e ?_
    replace hm := sj hm
    subst hm
    exact rt (ret1 (.t n2 (.o n0) .n) rfl)

theorem tot_spec_ReachableDevices (w_ : D.World) (hp0 : WOk w_) : Spec Tryz.prog G0 59 [.agg (D.World.V w_)] (fun v => v = .slice 1 ((reachF w_).map iV)) := sp_spec_ReachableDevices w_ _ (t_spec_ReachableDevices w_ hp0)

theorem sp_impl_ReachableDevices (w_ : D.World) (r : (List Int)) (hm : m_impl_ReachableDevices w_ = some r) : Spec Tryz.prog G0 68 [.agg (D.World.V w_)] (fun v => v = .slice 1 (r.map iV)) := by
  rw [m_impl_ReachableDevices] at hm
  refine enter (l := [.tmp 2]) Tryz.func68 rfl Tryz.ntmps68 rfl T.en68 fun E => ?_
  simp only [List.length_cons, List.length_nil, List.replicate_succ, List.replicate_zero, List.cons_append, List.nil_append, Nat.reduceAdd, Nat.reduceSub]
  refine sr <| k (bx rfl s0 u1 (.t n0)) <| m (as_ .n) u2 <| e ?_
  refine sr <| k (bom ([] : List Int) iV T.s111 rfl rfl .n rfl s1 u5) <| m (as_ (.t n5)) u3 <| e ?_
  refine sq ?_
  refine sr <| m (fab 2 rfl T.f57_2 (.t n1)) u6 <| m (ldb T.o42 n0 n2 (.t n6)) u7 <| m (lenm (l := w_.Devices) (f := D.Device.V) T.s42 (.t n7)) u8 <| m (mv (.i rfl)) u9 <| e ?_
  refine jmb hm (fun j0r2 : List Int => ⟨[.any, .any, .any, .own 0, .any, .any, .any, .any, .any, .any, .any, .any, .any, .any, .any, .any, .any, .any, .any, .any, .any, .any, .any, .any, .any, .any, .any, .any, .any, .any, .any, .any, .any, .any, .any, .any], [.row 3 1 (j0r2.map iV)]⟩) (fun _ hm hq1 => ?_) (fun j0r2 hm => ?_)
  ·
    refine bk ?_
    refine lpf (m := m_impl_ReachableDevices_l0 w_) hm (fun yy2_ : Nat × (List Int) => ⟨[.any, .box 0 0, .any, .own 1, .any, .any, .any, .any, .int .i64 (w_.Devices.length : Int), .int .i64 (yy2_.1 : Int), .any, .any, .any, .any, .any, .any, .any, .any, .any, .any, .any, .any, .any, .any, .any, .any, .any, .any, .any, .any, .any, .any, .any, .any, .any, .any], [.box 57 [.int .i64 w_.Now, .int .i64 w_.Seed, .slice 9 (w_.Devices.map D.Device.V), .slice 1 (w_.Stolen.map bV), .slice 6 (w_.Cloud.Log.map D.LogEntry.V), .int .i64 w_.Cloud.Boxes.Epoch, .slice 4 (w_.Cloud.Boxes.Boxes.map D.Box.V), .slice 4 (w_.Cloud.History.map D.SealedBundle.V), .slice 6 (w_.Sites.map D.Site.V), .int .i64 w_.Vault.Salt, .int .i64 w_.Vault.Threshold, .int .i64 w_.Vault.Check, .int .i64 w_.Vault.Masked, .slice 7 (w_.Hosts.map D.KeeperHost.V), .int .i64 w_.Pin, .slice 4 (w_.Mail.Notices.map D.Notice.V)], .row 3 1 (yy2_.2.map iV)]⟩) (fun _ => rfl) (le [0, 1] (by decide) (.c .a (.c (.b n0) (.c .a (.c (.w n1) (.c .a (.c .a (.c .a (.c .a (.c (.e rfl rfl) (.c (.e rfl rfl) (.c .a (.c .a (.c .a (.c .a (.c .a (.c .a (.c .a (.c .a (.c .a (.c .a (.c .a (.c .a (.c .a (.c .a (.c .a (.c .a (.c .a (.c .a (.c .a (.c .a (.c .a (.c .a (.c .a (.c .a (.c .a (.c .a .n)))))))))))))))))))))))))))))))))))) (.b n0 (.c (.e rfl rfl) (.c (.e rfl rfl) (.c (.e rfl rfl) (.c (.e rfl rfl) (.c (.e rfl rfl) (.c (.e rfl rfl) (.c (.e rfl rfl) (.c (.e rfl rfl) (.c (.e rfl rfl) (.c (.e rfl rfl) (.c (.e rfl rfl) (.c (.e rfl rfl) (.c (.e rfl rfl) (.c (.e rfl rfl) (.c (.e rfl rfl) (.c (.e rfl rfl) .n)))))))))))))))) (.r n1 rfl .n))) ?_
    rintro f ⟨i0, v0r2⟩ hm
    rw [m_impl_ReachableDevices_l0] at hm
    dsimp only at hm ⊢
    refine sr <| m (lss (.t n9) (.t n8)) u10 <| e ?_
    refine rng n8 fun _ ra3 => ?_
    replace ra3 := (show (_ : Int) ≤ 9223372036854775807 from ra3)
    refine sq ?_
    refine cnd n10 (fun h4 => ?_) (fun h4 => ?_)
    ·
      replace hm := ct h4 hm
      have h4d := of_decide_eq_true h4
      refine skp ?_
      refine sq ?_
      refine jmb hm (fun j1r2 : List Int => ⟨[.any, .box 0 0, .any, .own 1, .any, .any, .any, .any, .int .i64 (w_.Devices.length : Int), .int .i64 (i0 : Int), .any, .any, .any, .any, .any, .any, .any, .any, .any, .any, .any, .any, .any, .any, .any, .any, .any, .any, .any, .any, .any, .any, .any, .any, .any, .any], [.box 57 [.int .i64 w_.Now, .int .i64 w_.Seed, .slice 9 (w_.Devices.map D.Device.V), .slice 1 (w_.Stolen.map bV), .slice 6 (w_.Cloud.Log.map D.LogEntry.V), .int .i64 w_.Cloud.Boxes.Epoch, .slice 4 (w_.Cloud.Boxes.Boxes.map D.Box.V), .slice 4 (w_.Cloud.History.map D.SealedBundle.V), .slice 6 (w_.Sites.map D.Site.V), .int .i64 w_.Vault.Salt, .int .i64 w_.Vault.Threshold, .int .i64 w_.Vault.Check, .int .i64 w_.Vault.Masked, .slice 7 (w_.Hosts.map D.KeeperHost.V), .int .i64 w_.Pin, .slice 4 (w_.Mail.Notices.map D.Notice.V)], .row 3 1 (j1r2.map iV)]⟩) (fun _ hm hq5 => ?_) (fun j1r2 hm => ?_)
      ·
        refine bk ?_
        refine sr <| m (mv (.t n9)) u11 <| m (as_ (.t n11)) u4 <| e ?_
        refine sr <| rjb hm (fun j2_29 : Bool => ⟨[.any, .box 0 0, .any, .own 1, .int .i64 (i0 : Int), .any, .any, .any, .int .i64 (w_.Devices.length : Int), .int .i64 (i0 : Int), .any, .any, .any, .any, .any, .any, .any, .any, .any, .any, .any, .any, .any, .any, .any, .any, .any, .any, .any, .bool j2_29, .any, .any, .any, .any, .any, .any], [.box 57 [.int .i64 w_.Now, .int .i64 w_.Seed, .slice 9 (w_.Devices.map D.Device.V), .slice 1 (w_.Stolen.map bV), .slice 6 (w_.Cloud.Log.map D.LogEntry.V), .int .i64 w_.Cloud.Boxes.Epoch, .slice 4 (w_.Cloud.Boxes.Boxes.map D.Box.V), .slice 4 (w_.Cloud.History.map D.SealedBundle.V), .slice 6 (w_.Sites.map D.Site.V), .int .i64 w_.Vault.Salt, .int .i64 w_.Vault.Threshold, .int .i64 w_.Vault.Check, .int .i64 w_.Vault.Masked, .slice 7 (w_.Hosts.map D.KeeperHost.V), .int .i64 w_.Pin, .slice 4 (w_.Mail.Notices.map D.Notice.V)], .row 3 1 (v0r2.map iV)]⟩) (fun _ hm hq6 => ?_) (fun j2_29 hm => ?_)
        ·
          obtain ⟨c7, hm⟩ := gd_some hm
          refine m (lab T.a57 n0 d0 k16 (.t n1)) u12 <| m (mv (.t n4)) u13 <| c (call (tot_impl_InList w_ (i0 : Int) c7) (.c (.t n12) rfl (.c (.t n13) rfl .n))) u14 <| m (mv (.t n14)) u15 <| sp n15 u15 u15 (fun h8 => ?_) (fun h8 => ?_)
          ·
            replace hm := ct h8 hm
            refine mg n3 rfl n15 (mv (.t n4)) u16 <| mg n3 rfl n15 (fab 3 rfl T.f57_3 (.t n1)) u17 <| mg n3 rfl n15 (ldb T.o23 n0 n3 (.t n17)) u18 <| mg n3 rfl n15 (lenm (l := w_.Stolen) (f := bV) T.s23 (.t n18)) u19 <| mg n3 rfl n15 (lss (.t n16) (.t n19)) u20 <| m (pkt (.t n15) (.t n20)) u21 <| m (mv (.t n21)) u22 <| sp n22 u22 u22 (fun h9 => ?_) (fun h9 => ?_)
            ·
              replace hm := ct h9 hm
              obtain ⟨z10, e11, hm⟩ := bd_some hm
              refine mg n10 rfl n22 (fab 3 rfl T.f57_3 (.t n1)) u23 <| mg n10 rfl n22 (ldb T.o23 n0 n3 (.t n23)) u24 <| mg n10 rfl n22 (mv (.t n4)) u25 <| mg n10 rfl n22 (ixq (f := bV) e11 T.s23 (.t n24) (.t n25)) u26 <| mg n10 rfl n22 (lde T.o4 n0 (.t n26)) u27 <| mg n10 rfl n22 (not_ (.t n27)) u28 <| m (pkt (.t n22) (.t n28)) u29 <| e ?_
              replace hm := sj hm
              subst hm
              have hm := hq6
              exact ⟨(!z10), hm, le [0, 1] (by decide) (.c .a (.c (.b n0) (.c .a (.c (.w n1) (.c (.e rfl rfl) (.c .a (.c .a (.c .a (.c (.e rfl rfl) (.c (.e rfl rfl) (.c .a (.c .a (.c .a (.c .a (.c .a (.c .a (.c .a (.c .a (.c .a (.c .a (.c .a (.c .a (.c .a (.c .a (.c .a (.c .a (.c .a (.c .a (.c .a (.c (.e rfl rfl) (.c .a (.c .a (.c .a (.c .a (.c .a (.c .a .n)))))))))))))))))))))))))))))))))))) (.b n0 (.c (.e rfl rfl) (.c (.e rfl rfl) (.c (.e rfl rfl) (.c (.e rfl rfl) (.c (.e rfl rfl) (.c (.e rfl rfl) (.c (.e rfl rfl) (.c (.e rfl rfl) (.c (.e rfl rfl) (.c (.e rfl rfl) (.c (.e rfl rfl) (.c (.e rfl rfl) (.c (.e rfl rfl) (.c (.e rfl rfl) (.c (.e rfl rfl) (.c (.e rfl rfl) .n)))))))))))))))) (.r n1 rfl .n))⟩
            ·
              replace hm := cf h9 hm
              refine sk n10 rfl n22 rfl u23 <| sk n10 rfl n22 rfl u24 <| sk n10 rfl n22 rfl u25 <| sk n10 rfl n22 rfl u26 <| sk n10 rfl n22 rfl u27 <| sk n10 rfl n22 rfl u28 <| m (pkf (.t n22) .b) u29 <| e ?_
              replace hm := sj hm
              subst hm
              have hm := hq6
              exact ⟨false, hm, le [0, 1] (by decide) (.c .a (.c (.b n0) (.c .a (.c (.w n1) (.c (.e rfl rfl) (.c .a (.c .a (.c .a (.c (.e rfl rfl) (.c (.e rfl rfl) (.c .a (.c .a (.c .a (.c .a (.c .a (.c .a (.c .a (.c .a (.c .a (.c .a (.c .a (.c .a (.c .a (.c .a (.c .a (.c .a (.c .a (.c .a (.c .a (.c (.e rfl rfl) (.c .a (.c .a (.c .a (.c .a (.c .a (.c .a .n)))))))))))))))))))))))))))))))))))) (.b n0 (.c (.e rfl rfl) (.c (.e rfl rfl) (.c (.e rfl rfl) (.c (.e rfl rfl) (.c (.e rfl rfl) (.c (.e rfl rfl) (.c (.e rfl rfl) (.c (.e rfl rfl) (.c (.e rfl rfl) (.c (.e rfl rfl) (.c (.e rfl rfl) (.c (.e rfl rfl) (.c (.e rfl rfl) (.c (.e rfl rfl) (.c (.e rfl rfl) (.c (.e rfl rfl) .n)))))))))))))))) (.r n1 rfl .n))⟩
          ·
            replace hm := cf h8 hm
            refine sk n3 rfl n15 rfl u16 <| sk n3 rfl n15 rfl u17 <| sk n3 rfl n15 rfl u18 <| sk n3 rfl n15 rfl u19 <| sk n3 rfl n15 rfl u20 <| m (pkf (.t n15) .b) u21 <| m (mv (.t n21)) u22 <| sk n10 rfl n22 rfl u23 <| sk n10 rfl n22 rfl u24 <| sk n10 rfl n22 rfl u25 <| sk n10 rfl n22 rfl u26 <| sk n10 rfl n22 rfl u27 <| sk n10 rfl n22 rfl u28 <| m (pkf (.t n22) .b) u29 <| e ?_
            replace hm := sj hm
            subst hm
            have hm := hq6
            exact ⟨false, hm, le [0, 1] (by decide) (.c .a (.c (.b n0) (.c .a (.c (.w n1) (.c (.e rfl rfl) (.c .a (.c .a (.c .a (.c (.e rfl rfl) (.c (.e rfl rfl) (.c .a (.c .a (.c .a (.c .a (.c .a (.c .a (.c .a (.c .a (.c .a (.c .a (.c .a (.c .a (.c .a (.c .a (.c .a (.c .a (.c .a (.c .a (.c .a (.c (.e rfl rfl) (.c .a (.c .a (.c .a (.c .a (.c .a (.c .a .n)))))))))))))))))))))))))))))))))))) (.b n0 (.c (.e rfl rfl) (.c (.e rfl rfl) (.c (.e rfl rfl) (.c (.e rfl rfl) (.c (.e rfl rfl) (.c (.e rfl rfl) (.c (.e rfl rfl) (.c (.e rfl rfl) (.c (.e rfl rfl) (.c (.e rfl rfl) (.c (.e rfl rfl) (.c (.e rfl rfl) (.c (.e rfl rfl) (.c (.e rfl rfl) (.c (.e rfl rfl) (.c (.e rfl rfl) .n)))))))))))))))) (.r n1 rfl .n))⟩
        ·
          refine cnd n29 (fun h12 => ?_) (fun h12 => ?_)
          ·
            replace hm := ct h12 hm
            obtain ⟨c13, hm⟩ := gd_some hm
            refine rg <| m (mv (.t n3)) u30 <| m (mv (.t n4)) u31 <| k (bsm ([(i0 : Int)] : List Int) iV T.s111 rfl rfl (.c (.t n31) rfl rfl rfl .n) rfl u32) <| dr u3 <| k (apm (l := v0r2) (l2 := ([(i0 : Int)] : List Int)) (f := iV) 30 c13 rfl (fun _ => rfl) T.s111 rfl n30 u30 n1 (.t n32) q1 rfl u33) <| m (as_ (.t n33)) u3 <| e ?_
            replace hm := sj hm
            subst hm
            have hm := hq5
            exact ⟨(v0r2 ++ ([(i0 : Int)] : List Int)), hm, le [0, 1] (by decide) (.c .a (.c (.b n0) (.c .a (.c (.w n1) (.c .a (.c .a (.c .a (.c .a (.c (.e rfl rfl) (.c (.e rfl rfl) (.c .a (.c .a (.c .a (.c .a (.c .a (.c .a (.c .a (.c .a (.c .a (.c .a (.c .a (.c .a (.c .a (.c .a (.c .a (.c .a (.c .a (.c .a (.c .a (.c .a (.c .a (.c .a (.c .a (.c .a (.c .a (.c .a .n)))))))))))))))))))))))))))))))))))) (.b n0 (.c (.e rfl rfl) (.c (.e rfl rfl) (.c (.e rfl rfl) (.c (.e rfl rfl) (.c (.e rfl rfl) (.c (.e rfl rfl) (.c (.e rfl rfl) (.c (.e rfl rfl) (.c (.e rfl rfl) (.c (.e rfl rfl) (.c (.e rfl rfl) (.c (.e rfl rfl) (.c (.e rfl rfl) (.c (.e rfl rfl) (.c (.e rfl rfl) (.c (.e rfl rfl) .n)))))))))))))))) (.r n1 rfl .n))⟩
          ·
            replace hm := cf h12 hm
            refine skp ?_
            replace hm := sj hm
            subst hm
            have hm := hq5
            exact ⟨v0r2, hm, le [0, 1] (by decide) (.c .a (.c (.b n0) (.c .a (.c (.w n1) (.c .a (.c .a (.c .a (.c .a (.c (.e rfl rfl) (.c (.e rfl rfl) (.c .a (.c .a (.c .a (.c .a (.c .a (.c .a (.c .a (.c .a (.c .a (.c .a (.c .a (.c .a (.c .a (.c .a (.c .a (.c .a (.c .a (.c .a (.c .a (.c .a (.c .a (.c .a (.c .a (.c .a (.c .a (.c .a .n)))))))))))))))))))))))))))))))))))) (.b n0 (.c (.e rfl rfl) (.c (.e rfl rfl) (.c (.e rfl rfl) (.c (.e rfl rfl) (.c (.e rfl rfl) (.c (.e rfl rfl) (.c (.e rfl rfl) (.c (.e rfl rfl) (.c (.e rfl rfl) (.c (.e rfl rfl) (.c (.e rfl rfl) (.c (.e rfl rfl) (.c (.e rfl rfl) (.c (.e rfl rfl) (.c (.e rfl rfl) (.c (.e rfl rfl) .n)))))))))))))))) (.r n1 rfl .n))⟩
      ·
        refine rg <| m (add (.t n9) (.i rfl)) u34 <| m (mv (.t n34)) u9 <| e ?_
        exact ⟨(i0 + 1, j1r2), hm, le [0, 1] (by decide) (.c .a (.c (.b n0) (.c .a (.c (.w n1) (.c .a (.c .a (.c .a (.c .a (.c (.e rfl rfl) (.c (.e (wi (by omega)) rfl) (.c .a (.c .a (.c .a (.c .a (.c .a (.c .a (.c .a (.c .a (.c .a (.c .a (.c .a (.c .a (.c .a (.c .a (.c .a (.c .a (.c .a (.c .a (.c .a (.c .a (.c .a (.c .a (.c .a (.c .a (.c .a (.c .a .n)))))))))))))))))))))))))))))))))))) (.b n0 (.c (.e rfl rfl) (.c (.e rfl rfl) (.c (.e rfl rfl) (.c (.e rfl rfl) (.c (.e rfl rfl) (.c (.e rfl rfl) (.c (.e rfl rfl) (.c (.e rfl rfl) (.c (.e rfl rfl) (.c (.e rfl rfl) (.c (.e rfl rfl) (.c (.e rfl rfl) (.c (.e rfl rfl) (.c (.e rfl rfl) (.c (.e rfl rfl) (.c (.e rfl rfl) .n)))))))))))))))) (.r n1 rfl .n))⟩
    ·
      replace hm := cf h4 hm
      have h4d := of_decide_eq_false h4
      refine ex (x1 ?_)
      replace hm := sj hm
      subst hm
      have hm := hq1
      exact ⟨v0r2, hm, le [1] (by decide) (.c .a (.c .a (.c .a (.c (.w n0) (.c .a (.c .a (.c .a (.c .a (.c .a (.c .a (.c .a (.c .a (.c .a (.c .a (.c .a (.c .a (.c .a (.c .a (.c .a (.c .a (.c .a (.c .a (.c .a (.c .a (.c .a (.c .a (.c .a (.c .a (.c .a (.c .a (.c .a (.c .a (.c .a (.c .a (.c .a (.c .a .n)))))))))))))))))))))))))))))))))))) (.r n1 rfl .n)⟩
  ·
    refine sr <| m (mv (.t n3)) u35 <| m (as_ (.t n35)) u2 <| e ?_
    replace hm := sj hm
    subst hm
    exact rt (ret1 (.t n2 (.o n0) .n) rfl)

theorem tot_impl_ReachableDevices (w_ : D.World) (hp0 : WOk w_) : Spec Tryz.prog G0 68 [.agg (D.World.V w_)] (fun v => v = .slice 1 ((reachF w_).map iV)) := sp_impl_ReachableDevices w_ _ (t_impl_ReachableDevices w_ hp0)

theorem sp_spec_CountReachable (w_ : D.World) (r : Int) (hm : m_spec_CountReachable w_ = some r) : Spec Tryz.prog G0 22 [.agg (D.World.V w_)] (fun v => v = .int .i64 r) := by
  rw [m_spec_CountReachable] at hm
  refine enter (l := [.tmp 2]) Tryz.func22 rfl Tryz.ntmps22 rfl T.en22 fun E => ?_
  simp only [List.length_cons, List.length_nil, List.replicate_succ, List.replicate_zero, List.cons_append, List.nil_append, Nat.reduceAdd, Nat.reduceSub]
  refine sr <| k (bx rfl s0 u1 (.t n0)) <| m (as_ (.i rfl)) u2 <| e ?_
  obtain ⟨c1, hm⟩ := gd_some hm
  refine sr <| m (lab T.a57 n0 d0 k16 (.t n1)) u3 <| c (call (tot_spec_ReachableDevices w_ c1) (.c (.t n3) rfl .n)) u4 <| m (lenm (l := (reachF w_)) (f := iV) T.s111 (.t n4)) u5 <| m (as_ (.t n5)) u2 <| e ?_
  replace hm := sj hm
  subst hm
  exact rt (ret1 (.t n2 (.p rfl) .n) rfl)

theorem tot_spec_CountReachable (w_ : D.World) (hp0 : WOk w_) : Spec Tryz.prog G0 22 [.agg (D.World.V w_)] (fun v => v = .int .i64 (countF w_)) := sp_spec_CountReachable w_ _ (t_spec_CountReachable w_ hp0)

theorem sp_impl_CountReachable (w_ : D.World) (r : Int) (hm : m_impl_CountReachable w_ = some r) : Spec Tryz.prog G0 32 [.agg (D.World.V w_)] (fun v => v = .int .i64 r) := by
  rw [m_impl_CountReachable] at hm
  refine enter (l := [.tmp 2]) Tryz.func32 rfl Tryz.ntmps32 rfl T.en32 fun E => ?_
  simp only [List.length_cons, List.length_nil, List.replicate_succ, List.replicate_zero, List.cons_append, List.nil_append, Nat.reduceAdd, Nat.reduceSub]
  refine sr <| k (bx rfl s0 u1 (.t n0)) <| m (as_ (.i rfl)) u2 <| e ?_
  obtain ⟨c1, hm⟩ := gd_some hm
  refine sr <| m (lab T.a57 n0 d0 k16 (.t n1)) u3 <| c (call (tot_impl_ReachableDevices w_ c1) (.c (.t n3) rfl .n)) u4 <| m (lenm (l := (reachF w_)) (f := iV) T.s111 (.t n4)) u5 <| m (as_ (.t n5)) u2 <| e ?_
  replace hm := sj hm
  subst hm
  exact rt (ret1 (.t n2 (.p rfl) .n) rfl)

theorem tot_impl_CountReachable (w_ : D.World) (hp0 : WOk w_) : Spec Tryz.prog G0 32 [.agg (D.World.V w_)] (fun v => v = .int .i64 (countF w_)) := sp_impl_CountReachable w_ _ (t_impl_CountReachable w_ hp0)

theorem sp_spec_FormatWorld (w_ : D.World) (r : ByteArray) (hm : m_spec_FormatWorld w_ = some r) : Spec Tryz.prog G0 7 [.agg (D.World.V w_)] (fun v => v = .str r) := by
  rw [m_spec_FormatWorld] at hm
  refine enter (l := [.tmp 2]) Tryz.func7 rfl Tryz.ntmps7 rfl T.en7 fun E => ?_
  simp only [List.length_cons, List.length_nil, List.replicate_succ, List.replicate_zero, List.cons_append, List.nil_append, Nat.reduceAdd, Nat.reduceSub]
  refine sr <| k (bx rfl s0 u1 (.t n0)) <| m (as_ (.s rfl)) u2 <| e ?_
  obtain ⟨c1, hm⟩ := gd_some hm
  obtain ⟨c2, hm⟩ := gd_some hm
  obtain ⟨c3, hm⟩ := gd_some hm
  obtain ⟨c4, hm⟩ := gd_some hm
  obtain ⟨c5, hm⟩ := gd_some hm
  obtain ⟨c6, hm⟩ := gd_some hm
  obtain ⟨c7, hm⟩ := gd_some hm
  obtain ⟨c8, hm⟩ := gd_some hm
  obtain ⟨c9, hm⟩ := gd_some hm
  refine sd none [(0, true), (1, true), (4, true), (9, true), (10, true), (11, true), (15, true), (16, true), (17, true), (22, true), (23, true), (24, true), (25, true), (2, false), (3, true), (5, false), (6, false), (7, true), (8, true), (12, false), (13, true), (14, true), (18, false), (19, false), (20, true), (21, true), (26, false), (27, true), (28, true)] T.mix (by kernel_rfl) <| om n0 (fab 0 rfl T.f57_0 (.t n1)) u3 <| om n1 (ldb T.o3 n0 n0 (.t n3)) u4 <| om n4 (lab T.a57 n0 d0 k16 (.t n1)) u7 <| om n9 (fab 2 rfl T.f57_2 (.t n1)) u12 <| om n10 (ldb T.o42 n0 n2 (.t n12)) u13 <| om n11 (lenm (l := w_.Devices) (f := D.Device.V) T.s42 (.t n13)) u14 <| om n15 (fab 4 rfl T.f57_4 (.t n1)) u18 <| om n16 (fab 4 rfl T.f49_0 (.t n18)) u19 <| om n17 (ldb T.o43 n0 n4 (.t n19)) u20 <| om n22 (fab 4 rfl T.f57_4 (.t n1)) u25 <| om n23 (fab 7 rfl T.f49_2 (.t n25)) u26 <| om n24 (ldb T.o47 n0 n7 (.t n26)) u27 <| om n25 (lenm (l := w_.Cloud.History) (f := D.SealedBundle.V) T.s47 (.t n27)) u28 <| oc n2 (call (sp_spec_FormatInt w_.Now) (.c (.t n4) rfl .n)) u5 <| om n3 (sadd c1 (.t n5) (.s rfl)) u6 <| oc n5 (call (tot_spec_CountReachable w_ c2) (.c (.t n7) rfl .n)) u8 <| oc n6 (call (sp_spec_FormatInt (countF w_)) (.c (.t n8) rfl .n)) u9 <| om n7 (sadd c3 (.t n6) (.t n9)) u10 <| om n8 (sadd c4 (.t n10) (.s rfl)) u11 <| oc n12 (call (sp_spec_FormatInt (w_.Devices.length : Int)) (.c (.t n14) rfl .n)) u15 <| om n13 (sadd c5 (.t n11) (.t n15)) u16 <| om n14 (sadd c6 (.t n16) (.s rfl)) u17 <| oc n18 (call (tot_spec_EpochOf w_.Cloud.Log) (.c (.t n20) rfl .n)) u21 <| oc n19 (call (sp_spec_FormatInt (epochOfF w_.Cloud.Log)) (.c (.t n21) rfl .n)) u22 <| om n20 (sadd c7 (.t n17) (.t n22)) u23 <| om n21 (sadd c8 (.t n23) (.s rfl)) u24 <| oc n26 (call (sp_spec_FormatInt (w_.Cloud.History.length : Int)) (.c (.t n28) rfl .n)) u29 <| om n27 (sadd c9 (.t n24) (.t n29)) u30 <| om n28 (as_ (.t n30)) u2 <| oe ?_
  replace hm := sj hm
  subst hm
  exact rt (ret1 (.t n2 (.p rfl) .n) rfl)

theorem tot_spec_FormatWorld (w_ : D.World) (hp0 : WOk w_) : Spec Tryz.prog G0 7 [.agg (D.World.V w_)] (fun v => v = .str (fmtWorldF w_)) := sp_spec_FormatWorld w_ _ (t_spec_FormatWorld w_ hp0)

theorem sp_impl_FormatWorld (w_ : D.World) (r : ByteArray) (hm : m_impl_FormatWorld w_ = some r) : Spec Tryz.prog G0 9 [.agg (D.World.V w_)] (fun v => v = .str r) := by
  rw [m_impl_FormatWorld] at hm
  refine enter (l := [.tmp 2]) Tryz.func9 rfl Tryz.ntmps9 rfl T.en9 fun E => ?_
  simp only [List.length_cons, List.length_nil, List.replicate_succ, List.replicate_zero, List.cons_append, List.nil_append, Nat.reduceAdd, Nat.reduceSub]
  refine sr <| k (bx rfl s0 u1 (.t n0)) <| m (as_ (.s rfl)) u2 <| e ?_
  obtain ⟨c1, hm⟩ := gd_some hm
  obtain ⟨c2, hm⟩ := gd_some hm
  obtain ⟨c3, hm⟩ := gd_some hm
  obtain ⟨c4, hm⟩ := gd_some hm
  obtain ⟨c5, hm⟩ := gd_some hm
  obtain ⟨c6, hm⟩ := gd_some hm
  obtain ⟨c7, hm⟩ := gd_some hm
  obtain ⟨c8, hm⟩ := gd_some hm
  obtain ⟨c9, hm⟩ := gd_some hm
  refine sd none [(0, true), (1, true), (4, true), (9, true), (10, true), (11, true), (15, true), (16, true), (17, true), (22, true), (23, true), (24, true), (25, true), (2, false), (3, true), (5, false), (6, false), (7, true), (8, true), (12, false), (13, true), (14, true), (18, false), (19, false), (20, true), (21, true), (26, false), (27, true), (28, true)] T.mix (by kernel_rfl) <| om n0 (fab 0 rfl T.f57_0 (.t n1)) u3 <| om n1 (ldb T.o3 n0 n0 (.t n3)) u4 <| om n4 (lab T.a57 n0 d0 k16 (.t n1)) u7 <| om n9 (fab 2 rfl T.f57_2 (.t n1)) u12 <| om n10 (ldb T.o42 n0 n2 (.t n12)) u13 <| om n11 (lenm (l := w_.Devices) (f := D.Device.V) T.s42 (.t n13)) u14 <| om n15 (fab 4 rfl T.f57_4 (.t n1)) u18 <| om n16 (fab 4 rfl T.f49_0 (.t n18)) u19 <| om n17 (ldb T.o43 n0 n4 (.t n19)) u20 <| om n22 (fab 4 rfl T.f57_4 (.t n1)) u25 <| om n23 (fab 7 rfl T.f49_2 (.t n25)) u26 <| om n24 (ldb T.o47 n0 n7 (.t n26)) u27 <| om n25 (lenm (l := w_.Cloud.History) (f := D.SealedBundle.V) T.s47 (.t n27)) u28 <| oc n2 (call (tot_impl_FormatInt w_.Now) (.c (.t n4) rfl .n)) u5 <| om n3 (sadd c1 (.t n5) (.s rfl)) u6 <| oc n5 (call (tot_impl_CountReachable w_ c2) (.c (.t n7) rfl .n)) u8 <| oc n6 (call (tot_impl_FormatInt (countF w_)) (.c (.t n8) rfl .n)) u9 <| om n7 (sadd c3 (.t n6) (.t n9)) u10 <| om n8 (sadd c4 (.t n10) (.s rfl)) u11 <| oc n12 (call (tot_impl_FormatInt (w_.Devices.length : Int)) (.c (.t n14) rfl .n)) u15 <| om n13 (sadd c5 (.t n11) (.t n15)) u16 <| om n14 (sadd c6 (.t n16) (.s rfl)) u17 <| oc n18 (call (tot_impl_EpochOf w_.Cloud.Log) (.c (.t n20) rfl .n)) u21 <| oc n19 (call (tot_impl_FormatInt (epochOfF w_.Cloud.Log)) (.c (.t n21) rfl .n)) u22 <| om n20 (sadd c7 (.t n17) (.t n22)) u23 <| om n21 (sadd c8 (.t n23) (.s rfl)) u24 <| oc n26 (call (tot_impl_FormatInt (w_.Cloud.History.length : Int)) (.c (.t n28) rfl .n)) u29 <| om n27 (sadd c9 (.t n24) (.t n29)) u30 <| om n28 (as_ (.t n30)) u2 <| oe ?_
  replace hm := sj hm
  subst hm
  exact rt (ret1 (.t n2 (.p rfl) .n) rfl)

theorem tot_impl_FormatWorld (w_ : D.World) (hp0 : WOk w_) : Spec Tryz.prog G0 9 [.agg (D.World.V w_)] (fun v => v = .str (fmtWorldF w_)) := sp_impl_FormatWorld w_ _ (t_impl_FormatWorld w_ hp0)
end Go.VK
