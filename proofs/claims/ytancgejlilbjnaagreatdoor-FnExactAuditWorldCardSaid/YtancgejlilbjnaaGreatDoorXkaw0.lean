/-
  Printed by wip/tools (own work of this part): models of functions, walks over the value kit, and proofs.
-/
import Derived.Test.YtancgejlilbjnaaGreatDoorXmaw
import Derived.Test.YtancgejlilbjnaaGreatDoorProg
import Derived.Test.YtancgejlilbjnaaGreatDoorRows
import Derived.Test.YtancgejlilbjnaaGreatDoorTryzShelf
set_option linter.unusedVariables false
set_option linter.unusedSimpArgs false
set_option maxRecDepth 100000
set_option maxHeartbeats 4000000
namespace Go.VK
open Go.RowKit Go.Proofs
abbrev G0 : GI := GMax 0
theorem sp_strings_Split (s sep : ByteArray) (h1 : s.size < 4294967281) (h2 : 1 ≤ sep.size) : Spec Tryz.prog G0 303 [.str s, .str sep] (fun r => r = .slice 1 ((splitF s sep).map sV)) :=
  spec_split (fun args w => by kernel_rfl) (fun s sep m w a b c => Tryz.strings_Split s sep m w a b c) s sep h1 h2
theorem sp_strings_JoinL (l : List ByteArray) (sep : ByteArray) (h0 : 0 < l.length) (hsz : (joinB sep l).size ≤ 140737488355328) (hln : l.length ≤ 140737488355328) : Spec Tryz.prog G0 304 [.slice 1 (l.map sV), .str sep] (fun r => r = .str (joinB sep l)) :=
  spec_join (fun args w => by kernel_rfl) Tryz.strings_Join l sep (by intro h; rw [h] at h0; simp at h0) hsz hln
theorem T.a113 : aggB Tryz.prog 113 4 = true := by kernel_rfl
theorem T.a116 : aggB Tryz.prog 116 1 = true := by kernel_rfl
theorem T.a118 : aggB Tryz.prog 118 9 = true := by kernel_rfl
theorem T.a122 : aggB Tryz.prog 122 4 = true := by kernel_rfl
theorem T.a125 : aggB Tryz.prog 125 1 = true := by kernel_rfl
theorem T.a127 : aggB Tryz.prog 127 9 = true := by kernel_rfl
theorem T.a135 : aggB Tryz.prog 135 3 = true := by kernel_rfl
theorem T.a137 : aggB Tryz.prog 137 6 = true := by kernel_rfl
theorem T.a139 : aggB Tryz.prog 139 2 = true := by kernel_rfl
theorem T.a141 : aggB Tryz.prog 141 5 = true := by kernel_rfl
theorem T.a144 : aggB Tryz.prog 144 7 = true := by kernel_rfl
theorem T.a150 : aggB Tryz.prog 150 3 = true := by kernel_rfl
theorem T.a152 : aggB Tryz.prog 152 6 = true := by kernel_rfl
theorem T.a174 : aggB Tryz.prog 174 3 = true := by kernel_rfl
theorem T.a176 : aggB Tryz.prog 176 4 = true := by kernel_rfl
theorem T.a209 : aggB Tryz.prog 209 4 = true := by kernel_rfl
theorem T.a217 : aggB Tryz.prog 217 4 = true := by kernel_rfl
theorem T.a220 : aggB Tryz.prog 220 6 = true := by kernel_rfl
theorem T.a224 : aggB Tryz.prog 224 6 = true := by kernel_rfl
theorem T.a226 : aggB Tryz.prog 226 4 = true := by kernel_rfl
theorem T.a234 : aggB Tryz.prog 234 4 = true := by kernel_rfl
theorem T.a264 : aggB Tryz.prog 264 4 = true := by kernel_rfl
theorem T.a269 : aggB Tryz.prog 269 3 = true := by kernel_rfl
theorem T.a27 : aggB Tryz.prog 27 2 = true := by kernel_rfl
theorem T.a283 : aggB Tryz.prog 283 4 = true := by kernel_rfl
theorem T.a287 : aggB Tryz.prog 287 3 = true := by kernel_rfl
theorem T.a293 : aggB Tryz.prog 293 4 = true := by kernel_rfl
theorem T.a30 : aggB Tryz.prog 30 4 = true := by kernel_rfl
theorem T.a315 : aggB Tryz.prog 315 4 = true := by kernel_rfl
theorem T.a318 : aggB Tryz.prog 318 3 = true := by kernel_rfl
theorem T.a328 : aggB Tryz.prog 328 4 = true := by kernel_rfl
theorem T.a33 : aggB Tryz.prog 33 4 = true := by kernel_rfl
theorem T.a37 : aggB Tryz.prog 37 1 = true := by kernel_rfl
theorem T.a39 : aggB Tryz.prog 39 16 = true := by kernel_rfl
theorem T.a46 : aggB Tryz.prog 46 2 = true := by kernel_rfl
theorem T.a49 : aggB Tryz.prog 49 4 = true := by kernel_rfl
theorem T.a51 : aggB Tryz.prog 51 4 = true := by kernel_rfl
theorem T.a55 : aggB Tryz.prog 55 1 = true := by kernel_rfl
theorem T.a57 : aggB Tryz.prog 57 16 = true := by kernel_rfl
theorem T.a76 : aggB Tryz.prog 76 2 = true := by kernel_rfl
theorem T.a78 : aggB Tryz.prog 78 5 = true := by kernel_rfl
theorem T.a81 : aggB Tryz.prog 81 7 = true := by kernel_rfl
theorem T.en10 (args : Array Value) (w : World) : (callFunc 10 args).run Tryz.prog w = .ok (.enter 10 args) w := by kernel_rfl
theorem T.en100 (args : Array Value) (w : World) : (callFunc 100 args).run Tryz.prog w = .ok (.enter 100 args) w := by kernel_rfl
theorem T.en101 (args : Array Value) (w : World) : (callFunc 101 args).run Tryz.prog w = .ok (.enter 101 args) w := by kernel_rfl
theorem T.en102 (args : Array Value) (w : World) : (callFunc 102 args).run Tryz.prog w = .ok (.enter 102 args) w := by kernel_rfl
theorem T.en103 (args : Array Value) (w : World) : (callFunc 103 args).run Tryz.prog w = .ok (.enter 103 args) w := by kernel_rfl
theorem T.en104 (args : Array Value) (w : World) : (callFunc 104 args).run Tryz.prog w = .ok (.enter 104 args) w := by kernel_rfl
theorem T.en105 (args : Array Value) (w : World) : (callFunc 105 args).run Tryz.prog w = .ok (.enter 105 args) w := by kernel_rfl
theorem T.en106 (args : Array Value) (w : World) : (callFunc 106 args).run Tryz.prog w = .ok (.enter 106 args) w := by kernel_rfl
theorem T.en107 (args : Array Value) (w : World) : (callFunc 107 args).run Tryz.prog w = .ok (.enter 107 args) w := by kernel_rfl
theorem T.en108 (args : Array Value) (w : World) : (callFunc 108 args).run Tryz.prog w = .ok (.enter 108 args) w := by kernel_rfl
theorem T.en109 (args : Array Value) (w : World) : (callFunc 109 args).run Tryz.prog w = .ok (.enter 109 args) w := by kernel_rfl
theorem T.en110 (args : Array Value) (w : World) : (callFunc 110 args).run Tryz.prog w = .ok (.enter 110 args) w := by kernel_rfl
theorem T.en111 (args : Array Value) (w : World) : (callFunc 111 args).run Tryz.prog w = .ok (.enter 111 args) w := by kernel_rfl
theorem T.en112 (args : Array Value) (w : World) : (callFunc 112 args).run Tryz.prog w = .ok (.enter 112 args) w := by kernel_rfl
theorem T.en113 (args : Array Value) (w : World) : (callFunc 113 args).run Tryz.prog w = .ok (.enter 113 args) w := by kernel_rfl
theorem T.en114 (args : Array Value) (w : World) : (callFunc 114 args).run Tryz.prog w = .ok (.enter 114 args) w := by kernel_rfl
theorem T.en115 (args : Array Value) (w : World) : (callFunc 115 args).run Tryz.prog w = .ok (.enter 115 args) w := by kernel_rfl
theorem T.en116 (args : Array Value) (w : World) : (callFunc 116 args).run Tryz.prog w = .ok (.enter 116 args) w := by kernel_rfl
theorem T.en117 (args : Array Value) (w : World) : (callFunc 117 args).run Tryz.prog w = .ok (.enter 117 args) w := by kernel_rfl
theorem T.en118 (args : Array Value) (w : World) : (callFunc 118 args).run Tryz.prog w = .ok (.enter 118 args) w := by kernel_rfl
theorem T.en119 (args : Array Value) (w : World) : (callFunc 119 args).run Tryz.prog w = .ok (.enter 119 args) w := by kernel_rfl
theorem T.en12 (args : Array Value) (w : World) : (callFunc 12 args).run Tryz.prog w = .ok (.enter 12 args) w := by kernel_rfl
theorem T.en120 (args : Array Value) (w : World) : (callFunc 120 args).run Tryz.prog w = .ok (.enter 120 args) w := by kernel_rfl
theorem T.en13 (args : Array Value) (w : World) : (callFunc 13 args).run Tryz.prog w = .ok (.enter 13 args) w := by kernel_rfl
theorem T.en14 (args : Array Value) (w : World) : (callFunc 14 args).run Tryz.prog w = .ok (.enter 14 args) w := by kernel_rfl
theorem T.en152 (args : Array Value) (w : World) : (callFunc 152 args).run Tryz.prog w = .ok (.enter 152 args) w := by kernel_rfl
theorem T.en153 (args : Array Value) (w : World) : (callFunc 153 args).run Tryz.prog w = .ok (.enter 153 args) w := by kernel_rfl
theorem T.en157 (args : Array Value) (w : World) : (callFunc 157 args).run Tryz.prog w = .ok (.enter 157 args) w := by kernel_rfl
theorem T.en158 (args : Array Value) (w : World) : (callFunc 158 args).run Tryz.prog w = .ok (.enter 158 args) w := by kernel_rfl
theorem T.en159 (args : Array Value) (w : World) : (callFunc 159 args).run Tryz.prog w = .ok (.enter 159 args) w := by kernel_rfl
theorem T.en169 (args : Array Value) (w : World) : (callFunc 169 args).run Tryz.prog w = .ok (.enter 169 args) w := by kernel_rfl
theorem T.en170 (args : Array Value) (w : World) : (callFunc 170 args).run Tryz.prog w = .ok (.enter 170 args) w := by kernel_rfl
theorem T.en171 (args : Array Value) (w : World) : (callFunc 171 args).run Tryz.prog w = .ok (.enter 171 args) w := by kernel_rfl
theorem T.en172 (args : Array Value) (w : World) : (callFunc 172 args).run Tryz.prog w = .ok (.enter 172 args) w := by kernel_rfl
theorem T.en173 (args : Array Value) (w : World) : (callFunc 173 args).run Tryz.prog w = .ok (.enter 173 args) w := by kernel_rfl
theorem T.en174 (args : Array Value) (w : World) : (callFunc 174 args).run Tryz.prog w = .ok (.enter 174 args) w := by kernel_rfl
theorem T.en175 (args : Array Value) (w : World) : (callFunc 175 args).run Tryz.prog w = .ok (.enter 175 args) w := by kernel_rfl
theorem T.en176 (args : Array Value) (w : World) : (callFunc 176 args).run Tryz.prog w = .ok (.enter 176 args) w := by kernel_rfl
theorem T.en177 (args : Array Value) (w : World) : (callFunc 177 args).run Tryz.prog w = .ok (.enter 177 args) w := by kernel_rfl
theorem T.en178 (args : Array Value) (w : World) : (callFunc 178 args).run Tryz.prog w = .ok (.enter 178 args) w := by kernel_rfl
theorem T.en179 (args : Array Value) (w : World) : (callFunc 179 args).run Tryz.prog w = .ok (.enter 179 args) w := by kernel_rfl
theorem T.en180 (args : Array Value) (w : World) : (callFunc 180 args).run Tryz.prog w = .ok (.enter 180 args) w := by kernel_rfl
theorem T.en181 (args : Array Value) (w : World) : (callFunc 181 args).run Tryz.prog w = .ok (.enter 181 args) w := by kernel_rfl
theorem T.en182 (args : Array Value) (w : World) : (callFunc 182 args).run Tryz.prog w = .ok (.enter 182 args) w := by kernel_rfl
theorem T.en183 (args : Array Value) (w : World) : (callFunc 183 args).run Tryz.prog w = .ok (.enter 183 args) w := by kernel_rfl
theorem T.en184 (args : Array Value) (w : World) : (callFunc 184 args).run Tryz.prog w = .ok (.enter 184 args) w := by kernel_rfl
theorem T.en185 (args : Array Value) (w : World) : (callFunc 185 args).run Tryz.prog w = .ok (.enter 185 args) w := by kernel_rfl
theorem T.en186 (args : Array Value) (w : World) : (callFunc 186 args).run Tryz.prog w = .ok (.enter 186 args) w := by kernel_rfl
theorem T.en187 (args : Array Value) (w : World) : (callFunc 187 args).run Tryz.prog w = .ok (.enter 187 args) w := by kernel_rfl
theorem T.en188 (args : Array Value) (w : World) : (callFunc 188 args).run Tryz.prog w = .ok (.enter 188 args) w := by kernel_rfl
theorem T.en189 (args : Array Value) (w : World) : (callFunc 189 args).run Tryz.prog w = .ok (.enter 189 args) w := by kernel_rfl
theorem T.en190 (args : Array Value) (w : World) : (callFunc 190 args).run Tryz.prog w = .ok (.enter 190 args) w := by kernel_rfl
theorem T.en191 (args : Array Value) (w : World) : (callFunc 191 args).run Tryz.prog w = .ok (.enter 191 args) w := by kernel_rfl
theorem T.en192 (args : Array Value) (w : World) : (callFunc 192 args).run Tryz.prog w = .ok (.enter 192 args) w := by kernel_rfl
theorem T.en193 (args : Array Value) (w : World) : (callFunc 193 args).run Tryz.prog w = .ok (.enter 193 args) w := by kernel_rfl
theorem T.en194 (args : Array Value) (w : World) : (callFunc 194 args).run Tryz.prog w = .ok (.enter 194 args) w := by kernel_rfl
theorem T.en195 (args : Array Value) (w : World) : (callFunc 195 args).run Tryz.prog w = .ok (.enter 195 args) w := by kernel_rfl
theorem T.en196 (args : Array Value) (w : World) : (callFunc 196 args).run Tryz.prog w = .ok (.enter 196 args) w := by kernel_rfl
theorem T.en197 (args : Array Value) (w : World) : (callFunc 197 args).run Tryz.prog w = .ok (.enter 197 args) w := by kernel_rfl
theorem T.en198 (args : Array Value) (w : World) : (callFunc 198 args).run Tryz.prog w = .ok (.enter 198 args) w := by kernel_rfl
theorem T.en199 (args : Array Value) (w : World) : (callFunc 199 args).run Tryz.prog w = .ok (.enter 199 args) w := by kernel_rfl
theorem T.en200 (args : Array Value) (w : World) : (callFunc 200 args).run Tryz.prog w = .ok (.enter 200 args) w := by kernel_rfl
theorem T.en201 (args : Array Value) (w : World) : (callFunc 201 args).run Tryz.prog w = .ok (.enter 201 args) w := by kernel_rfl
theorem T.en202 (args : Array Value) (w : World) : (callFunc 202 args).run Tryz.prog w = .ok (.enter 202 args) w := by kernel_rfl
theorem T.en203 (args : Array Value) (w : World) : (callFunc 203 args).run Tryz.prog w = .ok (.enter 203 args) w := by kernel_rfl
theorem T.en204 (args : Array Value) (w : World) : (callFunc 204 args).run Tryz.prog w = .ok (.enter 204 args) w := by kernel_rfl
theorem T.en205 (args : Array Value) (w : World) : (callFunc 205 args).run Tryz.prog w = .ok (.enter 205 args) w := by kernel_rfl
theorem T.en206 (args : Array Value) (w : World) : (callFunc 206 args).run Tryz.prog w = .ok (.enter 206 args) w := by kernel_rfl
theorem T.en207 (args : Array Value) (w : World) : (callFunc 207 args).run Tryz.prog w = .ok (.enter 207 args) w := by kernel_rfl
theorem T.en208 (args : Array Value) (w : World) : (callFunc 208 args).run Tryz.prog w = .ok (.enter 208 args) w := by kernel_rfl
theorem T.en209 (args : Array Value) (w : World) : (callFunc 209 args).run Tryz.prog w = .ok (.enter 209 args) w := by kernel_rfl
theorem T.en210 (args : Array Value) (w : World) : (callFunc 210 args).run Tryz.prog w = .ok (.enter 210 args) w := by kernel_rfl
theorem T.en211 (args : Array Value) (w : World) : (callFunc 211 args).run Tryz.prog w = .ok (.enter 211 args) w := by kernel_rfl
theorem T.en212 (args : Array Value) (w : World) : (callFunc 212 args).run Tryz.prog w = .ok (.enter 212 args) w := by kernel_rfl
theorem T.en213 (args : Array Value) (w : World) : (callFunc 213 args).run Tryz.prog w = .ok (.enter 213 args) w := by kernel_rfl
theorem T.en214 (args : Array Value) (w : World) : (callFunc 214 args).run Tryz.prog w = .ok (.enter 214 args) w := by kernel_rfl
theorem T.en215 (args : Array Value) (w : World) : (callFunc 215 args).run Tryz.prog w = .ok (.enter 215 args) w := by kernel_rfl
theorem T.en216 (args : Array Value) (w : World) : (callFunc 216 args).run Tryz.prog w = .ok (.enter 216 args) w := by kernel_rfl
theorem T.en217 (args : Array Value) (w : World) : (callFunc 217 args).run Tryz.prog w = .ok (.enter 217 args) w := by kernel_rfl
theorem T.en218 (args : Array Value) (w : World) : (callFunc 218 args).run Tryz.prog w = .ok (.enter 218 args) w := by kernel_rfl
theorem T.en219 (args : Array Value) (w : World) : (callFunc 219 args).run Tryz.prog w = .ok (.enter 219 args) w := by kernel_rfl
theorem T.en23 (args : Array Value) (w : World) : (callFunc 23 args).run Tryz.prog w = .ok (.enter 23 args) w := by kernel_rfl
theorem T.en238 (args : Array Value) (w : World) : (callFunc 238 args).run Tryz.prog w = .ok (.enter 238 args) w := by kernel_rfl
theorem T.en24 (args : Array Value) (w : World) : (callFunc 24 args).run Tryz.prog w = .ok (.enter 24 args) w := by kernel_rfl
theorem T.en242 (args : Array Value) (w : World) : (callFunc 242 args).run Tryz.prog w = .ok (.enter 242 args) w := by kernel_rfl
theorem T.en25 (args : Array Value) (w : World) : (callFunc 25 args).run Tryz.prog w = .ok (.enter 25 args) w := by kernel_rfl
theorem T.en254 (args : Array Value) (w : World) : (callFunc 254 args).run Tryz.prog w = .ok (.enter 254 args) w := by kernel_rfl
theorem T.en255 (args : Array Value) (w : World) : (callFunc 255 args).run Tryz.prog w = .ok (.enter 255 args) w := by kernel_rfl
theorem T.en256 (args : Array Value) (w : World) : (callFunc 256 args).run Tryz.prog w = .ok (.enter 256 args) w := by kernel_rfl
theorem T.en257 (args : Array Value) (w : World) : (callFunc 257 args).run Tryz.prog w = .ok (.enter 257 args) w := by kernel_rfl
theorem T.en258 (args : Array Value) (w : World) : (callFunc 258 args).run Tryz.prog w = .ok (.enter 258 args) w := by kernel_rfl
theorem T.en259 (args : Array Value) (w : World) : (callFunc 259 args).run Tryz.prog w = .ok (.enter 259 args) w := by kernel_rfl
theorem T.en26 (args : Array Value) (w : World) : (callFunc 26 args).run Tryz.prog w = .ok (.enter 26 args) w := by kernel_rfl
theorem T.en260 (args : Array Value) (w : World) : (callFunc 260 args).run Tryz.prog w = .ok (.enter 260 args) w := by kernel_rfl
theorem T.en261 (args : Array Value) (w : World) : (callFunc 261 args).run Tryz.prog w = .ok (.enter 261 args) w := by kernel_rfl
theorem T.en262 (args : Array Value) (w : World) : (callFunc 262 args).run Tryz.prog w = .ok (.enter 262 args) w := by kernel_rfl
theorem T.en263 (args : Array Value) (w : World) : (callFunc 263 args).run Tryz.prog w = .ok (.enter 263 args) w := by kernel_rfl
theorem T.en264 (args : Array Value) (w : World) : (callFunc 264 args).run Tryz.prog w = .ok (.enter 264 args) w := by kernel_rfl
theorem T.en265 (args : Array Value) (w : World) : (callFunc 265 args).run Tryz.prog w = .ok (.enter 265 args) w := by kernel_rfl
theorem T.en266 (args : Array Value) (w : World) : (callFunc 266 args).run Tryz.prog w = .ok (.enter 266 args) w := by kernel_rfl
theorem T.en267 (args : Array Value) (w : World) : (callFunc 267 args).run Tryz.prog w = .ok (.enter 267 args) w := by kernel_rfl
theorem T.en268 (args : Array Value) (w : World) : (callFunc 268 args).run Tryz.prog w = .ok (.enter 268 args) w := by kernel_rfl
theorem T.en269 (args : Array Value) (w : World) : (callFunc 269 args).run Tryz.prog w = .ok (.enter 269 args) w := by kernel_rfl
theorem T.en27 (args : Array Value) (w : World) : (callFunc 27 args).run Tryz.prog w = .ok (.enter 27 args) w := by kernel_rfl
theorem T.en270 (args : Array Value) (w : World) : (callFunc 270 args).run Tryz.prog w = .ok (.enter 270 args) w := by kernel_rfl
theorem T.en271 (args : Array Value) (w : World) : (callFunc 271 args).run Tryz.prog w = .ok (.enter 271 args) w := by kernel_rfl
theorem T.en272 (args : Array Value) (w : World) : (callFunc 272 args).run Tryz.prog w = .ok (.enter 272 args) w := by kernel_rfl
theorem T.en273 (args : Array Value) (w : World) : (callFunc 273 args).run Tryz.prog w = .ok (.enter 273 args) w := by kernel_rfl
theorem T.en274 (args : Array Value) (w : World) : (callFunc 274 args).run Tryz.prog w = .ok (.enter 274 args) w := by kernel_rfl
theorem T.en275 (args : Array Value) (w : World) : (callFunc 275 args).run Tryz.prog w = .ok (.enter 275 args) w := by kernel_rfl
theorem T.en276 (args : Array Value) (w : World) : (callFunc 276 args).run Tryz.prog w = .ok (.enter 276 args) w := by kernel_rfl
theorem T.en277 (args : Array Value) (w : World) : (callFunc 277 args).run Tryz.prog w = .ok (.enter 277 args) w := by kernel_rfl
theorem T.en278 (args : Array Value) (w : World) : (callFunc 278 args).run Tryz.prog w = .ok (.enter 278 args) w := by kernel_rfl
theorem T.en279 (args : Array Value) (w : World) : (callFunc 279 args).run Tryz.prog w = .ok (.enter 279 args) w := by kernel_rfl
theorem T.en28 (args : Array Value) (w : World) : (callFunc 28 args).run Tryz.prog w = .ok (.enter 28 args) w := by kernel_rfl
theorem T.en280 (args : Array Value) (w : World) : (callFunc 280 args).run Tryz.prog w = .ok (.enter 280 args) w := by kernel_rfl
theorem T.en281 (args : Array Value) (w : World) : (callFunc 281 args).run Tryz.prog w = .ok (.enter 281 args) w := by kernel_rfl
theorem T.en282 (args : Array Value) (w : World) : (callFunc 282 args).run Tryz.prog w = .ok (.enter 282 args) w := by kernel_rfl
theorem T.en283 (args : Array Value) (w : World) : (callFunc 283 args).run Tryz.prog w = .ok (.enter 283 args) w := by kernel_rfl
theorem T.en284 (args : Array Value) (w : World) : (callFunc 284 args).run Tryz.prog w = .ok (.enter 284 args) w := by kernel_rfl
theorem T.en285 (args : Array Value) (w : World) : (callFunc 285 args).run Tryz.prog w = .ok (.enter 285 args) w := by kernel_rfl
theorem T.en286 (args : Array Value) (w : World) : (callFunc 286 args).run Tryz.prog w = .ok (.enter 286 args) w := by kernel_rfl
theorem T.en287 (args : Array Value) (w : World) : (callFunc 287 args).run Tryz.prog w = .ok (.enter 287 args) w := by kernel_rfl
theorem T.en29 (args : Array Value) (w : World) : (callFunc 29 args).run Tryz.prog w = .ok (.enter 29 args) w := by kernel_rfl
theorem T.en290 (args : Array Value) (w : World) : (callFunc 290 args).run Tryz.prog w = .ok (.enter 290 args) w := by kernel_rfl
theorem T.en292 (args : Array Value) (w : World) : (callFunc 292 args).run Tryz.prog w = .ok (.enter 292 args) w := by kernel_rfl
theorem T.en294 (args : Array Value) (w : World) : (callFunc 294 args).run Tryz.prog w = .ok (.enter 294 args) w := by kernel_rfl
theorem T.en295 (args : Array Value) (w : World) : (callFunc 295 args).run Tryz.prog w = .ok (.enter 295 args) w := by kernel_rfl
theorem T.en296 (args : Array Value) (w : World) : (callFunc 296 args).run Tryz.prog w = .ok (.enter 296 args) w := by kernel_rfl
theorem T.en297 (args : Array Value) (w : World) : (callFunc 297 args).run Tryz.prog w = .ok (.enter 297 args) w := by kernel_rfl
theorem T.en298 (args : Array Value) (w : World) : (callFunc 298 args).run Tryz.prog w = .ok (.enter 298 args) w := by kernel_rfl
theorem T.en299 (args : Array Value) (w : World) : (callFunc 299 args).run Tryz.prog w = .ok (.enter 299 args) w := by kernel_rfl
theorem T.en30 (args : Array Value) (w : World) : (callFunc 30 args).run Tryz.prog w = .ok (.enter 30 args) w := by kernel_rfl
theorem T.en300 (args : Array Value) (w : World) : (callFunc 300 args).run Tryz.prog w = .ok (.enter 300 args) w := by kernel_rfl
theorem T.en301 (args : Array Value) (w : World) : (callFunc 301 args).run Tryz.prog w = .ok (.enter 301 args) w := by kernel_rfl
theorem T.en302 (args : Array Value) (w : World) : (callFunc 302 args).run Tryz.prog w = .ok (.enter 302 args) w := by kernel_rfl
theorem T.en305 (args : Array Value) (w : World) : (callFunc 305 args).run Tryz.prog w = .ok (.enter 305 args) w := by kernel_rfl
theorem T.en306 (args : Array Value) (w : World) : (callFunc 306 args).run Tryz.prog w = .ok (.enter 306 args) w := by kernel_rfl
theorem T.en307 (args : Array Value) (w : World) : (callFunc 307 args).run Tryz.prog w = .ok (.enter 307 args) w := by kernel_rfl
theorem T.en308 (args : Array Value) (w : World) : (callFunc 308 args).run Tryz.prog w = .ok (.enter 308 args) w := by kernel_rfl
theorem T.en309 (args : Array Value) (w : World) : (callFunc 309 args).run Tryz.prog w = .ok (.enter 309 args) w := by kernel_rfl
theorem T.en310 (args : Array Value) (w : World) : (callFunc 310 args).run Tryz.prog w = .ok (.enter 310 args) w := by kernel_rfl
theorem T.en311 (args : Array Value) (w : World) : (callFunc 311 args).run Tryz.prog w = .ok (.enter 311 args) w := by kernel_rfl
theorem T.en312 (args : Array Value) (w : World) : (callFunc 312 args).run Tryz.prog w = .ok (.enter 312 args) w := by kernel_rfl
theorem T.en313 (args : Array Value) (w : World) : (callFunc 313 args).run Tryz.prog w = .ok (.enter 313 args) w := by kernel_rfl
theorem T.en314 (args : Array Value) (w : World) : (callFunc 314 args).run Tryz.prog w = .ok (.enter 314 args) w := by kernel_rfl
theorem T.en315 (args : Array Value) (w : World) : (callFunc 315 args).run Tryz.prog w = .ok (.enter 315 args) w := by kernel_rfl
theorem T.en32 (args : Array Value) (w : World) : (callFunc 32 args).run Tryz.prog w = .ok (.enter 32 args) w := by kernel_rfl
theorem T.en320 (args : Array Value) (w : World) : (callFunc 320 args).run Tryz.prog w = .ok (.enter 320 args) w := by kernel_rfl
theorem T.en33 (args : Array Value) (w : World) : (callFunc 33 args).run Tryz.prog w = .ok (.enter 33 args) w := by kernel_rfl
theorem T.en34 (args : Array Value) (w : World) : (callFunc 34 args).run Tryz.prog w = .ok (.enter 34 args) w := by kernel_rfl
theorem T.en35 (args : Array Value) (w : World) : (callFunc 35 args).run Tryz.prog w = .ok (.enter 35 args) w := by kernel_rfl
theorem T.en36 (args : Array Value) (w : World) : (callFunc 36 args).run Tryz.prog w = .ok (.enter 36 args) w := by kernel_rfl
theorem T.en37 (args : Array Value) (w : World) : (callFunc 37 args).run Tryz.prog w = .ok (.enter 37 args) w := by kernel_rfl
theorem T.en38 (args : Array Value) (w : World) : (callFunc 38 args).run Tryz.prog w = .ok (.enter 38 args) w := by kernel_rfl
theorem T.en39 (args : Array Value) (w : World) : (callFunc 39 args).run Tryz.prog w = .ok (.enter 39 args) w := by kernel_rfl
theorem T.en4 (args : Array Value) (w : World) : (callFunc 4 args).run Tryz.prog w = .ok (.enter 4 args) w := by kernel_rfl
theorem T.en40 (args : Array Value) (w : World) : (callFunc 40 args).run Tryz.prog w = .ok (.enter 40 args) w := by kernel_rfl
theorem T.en41 (args : Array Value) (w : World) : (callFunc 41 args).run Tryz.prog w = .ok (.enter 41 args) w := by kernel_rfl
theorem T.en42 (args : Array Value) (w : World) : (callFunc 42 args).run Tryz.prog w = .ok (.enter 42 args) w := by kernel_rfl
theorem T.en43 (args : Array Value) (w : World) : (callFunc 43 args).run Tryz.prog w = .ok (.enter 43 args) w := by kernel_rfl
theorem T.en44 (args : Array Value) (w : World) : (callFunc 44 args).run Tryz.prog w = .ok (.enter 44 args) w := by kernel_rfl
theorem T.en45 (args : Array Value) (w : World) : (callFunc 45 args).run Tryz.prog w = .ok (.enter 45 args) w := by kernel_rfl
theorem T.en46 (args : Array Value) (w : World) : (callFunc 46 args).run Tryz.prog w = .ok (.enter 46 args) w := by kernel_rfl
theorem T.en47 (args : Array Value) (w : World) : (callFunc 47 args).run Tryz.prog w = .ok (.enter 47 args) w := by kernel_rfl
theorem T.en48 (args : Array Value) (w : World) : (callFunc 48 args).run Tryz.prog w = .ok (.enter 48 args) w := by kernel_rfl
theorem T.en49 (args : Array Value) (w : World) : (callFunc 49 args).run Tryz.prog w = .ok (.enter 49 args) w := by kernel_rfl
theorem T.en50 (args : Array Value) (w : World) : (callFunc 50 args).run Tryz.prog w = .ok (.enter 50 args) w := by kernel_rfl
theorem T.en51 (args : Array Value) (w : World) : (callFunc 51 args).run Tryz.prog w = .ok (.enter 51 args) w := by kernel_rfl
theorem T.en52 (args : Array Value) (w : World) : (callFunc 52 args).run Tryz.prog w = .ok (.enter 52 args) w := by kernel_rfl
theorem T.en53 (args : Array Value) (w : World) : (callFunc 53 args).run Tryz.prog w = .ok (.enter 53 args) w := by kernel_rfl
theorem T.en55 (args : Array Value) (w : World) : (callFunc 55 args).run Tryz.prog w = .ok (.enter 55 args) w := by kernel_rfl
theorem T.en71 (args : Array Value) (w : World) : (callFunc 71 args).run Tryz.prog w = .ok (.enter 71 args) w := by kernel_rfl
theorem T.en73 (args : Array Value) (w : World) : (callFunc 73 args).run Tryz.prog w = .ok (.enter 73 args) w := by kernel_rfl
theorem T.en77 (args : Array Value) (w : World) : (callFunc 77 args).run Tryz.prog w = .ok (.enter 77 args) w := by kernel_rfl
theorem T.en79 (args : Array Value) (w : World) : (callFunc 79 args).run Tryz.prog w = .ok (.enter 79 args) w := by kernel_rfl
theorem T.en8 (args : Array Value) (w : World) : (callFunc 8 args).run Tryz.prog w = .ok (.enter 8 args) w := by kernel_rfl
theorem T.en80 (args : Array Value) (w : World) : (callFunc 80 args).run Tryz.prog w = .ok (.enter 80 args) w := by kernel_rfl
theorem T.en81 (args : Array Value) (w : World) : (callFunc 81 args).run Tryz.prog w = .ok (.enter 81 args) w := by kernel_rfl
theorem T.en82 (args : Array Value) (w : World) : (callFunc 82 args).run Tryz.prog w = .ok (.enter 82 args) w := by kernel_rfl
theorem T.en83 (args : Array Value) (w : World) : (callFunc 83 args).run Tryz.prog w = .ok (.enter 83 args) w := by kernel_rfl
theorem T.en84 (args : Array Value) (w : World) : (callFunc 84 args).run Tryz.prog w = .ok (.enter 84 args) w := by kernel_rfl
theorem T.en85 (args : Array Value) (w : World) : (callFunc 85 args).run Tryz.prog w = .ok (.enter 85 args) w := by kernel_rfl
theorem T.en86 (args : Array Value) (w : World) : (callFunc 86 args).run Tryz.prog w = .ok (.enter 86 args) w := by kernel_rfl
theorem T.en87 (args : Array Value) (w : World) : (callFunc 87 args).run Tryz.prog w = .ok (.enter 87 args) w := by kernel_rfl
theorem T.en88 (args : Array Value) (w : World) : (callFunc 88 args).run Tryz.prog w = .ok (.enter 88 args) w := by kernel_rfl
theorem T.en89 (args : Array Value) (w : World) : (callFunc 89 args).run Tryz.prog w = .ok (.enter 89 args) w := by kernel_rfl
theorem T.en90 (args : Array Value) (w : World) : (callFunc 90 args).run Tryz.prog w = .ok (.enter 90 args) w := by kernel_rfl
theorem T.en91 (args : Array Value) (w : World) : (callFunc 91 args).run Tryz.prog w = .ok (.enter 91 args) w := by kernel_rfl
theorem T.en92 (args : Array Value) (w : World) : (callFunc 92 args).run Tryz.prog w = .ok (.enter 92 args) w := by kernel_rfl
theorem T.en93 (args : Array Value) (w : World) : (callFunc 93 args).run Tryz.prog w = .ok (.enter 93 args) w := by kernel_rfl
theorem T.en94 (args : Array Value) (w : World) : (callFunc 94 args).run Tryz.prog w = .ok (.enter 94 args) w := by kernel_rfl
theorem T.en95 (args : Array Value) (w : World) : (callFunc 95 args).run Tryz.prog w = .ok (.enter 95 args) w := by kernel_rfl
theorem T.en96 (args : Array Value) (w : World) : (callFunc 96 args).run Tryz.prog w = .ok (.enter 96 args) w := by kernel_rfl
theorem T.en97 (args : Array Value) (w : World) : (callFunc 97 args).run Tryz.prog w = .ok (.enter 97 args) w := by kernel_rfl
theorem T.en98 (args : Array Value) (w : World) : (callFunc 98 args).run Tryz.prog w = .ok (.enter 98 args) w := by kernel_rfl
theorem T.en99 (args : Array Value) (w : World) : (callFunc 99 args).run Tryz.prog w = .ok (.enter 99 args) w := by kernel_rfl
theorem T.f113_0 : fldB Tryz.prog 113 0 0 = true := by kernel_rfl
theorem T.f113_1 : fldB Tryz.prog 113 1 1 = true := by kernel_rfl
theorem T.f113_2 : fldB Tryz.prog 113 2 2 = true := by kernel_rfl
theorem T.f113_3 : fldB Tryz.prog 113 3 3 = true := by kernel_rfl
theorem T.f116_0 : fldB Tryz.prog 116 0 0 = true := by kernel_rfl
theorem T.f118_0 : fldB Tryz.prog 118 0 0 = true := by kernel_rfl
theorem T.f118_1 : fldB Tryz.prog 118 1 4 = true := by kernel_rfl
theorem T.f118_2 : fldB Tryz.prog 118 2 5 = true := by kernel_rfl
theorem T.f118_3 : fldB Tryz.prog 118 3 6 = true := by kernel_rfl
theorem T.f118_4 : fldB Tryz.prog 118 4 7 = true := by kernel_rfl
theorem T.f118_5 : fldB Tryz.prog 118 5 8 = true := by kernel_rfl
theorem T.f122_0 : fldB Tryz.prog 122 0 0 = true := by kernel_rfl
theorem T.f122_1 : fldB Tryz.prog 122 1 1 = true := by kernel_rfl
theorem T.f122_2 : fldB Tryz.prog 122 2 2 = true := by kernel_rfl
theorem T.f122_3 : fldB Tryz.prog 122 3 3 = true := by kernel_rfl
theorem T.f125_0 : fldB Tryz.prog 125 0 0 = true := by kernel_rfl
theorem T.f127_0 : fldB Tryz.prog 127 0 0 = true := by kernel_rfl
theorem T.f127_1 : fldB Tryz.prog 127 1 4 = true := by kernel_rfl
theorem T.f127_2 : fldB Tryz.prog 127 2 5 = true := by kernel_rfl
theorem T.f127_3 : fldB Tryz.prog 127 3 6 = true := by kernel_rfl
theorem T.f127_4 : fldB Tryz.prog 127 4 7 = true := by kernel_rfl
theorem T.f127_5 : fldB Tryz.prog 127 5 8 = true := by kernel_rfl
theorem T.f135_0 : fldB Tryz.prog 135 0 0 = true := by kernel_rfl
theorem T.f135_1 : fldB Tryz.prog 135 1 1 = true := by kernel_rfl
theorem T.f135_2 : fldB Tryz.prog 135 2 2 = true := by kernel_rfl
theorem T.f137_0 : fldB Tryz.prog 137 0 0 = true := by kernel_rfl
theorem T.f137_1 : fldB Tryz.prog 137 1 1 = true := by kernel_rfl
theorem T.f137_2 : fldB Tryz.prog 137 2 2 = true := by kernel_rfl
theorem T.f137_3 : fldB Tryz.prog 137 3 5 = true := by kernel_rfl
theorem T.f139_0 : fldB Tryz.prog 139 0 0 = true := by kernel_rfl
theorem T.f139_1 : fldB Tryz.prog 139 1 1 = true := by kernel_rfl
theorem T.f141_0 : fldB Tryz.prog 141 0 0 = true := by kernel_rfl
theorem T.f141_1 : fldB Tryz.prog 141 1 2 = true := by kernel_rfl
theorem T.f141_2 : fldB Tryz.prog 141 2 3 = true := by kernel_rfl
theorem T.f141_3 : fldB Tryz.prog 141 3 4 = true := by kernel_rfl
theorem T.f144_0 : fldB Tryz.prog 144 0 0 = true := by kernel_rfl
theorem T.f144_1 : fldB Tryz.prog 144 1 5 = true := by kernel_rfl
theorem T.f144_2 : fldB Tryz.prog 144 2 6 = true := by kernel_rfl
theorem T.f150_0 : fldB Tryz.prog 150 0 0 = true := by kernel_rfl
theorem T.f150_1 : fldB Tryz.prog 150 1 1 = true := by kernel_rfl
theorem T.f150_2 : fldB Tryz.prog 150 2 2 = true := by kernel_rfl
theorem T.f152_0 : fldB Tryz.prog 152 0 0 = true := by kernel_rfl
theorem T.f152_1 : fldB Tryz.prog 152 1 1 = true := by kernel_rfl
theorem T.f152_2 : fldB Tryz.prog 152 2 2 = true := by kernel_rfl
theorem T.f152_3 : fldB Tryz.prog 152 3 5 = true := by kernel_rfl
theorem T.f174_0 : fldB Tryz.prog 174 0 0 = true := by kernel_rfl
theorem T.f174_1 : fldB Tryz.prog 174 1 1 = true := by kernel_rfl
theorem T.f174_2 : fldB Tryz.prog 174 2 2 = true := by kernel_rfl
theorem T.f176_0 : fldB Tryz.prog 176 0 0 = true := by kernel_rfl
theorem T.f176_1 : fldB Tryz.prog 176 1 1 = true := by kernel_rfl
theorem T.f176_2 : fldB Tryz.prog 176 2 2 = true := by kernel_rfl
theorem T.f176_3 : fldB Tryz.prog 176 3 3 = true := by kernel_rfl
theorem T.f209_0 : fldB Tryz.prog 209 0 0 = true := by kernel_rfl
theorem T.f209_1 : fldB Tryz.prog 209 1 1 = true := by kernel_rfl
theorem T.f209_2 : fldB Tryz.prog 209 2 2 = true := by kernel_rfl
theorem T.f209_3 : fldB Tryz.prog 209 3 3 = true := by kernel_rfl
theorem T.f217_0 : fldB Tryz.prog 217 0 0 = true := by kernel_rfl
theorem T.f217_1 : fldB Tryz.prog 217 1 1 = true := by kernel_rfl
theorem T.f217_2 : fldB Tryz.prog 217 2 2 = true := by kernel_rfl
theorem T.f217_3 : fldB Tryz.prog 217 3 3 = true := by kernel_rfl
theorem T.f220_0 : fldB Tryz.prog 220 0 0 = true := by kernel_rfl
theorem T.f220_1 : fldB Tryz.prog 220 1 1 = true := by kernel_rfl
theorem T.f220_2 : fldB Tryz.prog 220 2 2 = true := by kernel_rfl
theorem T.f220_3 : fldB Tryz.prog 220 3 3 = true := by kernel_rfl
theorem T.f220_4 : fldB Tryz.prog 220 4 4 = true := by kernel_rfl
theorem T.f220_5 : fldB Tryz.prog 220 5 5 = true := by kernel_rfl
theorem T.f224_0 : fldB Tryz.prog 224 0 0 = true := by kernel_rfl
theorem T.f224_1 : fldB Tryz.prog 224 1 1 = true := by kernel_rfl
theorem T.f224_2 : fldB Tryz.prog 224 2 2 = true := by kernel_rfl
theorem T.f224_3 : fldB Tryz.prog 224 3 3 = true := by kernel_rfl
theorem T.f224_4 : fldB Tryz.prog 224 4 4 = true := by kernel_rfl
theorem T.f224_5 : fldB Tryz.prog 224 5 5 = true := by kernel_rfl
theorem T.f226_0 : fldB Tryz.prog 226 0 0 = true := by kernel_rfl
theorem T.f226_1 : fldB Tryz.prog 226 1 1 = true := by kernel_rfl
theorem T.f226_2 : fldB Tryz.prog 226 2 2 = true := by kernel_rfl
theorem T.f226_3 : fldB Tryz.prog 226 3 3 = true := by kernel_rfl
theorem T.f234_0 : fldB Tryz.prog 234 0 0 = true := by kernel_rfl
theorem T.f234_1 : fldB Tryz.prog 234 1 1 = true := by kernel_rfl
theorem T.f234_2 : fldB Tryz.prog 234 2 2 = true := by kernel_rfl
theorem T.f234_3 : fldB Tryz.prog 234 3 3 = true := by kernel_rfl
theorem T.f264_0 : fldB Tryz.prog 264 0 0 = true := by kernel_rfl
theorem T.f264_1 : fldB Tryz.prog 264 1 1 = true := by kernel_rfl
theorem T.f264_2 : fldB Tryz.prog 264 2 2 = true := by kernel_rfl
theorem T.f264_3 : fldB Tryz.prog 264 3 3 = true := by kernel_rfl
theorem T.f269_0 : fldB Tryz.prog 269 0 0 = true := by kernel_rfl
theorem T.f269_1 : fldB Tryz.prog 269 1 1 = true := by kernel_rfl
theorem T.f269_2 : fldB Tryz.prog 269 2 2 = true := by kernel_rfl
theorem T.f27_0 : fldB Tryz.prog 27 0 0 = true := by kernel_rfl
theorem T.f27_1 : fldB Tryz.prog 27 1 1 = true := by kernel_rfl
theorem T.f283_0 : fldB Tryz.prog 283 0 0 = true := by kernel_rfl
theorem T.f283_1 : fldB Tryz.prog 283 1 1 = true := by kernel_rfl
theorem T.f283_2 : fldB Tryz.prog 283 2 2 = true := by kernel_rfl
theorem T.f283_3 : fldB Tryz.prog 283 3 3 = true := by kernel_rfl
theorem T.f287_0 : fldB Tryz.prog 287 0 0 = true := by kernel_rfl
theorem T.f287_1 : fldB Tryz.prog 287 1 1 = true := by kernel_rfl
theorem T.f287_2 : fldB Tryz.prog 287 2 2 = true := by kernel_rfl
theorem T.f293_0 : fldB Tryz.prog 293 0 0 = true := by kernel_rfl
theorem T.f293_1 : fldB Tryz.prog 293 1 1 = true := by kernel_rfl
theorem T.f293_2 : fldB Tryz.prog 293 2 2 = true := by kernel_rfl
theorem T.f293_3 : fldB Tryz.prog 293 3 3 = true := by kernel_rfl
theorem T.f30_0 : fldB Tryz.prog 30 0 0 = true := by kernel_rfl
theorem T.f30_1 : fldB Tryz.prog 30 1 1 = true := by kernel_rfl
theorem T.f30_2 : fldB Tryz.prog 30 2 3 = true := by kernel_rfl
theorem T.f315_0 : fldB Tryz.prog 315 0 0 = true := by kernel_rfl
theorem T.f315_1 : fldB Tryz.prog 315 1 1 = true := by kernel_rfl
theorem T.f315_2 : fldB Tryz.prog 315 2 2 = true := by kernel_rfl
theorem T.f315_3 : fldB Tryz.prog 315 3 3 = true := by kernel_rfl
theorem T.f318_0 : fldB Tryz.prog 318 0 0 = true := by kernel_rfl
theorem T.f318_1 : fldB Tryz.prog 318 1 1 = true := by kernel_rfl
theorem T.f318_2 : fldB Tryz.prog 318 2 2 = true := by kernel_rfl
theorem T.f328_0 : fldB Tryz.prog 328 0 0 = true := by kernel_rfl
theorem T.f328_1 : fldB Tryz.prog 328 1 1 = true := by kernel_rfl
theorem T.f328_2 : fldB Tryz.prog 328 2 2 = true := by kernel_rfl
theorem T.f328_3 : fldB Tryz.prog 328 3 3 = true := by kernel_rfl
theorem T.f33_0 : fldB Tryz.prog 33 0 0 = true := by kernel_rfl
theorem T.f33_1 : fldB Tryz.prog 33 1 1 = true := by kernel_rfl
theorem T.f33_2 : fldB Tryz.prog 33 2 2 = true := by kernel_rfl
theorem T.f33_3 : fldB Tryz.prog 33 3 3 = true := by kernel_rfl
theorem T.f37_0 : fldB Tryz.prog 37 0 0 = true := by kernel_rfl
theorem T.f39_0 : fldB Tryz.prog 39 0 0 = true := by kernel_rfl
theorem T.f39_1 : fldB Tryz.prog 39 1 1 = true := by kernel_rfl
theorem T.f39_2 : fldB Tryz.prog 39 2 2 = true := by kernel_rfl
theorem T.f39_3 : fldB Tryz.prog 39 3 3 = true := by kernel_rfl
theorem T.f39_4 : fldB Tryz.prog 39 4 4 = true := by kernel_rfl
theorem T.f39_5 : fldB Tryz.prog 39 5 8 = true := by kernel_rfl
theorem T.f39_6 : fldB Tryz.prog 39 6 9 = true := by kernel_rfl
theorem T.f39_7 : fldB Tryz.prog 39 7 13 = true := by kernel_rfl
theorem T.f39_8 : fldB Tryz.prog 39 8 14 = true := by kernel_rfl
theorem T.f39_9 : fldB Tryz.prog 39 9 15 = true := by kernel_rfl
theorem T.f46_0 : fldB Tryz.prog 46 0 0 = true := by kernel_rfl
theorem T.f46_1 : fldB Tryz.prog 46 1 1 = true := by kernel_rfl
theorem T.f49_0 : fldB Tryz.prog 49 0 0 = true := by kernel_rfl
theorem T.f49_1 : fldB Tryz.prog 49 1 1 = true := by kernel_rfl
theorem T.f49_2 : fldB Tryz.prog 49 2 3 = true := by kernel_rfl
theorem T.f51_0 : fldB Tryz.prog 51 0 0 = true := by kernel_rfl
theorem T.f51_1 : fldB Tryz.prog 51 1 1 = true := by kernel_rfl
theorem T.f51_2 : fldB Tryz.prog 51 2 2 = true := by kernel_rfl
theorem T.f51_3 : fldB Tryz.prog 51 3 3 = true := by kernel_rfl
theorem T.f55_0 : fldB Tryz.prog 55 0 0 = true := by kernel_rfl
theorem T.f57_0 : fldB Tryz.prog 57 0 0 = true := by kernel_rfl
theorem T.f57_1 : fldB Tryz.prog 57 1 1 = true := by kernel_rfl
theorem T.f57_2 : fldB Tryz.prog 57 2 2 = true := by kernel_rfl
theorem T.f57_3 : fldB Tryz.prog 57 3 3 = true := by kernel_rfl
theorem T.f57_4 : fldB Tryz.prog 57 4 4 = true := by kernel_rfl
theorem T.f57_5 : fldB Tryz.prog 57 5 8 = true := by kernel_rfl
theorem T.f57_6 : fldB Tryz.prog 57 6 9 = true := by kernel_rfl
theorem T.f57_7 : fldB Tryz.prog 57 7 13 = true := by kernel_rfl
theorem T.f57_8 : fldB Tryz.prog 57 8 14 = true := by kernel_rfl
theorem T.f57_9 : fldB Tryz.prog 57 9 15 = true := by kernel_rfl
theorem T.f76_0 : fldB Tryz.prog 76 0 0 = true := by kernel_rfl
theorem T.f76_1 : fldB Tryz.prog 76 1 1 = true := by kernel_rfl
theorem T.f78_0 : fldB Tryz.prog 78 0 0 = true := by kernel_rfl
theorem T.f78_1 : fldB Tryz.prog 78 1 2 = true := by kernel_rfl
theorem T.f78_2 : fldB Tryz.prog 78 2 3 = true := by kernel_rfl
theorem T.f78_3 : fldB Tryz.prog 78 3 4 = true := by kernel_rfl
theorem T.f81_0 : fldB Tryz.prog 81 0 0 = true := by kernel_rfl
theorem T.f81_1 : fldB Tryz.prog 81 1 5 = true := by kernel_rfl
theorem T.f81_2 : fldB Tryz.prog 81 2 6 = true := by kernel_rfl
theorem T.ft152_0 : fltB Tryz.prog 152 0 9 0 = true := by kernel_rfl
theorem T.is3 : (Tryz.prog.underlying 3).isSome = true := by kernel_rfl
theorem T.is5 : (Tryz.prog.underlying 5).isSome = true := by kernel_rfl
theorem T.mix : Tryz.prog.follows .mixedOrders = true := by kernel_rfl
theorem T.o108 : oneB Tryz.prog 108 = true := by kernel_rfl
theorem T.o114 : oneB Tryz.prog 114 = true := by kernel_rfl
theorem T.o123 : oneB Tryz.prog 123 = true := by kernel_rfl
theorem T.o132 : oneB Tryz.prog 132 = true := by kernel_rfl
theorem T.o133 : oneB Tryz.prog 133 = true := by kernel_rfl
theorem T.o142 : oneB Tryz.prog 142 = true := by kernel_rfl
theorem T.o147 : oneB Tryz.prog 147 = true := by kernel_rfl
theorem T.o148 : oneB Tryz.prog 148 = true := by kernel_rfl
theorem T.o172 : oneB Tryz.prog 172 = true := by kernel_rfl
theorem T.o207 : oneB Tryz.prog 207 = true := by kernel_rfl
theorem T.o22 : oneB Tryz.prog 22 = true := by kernel_rfl
theorem T.o23 : oneB Tryz.prog 23 = true := by kernel_rfl
theorem T.o24 : oneB Tryz.prog 24 = true := by kernel_rfl
theorem T.o25 : oneB Tryz.prog 25 = true := by kernel_rfl
theorem T.o28 : oneB Tryz.prog 28 = true := by kernel_rfl
theorem T.o285 : oneB Tryz.prog 285 = true := by kernel_rfl
theorem T.o3 : oneB Tryz.prog 3 = true := by kernel_rfl
theorem T.o31 : oneB Tryz.prog 31 = true := by kernel_rfl
theorem T.o34 : oneB Tryz.prog 34 = true := by kernel_rfl
theorem T.o35 : oneB Tryz.prog 35 = true := by kernel_rfl
theorem T.o4 : oneB Tryz.prog 4 = true := by kernel_rfl
theorem T.o42 : oneB Tryz.prog 42 = true := by kernel_rfl
theorem T.o43 : oneB Tryz.prog 43 = true := by kernel_rfl
theorem T.o44 : oneB Tryz.prog 44 = true := by kernel_rfl
theorem T.o47 : oneB Tryz.prog 47 = true := by kernel_rfl
theorem T.o5 : oneB Tryz.prog 5 = true := by kernel_rfl
theorem T.o50 : oneB Tryz.prog 50 = true := by kernel_rfl
theorem T.o52 : oneB Tryz.prog 52 = true := by kernel_rfl
theorem T.o53 : oneB Tryz.prog 53 = true := by kernel_rfl
theorem T.o79 : oneB Tryz.prog 79 = true := by kernel_rfl
theorem T.o9 : oneB Tryz.prog 9 = true := by kernel_rfl
theorem T.p150 : plcOf Tryz.prog 150 = some [(0, 1), (1, 1), (2, 1)] := by kernel_rfl
theorem T.p152 : plcOf Tryz.prog 152 = some [(0, 1), (1, 1), (2, 3), (5, 1)] := by kernel_rfl
theorem T.s108 : slB Tryz.prog 108 3 1 8 = true := by kernel_rfl
theorem T.s114 : slB Tryz.prog 114 264 4 32 = true := by kernel_rfl
theorem T.s123 : slB Tryz.prog 123 315 4 32 = true := by kernel_rfl
theorem T.s132 : slB Tryz.prog 132 287 3 40 = true := by kernel_rfl
theorem T.s133 : slB Tryz.prog 133 318 3 24 = true := by kernel_rfl
theorem T.s142 : slB Tryz.prog 142 141 5 40 = true := by kernel_rfl
theorem T.s147 : slB Tryz.prog 147 174 3 40 = true := by kernel_rfl
theorem T.s148 : slB Tryz.prog 148 269 3 24 = true := by kernel_rfl
theorem T.s172 : slB Tryz.prog 172 176 4 32 = true := by kernel_rfl
theorem T.s207 : slB Tryz.prog 207 5 1 1 = true := by kernel_rfl
theorem T.s22 : slB Tryz.prog 22 127 9 104 = true := by kernel_rfl
theorem T.s23 : slB Tryz.prog 23 4 1 1 = true := by kernel_rfl
theorem T.s24 : slB Tryz.prog 24 224 6 48 = true := by kernel_rfl
theorem T.s25 : slB Tryz.prog 25 283 4 48 = true := by kernel_rfl
theorem T.s274 : slB Tryz.prog 274 108 1 24 = true := by kernel_rfl
theorem T.s28 : slB Tryz.prog 28 209 4 48 = true := by kernel_rfl
theorem T.s285 : slB Tryz.prog 285 328 4 32 = true := by kernel_rfl
theorem T.s290 : slB Tryz.prog 290 9 1 16 = true := by kernel_rfl
theorem T.s31 : slB Tryz.prog 31 137 6 104 = true := by kernel_rfl
theorem T.s34 : slB Tryz.prog 34 144 7 72 = true := by kernel_rfl
theorem T.s35 : slB Tryz.prog 35 234 4 32 = true := by kernel_rfl
theorem T.s42 : slB Tryz.prog 42 118 9 104 = true := by kernel_rfl
theorem T.s43 : slB Tryz.prog 43 220 6 48 = true := by kernel_rfl
theorem T.s44 : slB Tryz.prog 44 293 4 48 = true := by kernel_rfl
theorem T.s47 : slB Tryz.prog 47 226 4 48 = true := by kernel_rfl
theorem T.s50 : slB Tryz.prog 50 152 6 104 = true := by kernel_rfl
theorem T.s52 : slB Tryz.prog 52 81 7 72 = true := by kernel_rfl
theorem T.s53 : slB Tryz.prog 53 217 4 32 = true := by kernel_rfl
theorem T.s79 : slB Tryz.prog 79 78 5 40 = true := by kernel_rfl
theorem T.z113 : zerosOf Tryz.prog 113 = some [.int .i64 0, .int .i64 0, .int .i64 0, .int .i64 0] := by kernel_rfl
theorem T.z116 : zerosOf Tryz.prog 116 = some [.nil] := by kernel_rfl
theorem T.z118 : zerosOf Tryz.prog 118 = some [.int .i64 0, .int .i64 0, .int .i64 0, .int .i64 0, .nil, .int .i64 0, .int .i64 0, .int .i64 0, .nil] := by kernel_rfl
theorem T.z150 : zerosOf Tryz.prog 150 = some [.int .i64 0, .int .i64 0, .nil] := by kernel_rfl
theorem T.z152 : zerosOf Tryz.prog 152 = some [.str ⟨#[]⟩, .nil, .int .i64 0, .int .i64 0, .nil, .nil] := by kernel_rfl
theorem T.z174 : zerosOf Tryz.prog 174 = some [.int .i64 0, .int .i64 0, .nil] := by kernel_rfl
theorem T.z176 : zerosOf Tryz.prog 176 = some [.int .i64 0, .int .i64 0, .int .i64 0, .bool false] := by kernel_rfl
theorem T.z217 : zerosOf Tryz.prog 217 = some [.int .i64 0, .int .i64 0, .int .i64 0, .bool false] := by kernel_rfl
theorem T.z220 : zerosOf Tryz.prog 220 = some [.int .i64 0, .int .i64 0, .int .i64 0, .int .i64 0, .int .i64 0, .int .i64 0] := by kernel_rfl
theorem T.z226 : zerosOf Tryz.prog 226 = some [.int .i64 0, .int .i64 0, .nil, .int .i64 0] := by kernel_rfl
theorem T.z264 : zerosOf Tryz.prog 264 = some [.int .i64 0, .int .i64 0, .int .i64 0, .bool false] := by kernel_rfl
theorem T.z269 : zerosOf Tryz.prog 269 = some [.int .i64 0, .int .i64 0, .int .i64 0] := by kernel_rfl
theorem T.z293 : zerosOf Tryz.prog 293 = some [.int .i64 0, .int .i64 0, .nil, .int .i64 0] := by kernel_rfl
theorem T.z3 : zerosOf Tryz.prog 3 = some [.int .i64 0] := by kernel_rfl
theorem T.z4 : zerosOf Tryz.prog 4 = some [.bool false] := by kernel_rfl
theorem T.z46 : zerosOf Tryz.prog 46 = some [.int .i64 0, .nil] := by kernel_rfl
theorem T.z49 : zerosOf Tryz.prog 49 = some [.nil, .int .i64 0, .nil, .nil] := by kernel_rfl
theorem T.z5 : zerosOf Tryz.prog 5 = some [.int .u8 0] := by kernel_rfl
theorem T.z51 : zerosOf Tryz.prog 51 = some [.int .i64 0, .int .i64 0, .int .i64 0, .int .i64 0] := by kernel_rfl
theorem T.z55 : zerosOf Tryz.prog 55 = some [.nil] := by kernel_rfl
theorem T.z57 : zerosOf Tryz.prog 57 = some [.int .i64 0, .int .i64 0, .nil, .nil, .nil, .int .i64 0, .nil, .nil, .nil, .int .i64 0, .int .i64 0, .int .i64 0, .int .i64 0, .nil, .int .i64 0, .nil] := by kernel_rfl
theorem T.z76 : zerosOf Tryz.prog 76 = some [.int .i64 0, .int .i64 0] := by kernel_rfl
theorem T.z78 : zerosOf Tryz.prog 78 = some [.int .i64 0, .int .i64 0, .int .i64 0, .int .i64 0, .int .i64 0] := by kernel_rfl
theorem T.z81 : zerosOf Tryz.prog 81 = some [.int .i64 0, .int .i64 0, .int .i64 0, .int .i64 0, .int .i64 0, .nil, .int .i64 0] := by kernel_rfl
theorem sp_spec_l1In (x_ : Int) (least_ : Int) (most_ : Int) (r : Bool) (hm : m_spec_l1In x_ least_ most_ = some r) : Spec Tryz.prog G0 55 [.int .i64 x_, .int .i64 least_, .int .i64 most_] (fun v => v = .bool r) := by
 rw [m_spec_l1In] at hm
 refine enter (l := [.tmp 6]) Tryz.func55 rfl Tryz.ntmps55 rfl T.en55 fun E => ?_
 simp only [List.length_cons, List.length_nil, List.replicate_succ, List.replicate_zero, List.cons_append, List.nil_append, Nat.reduceAdd, Nat.reduceSub]
 refine sr <| m (as_ .b) u6 <| e ?_
 refine sr <| rjb hm (fun j0_6 : Bool => ⟨[.any, .any, .any, .any, .any, .any, .bool j0_6, .any, .any, .any, .any, .any, .any, .any, .any], []⟩) (fun _ hm hq1 => ?_) (fun j0_6 hm => ?_)
 ·
  refine m (mv (.t n0)) u7 <| m (mv (.t n1)) u8 <| m (geq (.t n7) (.t n8)) u9 <| m (mv (.t n9)) u10 <| sp n10 u10 u10 (fun h2 => ?_) (fun h2 => ?_)
  ·
   replace hm := ct h2 hm
   refine mg n3 rfl n10 (mv (.t n0)) u11 <| mg n3 rfl n10 (mv (.t n2)) u12 <| mg n3 rfl n10 (leq (.t n11) (.t n12)) u13 <| m (pkt (.t n10) (.t n13)) u14 <| m (as_ (.t n14)) u6 <| e ?_
   replace hm := sj hm
   subst hm
   have hm := hq1
   exact ⟨decide (x_ ≤ most_), hm, le [] (by decide) (.x4 (.x2 (.c (.e rfl rfl) (.x8 .n)))) .n⟩
  ·
   replace hm := cf h2 hm
   refine sk n3 rfl n10 rfl u11 <| sk n3 rfl n10 rfl u12 <| sk n3 rfl n10 rfl u13 <| m (pkf (.t n10) .b) u14 <| m (as_ (.t n14)) u6 <| e ?_
   replace hm := sj hm
   subst hm
   have hm := hq1
   exact ⟨false, hm, le [] (by decide) (.x4 (.x2 (.c (.e rfl rfl) (.x8 .n)))) .n⟩
 ·
  replace hm := sj hm
  subst hm
  exact rt (ret1 (.t n6 (.p rfl) .n) rfl)

theorem tot_spec_l1In (x_ : Int) (least_ : Int) (most_ : Int)  : Spec Tryz.prog G0 55 [.int .i64 x_, .int .i64 least_, .int .i64 most_] (fun v => v = .bool (inR x_ least_ most_)) := sp_spec_l1In x_ least_ most_ _ (t_spec_l1In x_ least_ most_)

theorem sp_spec_Mod (n_ : Int) (m_ : Int) (r : Int) (hm : m_spec_Mod n_ m_ = some r) : Spec Tryz.prog G0 290 [.int .i64 n_, .int .i64 m_] (fun v => v = .int .i64 r) := by
 rw [m_spec_Mod] at hm
 refine enter (l := [.tmp 4]) Tryz.func290 rfl Tryz.ntmps290 rfl T.en290 fun E => ?_
 simp only [List.length_cons, List.length_nil, List.replicate_succ, List.replicate_zero, List.cons_append, List.nil_append, Nat.reduceAdd, Nat.reduceSub]
 refine sr <| m (as_ (.i rfl)) u4 <| e ?_
 refine sq ?_
 refine sr <| m (mv (.t n1)) u5 <| c (call (tot_spec_l1In m_ (1 : Int) (1000000000000 : Int)) (.c (.t n5) rfl (.c (.i rfl) rfl (.c (.i rfl) rfl .n)))) u6 <| m (not_ (.t n6)) u7 <| e ?_
 refine cnd n7 (fun h1 => ?_) (fun h1 => ?_)
 ·
  replace hm := ct h1 hm
  refine sr <| m (as_ (.i rfl)) u4 <| e ?_
  replace hm := sj hm
  subst hm
  exact rt (ret1 (.t n4 (.p rfl) .n) rfl)
 ·
  replace hm := cf h1 hm
  refine skp ?_
  obtain ⟨c2, hm⟩ := gd_some hm
  obtain ⟨c3, hm⟩ := gd_some hm
  refine sr <| m (mv (.t n0)) u8 <| m (mv (.t n1)) u9 <| m (rem c2 (.t n8) (.t n9)) u10 <| m (mv (.t n1)) u11 <| m (add (.t n10) (.t n11)) u12 <| m (mv (.t n1)) u13 <| m (rem c3 (.t n12) (.t n13)) u14 <| m (as_ (.t n14)) u4 <| e ?_
  replace hm := sj hm
  subst hm
  exact rt (ret1 (.t n4 (.p rfl) .n) rfl)

theorem tot_spec_Mod (n_ : Int) (m_ : Int)  : Spec Tryz.prog G0 290 [.int .i64 n_, .int .i64 m_] (fun v => v = .int .i64 (modI n_ m_)) := sp_spec_Mod n_ m_ _ (t_spec_Mod n_ m_)

theorem sp_spec_Max (a_ : Int) (b_ : Int) (r : Int) (hm : m_spec_Max a_ b_ = some r) : Spec Tryz.prog G0 152 [.int .i64 a_, .int .i64 b_] (fun v => v = .int .i64 r) := by
 rw [m_spec_Max] at hm
 refine enter (l := [.tmp 4]) Tryz.func152 rfl Tryz.ntmps152 rfl T.en152 fun E => ?_
 simp only [List.length_cons, List.length_nil, List.replicate_succ, List.replicate_zero, List.cons_append, List.nil_append, Nat.reduceAdd, Nat.reduceSub]
 refine sr <| m (as_ (.i rfl)) u4 <| e ?_
 refine sq ?_
 refine sr <| m (mv (.t n1)) u5 <| m (mv (.t n0)) u6 <| m (gtr (.t n5) (.t n6)) u7 <| e ?_
 refine cnd n7 (fun h1 => ?_) (fun h1 => ?_)
 ·
  replace hm := ct h1 hm
  refine sr <| m (mv (.t n1)) u8 <| m (as_ (.t n8)) u4 <| e ?_
  replace hm := sj hm
  subst hm
  exact rt (ret1 (.t n4 (.p rfl) .n) rfl)
 ·
  replace hm := cf h1 hm
  refine skp ?_
  refine sr <| m (mv (.t n0)) u9 <| m (as_ (.t n9)) u4 <| e ?_
  replace hm := sj hm
  subst hm
  exact rt (ret1 (.t n4 (.p rfl) .n) rfl)

theorem tot_spec_Max (a_ : Int) (b_ : Int)  : Spec Tryz.prog G0 152 [.int .i64 a_, .int .i64 b_] (fun v => v = .int .i64 (maxF a_ b_)) := sp_spec_Max a_ b_ _ (t_spec_Max a_ b_)

theorem sp_impl_InRange (n_ : Int) (low_ : Int) (high_ : Int) (r : Bool) (hm : m_impl_InRange n_ low_ high_ = some r) : Spec Tryz.prog G0 98 [.int .i64 n_, .int .i64 low_, .int .i64 high_] (fun v => v = .bool r) := by
 rw [m_impl_InRange] at hm
 refine enter (l := [.tmp 6]) Tryz.func98 rfl Tryz.ntmps98 rfl T.en98 fun E => ?_
 simp only [List.length_cons, List.length_nil, List.replicate_succ, List.replicate_zero, List.cons_append, List.nil_append, Nat.reduceAdd, Nat.reduceSub]
 refine sr <| m (as_ .b) u6 <| e ?_
 refine sr <| rjb hm (fun j0_6 : Bool => ⟨[.any, .any, .any, .any, .any, .any, .bool j0_6, .any, .any, .any, .any, .any, .any, .any, .any], []⟩) (fun _ hm hq1 => ?_) (fun j0_6 hm => ?_)
 ·
  refine m (mv (.t n1)) u7 <| m (mv (.t n0)) u8 <| m (leq (.t n7) (.t n8)) u9 <| m (mv (.t n9)) u10 <| sp n10 u10 u10 (fun h2 => ?_) (fun h2 => ?_)
  ·
   replace hm := ct h2 hm
   refine mg n3 rfl n10 (mv (.t n0)) u11 <| mg n3 rfl n10 (mv (.t n2)) u12 <| mg n3 rfl n10 (leq (.t n11) (.t n12)) u13 <| m (pkt (.t n10) (.t n13)) u14 <| m (as_ (.t n14)) u6 <| e ?_
   replace hm := sj hm
   subst hm
   have hm := hq1
   exact ⟨decide (n_ ≤ high_), hm, le [] (by decide) (.x4 (.x2 (.c (.e rfl rfl) (.x8 .n)))) .n⟩
  ·
   replace hm := cf h2 hm
   refine sk n3 rfl n10 rfl u11 <| sk n3 rfl n10 rfl u12 <| sk n3 rfl n10 rfl u13 <| m (pkf (.t n10) .b) u14 <| m (as_ (.t n14)) u6 <| e ?_
   replace hm := sj hm
   subst hm
   have hm := hq1
   exact ⟨false, hm, le [] (by decide) (.x4 (.x2 (.c (.e rfl rfl) (.x8 .n)))) .n⟩
 ·
  replace hm := sj hm
  subst hm
  exact rt (ret1 (.t n6 (.p rfl) .n) rfl)

theorem tot_impl_InRange (n_ : Int) (low_ : Int) (high_ : Int)  : Spec Tryz.prog G0 98 [.int .i64 n_, .int .i64 low_, .int .i64 high_] (fun v => v = .bool (inR n_ low_ high_)) := sp_impl_InRange n_ low_ high_ _ (t_impl_InRange n_ low_ high_)

theorem sp_impl_Mod (p_ : Int) (q_ : Int) (r : Int) (hm : m_impl_Mod p_ q_ = some r) : Spec Tryz.prog G0 292 [.int .i64 p_, .int .i64 q_] (fun v => v = .int .i64 r) := by
 rw [m_impl_Mod] at hm
 refine enter (l := [.tmp 4]) Tryz.func292 rfl Tryz.ntmps292 rfl T.en292 fun E => ?_
 simp only [List.length_cons, List.length_nil, List.replicate_succ, List.replicate_zero, List.cons_append, List.nil_append, Nat.reduceAdd, Nat.reduceSub]
 refine sr <| m (as_ (.i rfl)) u4 <| e ?_
 refine sq ?_
 refine sr <| rjb hm (fun j0_11 : Bool => ⟨[.int .i64 p_, .int .i64 q_, .any, .any, .any, .any, .any, .any, .any, .any, .any, .bool j0_11, .any, .any, .any, .any, .any, .any, .any, .any, .any], []⟩) (fun _ hm hq1 => ?_) (fun j0_11 hm => ?_)
 ·
  refine m (mv (.t n1)) u6 <| m (lss (.t n6) (.i rfl)) u7 <| m (mv (.t n7)) u8 <| sp n8 u8 u8 (fun h2 => ?_) (fun h2 => ?_)
  ·
   replace hm := ct h2 hm
   refine sk n2 rfl n8 rfl u9 <| sk n2 rfl n8 rfl u10 <| m (pkt (.t n8) .b) u11 <| e ?_
   replace hm := sj hm
   subst hm
   have hm := hq1
   exact ⟨true, hm, le [] (by decide) (.c (.e rfl rfl) (.c (.e rfl rfl) (.x8 (.c .a (.c (.e rfl rfl) (.x8 (.c .a .n))))))) .n⟩
  ·
   replace hm := cf h2 hm
   refine mg n2 rfl n8 (mv (.t n1)) u9 <| mg n2 rfl n8 (gtr (.t n9) (.i rfl)) u10 <| m (pkf (.t n8) (.t n10)) u11 <| e ?_
   replace hm := sj hm
   subst hm
   have hm := hq1
   exact ⟨decide (q_ > (1000000000000 : Int)), hm, le [] (by decide) (.c (.e rfl rfl) (.c (.e rfl rfl) (.x8 (.c .a (.c (.e rfl rfl) (.x8 (.c .a .n))))))) .n⟩
 ·
  refine cnd n11 (fun h3 => ?_) (fun h3 => ?_)
  ·
   replace hm := ct h3 hm
   refine sr <| m (as_ (.i rfl)) u4 <| e ?_
   replace hm := sj hm
   subst hm
   exact rt (ret1 (.t n4 (.p rfl) .n) rfl)
  ·
   replace hm := cf h3 hm
   refine skp ?_
   obtain ⟨c4, hm⟩ := gd_some hm
   refine sr <| m (mv (.t n0)) u12 <| m (mv (.t n1)) u13 <| m (rem c4 (.t n12) (.t n13)) u14 <| m (as_ (.t n14)) u5 <| e ?_
   refine sq ?_
   refine sr <| m (mv (.t n5)) u15 <| m (lss (.t n15) (.i rfl)) u16 <| e ?_
   refine jmb hm (fun j1_5 : Int => ⟨[.any, .any, .any, .any, .any, .int .i64 j1_5, .any, .any, .any, .any, .any, .any, .any, .any, .any, .any, .any, .any, .any, .any, .any], []⟩) (fun _ hm hq5 => ?_) (fun j1_5 hm => ?_)
   ·
    refine cnd n16 (fun h6 => ?_) (fun h6 => ?_)
    ·
     replace hm := ct h6 hm
     refine rg <| m (mv (.t n5)) u17 <| m (mv (.t n1)) u18 <| m (add (.t n17) (.t n18)) u19 <| m (as_ (.t n19)) u5 <| e ?_
     replace hm := sj hm
     subst hm
     have hm := hq5
     exact ⟨IntKind.i64.wrap (p_.tmod q_ + q_), hm, le [] (by decide) (.x4 (.c .a (.c (.e rfl rfl) (.x8 (.x4 (.x2 (.c .a .n))))))) .n⟩
    ·
     replace hm := cf h6 hm
     refine skp ?_
     replace hm := sj hm
     subst hm
     have hm := hq5
     exact ⟨p_.tmod q_, hm, le [] (by decide) (.x4 (.c .a (.c (.e rfl rfl) (.x8 (.x4 (.x2 (.c .a .n))))))) .n⟩
   ·
    refine sr <| m (mv (.t n5)) u20 <| m (as_ (.t n20)) u4 <| e ?_
    replace hm := sj hm
    subst hm
    exact rt (ret1 (.t n4 (.p rfl) .n) rfl)

theorem tot_impl_Mod (p_ : Int) (q_ : Int)  : Spec Tryz.prog G0 292 [.int .i64 p_, .int .i64 q_] (fun v => v = .int .i64 (modI p_ q_)) := sp_impl_Mod p_ q_ _ (t_impl_Mod p_ q_)

theorem sp_spec_ReadUvarint (b_ : List Int) (at_ : Int) (r : Int × Int × Bool) (hm : m_spec_ReadUvarint b_ at_ = some r) : Spec Tryz.prog G0 284 [.slice 1 (b_.map y8), .int .i64 at_] (fun v => v = .tup [.int .i64 r.1, .int .i64 r.2.1, .bool r.2.2]) := by
 rw [m_spec_ReadUvarint] at hm
 refine enter (l := [.tmp 4, .tmp 5, .tmp 6]) Tryz.func284 rfl Tryz.ntmps284 rfl T.en284 fun E => ?_
 simp only [List.length_cons, List.length_nil, List.replicate_succ, List.replicate_zero, List.cons_append, List.nil_append, Nat.reduceAdd, Nat.reduceSub]
 refine sr <| m (as_ (.i rfl)) u4 <| m (as_ (.i rfl)) u5 <| m (as_ .b) u6 <| e ?_
 refine sr <| m (as_ (.i rfl)) u7 <| e ?_
 refine sq ?_
 refine sr <| m (as_ (.i rfl)) u8 <| e ?_
 refine jmx hm (fun _ : Unit => ⟨[.any, .any, .any, .any, .any, .any, .any, .any, .any, .any, .any, .any, .any, .any, .any, .any, .any, .any, .any, .any, .any, .any, .any, .any, .any, .any, .any, .any, .any, .any, .any, .any, .any, .any, .any, .any, .any, .any, .any, .any, .any, .any, .any, .any, .any, .any, .any, .any, .any, .any, .any, .any, .any, .any, .any], []⟩) (fun _ hm hq1 => ?_) (fun _ hm => ?_)
 ·
  refine bk ?_
  refine lpf (m := m_spec_ReadUvarint_l0 b_ at_) hm (fun yy2_ : Int × Nat => ⟨[.slice 1 (b_.map y8), .int .i64 at_, .any, .any, .any, .any, .any, .int .i64 yy2_.1, .int .i64 (yy2_.2 : Int), .any, .any, .any, .any, .any, .any, .any, .any, .any, .any, .any, .any, .any, .any, .any, .any, .any, .any, .any, .any, .any, .any, .any, .any, .any, .any, .any, .any, .any, .any, .any, .any, .any, .any, .any, .any, .any, .any, .any, .any, .any, .any, .any, .any, .any, .any], []⟩) (fun _ => rfl) (le [] (by decide) (.c (.e rfl rfl) (.c (.e rfl rfl) (.x4 (.c .a (.c (.e rfl rfl) (.c (.e rfl rfl) (.x32 (.x8 (.x4 (.x2 .n)))))))))) .n) ?_
  rintro f ⟨v0_7, i0⟩ hm
  rw [m_spec_ReadUvarint_l0] at hm
  dsimp only at hm ⊢
  refine sq ?_
  refine sr <| m (mv (.t n8)) u10 <| m (lss (.t n10) (.i rfl)) u11 <| e ?_
  refine cnd n11 (fun h3 => ?_) (fun h3 => ?_)
  ·
   replace hm := ct h3 hm
   have h3d := of_decide_eq_true h3
   refine skp ?_
   refine sq ?_
   refine bk ?_
   refine sq ?_
   refine sr <| rjb hm (fun j1_23 : Bool => ⟨[.slice 1 (b_.map y8), .int .i64 at_, .any, .any, .any, .any, .any, .int .i64 v0_7, .int .i64 (i0 : Int), .any, .any, .any, .any, .any, .any, .any, .any, .any, .any, .any, .any, .any, .any, .bool j1_23, .any, .any, .any, .any, .any, .any, .any, .any, .any, .any, .any, .any, .any, .any, .any, .any, .any, .any, .any, .any, .any, .any, .any, .any, .any, .any, .any, .any, .any, .any, .any], []⟩) (fun _ hm hq4 => ?_) (fun j1_23 hm => ?_)
   ·
    refine m (mv (.t n1)) u14 <| m (lss (.t n14) (.i rfl)) u15 <| m (mv (.t n15)) u16 <| sp n16 u16 u16 (fun h5 => ?_) (fun h5 => ?_)
    ·
     replace hm := ct h5 hm
     refine sk n2 rfl n16 rfl u17 <| sk n2 rfl n16 rfl u18 <| sk n2 rfl n16 rfl u19 <| sk n2 rfl n16 rfl u20 <| sk n2 rfl n16 rfl u21 <| sk n2 rfl n16 rfl u22 <| m (pkt (.t n16) .b) u23 <| e ?_
     replace hm := sj hm
     subst hm
     have hm := hq4
     exact ⟨true, hm, le [] (by decide) (.c (.e rfl rfl) (.c (.e rfl rfl) (.x4 (.c .a (.c (.e rfl rfl) (.c (.e rfl rfl) (.x8 (.x4 (.x2 (.c (.e rfl rfl) (.x16 (.x8 (.x4 (.x2 (.c .a .n))))))))))))))) .n⟩
    ·
     replace hm := cf h5 hm
     refine mg n2 rfl n16 (mv (.t n1)) u17 <| mg n2 rfl n16 (mv (.t n0)) u18 <| mg n2 rfl n16 (lenm (l := b_) (f := y8) T.s207 (.t n18)) u19 <| mg n2 rfl n16 (mv (.t n8)) u20 <| mg n2 rfl n16 (sub (.t n19) (.t n20)) u21 <| mg n2 rfl n16 (geq (.t n17) (.t n21)) u22 <| m (pkf (.t n16) (.t n22)) u23 <| e ?_
     replace hm := sj hm
     subst hm
     have hm := hq4
     exact ⟨decide (at_ ≥ IntKind.i64.wrap ((b_.length : Int) - (i0 : Int))), hm, le [] (by decide) (.c (.e rfl rfl) (.c (.e rfl rfl) (.x4 (.c .a (.c (.e rfl rfl) (.c (.e rfl rfl) (.x8 (.x4 (.x2 (.c (.e rfl rfl) (.x16 (.x8 (.x4 (.x2 (.c .a .n))))))))))))))) .n⟩
   ·
    refine cnd n23 (fun h6 => ?_) (fun h6 => ?_)
    ·
     replace hm := ct h6 hm
     refine sr <| m (as_ (.i rfl)) u4 <| m (as_ (.i rfl)) u5 <| m (as_ .b) u6 <| e ?_
     replace hm := inl1 hm hq1
     subst hm
     exact rt (ret2 (.t n4 (.p rfl) (.t n5 (.p rfl) (.t n6 (.p rfl) .n))) rfl)
    ·
     replace hm := cf h6 hm
     refine skp ?_
     obtain ⟨z7, e8, hm⟩ := bd_some hm
     refine sr <| m (mv (.t n0)) u24 <| m (mv (.t n1)) u25 <| m (mv (.t n8)) u26 <| m (add (.t n25) (.t n26)) u27 <| m (ixq (f := y8) e8 T.s207 (.t n24) (.t n27)) u28 <| m (lde T.o5 n0 (.t n28)) u29 <| m (cnv T.is5 Tryz.underlying3 (.t n29)) u30 <| m (as_ (.t n30)) u9 <| e ?_
     obtain ⟨c9, hm⟩ := gd_some hm
     refine sr <| m (mv (.t n7)) u31 <| m (mv (.t n9)) u32 <| m (bitand (.t n32) (.i rfl)) u33 <| m (mv (.t n8)) u34 <| m (mul (.i rfl) (.t n34)) u35 <| m (shl_ c9 (.t n33) (.t n35)) u36 <| m (bitor (.t n31) (.t n36)) u37 <| m (as_ (.t n37)) u7 <| e ?_
     refine sr <| m (mv (.t n9)) u38 <| m (lss (.t n38) (.i rfl)) u39 <| e ?_
     refine cnd n39 (fun h10 => ?_) (fun h10 => ?_)
     ·
      replace hm := ct h10 hm
      refine sq ?_
      refine sr <| rjb hm (fun j2_49 : Bool => ⟨[.any, .int .i64 at_, .any, .any, .any, .any, .any, .int .i64 (orI .i64 v0_7 (shlI .i64 (andI .i64 (IntKind.i64.wrap z7) (127 : Int)) (IntKind.i64.wrap ((7 : Int) * (i0 : Int))))), .int .i64 (i0 : Int), .any, .any, .any, .any, .any, .any, .any, .any, .any, .any, .any, .any, .any, .any, .any, .any, .any, .any, .any, .any, .any, .any, .any, .any, .any, .any, .any, .any, .any, .any, .any, .any, .any, .any, .any, .any, .any, .any, .any, .any, .bool j2_49, .any, .any, .any, .any, .any], []⟩) (fun _ hm hq11 => ?_) (fun j2_49 hm => ?_)
      ·
       refine m (mv (.t n9)) u40 <| m (eql (.t n40) (.i rfl)) u41 <| m (mv (.t n41)) u42 <| sp n42 u42 u42 (fun h12 => ?_) (fun h12 => ?_)
       ·
        replace hm := ct h12 hm
        refine mg n2 rfl n42 (mv (.t n8)) u43 <| mg n2 rfl n42 (gtr (.t n43) (.i rfl)) u44 <| m (pkt (.t n42) (.t n44)) u45 <| m (mv (.t n45)) u46 <| sp n46 u46 u46 (fun h13 => ?_) (fun h13 => ?_)
        ·
         replace hm := ct h13 hm
         refine sk n6 rfl n46 rfl u47 <| sk n6 rfl n46 rfl u48 <| m (pkt (.t n46) .b) u49 <| e ?_
         replace hm := sj hm
         subst hm
         have hm := hq11
         exact ⟨true, hm, le [] (by decide) (.c .a (.c (.e rfl rfl) (.x4 (.c .a (.c (.e rfl rfl) (.c (.e rfl rfl) (.x32 (.x8 (.c (.e rfl rfl) (.x4 (.c .a .n))))))))))) .n⟩
        ·
         replace hm := cf h13 hm
         refine mg n6 rfl n46 (mv (.t n7)) u47 <| mg n6 rfl n46 (gtr (.t n47) (.i rfl)) u48 <| m (pkf (.t n46) (.t n48)) u49 <| e ?_
         replace hm := sj hm
         subst hm
         have hm := hq11
         exact ⟨decide (orI .i64 v0_7 (shlI .i64 (andI .i64 (IntKind.i64.wrap z7) (127 : Int)) (IntKind.i64.wrap ((7 : Int) * (i0 : Int)))) > (1000000000000 : Int)), hm, le [] (by decide) (.c .a (.c (.e rfl rfl) (.x4 (.c .a (.c (.e rfl rfl) (.c (.e rfl rfl) (.x32 (.x8 (.c (.e rfl rfl) (.x4 (.c .a .n))))))))))) .n⟩
       ·
        replace hm := cf h12 hm
        refine sk n2 rfl n42 rfl u43 <| sk n2 rfl n42 rfl u44 <| m (pkf (.t n42) .b) u45 <| m (mv (.t n45)) u46 <| mg n6 rfl n46 (mv (.t n7)) u47 <| mg n6 rfl n46 (gtr (.t n47) (.i rfl)) u48 <| m (pkf (.t n46) (.t n48)) u49 <| e ?_
        replace hm := sj hm
        subst hm
        have hm := hq11
        exact ⟨decide (orI .i64 v0_7 (shlI .i64 (andI .i64 (IntKind.i64.wrap z7) (127 : Int)) (IntKind.i64.wrap ((7 : Int) * (i0 : Int)))) > (1000000000000 : Int)), hm, le [] (by decide) (.c .a (.c (.e rfl rfl) (.x4 (.c .a (.c (.e rfl rfl) (.c (.e rfl rfl) (.x32 (.x8 (.c (.e rfl rfl) (.x4 (.c .a .n))))))))))) .n⟩
      ·
       refine cnd n49 (fun h14 => ?_) (fun h14 => ?_)
       ·
        replace hm := ct h14 hm
        refine sr <| m (as_ (.i rfl)) u4 <| m (as_ (.i rfl)) u5 <| m (as_ .b) u6 <| e ?_
        replace hm := inl1 hm hq1
        subst hm
        exact rt (ret2 (.t n4 (.p rfl) (.t n5 (.p rfl) (.t n6 (.p rfl) .n))) rfl)
       ·
        replace hm := cf h14 hm
        refine skp ?_
        refine sr <| m (mv (.t n7)) u50 <| m (mv (.t n1)) u51 <| m (mv (.t n8)) u52 <| m (add (.t n51) (.t n52)) u53 <| m (add (.t n53) (.i rfl)) u54 <| m (as_ (.t n50)) u4 <| m (as_ (.t n54)) u5 <| m (as_ .b) u6 <| e ?_
        replace hm := inl1 hm hq1
        subst hm
        exact rt (ret2 (.t n4 (.p rfl) (.t n5 (.p rfl) (.t n6 (.p rfl) .n))) rfl)
     ·
      replace hm := cf h10 hm
      refine skp ?_
      refine rg <| m (mv (.t n8)) u12 <| m (add (.t n12) (.i rfl)) u13 <| m (as_ (.t n13)) u8 <| e ?_
      obtain ⟨c15, hm⟩ := gd_some hm
      exact ⟨(orI .i64 v0_7 (shlI .i64 (andI .i64 (IntKind.i64.wrap z7) (127 : Int)) (IntKind.i64.wrap ((7 : Int) * (i0 : Int)))), i0 + 1), hm, le [] (by decide) (.c (.e rfl rfl) (.c (.e rfl rfl) (.x4 (.c .a (.c (.e rfl rfl) (.c (.e (wi c15) rfl) (.x32 (.x8 (.x4 (.x2 .n)))))))))) .n⟩
  ·
   replace hm := cf h3 hm
   have h3d := of_decide_eq_false h3
   refine ex (x1 ?_)
   replace hm := inr1 hm hq1
   exact ⟨(), hm, le [] (by decide) (.x32 (.x16 (.x4 (.x2 (.c .a .n))))) .n⟩
 ·
  refine sr <| m (as_ (.i rfl)) u4 <| m (as_ (.i rfl)) u5 <| m (as_ .b) u6 <| e ?_
  replace hm := sj hm
  subst hm
  exact rt (ret2 (.t n4 (.p rfl) (.t n5 (.p rfl) (.t n6 (.p rfl) .n))) rfl)

theorem tot_spec_ReadUvarint (b_ : List Int) (at_ : Int) (hp0 : bytesOk b_) : Spec Tryz.prog G0 284 [.slice 1 (b_.map y8), .int .i64 at_] (fun v => v = .tup [.int .i64 ((uvF b_ at_).1), .int .i64 ((uvF b_ at_).2.1), .bool ((uvF b_ at_).2.2)]) := sp_spec_ReadUvarint b_ at_ _ (t_spec_ReadUvarint b_ at_ hp0)

theorem sp_spec_DecodeInts (b_ : List Int) (at_ : Int) (n_ : Int) (r : (List Int) × Int × Bool) (hm : m_spec_DecodeInts b_ at_ n_ = some r) : Spec Tryz.prog G0 216 [.slice 1 (b_.map y8), .int .i64 at_, .int .i64 n_] (fun v => v = .tup [.slice 1 (r.1.map iV), .int .i64 r.2.1, .bool r.2.2]) := by
 rw [m_spec_DecodeInts] at hm
 refine enter (l := [.tmp 6, .tmp 7, .tmp 8]) Tryz.func216 rfl Tryz.ntmps216 rfl T.en216 fun E => ?_
 simp only [List.length_cons, List.length_nil, List.replicate_succ, List.replicate_zero, List.cons_append, List.nil_append, Nat.reduceAdd, Nat.reduceSub]
 refine sr <| m (as_ .n) u6 <| m (as_ (.i rfl)) u7 <| m (as_ .b) u8 <| e ?_
 refine sr <| k (bom ([] : List Int) iV T.s108 rfl rfl .n rfl s0 u14) <| m (as_ (.t n14)) u9 <| e ?_
 refine sq ?_
 refine sr <| rjb hm (fun j0_24 : Bool => ⟨[.slice 1 (b_.map y8), .int .i64 at_, .int .i64 n_, .any, .any, .any, .any, .any, .any, .own 0, .any, .any, .any, .any, .any, .any, .any, .any, .any, .any, .any, .any, .any, .any, .bool j0_24, .any, .any, .any, .any, .any, .any, .any, .any, .any, .any, .any, .any, .any, .any, .any, .any, .any, .any, .any, .any, .any, .any, .any], [.row 3 1 (([] : List Int).map iV)]⟩) (fun _ hm hq1 => ?_) (fun j0_24 hm => ?_)
 ·
  refine m (mv (.t n2)) u15 <| c (call (tot_spec_l1In n_ (0 : Int) (100 : Int)) (.c (.t n15) rfl (.c (.i rfl) rfl (.c (.i rfl) rfl .n)))) u16 <| m (not_ (.t n16)) u17 <| m (mv (.t n17)) u18 <| sp n18 u18 u18 (fun h2 => ?_) (fun h2 => ?_)
  ·
   replace hm := ct h2 hm
   refine sk n3 rfl n18 rfl u19 <| sk n3 rfl n18 rfl u20 <| sk n3 rfl n18 rfl u21 <| sk n3 rfl n18 rfl u22 <| sk n3 rfl n18 rfl u23 <| m (pkt (.t n18) .b) u24 <| e ?_
   replace hm := sj hm
   subst hm
   have hm := hq1
   exact ⟨true, hm, le [0] (by decide) (.c (.e rfl rfl) (.c (.e rfl rfl) (.c (.e rfl rfl) (.x4 (.x2 (.c (.w n0) (.x8 (.x4 (.x2 (.c (.e rfl rfl) (.x16 (.x4 (.x2 (.c .a .n)))))))))))))) (.r n0 rfl .n)⟩
  ·
   replace hm := cf h2 hm
   refine mg n3 rfl n18 (mv (.t n1)) u19 <| mg n3 rfl n18 (mv (.t n0)) u20 <| mg n3 rfl n18 (lenm (l := b_) (f := y8) T.s207 (.t n20)) u21 <| cg n3 rfl n18 (call (tot_spec_l1In at_ (0 : Int) (b_.length : Int)) (.c (.t n19) rfl (.c (.i rfl) rfl (.c (.t n21) rfl .n)))) u22 <| mg n3 rfl n18 (not_ (.t n22)) u23 <| m (pkf (.t n18) (.t n23)) u24 <| e ?_
   replace hm := sj hm
   subst hm
   have hm := hq1
   exact ⟨(!(inR at_ (0 : Int) (b_.length : Int))), hm, le [0] (by decide) (.c (.e rfl rfl) (.c (.e rfl rfl) (.c (.e rfl rfl) (.x4 (.x2 (.c (.w n0) (.x8 (.x4 (.x2 (.c (.e rfl rfl) (.x16 (.x4 (.x2 (.c .a .n)))))))))))))) (.r n0 rfl .n)⟩
 ·
  refine cnd n24 (fun h3 => ?_) (fun h3 => ?_)
  ·
   replace hm := ct h3 hm
   refine sr <| m (mv (.t n9)) u25 <| m (as_ (.t n25)) u6 <| m (as_ (.i rfl)) u7 <| m (as_ .b) u8 <| e ?_
   replace hm := sj hm
   subst hm
   exact rt (ret2 (.t n6 (.o n0) (.t n7 (.p rfl) (.t n8 (.p rfl) .n))) rfl)
  ·
   replace hm := cf h3 hm
   refine skp ?_
   refine sq ?_
   refine sr <| m (as_ (.i rfl)) u10 <| e ?_
   refine jmx hm (fun yy5_ : Int × (List Int) => ⟨[.any, .int .i64 yy5_.1, .any, .any, .any, .any, .any, .any, .any, .own 0, .any, .any, .any, .any, .any, .any, .any, .any, .any, .any, .any, .any, .any, .any, .any, .any, .any, .any, .any, .any, .any, .any, .any, .any, .any, .any, .any, .any, .any, .any, .any, .any, .any, .any, .any, .any, .any, .any], [.row 3 1 (yy5_.2.map iV)]⟩) (fun _ hm hq4 => ?_) (fun t hm => ?_)
   ·
    refine bk ?_
    refine lpf (m := m_spec_DecodeInts_l0 b_ n_) hm (fun yy6_ : Int × Nat × (List Int) => ⟨[.slice 1 (b_.map y8), .int .i64 yy6_.1, .int .i64 n_, .any, .any, .any, .any, .any, .any, .own 0, .int .i64 (yy6_.2.1 : Int), .any, .any, .any, .any, .any, .any, .any, .any, .any, .any, .any, .any, .any, .any, .any, .any, .any, .any, .any, .any, .any, .any, .any, .any, .any, .any, .any, .any, .any, .any, .any, .any, .any, .any, .any, .any, .any], [.row 3 1 (yy6_.2.2.map iV)]⟩) (fun _ => rfl) (le [0] (by decide) (.c (.e rfl rfl) (.c (.e rfl rfl) (.c (.e rfl rfl) (.x4 (.x2 (.c (.w n0) (.c (.e rfl rfl) (.x32 (.x4 (.c .a .n)))))))))) (.r n0 rfl .n)) ?_
    rintro f ⟨v0_1, i0, v0r1⟩ hm
    rw [m_spec_DecodeInts_l0] at hm
    dsimp only at hm ⊢
    refine sq ?_
    refine sr <| m (mv (.t n10)) u26 <| m (mv (.t n2)) u27 <| m (lss (.t n26) (.t n27)) u28 <| e ?_
    refine rng n27 fun _ ra7 => ?_
    replace ra7 := (show (_ : Int) ≤ 9223372036854775807 from ra7)
    refine cnd n28 (fun h8 => ?_) (fun h8 => ?_)
    ·
     replace hm := ct h8 hm
     have h8d := of_decide_eq_true h8
     refine skp ?_
     refine sq ?_
     refine bk ?_
     obtain ⟨c9, hm⟩ := gd_some hm
     refine sr <| m (mv (.t n0)) u32 <| m (mv (.t n1)) u33 <| c (call (tot_spec_ReadUvarint b_ v0_1 c9) (.c (.t n32) rfl (.c (.t n33) rfl .n))) u34 <| m (mv (.t n34)) u31 <| m (ext_ n0 (.t n31)) u35 <| m (ext_ n1 (.t n31)) u36 <| m (ext_ n2 (.t n31)) u37 <| m (as_ (.t n35)) u11 <| m (as_ (.t n36)) u12 <| m (as_ (.t n37)) u13 <| e ?_
     refine sq ?_
     refine sr <| m (mv (.t n13)) u38 <| m (not_ (.t n38)) u39 <| e ?_
     refine cnd n39 (fun h10 => ?_) (fun h10 => ?_)
     ·
      replace hm := ct h10 hm
      refine sr <| k (bsm ([] : List Int) iV T.s108 rfl rfl .n rfl u40) <| m (as_ (.t n40)) u6 <| m (as_ (.i rfl)) u7 <| m (as_ .b) u8 <| e ?_
      replace hm := inl1 hm hq4
      subst hm
      exact rt (ret2 (.t n6 (.p rfl) (.t n7 (.p rfl) (.t n8 (.p rfl) .n))) rfl)
     ·
      replace hm := cf h10 hm
      refine skp ?_
      obtain ⟨c11, hm⟩ := gd_some hm
      refine sr <| m (mv (.t n9)) u41 <| m (mv (.t n11)) u42 <| k (bsm ([(uvF b_ v0_1).1] : List Int) iV T.s108 rfl rfl (.c (.t n42) rfl rfl rfl .n) rfl u43) <| dr u9 <| k (apm (l := v0r1) (l2 := ([(uvF b_ v0_1).1] : List Int)) (f := iV) 41 c11 rfl (fun _ => rfl) T.s108 rfl n41 u41 n0 (.t n43) q0 rfl u44) <| m (as_ (.t n44)) u9 <| e ?_
      refine rg <| m (mv (.t n12)) u45 <| m (as_ (.t n45)) u1 <| e ?_
      refine rg <| m (mv (.t n10)) u29 <| m (add (.t n29) (.i rfl)) u30 <| m (as_ (.t n30)) u10 <| e ?_
      exact ⟨((uvF b_ v0_1).2.1, i0 + 1, (v0r1 ++ ([(uvF b_ v0_1).1] : List Int))), hm, le [0] (by decide) (.c (.e rfl rfl) (.c (.e rfl rfl) (.c (.e rfl rfl) (.x4 (.x2 (.c (.w n0) (.c (.e (wi (by omega)) rfl) (.x32 (.x4 (.c .a .n)))))))))) (.r n0 rfl .n)⟩
    ·
     replace hm := cf h8 hm
     have h8d := of_decide_eq_false h8
     refine ex (x1 ?_)
     replace hm := inr1 hm hq4
     exact ⟨(v0_1, v0r1), hm, le [0] (by decide) (.c .a (.c (.e rfl rfl) (.x4 (.x2 (.c .a (.c (.w n0) (.x32 (.x4 (.x2 .n))))))))) (.r n0 rfl .n)⟩
   ·
    obtain ⟨j1_1, j1r1⟩ := t
    dsimp only at hm ⊢
    refine sr <| m (mv (.t n9)) u46 <| m (mv (.t n1)) u47 <| m (as_ (.t n46)) u6 <| m (as_ (.t n47)) u7 <| m (as_ .b) u8 <| e ?_
    replace hm := sj hm
    subst hm
    exact rt (ret2 (.t n6 (.o n0) (.t n7 (.p rfl) (.t n8 (.p rfl) .n))) rfl)

theorem tot_spec_DecodeInts (b_ : List Int) (at_ : Int) (n_ : Int) (hp0 : bytesOk b_) : Spec Tryz.prog G0 216 [.slice 1 (b_.map y8), .int .i64 at_, .int .i64 n_] (fun v => v = .tup [.slice 1 (((decodeF b_ at_ n_).1).map iV), .int .i64 ((decodeF b_ at_ n_).2.1), .bool ((decodeF b_ at_ n_).2.2)]) := sp_spec_DecodeInts b_ at_ n_ _ (t_spec_DecodeInts b_ at_ n_ hp0)

theorem sp_impl_ReadUvarint (b_ : List Int) (offset_ : Int) (r : Int × Int × Bool) (hm : m_impl_ReadUvarint b_ offset_ = some r) : Spec Tryz.prog G0 287 [.slice 1 (b_.map y8), .int .i64 offset_] (fun v => v = .tup [.int .i64 r.1, .int .i64 r.2.1, .bool r.2.2]) := by
 rw [m_impl_ReadUvarint] at hm
 refine enter (l := [.tmp 4, .tmp 5, .tmp 6]) Tryz.func287 rfl Tryz.ntmps287 rfl T.en287 fun E => ?_
 simp only [List.length_cons, List.length_nil, List.replicate_succ, List.replicate_zero, List.cons_append, List.nil_append, Nat.reduceAdd, Nat.reduceSub]
 refine sr <| m (as_ (.i rfl)) u4 <| m (as_ (.i rfl)) u5 <| m (as_ .b) u6 <| e ?_
 refine sq ?_
 refine sr <| rjb hm (fun j0_18 : Bool => ⟨[.slice 1 (b_.map y8), .int .i64 offset_, .any, .any, .any, .any, .any, .any, .any, .any, .any, .any, .any, .any, .any, .any, .any, .any, .bool j0_18, .any, .any, .any, .any, .any, .any, .any, .any, .any, .any, .any, .any, .any, .any, .any, .any, .any, .any, .any, .any, .any, .any, .any, .any, .any, .any, .any, .any, .any, .any, .any, .any, .any, .any, .any, .any, .any, .any, .any, .any, .any, .any], []⟩) (fun _ hm hq1 => ?_) (fun j0_18 hm => ?_)
 ·
  refine m (mv (.t n1)) u11 <| m (lss (.t n11) (.i rfl)) u12 <| m (mv (.t n12)) u13 <| sp n13 u13 u13 (fun h2 => ?_) (fun h2 => ?_)
  ·
   replace hm := ct h2 hm
   refine sk n2 rfl n13 rfl u14 <| sk n2 rfl n13 rfl u15 <| sk n2 rfl n13 rfl u16 <| sk n2 rfl n13 rfl u17 <| m (pkt (.t n13) .b) u18 <| e ?_
   replace hm := sj hm
   subst hm
   have hm := hq1
   exact ⟨true, hm, le [] (by decide) (.c (.e rfl rfl) (.c (.e rfl rfl) (.x16 (.c (.e rfl rfl) (.x32 (.x8 (.x2 .n))))))) .n⟩
  ·
   replace hm := cf h2 hm
   refine mg n2 rfl n13 (mv (.t n1)) u14 <| mg n2 rfl n13 (mv (.t n0)) u15 <| mg n2 rfl n13 (lenm (l := b_) (f := y8) T.s207 (.t n15)) u16 <| mg n2 rfl n13 (geq (.t n14) (.t n16)) u17 <| m (pkf (.t n13) (.t n17)) u18 <| e ?_
   replace hm := sj hm
   subst hm
   have hm := hq1
   exact ⟨decide (offset_ ≥ (b_.length : Int)), hm, le [] (by decide) (.c (.e rfl rfl) (.c (.e rfl rfl) (.x16 (.c (.e rfl rfl) (.x32 (.x8 (.x2 .n))))))) .n⟩
 ·
  refine cnd n18 (fun h3 => ?_) (fun h3 => ?_)
  ·
   replace hm := ct h3 hm
   refine sr <| m (as_ (.i rfl)) u4 <| m (as_ (.i rfl)) u5 <| m (as_ .b) u6 <| e ?_
   replace hm := sj hm
   subst hm
   exact rt (ret2 (.t n4 (.p rfl) (.t n5 (.p rfl) (.t n6 (.p rfl) .n))) rfl)
  ·
   replace hm := cf h3 hm
   refine skp ?_
   refine sr <| m (as_ (.i rfl)) u7 <| e ?_
   refine sr <| m (as_ (.i rfl)) u8 <| e ?_
   refine sq ?_
   refine sr <| m (as_ (.i rfl)) u9 <| e ?_
   refine jmx hm (fun _ : Unit => ⟨[.any, .any, .any, .any, .any, .any, .any, .any, .any, .any, .any, .any, .any, .any, .any, .any, .any, .any, .any, .any, .any, .any, .any, .any, .any, .any, .any, .any, .any, .any, .any, .any, .any, .any, .any, .any, .any, .any, .any, .any, .any, .any, .any, .any, .any, .any, .any, .any, .any, .any, .any, .any, .any, .any, .any, .any, .any, .any, .any, .any, .any], []⟩) (fun _ hm hq4 => ?_) (fun _ hm => ?_)
   ·
    refine bk ?_
    refine lpf (m := m_impl_ReadUvarint_l0 b_ offset_) hm (fun yy5_ : Int × Int × Nat => ⟨[.slice 1 (b_.map y8), .int .i64 offset_, .any, .any, .any, .any, .any, .int .i64 yy5_.1, .int .i64 yy5_.2.1, .int .i64 (yy5_.2.2 : Int), .any, .any, .any, .any, .any, .any, .any, .any, .any, .any, .any, .any, .any, .any, .any, .any, .any, .any, .any, .any, .any, .any, .any, .any, .any, .any, .any, .any, .any, .any, .any, .any, .any, .any, .any, .any, .any, .any, .any, .any, .any, .any, .any, .any, .any, .any, .any, .any, .any, .any, .any], []⟩) (fun _ => rfl) (le [] (by decide) (.c (.e rfl rfl) (.c (.e rfl rfl) (.x4 (.c .a (.c (.e rfl rfl) (.c (.e rfl rfl) (.c (.e rfl rfl) (.x32 (.x16 (.x2 (.c .a .n))))))))))) .n) ?_
    rintro f ⟨v0_7, v0_8, i0⟩ hm
    rw [m_impl_ReadUvarint_l0] at hm
    dsimp only at hm ⊢
    refine sq ?_
    refine sr <| m (mv (.t n9)) u19 <| m (lss (.t n19) (.i rfl)) u20 <| e ?_
    refine cnd n20 (fun h6 => ?_) (fun h6 => ?_)
    ·
     replace hm := ct h6 hm
     have h6d := of_decide_eq_true h6
     refine skp ?_
     refine sq ?_
     refine bk ?_
     refine sq ?_
     refine sr <| m (mv (.t n1)) u23 <| m (mv (.t n9)) u24 <| m (add (.t n23) (.t n24)) u25 <| m (mv (.t n0)) u26 <| m (lenm (l := b_) (f := y8) T.s207 (.t n26)) u27 <| m (geq (.t n25) (.t n27)) u28 <| e ?_
     refine cnd n28 (fun h7 => ?_) (fun h7 => ?_)
     ·
      replace hm := ct h7 hm
      have h7d := of_decide_eq_true h7
      refine sr <| m (as_ (.i rfl)) u4 <| m (as_ (.i rfl)) u5 <| m (as_ .b) u6 <| e ?_
      replace hm := inl1 hm hq4
      subst hm
      exact rt (ret2 (.t n4 (.p rfl) (.t n5 (.p rfl) (.t n6 (.p rfl) .n))) rfl)
     ·
      replace hm := cf h7 hm
      have h7d := of_decide_eq_false h7
      refine skp ?_
      obtain ⟨z8, e9, hm⟩ := bd_some hm
      refine sr <| m (mv (.t n0)) u29 <| m (mv (.t n1)) u30 <| m (mv (.t n9)) u31 <| m (add (.t n30) (.t n31)) u32 <| m (ixq (f := y8) e9 T.s207 (.t n29) (.t n32)) u33 <| m (lde T.o5 n0 (.t n33)) u34 <| m (cnv T.is5 Tryz.underlying3 (.t n34)) u35 <| m (as_ (.t n35)) u10 <| e ?_
      refine sr <| m (mv (.t n7)) u36 <| m (mv (.t n10)) u37 <| m (rem (by decide) (.t n37) (.i rfl)) u38 <| m (mv (.t n8)) u39 <| m (mul (.t n38) (.t n39)) u40 <| m (add (.t n36) (.t n40)) u41 <| m (as_ (.t n41)) u7 <| e ?_
      refine sr <| m (mv (.t n8)) u42 <| m (mul (.t n42) (.i rfl)) u43 <| m (as_ (.t n43)) u8 <| e ?_
      refine sr <| m (mv (.t n10)) u44 <| m (lss (.t n44) (.i rfl)) u45 <| e ?_
      refine cnd n45 (fun h10 => ?_) (fun h10 => ?_)
      ·
       replace hm := ct h10 hm
       refine sq ?_
       refine sr <| rjb hm (fun j2_55 : Bool => ⟨[.any, .int .i64 offset_, .any, .any, .any, .any, .any, .int .i64 (IntKind.i64.wrap (v0_7 + IntKind.i64.wrap ((IntKind.i64.wrap z8).tmod (128 : Int) * v0_8))), .any, .int .i64 (i0 : Int), .any, .any, .any, .any, .any, .any, .any, .any, .any, .any, .any, .any, .any, .any, .any, .any, .any, .any, .any, .any, .any, .any, .any, .any, .any, .any, .any, .any, .any, .any, .any, .any, .any, .any, .any, .any, .any, .any, .any, .any, .any, .any, .any, .any, .any, .bool j2_55, .any, .any, .any, .any, .any], []⟩) (fun _ hm hq11 => ?_) (fun j2_55 hm => ?_)
       ·
        refine m (mv (.t n9)) u46 <| m (gtr (.t n46) (.i rfl)) u47 <| m (mv (.t n47)) u48 <| sp n48 u48 u48 (fun h12 => ?_) (fun h12 => ?_)
        ·
         replace hm := ct h12 hm
         refine mg n2 rfl n48 (mv (.t n10)) u49 <| mg n2 rfl n48 (eql (.t n49) (.i rfl)) u50 <| m (pkt (.t n48) (.t n50)) u51 <| m (mv (.t n51)) u52 <| sp n52 u52 u52 (fun h13 => ?_) (fun h13 => ?_)
         ·
          replace hm := ct h13 hm
          refine sk n6 rfl n52 rfl u53 <| sk n6 rfl n52 rfl u54 <| m (pkt (.t n52) .b) u55 <| e ?_
          replace hm := sj hm
          subst hm
          have hm := hq11
          exact ⟨true, hm, le [] (by decide) (.c .a (.c (.e rfl rfl) (.x4 (.c .a (.c (.e rfl rfl) (.c .a (.c (.e rfl rfl) (.x32 (.x8 (.x4 (.c .a (.c (.e rfl rfl) (.x4 (.c .a .n)))))))))))))) .n⟩
         ·
          replace hm := cf h13 hm
          refine mg n6 rfl n52 (mv (.t n7)) u53 <| mg n6 rfl n52 (gtr (.t n53) (.i rfl)) u54 <| m (pkf (.t n52) (.t n54)) u55 <| e ?_
          replace hm := sj hm
          subst hm
          have hm := hq11
          exact ⟨decide (IntKind.i64.wrap (v0_7 + IntKind.i64.wrap ((IntKind.i64.wrap z8).tmod (128 : Int) * v0_8)) > (1000000000000 : Int)), hm, le [] (by decide) (.c .a (.c (.e rfl rfl) (.x4 (.c .a (.c (.e rfl rfl) (.c .a (.c (.e rfl rfl) (.x32 (.x8 (.x4 (.c .a (.c (.e rfl rfl) (.x4 (.c .a .n)))))))))))))) .n⟩
        ·
         replace hm := cf h12 hm
         refine sk n2 rfl n48 rfl u49 <| sk n2 rfl n48 rfl u50 <| m (pkf (.t n48) .b) u51 <| m (mv (.t n51)) u52 <| mg n6 rfl n52 (mv (.t n7)) u53 <| mg n6 rfl n52 (gtr (.t n53) (.i rfl)) u54 <| m (pkf (.t n52) (.t n54)) u55 <| e ?_
         replace hm := sj hm
         subst hm
         have hm := hq11
         exact ⟨decide (IntKind.i64.wrap (v0_7 + IntKind.i64.wrap ((IntKind.i64.wrap z8).tmod (128 : Int) * v0_8)) > (1000000000000 : Int)), hm, le [] (by decide) (.c .a (.c (.e rfl rfl) (.x4 (.c .a (.c (.e rfl rfl) (.c .a (.c (.e rfl rfl) (.x32 (.x8 (.x4 (.c .a (.c (.e rfl rfl) (.x4 (.c .a .n)))))))))))))) .n⟩
       ·
        refine cnd n55 (fun h14 => ?_) (fun h14 => ?_)
        ·
         replace hm := ct h14 hm
         refine sr <| m (as_ (.i rfl)) u4 <| m (as_ (.i rfl)) u5 <| m (as_ .b) u6 <| e ?_
         replace hm := inl1 hm hq4
         subst hm
         exact rt (ret2 (.t n4 (.p rfl) (.t n5 (.p rfl) (.t n6 (.p rfl) .n))) rfl)
        ·
         replace hm := cf h14 hm
         refine skp ?_
         refine sr <| m (mv (.t n7)) u56 <| m (mv (.t n1)) u57 <| m (mv (.t n9)) u58 <| m (add (.t n57) (.t n58)) u59 <| m (add (.t n59) (.i rfl)) u60 <| m (as_ (.t n56)) u4 <| m (as_ (.t n60)) u5 <| m (as_ .b) u6 <| e ?_
         replace hm := inl1 hm hq4
         subst hm
         exact rt (ret2 (.t n4 (.p rfl) (.t n5 (.p rfl) (.t n6 (.p rfl) .n))) rfl)
      ·
       replace hm := cf h10 hm
       refine skp ?_
       refine rg <| m (mv (.t n9)) u21 <| m (add (.t n21) (.i rfl)) u22 <| m (as_ (.t n22)) u9 <| e ?_
       obtain ⟨c15, hm⟩ := gd_some hm
       exact ⟨(IntKind.i64.wrap (v0_7 + IntKind.i64.wrap ((IntKind.i64.wrap z8).tmod (128 : Int) * v0_8)), IntKind.i64.wrap (v0_8 * (128 : Int)), i0 + 1), hm, le [] (by decide) (.c (.e rfl rfl) (.c (.e rfl rfl) (.x4 (.c .a (.c (.e rfl rfl) (.c (.e rfl rfl) (.c (.e (wi c15) rfl) (.x32 (.x16 (.x2 (.c .a .n))))))))))) .n⟩
    ·
     replace hm := cf h6 hm
     have h6d := of_decide_eq_false h6
     refine ex (x1 ?_)
     replace hm := inr1 hm hq4
     exact ⟨(), hm, le [] (by decide) (.x32 (.x16 (.x8 (.x4 (.c .a .n))))) .n⟩
   ·
    refine sr <| m (as_ (.i rfl)) u4 <| m (as_ (.i rfl)) u5 <| m (as_ .b) u6 <| e ?_
    replace hm := sj hm
    subst hm
    exact rt (ret2 (.t n4 (.p rfl) (.t n5 (.p rfl) (.t n6 (.p rfl) .n))) rfl)

theorem tot_impl_ReadUvarint (b_ : List Int) (offset_ : Int) (hp0 : bytesOk b_) : Spec Tryz.prog G0 287 [.slice 1 (b_.map y8), .int .i64 offset_] (fun v => v = .tup [.int .i64 ((uvF b_ offset_).1), .int .i64 ((uvF b_ offset_).2.1), .bool ((uvF b_ offset_).2.2)]) := sp_impl_ReadUvarint b_ offset_ _ (t_impl_ReadUvarint b_ offset_ hp0)

theorem sp_impl_DecodeInts (b_ : List Int) (offset_ : Int) (count_ : Int) (r : (List Int) × Int × Bool) (hm : m_impl_DecodeInts b_ offset_ count_ = some r) : Spec Tryz.prog G0 219 [.slice 1 (b_.map y8), .int .i64 offset_, .int .i64 count_] (fun v => v = .tup [.slice 1 (r.1.map iV), .int .i64 r.2.1, .bool r.2.2]) := by
 rw [m_impl_DecodeInts] at hm
 refine enter (l := [.tmp 6, .tmp 7, .tmp 8]) Tryz.func219 rfl Tryz.ntmps219 rfl T.en219 fun E => ?_
 simp only [List.length_cons, List.length_nil, List.replicate_succ, List.replicate_zero, List.cons_append, List.nil_append, Nat.reduceAdd, Nat.reduceSub]
 refine sr <| m (as_ .n) u6 <| m (as_ (.i rfl)) u7 <| m (as_ .b) u8 <| e ?_
 refine sq ?_
 refine sr <| rjb hm (fun j0_29 : Bool => ⟨[.slice 1 (b_.map y8), .int .i64 offset_, .int .i64 count_, .any, .any, .any, .any, .any, .any, .any, .any, .any, .any, .any, .any, .any, .any, .any, .any, .any, .any, .any, .any, .any, .any, .any, .any, .any, .any, .bool j0_29, .any, .any, .any, .any, .any, .any, .any, .any, .any, .any, .any, .any, .any, .any, .any, .any, .any, .any, .any, .any, .any, .any], []⟩) (fun _ hm hq1 => ?_) (fun j0_29 hm => ?_)
 ·
  refine m (mv (.t n2)) u14 <| m (lss (.t n14) (.i rfl)) u15 <| m (mv (.t n15)) u16 <| sp n16 u16 u16 (fun h2 => ?_) (fun h2 => ?_)
  ·
   replace hm := ct h2 hm
   refine sk n2 rfl n16 rfl u17 <| sk n2 rfl n16 rfl u18 <| m (pkt (.t n16) .b) u19 <| m (mv (.t n19)) u20 <| sk n6 rfl n20 rfl u21 <| sk n6 rfl n20 rfl u22 <| m (pkt (.t n20) .b) u23 <| m (mv (.t n23)) u24 <| sk n10 rfl n24 rfl u25 <| sk n10 rfl n24 rfl u26 <| sk n10 rfl n24 rfl u27 <| sk n10 rfl n24 rfl u28 <| m (pkt (.t n24) .b) u29 <| e ?_
   replace hm := sj hm
   subst hm
   have hm := hq1
   exact ⟨true, hm, le [] (by decide) (.c (.e rfl rfl) (.c (.e rfl rfl) (.c (.e rfl rfl) (.x16 (.x8 (.x2 (.c (.e rfl rfl) (.x16 (.x4 (.x2 .n)))))))))) .n⟩
  ·
   replace hm := cf h2 hm
   refine mg n2 rfl n16 (mv (.t n2)) u17 <| mg n2 rfl n16 (gtr (.t n17) (.i rfl)) u18 <| m (pkf (.t n16) (.t n18)) u19 <| m (mv (.t n19)) u20 <| sp n20 u20 u20 (fun h3 => ?_) (fun h3 => ?_)
   ·
    replace hm := ct h3 hm
    refine sk n6 rfl n20 rfl u21 <| sk n6 rfl n20 rfl u22 <| m (pkt (.t n20) .b) u23 <| m (mv (.t n23)) u24 <| sk n10 rfl n24 rfl u25 <| sk n10 rfl n24 rfl u26 <| sk n10 rfl n24 rfl u27 <| sk n10 rfl n24 rfl u28 <| m (pkt (.t n24) .b) u29 <| e ?_
    replace hm := sj hm
    subst hm
    have hm := hq1
    exact ⟨true, hm, le [] (by decide) (.c (.e rfl rfl) (.c (.e rfl rfl) (.c (.e rfl rfl) (.x16 (.x8 (.x2 (.c (.e rfl rfl) (.x16 (.x4 (.x2 .n)))))))))) .n⟩
   ·
    replace hm := cf h3 hm
    refine mg n6 rfl n20 (mv (.t n1)) u21 <| mg n6 rfl n20 (lss (.t n21) (.i rfl)) u22 <| m (pkf (.t n20) (.t n22)) u23 <| m (mv (.t n23)) u24 <| sp n24 u24 u24 (fun h4 => ?_) (fun h4 => ?_)
    ·
     replace hm := ct h4 hm
     refine sk n10 rfl n24 rfl u25 <| sk n10 rfl n24 rfl u26 <| sk n10 rfl n24 rfl u27 <| sk n10 rfl n24 rfl u28 <| m (pkt (.t n24) .b) u29 <| e ?_
     replace hm := sj hm
     subst hm
     have hm := hq1
     exact ⟨true, hm, le [] (by decide) (.c (.e rfl rfl) (.c (.e rfl rfl) (.c (.e rfl rfl) (.x16 (.x8 (.x2 (.c (.e rfl rfl) (.x16 (.x4 (.x2 .n)))))))))) .n⟩
    ·
     replace hm := cf h4 hm
     refine mg n10 rfl n24 (mv (.t n1)) u25 <| mg n10 rfl n24 (mv (.t n0)) u26 <| mg n10 rfl n24 (lenm (l := b_) (f := y8) T.s207 (.t n26)) u27 <| mg n10 rfl n24 (gtr (.t n25) (.t n27)) u28 <| m (pkf (.t n24) (.t n28)) u29 <| e ?_
     replace hm := sj hm
     subst hm
     have hm := hq1
     exact ⟨decide (offset_ > (b_.length : Int)), hm, le [] (by decide) (.c (.e rfl rfl) (.c (.e rfl rfl) (.c (.e rfl rfl) (.x16 (.x8 (.x2 (.c (.e rfl rfl) (.x16 (.x4 (.x2 .n)))))))))) .n⟩
 ·
  refine cnd n29 (fun h5 => ?_) (fun h5 => ?_)
  ·
   replace hm := ct h5 hm
   refine sr <| m (as_ .n) u6 <| m (as_ (.i rfl)) u7 <| m (as_ .b) u8 <| e ?_
   replace hm := sj hm
   subst hm
   exact rt (ret2 (.t n6 .n (.t n7 (.p rfl) (.t n8 (.p rfl) .n))) rfl)
  ·
   replace hm := cf h5 hm
   refine skp ?_
   refine sr <| k (bom ([] : List Int) iV T.s108 rfl rfl .n rfl s0 u30) <| m (as_ (.t n30)) u9 <| e ?_
   refine sq ?_
   refine sr <| m (as_ (.i rfl)) u10 <| e ?_
   refine jmx hm (fun yy7_ : Int × (List Int) => ⟨[.any, .int .i64 yy7_.1, .any, .any, .any, .any, .any, .any, .any, .own 0, .any, .any, .any, .any, .any, .any, .any, .any, .any, .any, .any, .any, .any, .any, .any, .any, .any, .any, .any, .any, .any, .any, .any, .any, .any, .any, .any, .any, .any, .any, .any, .any, .any, .any, .any, .any, .any, .any, .any, .any, .any, .any], [.row 3 1 (yy7_.2.map iV)]⟩) (fun _ hm hq6 => ?_) (fun t hm => ?_)
   ·
    refine bk ?_
    refine lpf (m := m_impl_DecodeInts_l0 b_ count_) hm (fun yy8_ : Int × Nat × (List Int) => ⟨[.slice 1 (b_.map y8), .int .i64 yy8_.1, .int .i64 count_, .any, .any, .any, .any, .any, .any, .own 0, .int .i64 (yy8_.2.1 : Int), .any, .any, .any, .any, .any, .any, .any, .any, .any, .any, .any, .any, .any, .any, .any, .any, .any, .any, .any, .any, .any, .any, .any, .any, .any, .any, .any, .any, .any, .any, .any, .any, .any, .any, .any, .any, .any, .any, .any, .any, .any], [.row 3 1 (yy8_.2.2.map iV)]⟩) (fun _ => rfl) (le [0] (by decide) (.c (.e rfl rfl) (.c (.e rfl rfl) (.c (.e rfl rfl) (.x4 (.x2 (.c (.w n0) (.c (.e rfl rfl) (.x32 (.x8 (.c .a .n)))))))))) (.r n0 rfl .n)) ?_
    rintro f ⟨v0_1, i0, v0r1⟩ hm
    rw [m_impl_DecodeInts_l0] at hm
    dsimp only at hm ⊢
    refine sq ?_
    refine sr <| m (mv (.t n10)) u31 <| m (mv (.t n2)) u32 <| m (lss (.t n31) (.t n32)) u33 <| e ?_
    refine rng n32 fun _ ra9 => ?_
    replace ra9 := (show (_ : Int) ≤ 9223372036854775807 from ra9)
    refine cnd n33 (fun h10 => ?_) (fun h10 => ?_)
    ·
     replace hm := ct h10 hm
     have h10d := of_decide_eq_true h10
     refine skp ?_
     refine sq ?_
     refine bk ?_
     obtain ⟨c11, hm⟩ := gd_some hm
     refine sr <| m (mv (.t n0)) u37 <| m (mv (.t n1)) u38 <| c (call (tot_impl_ReadUvarint b_ v0_1 c11) (.c (.t n37) rfl (.c (.t n38) rfl .n))) u39 <| m (mv (.t n39)) u36 <| m (ext_ n0 (.t n36)) u40 <| m (ext_ n1 (.t n36)) u41 <| m (ext_ n2 (.t n36)) u42 <| m (as_ (.t n40)) u11 <| m (as_ (.t n41)) u12 <| m (as_ (.t n42)) u13 <| e ?_
     refine sq ?_
     refine sr <| m (mv (.t n13)) u43 <| m (not_ (.t n43)) u44 <| e ?_
     refine cnd n44 (fun h12 => ?_) (fun h12 => ?_)
     ·
      replace hm := ct h12 hm
      refine sr <| m (as_ .n) u6 <| m (as_ (.i rfl)) u7 <| m (as_ .b) u8 <| e ?_
      replace hm := inl1 hm hq6
      subst hm
      exact rt (ret2 (.t n6 .n (.t n7 (.p rfl) (.t n8 (.p rfl) .n))) rfl)
     ·
      replace hm := cf h12 hm
      refine skp ?_
      obtain ⟨c13, hm⟩ := gd_some hm
      refine sr <| m (mv (.t n9)) u45 <| m (mv (.t n11)) u46 <| k (bsm ([(uvF b_ v0_1).1] : List Int) iV T.s108 rfl rfl (.c (.t n46) rfl rfl rfl .n) rfl u47) <| dr u9 <| k (apm (l := v0r1) (l2 := ([(uvF b_ v0_1).1] : List Int)) (f := iV) 45 c13 rfl (fun _ => rfl) T.s108 rfl n45 u45 n0 (.t n47) q0 rfl u48) <| m (as_ (.t n48)) u9 <| e ?_
      refine rg <| m (mv (.t n12)) u49 <| m (as_ (.t n49)) u1 <| e ?_
      refine rg <| m (mv (.t n10)) u34 <| m (add (.t n34) (.i rfl)) u35 <| m (as_ (.t n35)) u10 <| e ?_
      exact ⟨((uvF b_ v0_1).2.1, i0 + 1, (v0r1 ++ ([(uvF b_ v0_1).1] : List Int))), hm, le [0] (by decide) (.c (.e rfl rfl) (.c (.e rfl rfl) (.c (.e rfl rfl) (.x4 (.x2 (.c (.w n0) (.c (.e (wi (by omega)) rfl) (.x32 (.x8 (.c .a .n)))))))))) (.r n0 rfl .n)⟩
    ·
     replace hm := cf h10 hm
     have h10d := of_decide_eq_false h10
     refine ex (x1 ?_)
     replace hm := inr1 hm hq6
     exact ⟨(v0_1, v0r1), hm, le [0] (by decide) (.c .a (.c (.e rfl rfl) (.x4 (.x2 (.c .a (.c (.w n0) (.x32 (.x8 (.x2 .n))))))))) (.r n0 rfl .n)⟩
   ·
    obtain ⟨j1_1, j1r1⟩ := t
    dsimp only at hm ⊢
    refine sr <| m (mv (.t n9)) u50 <| m (mv (.t n1)) u51 <| m (as_ (.t n50)) u6 <| m (as_ (.t n51)) u7 <| m (as_ .b) u8 <| e ?_
    replace hm := sj hm
    subst hm
    exact rt (ret2 (.t n6 (.o n0) (.t n7 (.p rfl) (.t n8 (.p rfl) .n))) rfl)

theorem tot_impl_DecodeInts (b_ : List Int) (offset_ : Int) (count_ : Int) (hp0 : bytesOk b_) : Spec Tryz.prog G0 219 [.slice 1 (b_.map y8), .int .i64 offset_, .int .i64 count_] (fun v => v = .tup [.slice 1 (((decodeF b_ offset_ count_).1).map iV), .int .i64 ((decodeF b_ offset_ count_).2.1), .bool ((decodeF b_ offset_ count_).2.2)]) := sp_impl_DecodeInts b_ offset_ count_ _ (t_impl_DecodeInts b_ offset_ count_ hp0)

theorem sp_spec_Hash (l_ : List Int) (r : Int) (hm : m_spec_Hash l_ = some r) : Spec Tryz.prog G0 238 [.slice 1 (l_.map iV)] (fun v => v = .int .i64 r) := by
 rw [m_spec_Hash] at hm
 refine enter (l := [.tmp 2]) Tryz.func238 rfl Tryz.ntmps238 rfl T.en238 fun E => ?_
 simp only [List.length_cons, List.length_nil, List.replicate_succ, List.replicate_zero, List.cons_append, List.nil_append, Nat.reduceAdd, Nat.reduceSub]
 refine sr <| m (as_ (.i rfl)) u2 <| e ?_
 refine sr <| m (as_ (.i rfl)) u3 <| e ?_
 refine sq ?_
 refine sr <| m (as_ (.i rfl)) u4 <| e ?_
 refine jmb hm (fun j0_3 : Int => ⟨[.any, .any, .any, .int .i64 j0_3, .any, .any, .any, .any, .any, .any, .any, .any, .any, .any, .any, .any, .any, .any, .any, .any, .any, .any], []⟩) (fun _ hm hq1 => ?_) (fun j0_3 hm => ?_)
 ·
  refine bk ?_
  refine lpf (m := m_spec_Hash_l0 l_) hm (fun yy2_ : Int × Nat => ⟨[.slice 1 (l_.map iV), .any, .any, .int .i64 yy2_.1, .int .i64 (yy2_.2 : Int), .any, .any, .any, .any, .any, .any, .any, .any, .any, .any, .any, .any, .any, .any, .any, .any, .any], []⟩) (fun _ => rfl) (le [] (by decide) (.c (.e rfl rfl) (.x2 (.c (.e rfl rfl) (.c (.e rfl rfl) (.x16 (.c .a .n)))))) .n) ?_
  rintro f ⟨v0_3, i0⟩ hm
  rw [m_spec_Hash_l0] at hm
  dsimp only at hm ⊢
  refine sq ?_
  refine sr <| m (mv (.t n4)) u5 <| m (mv (.t n0)) u6 <| m (lenm (l := l_) (f := iV) T.s108 (.t n6)) u7 <| m (lss (.t n5) (.t n7)) u8 <| e ?_
  refine rng n7 fun _ ra3 => ?_
  replace ra3 := (show (_ : Int) ≤ 9223372036854775807 from ra3)
  refine cnd n8 (fun h4 => ?_) (fun h4 => ?_)
  ·
   replace hm := ct h4 hm
   have h4d := of_decide_eq_true h4
   refine skp ?_
   refine sq ?_
   refine bk ?_
   obtain ⟨z5, e6, hm⟩ := bd_some hm
   refine rg <| m (mv (.t n3)) u11 <| m (mul (.t n11) (.i rfl)) u12 <| m (mv (.t n0)) u13 <| m (mv (.t n4)) u14 <| m (ixq (f := iV) e6 T.s108 (.t n13) (.t n14)) u15 <| m (lde T.o3 n0 (.t n15)) u16 <| c (call (tot_spec_Mod z5 (2147483647 : Int)) (.c (.t n16) rfl (.c (.i rfl) rfl .n))) u17 <| m (add (.t n12) (.t n17)) u18 <| m (add (.t n18) (.i rfl)) u19 <| m (rem (by decide) (.t n19) (.i rfl)) u20 <| m (as_ (.t n20)) u3 <| e ?_
   refine rg <| m (mv (.t n4)) u9 <| m (add (.t n9) (.i rfl)) u10 <| m (as_ (.t n10)) u4 <| e ?_
   exact ⟨((IntKind.i64.wrap (IntKind.i64.wrap (IntKind.i64.wrap (v0_3 * (1000003 : Int)) + (modI z5 (2147483647 : Int))) + (13 : Int))).tmod (2147483647 : Int), i0 + 1), hm, le [] (by decide) (.c (.e rfl rfl) (.x2 (.c (.e rfl rfl) (.c (.e (wi (by omega)) rfl) (.x16 (.c .a .n)))))) .n⟩
  ·
   replace hm := cf h4 hm
   have h4d := of_decide_eq_false h4
   refine ex (x1 ?_)
   replace hm := sj hm
   subst hm
   have hm := hq1
   exact ⟨v0_3, hm, le [] (by decide) (.x2 (.c .a (.c (.e rfl rfl) (.x16 (.x2 .n))))) .n⟩
 ·
  refine sr <| m (mv (.t n3)) u21 <| m (as_ (.t n21)) u2 <| e ?_
  replace hm := sj hm
  subst hm
  exact rt (ret1 (.t n2 (.p rfl) .n) rfl)

theorem tot_spec_Hash (l_ : List Int)  : Spec Tryz.prog G0 238 [.slice 1 (l_.map iV)] (fun v => v = .int .i64 (hashI l_)) := sp_spec_Hash l_ _ (t_spec_Hash l_)

theorem sp_spec_KeyedHash (secret_ : Int) (l_ : List Int) (r : Int) (hm : m_spec_KeyedHash secret_ l_ = some r) : Spec Tryz.prog G0 153 [.int .i64 secret_, .slice 1 (l_.map iV)] (fun v => v = .int .i64 r) := by
 rw [m_spec_KeyedHash] at hm
 refine enter (l := [.tmp 4]) Tryz.func153 rfl Tryz.ntmps153 rfl T.en153 fun E => ?_
 simp only [List.length_cons, List.length_nil, List.replicate_succ, List.replicate_zero, List.cons_append, List.nil_append, Nat.reduceAdd, Nat.reduceSub]
 refine sr <| m (as_ (.i rfl)) u4 <| e ?_
 obtain ⟨c1, hm⟩ := gd_some hm
 obtain ⟨c2, hm⟩ := gd_some hm
 refine sr <| m (mv (.t n0)) u5 <| k (bom ([secret_] : List Int) iV T.s108 rfl rfl (.c (.t n5) rfl rfl rfl .n) rfl s0 u6) <| m (mv (.t n1)) u7 <| k (apm (l := ([secret_] : List Int)) (l2 := l_) (f := iV) 6 c1 rfl (fun _ => rfl) T.s108 rfl n6 u6 n0 (.t n7) q0 rfl u8) <| m (mv (.t n0)) u9 <| k (bsm ([secret_] : List Int) iV T.s108 rfl rfl (.c (.t n9) rfl rfl rfl .n) rfl u10) <| k (apm (l := (([secret_] : List Int) ++ l_)) (l2 := ([secret_] : List Int)) (f := iV) 8 c2 rfl (fun _ => rfl) T.s108 rfl n8 u8 n0 (.t n10) q0 rfl u11) <| c (callm (tot_spec_Hash ((([secret_] : List Int) ++ l_) ++ ([secret_] : List Int))) rfl (.c (.t n11) (.o n0) .n)) u12 <| m (as_ (.t n12)) u4 <| e ?_
 replace hm := sj hm
 subst hm
 exact rt (ret1 (.t n4 (.p rfl) .n) rfl)

theorem tot_spec_KeyedHash (secret_ : Int) (l_ : List Int) (hp0 : l_.length ≤ 34359738368) : Spec Tryz.prog G0 153 [.int .i64 secret_, .slice 1 (l_.map iV)] (fun v => v = .int .i64 (keyedI secret_ l_)) := sp_spec_KeyedHash secret_ l_ _ (t_spec_KeyedHash secret_ l_ hp0)

theorem sp_spec_IsValidKey (secret_ : Int) (r : Bool) (hm : m_spec_IsValidKey secret_ = some r) : Spec Tryz.prog G0 90 [.int .i64 secret_] (fun v => v = .bool r) := by
 rw [m_spec_IsValidKey] at hm
 refine enter (l := [.tmp 2]) Tryz.func90 rfl Tryz.ntmps90 rfl T.en90 fun E => ?_
 simp only [List.length_cons, List.length_nil, List.replicate_succ, List.replicate_zero, List.cons_append, List.nil_append, Nat.reduceAdd, Nat.reduceSub]
 refine sr <| m (as_ .b) u2 <| e ?_
 refine sr <| m (mv (.t n0)) u3 <| c (call (tot_spec_l1In secret_ (1 : Int) (2147483646 : Int)) (.c (.t n3) rfl (.c (.i rfl) rfl (.c (.i rfl) rfl .n)))) u4 <| m (as_ (.t n4)) u2 <| e ?_
 replace hm := sj hm
 subst hm
 exact rt (ret1 (.t n2 (.p rfl) .n) rfl)

theorem tot_spec_IsValidKey (secret_ : Int)  : Spec Tryz.prog G0 90 [.int .i64 secret_] (fun v => v = .bool (keyF secret_)) := sp_spec_IsValidKey secret_ _ (t_spec_IsValidKey secret_)

theorem sp_spec_BytesToInts (b_ : List Int) (r : (List Int)) (hm : m_spec_BytesToInts b_ = some r) : Spec Tryz.prog G0 294 [.slice 1 (b_.map y8)] (fun v => v = .slice 1 (r.map iV)) := by
 rw [m_spec_BytesToInts] at hm
 refine enter (l := [.tmp 2]) Tryz.func294 rfl Tryz.ntmps294 rfl T.en294 fun E => ?_
 simp only [List.length_cons, List.length_nil, List.replicate_succ, List.replicate_zero, List.cons_append, List.nil_append, Nat.reduceAdd, Nat.reduceSub]
 refine sr <| m (as_ .n) u2 <| e ?_
 refine sr <| m (mv (.t n0)) u5 <| m (lenm (l := b_) (f := y8) T.s207 (.t n5)) u6 <| k (bom ([(b_.length : Int)] : List Int) iV T.s108 rfl rfl (.c (.t n6) rfl rfl rfl .n) rfl s0 u7) <| m (as_ (.t n7)) u3 <| e ?_
 refine sq ?_
 refine sr <| m (as_ (.i rfl)) u4 <| e ?_
 refine jmb hm (fun j0r1 : List Int => ⟨[.any, .any, .any, .own 0, .any, .any, .any, .any, .any, .any, .any, .any, .any, .any, .any, .any, .any, .any, .any, .any, .any, .any, .any], [.row 3 1 (j0r1.map iV)]⟩) (fun _ hm hq1 => ?_) (fun j0r1 hm => ?_)
 ·
  refine bk ?_
  refine lpf (m := m_spec_BytesToInts_l0 b_) hm (fun yy2_ : Nat × (List Int) => ⟨[.slice 1 (b_.map y8), .any, .any, .own 0, .int .i64 (yy2_.1 : Int), .any, .any, .any, .any, .any, .any, .any, .any, .any, .any, .any, .any, .any, .any, .any, .any, .any, .any], [.row 3 1 (yy2_.2.map iV)]⟩) (fun _ => rfl) (le [0] (by decide) (.c (.e rfl rfl) (.x2 (.c (.w n0) (.c (.e rfl rfl) (.x16 (.x2 .n)))))) (.r n0 rfl .n)) ?_
  rintro f ⟨i0, v0r1⟩ hm
  rw [m_spec_BytesToInts_l0] at hm
  dsimp only at hm ⊢
  refine sq ?_
  refine sr <| m (mv (.t n4)) u8 <| m (mv (.t n0)) u9 <| m (lenm (l := b_) (f := y8) T.s207 (.t n9)) u10 <| m (lss (.t n8) (.t n10)) u11 <| e ?_
  refine rng n10 fun _ ra3 => ?_
  replace ra3 := (show (_ : Int) ≤ 9223372036854775807 from ra3)
  refine cnd n11 (fun h4 => ?_) (fun h4 => ?_)
  ·
   replace hm := ct h4 hm
   have h4d := of_decide_eq_true h4
   refine skp ?_
   refine sq ?_
   refine bk ?_
   obtain ⟨z5, e6, hm⟩ := bd_some hm
   obtain ⟨c7, hm⟩ := gd_some hm
   refine rg <| m (mv (.t n3)) u14 <| m (mv (.t n0)) u15 <| m (mv (.t n4)) u16 <| m (ixq (f := y8) e6 T.s207 (.t n15) (.t n16)) u17 <| m (lde T.o5 n0 (.t n17)) u18 <| m (cnv T.is5 Tryz.underlying3 (.t n18)) u19 <| k (bsm ([IntKind.i64.wrap z5] : List Int) iV T.s108 rfl rfl (.c (.t n19) rfl rfl rfl .n) rfl u20) <| dr u3 <| k (apm (l := v0r1) (l2 := ([IntKind.i64.wrap z5] : List Int)) (f := iV) 14 c7 rfl (fun _ => rfl) T.s108 rfl n14 u14 n0 (.t n20) q0 rfl u21) <| m (as_ (.t n21)) u3 <| e ?_
   refine rg <| m (mv (.t n4)) u12 <| m (add (.t n12) (.i rfl)) u13 <| m (as_ (.t n13)) u4 <| e ?_
   exact ⟨(i0 + 1, (v0r1 ++ ([IntKind.i64.wrap z5] : List Int))), hm, le [0] (by decide) (.c (.e rfl rfl) (.x2 (.c (.w n0) (.c (.e (wi (by omega)) rfl) (.x16 (.x2 .n)))))) (.r n0 rfl .n)⟩
  ·
   replace hm := cf h4 hm
   have h4d := of_decide_eq_false h4
   refine ex (x1 ?_)
   replace hm := sj hm
   subst hm
   have hm := hq1
   exact ⟨v0r1, hm, le [0] (by decide) (.x2 (.c .a (.c (.w n0) (.x16 (.x2 (.c .a .n)))))) (.r n0 rfl .n)⟩
 ·
  refine sr <| m (mv (.t n3)) u22 <| m (as_ (.t n22)) u2 <| e ?_
  replace hm := sj hm
  subst hm
  exact rt (ret1 (.t n2 (.o n0) .n) rfl)

theorem tot_spec_BytesToInts (b_ : List Int) (hp0 : b_.length ≤ 34359738300) : Spec Tryz.prog G0 294 [.slice 1 (b_.map y8)] (fun v => v = .slice 1 ((b2iF b_).map iV)) := sp_spec_BytesToInts b_ _ (t_spec_BytesToInts b_ hp0)

theorem sp_spec_Decrypt (secret_ : Int) (b_ : List Int) (r : (List Int)) (hm : m_spec_Decrypt secret_ b_ = some r) : Spec Tryz.prog G0 311 [.int .i64 secret_, .slice 1 (b_.map y8)] (fun v => v = .slice 1 (r.map y8)) := by
 rw [m_spec_Decrypt] at hm
 refine enter (l := [.tmp 4]) Tryz.func311 rfl Tryz.ntmps311 rfl T.en311 fun E => ?_
 simp only [List.length_cons, List.length_nil, List.replicate_succ, List.replicate_zero, List.cons_append, List.nil_append, Nat.reduceAdd, Nat.reduceSub]
 refine sr <| m (as_ .n) u4 <| e ?_
 refine sr <| k (bom ([] : List Int) y8 T.s207 rfl rfl .n rfl s0 u7) <| m (as_ (.t n7)) u5 <| e ?_
 refine sq ?_
 refine sr <| m (as_ (.i rfl)) u6 <| e ?_
 refine jmb hm (fun j0r1 : List Int => ⟨[.any, .any, .any, .any, .any, .own 0, .any, .any, .any, .any, .any, .any, .any, .any, .any, .any, .any, .any, .any, .any, .any, .any, .any, .any, .any, .any, .any, .any, .any, .any, .any], [.row 5 1 (j0r1.map y8)]⟩) (fun _ hm hq1 => ?_) (fun j0r1 hm => ?_)
 ·
  refine bk ?_
  refine lpf (m := m_spec_Decrypt_l0 secret_ b_) hm (fun yy2_ : Nat × (List Int) => ⟨[.int .i64 secret_, .slice 1 (b_.map y8), .any, .any, .any, .own 0, .int .i64 (yy2_.1 : Int), .any, .any, .any, .any, .any, .any, .any, .any, .any, .any, .any, .any, .any, .any, .any, .any, .any, .any, .any, .any, .any, .any, .any, .any], [.row 5 1 (yy2_.2.map y8)]⟩) (fun _ => rfl) (le [0] (by decide) (.c (.e rfl rfl) (.c (.e rfl rfl) (.x2 (.c .a (.c (.w n0) (.c (.e rfl rfl) (.x16 (.x8 .n)))))))) (.r n0 rfl .n)) ?_
  rintro f ⟨i0, v0r1⟩ hm
  rw [m_spec_Decrypt_l0] at hm
  dsimp only at hm ⊢
  refine sq ?_
  refine sr <| m (mv (.t n6)) u8 <| m (mv (.t n1)) u9 <| m (lenm (l := b_) (f := y8) T.s207 (.t n9)) u10 <| m (lss (.t n8) (.t n10)) u11 <| e ?_
  refine rng n10 fun _ ra3 => ?_
  replace ra3 := (show (_ : Int) ≤ 9223372036854775807 from ra3)
  refine cnd n11 (fun h4 => ?_) (fun h4 => ?_)
  ·
   replace hm := ct h4 hm
   have h4d := of_decide_eq_true h4
   refine skp ?_
   refine sq ?_
   refine bk ?_
   obtain ⟨z5, e6, hm⟩ := bd_some hm
   obtain ⟨c7, hm⟩ := gd_some hm
   obtain ⟨c8, hm⟩ := gd_some hm
   refine rd (some 15) [(0, true), (1, true), (2, true), (3, true), (4, true), (5, true), (6, true), (7, true), (8, false), (9, false), (10, true), (11, true), (12, false), (13, true), (14, false), (15, false), (16, false)] T.mix (by kernel_rfl) <| om n0 (mv (.t n5)) u14 <| om n1 (mv (.t n1)) u15 <| om n2 (mv (.t n6)) u16 <| om n3 (ixq (f := y8) e6 T.s207 (.t n15) (.t n16)) u17 <| om n4 (lde T.o5 n0 (.t n17)) u18 <| om n5 (cnv T.is5 Tryz.underlying3 (.t n18)) u19 <| om n6 (mv (.t n0)) u20 <| om n7 (mv (.t n6)) u21 <| ok_ n8 (bsm ([(i0 : Int)] : List Int) iV T.s108 rfl rfl (.c (.t n21) rfl rfl rfl .n) rfl u22) <| oc n9 (call (tot_spec_KeyedHash secret_ ([(i0 : Int)] : List Int) c7) (.c (.t n20) rfl (.c (.t n22) rfl .n))) u23 <| om n10 (rem (by decide) (.t n23) (.i rfl)) u24 <| om n11 (sub (.t n19) (.t n24)) u25 <| oc n12 (call (tot_spec_Mod (IntKind.i64.wrap (IntKind.i64.wrap z5 - (keyedI secret_ ([(i0 : Int)] : List Int)).tmod (256 : Int))) (256 : Int)) (.c (.t n25) rfl (.c (.i rfl) rfl .n))) u26 <| om n13 (cnv T.is3 Tryz.underlying5 (.t n26)) u27 <| ok_ n14 (bsm ([IntKind.u8.wrap (modI (IntKind.i64.wrap (IntKind.i64.wrap z5 - (keyedI secret_ ([(i0 : Int)] : List Int)).tmod (256 : Int))) (256 : Int))] : List Int) y8 T.s207 rfl rfl (.c (.t n27) rfl rfl rfl .n) rfl u28) <| dro u5 <| oka n15 (apm (l := v0r1) (l2 := ([IntKind.u8.wrap (modI (IntKind.i64.wrap (IntKind.i64.wrap z5 - (keyedI secret_ ([(i0 : Int)] : List Int)).tmod (256 : Int))) (256 : Int))] : List Int)) (f := y8) 14 c8 rfl (fun _ => rfl) T.s207 rfl n14 u14 n0 (.t n28) q0 rfl u29) (hzs hz0) <| zf n16 (as_ (.t n29)) u5 <| ze ?_
   refine rg <| m (mv (.t n6)) u12 <| m (add (.t n12) (.i rfl)) u13 <| m (as_ (.t n13)) u6 <| e ?_
   exact ⟨(i0 + 1, (v0r1 ++ ([IntKind.u8.wrap (modI (IntKind.i64.wrap (IntKind.i64.wrap z5 - (keyedI secret_ ([(i0 : Int)] : List Int)).tmod (256 : Int))) (256 : Int))] : List Int))), hm, le [0] (by decide) (.c (.e rfl rfl) (.c (.e rfl rfl) (.x2 (.c .a (.c (.w n0) (.c (.e (wi (by omega)) rfl) (.x16 (.x8 .n)))))))) (.r n0 rfl .n)⟩
  ·
   replace hm := cf h4 hm
   have h4d := of_decide_eq_false h4
   refine ex (x1 ?_)
   replace hm := sj hm
   subst hm
   have hm := hq1
   exact ⟨v0r1, hm, le [0] (by decide) (.x4 (.c .a (.c (.w n0) (.x16 (.x8 (.c .a .n)))))) (.r n0 rfl .n)⟩
 ·
  refine sr <| m (mv (.t n5)) u30 <| m (as_ (.t n30)) u4 <| e ?_
  replace hm := sj hm
  subst hm
  exact rt (ret1 (.t n4 (.o n0) .n) rfl)

theorem tot_spec_Decrypt (secret_ : Int) (b_ : List Int) (hp0 : b_.length ≤ 34359738368) : Spec Tryz.prog G0 311 [.int .i64 secret_, .slice 1 (b_.map y8)] (fun v => v = .slice 1 ((decF secret_ b_).map y8)) := sp_spec_Decrypt secret_ b_ _ (t_spec_Decrypt secret_ b_ hp0)

theorem sp_impl_IsValidKey (key_ : Int) (r : Bool) (hm : m_impl_IsValidKey key_ = some r) : Spec Tryz.prog G0 103 [.int .i64 key_] (fun v => v = .bool r) := by
 rw [m_impl_IsValidKey] at hm
 refine enter (l := [.tmp 2]) Tryz.func103 rfl Tryz.ntmps103 rfl T.en103 fun E => ?_
 simp only [List.length_cons, List.length_nil, List.replicate_succ, List.replicate_zero, List.cons_append, List.nil_append, Nat.reduceAdd, Nat.reduceSub]
 refine sr <| m (as_ .b) u2 <| e ?_
 refine sr <| m (mv (.t n0)) u3 <| c (call (tot_impl_InRange key_ (1 : Int) (2147483646 : Int)) (.c (.t n3) rfl (.c (.i rfl) rfl (.c (.i rfl) rfl .n)))) u4 <| m (as_ (.t n4)) u2 <| e ?_
 replace hm := sj hm
 subst hm
 exact rt (ret1 (.t n2 (.p rfl) .n) rfl)

theorem tot_impl_IsValidKey (key_ : Int)  : Spec Tryz.prog G0 103 [.int .i64 key_] (fun v => v = .bool (keyF key_)) := sp_impl_IsValidKey key_ _ (t_impl_IsValidKey key_)

theorem sp_impl_Hash (values_ : List Int) (r : Int) (hm : m_impl_Hash values_ = some r) : Spec Tryz.prog G0 242 [.slice 1 (values_.map iV)] (fun v => v = .int .i64 r) := by
 rw [m_impl_Hash] at hm
 refine enter (l := [.tmp 2]) Tryz.func242 rfl Tryz.ntmps242 rfl T.en242 fun E => ?_
 simp only [List.length_cons, List.length_nil, List.replicate_succ, List.replicate_zero, List.cons_append, List.nil_append, Nat.reduceAdd, Nat.reduceSub]
 refine sr <| m (as_ (.i rfl)) u2 <| e ?_
 refine sr <| m (as_ (.i rfl)) u3 <| e ?_
 refine sq ?_
 refine sr <| m (mv (.t n0)) u6 <| m (lenm (l := values_) (f := iV) T.s108 (.t n6)) u7 <| m (mv (.i rfl)) u8 <| e ?_
 refine jmb hm (fun j0_3 : Int => ⟨[.any, .any, .any, .int .i64 j0_3, .any, .any, .any, .any, .any, .any, .any, .any, .any, .any, .any, .any, .any, .any, .any, .any, .any], []⟩) (fun _ hm hq1 => ?_) (fun j0_3 hm => ?_)
 ·
  refine bk ?_
  refine lpf (m := m_impl_Hash_l0 values_) hm (fun yy2_ : Int × Nat => ⟨[.any, .any, .any, .int .i64 yy2_.1, .any, .any, .slice 1 (values_.map iV), .int .i64 (values_.length : Int), .int .i64 (yy2_.2 : Int), .any, .any, .any, .any, .any, .any, .any, .any, .any, .any, .any, .any], []⟩) (fun _ => rfl) (le [] (by decide) (.x2 (.c .a (.c (.e rfl rfl) (.x2 (.c (.e rfl rfl) (.c (.e rfl rfl) (.c (.e rfl rfl) (.x8 (.x4 .n))))))))) .n) ?_
  rintro f ⟨v0_3, i0⟩ hm
  rw [m_impl_Hash_l0] at hm
  dsimp only at hm ⊢
  refine sr <| m (lss (.t n8) (.t n7)) u9 <| e ?_
  refine rng n7 fun _ ra3 => ?_
  replace ra3 := (show (_ : Int) ≤ 9223372036854775807 from ra3)
  refine sq ?_
  refine cnd n9 (fun h4 => ?_) (fun h4 => ?_)
  ·
   replace hm := ct h4 hm
   have h4d := of_decide_eq_true h4
   refine skp ?_
   refine sq ?_
   refine bk ?_
   obtain ⟨z5, e6, hm⟩ := bd_some hm
   refine sr <| m (ixq (f := iV) e6 T.s108 (.t n6) (.t n8)) u10 <| m (lde T.o3 n0 (.t n10)) u11 <| m (as_ (.t n11)) u5 <| e ?_
   refine rg <| m (mv (.t n3)) u12 <| m (mul (.t n12) (.i rfl)) u13 <| m (mv (.t n5)) u14 <| c (call (tot_impl_Mod z5 (2147483647 : Int)) (.c (.t n14) rfl (.c (.i rfl) rfl .n))) u15 <| m (add (.t n13) (.t n15)) u16 <| m (add (.t n16) (.i rfl)) u17 <| m (rem (by decide) (.t n17) (.i rfl)) u18 <| m (as_ (.t n18)) u3 <| e ?_
   refine rg <| m (add (.t n8) (.i rfl)) u19 <| m (mv (.t n19)) u8 <| e ?_
   exact ⟨((IntKind.i64.wrap (IntKind.i64.wrap (IntKind.i64.wrap (v0_3 * (1000003 : Int)) + (modI z5 (2147483647 : Int))) + (13 : Int))).tmod (2147483647 : Int), i0 + 1), hm, le [] (by decide) (.x2 (.c .a (.c (.e rfl rfl) (.x2 (.c (.e rfl rfl) (.c (.e rfl rfl) (.c (.e (wi (by omega)) rfl) (.x8 (.x4 .n))))))))) .n⟩
  ·
   replace hm := cf h4 hm
   have h4d := of_decide_eq_false h4
   refine ex (x1 ?_)
   replace hm := sj hm
   subst hm
   have hm := hq1
   exact ⟨v0_3, hm, le [] (by decide) (.x2 (.c .a (.c (.e rfl rfl) (.x16 (.c .a .n))))) .n⟩
 ·
  refine sr <| m (mv (.t n3)) u20 <| m (as_ (.t n20)) u2 <| e ?_
  replace hm := sj hm
  subst hm
  exact rt (ret1 (.t n2 (.p rfl) .n) rfl)

theorem tot_impl_Hash (values_ : List Int)  : Spec Tryz.prog G0 242 [.slice 1 (values_.map iV)] (fun v => v = .int .i64 (hashI values_)) := sp_impl_Hash values_ _ (t_impl_Hash values_)

theorem sp_impl_joined (first_ : List Int) (rest_ : List (List Int)) (r : (List Int)) (hm : m_impl_joined first_ rest_ = some r) : Spec Tryz.prog G0 159 [.slice 1 (first_.map iV), .slice 1 (rest_.map (fun l => [V.slice 1 (l.map iV)]))] (fun v => v = .slice 1 (r.map iV)) := by
 rw [m_impl_joined] at hm
 refine enter (l := [.tmp 4]) Tryz.func159 rfl Tryz.ntmps159 rfl T.en159 fun E => ?_
 simp only [List.length_cons, List.length_nil, List.replicate_succ, List.replicate_zero, List.cons_append, List.nil_append, Nat.reduceAdd, Nat.reduceSub]
 refine sr <| m (as_ .n) u4 <| e ?_
 obtain ⟨c1, hm⟩ := gd_some hm
 refine sr <| k (bom ([] : List Int) iV T.s108 rfl rfl .n rfl s0 u8) <| m (mv (.t n0)) u9 <| k (apm (l := ([] : List Int)) (l2 := first_) (f := iV) 8 c1 rfl (fun _ => rfl) T.s108 rfl n8 u8 n0 (.t n9) q0 rfl u10) <| m (as_ (.t n10)) u5 <| e ?_
 refine sq ?_
 refine sr <| m (mv (.t n1)) u11 <| m (lenm (l := rest_) (f := (fun l => [V.slice 1 (l.map iV)])) T.s274 (.t n11)) u12 <| m (mv (.i rfl)) u13 <| e ?_
 refine jmb hm (fun j0r1 : List Int => ⟨[.any, .any, .any, .any, .any, .own 0, .any, .any, .any, .any, .any, .any, .any, .any, .any, .any, .any, .any, .any, .any, .any, .any], [.row 3 1 (j0r1.map iV)]⟩) (fun _ hm hq2 => ?_) (fun j0r1 hm => ?_)
 ·
  refine bk ?_
  refine lpf (m := m_impl_joined_l0 rest_) hm (fun yy3_ : Nat × (List Int) => ⟨[.any, .any, .any, .any, .any, .own 0, .any, .any, .any, .any, .any, .slice 1 (rest_.map (fun l => [V.slice 1 (l.map iV)])), .int .i64 (rest_.length : Int), .int .i64 (yy3_.1 : Int), .any, .any, .any, .any, .any, .any, .any, .any], [.row 3 1 (yy3_.2.map iV)]⟩) (fun _ => rfl) (le [0] (by decide) (.x4 (.c .a (.c (.w n0) (.x4 (.c .a (.c (.e rfl rfl) (.c (.e rfl rfl) (.c (.e rfl rfl) (.x8 .n))))))))) (.r n0 rfl .n)) ?_
  rintro f ⟨i0, v0r1⟩ hm
  rw [m_impl_joined_l0] at hm
  dsimp only at hm ⊢
  refine sr <| m (lss (.t n13) (.t n12)) u14 <| e ?_
  refine rng n12 fun _ ra4 => ?_
  replace ra4 := (show (_ : Int) ≤ 9223372036854775807 from ra4)
  refine sq ?_
  refine cnd n14 (fun h5 => ?_) (fun h5 => ?_)
  ·
   replace hm := ct h5 hm
   have h5d := of_decide_eq_true h5
   refine skp ?_
   refine sq ?_
   refine bk ?_
   obtain ⟨z6, e7, hm⟩ := bd_some hm
   refine sr <| m (ixq (f := (fun l => [V.slice 1 (l.map iV)])) e7 T.s274 (.t n11) (.t n13)) u15 <| m (lde T.o108 n0 (.t n15)) u16 <| m (as_ (.t n16)) u7 <| e ?_
   obtain ⟨c8, hm⟩ := gd_some hm
   refine rg <| m (mv (.t n5)) u17 <| m (mv (.t n7)) u18 <| dr u5 <| k (apm (l := v0r1) (l2 := z6) (f := iV) 17 c8 rfl (fun _ => rfl) T.s108 rfl n17 u17 n0 (.t n18) q0 rfl u19) <| m (as_ (.t n19)) u5 <| e ?_
   refine rg <| m (add (.t n13) (.i rfl)) u20 <| m (mv (.t n20)) u13 <| e ?_
   exact ⟨(i0 + 1, (v0r1 ++ z6)), hm, le [0] (by decide) (.x4 (.c .a (.c (.w n0) (.x4 (.c .a (.c (.e rfl rfl) (.c (.e rfl rfl) (.c (.e (wi (by omega)) rfl) (.x8 .n))))))))) (.r n0 rfl .n)⟩
  ·
   replace hm := cf h5 hm
   have h5d := of_decide_eq_false h5
   refine ex (x1 ?_)
   replace hm := sj hm
   subst hm
   have hm := hq2
   exact ⟨v0r1, hm, le [0] (by decide) (.x4 (.c .a (.c (.w n0) (.x16 .n)))) (.r n0 rfl .n)⟩
 ·
  refine sr <| m (mv (.t n5)) u21 <| m (as_ (.t n21)) u4 <| e ?_
  replace hm := sj hm
  subst hm
  exact rt (ret1 (.t n4 (.o n0) .n) rfl)

theorem tot_impl_joined (first_ : List Int) (rest_ : List (List Int)) (hp0 : first_.length + rest_.flatten.length ≤ 68719476736) : Spec Tryz.prog G0 159 [.slice 1 (first_.map iV), .slice 1 (rest_.map (fun l => [V.slice 1 (l.map iV)]))] (fun v => v = .slice 1 ((joinF first_ rest_).map iV)) := sp_impl_joined first_ rest_ _ (t_impl_joined first_ rest_ hp0)

theorem sp_impl_KeyedHash (key_ : Int) (values_ : List Int) (r : Int) (hm : m_impl_KeyedHash key_ values_ = some r) : Spec Tryz.prog G0 158 [.int .i64 key_, .slice 1 (values_.map iV)] (fun v => v = .int .i64 r) := by
 rw [m_impl_KeyedHash] at hm
 refine enter (l := [.tmp 4]) Tryz.func158 rfl Tryz.ntmps158 rfl T.en158 fun E => ?_
 simp only [List.length_cons, List.length_nil, List.replicate_succ, List.replicate_zero, List.cons_append, List.nil_append, Nat.reduceAdd, Nat.reduceSub]
 refine sr <| m (as_ (.i rfl)) u4 <| e ?_
 obtain ⟨c1, hm⟩ := gd_some hm
 refine sr <| m (mv (.t n0)) u5 <| k (bsm ([key_] : List Int) iV T.s108 rfl rfl (.c (.t n5) rfl rfl rfl .n) rfl u6) <| m (mv (.t n1)) u7 <| m (mv (.t n0)) u8 <| k (bsm ([key_] : List Int) iV T.s108 rfl rfl (.c (.t n8) rfl rfl rfl .n) rfl u9) <| k (bsm ([values_, ([key_] : List Int)] : List (List Int)) (fun l => [V.slice 1 (l.map iV)]) T.s274 rfl rfl (.c (.t n7) rfl rfl rfl (.c (.t n9) rfl rfl rfl .n)) rfl u10) <| c (call (tot_impl_joined ([key_] : List Int) ([values_, ([key_] : List Int)] : List (List Int)) c1) (.c (.t n6) rfl (.c (.t n10) rfl .n))) u11 <| c (call (tot_impl_Hash (joinF ([key_] : List Int) ([values_, ([key_] : List Int)] : List (List Int)))) (.c (.t n11) rfl .n)) u12 <| m (as_ (.t n12)) u4 <| e ?_
 replace hm := sj hm
 subst hm
 exact rt (ret1 (.t n4 (.p rfl) .n) rfl)

theorem tot_impl_KeyedHash (key_ : Int) (values_ : List Int) (hp0 : values_.length ≤ 34359738368) : Spec Tryz.prog G0 158 [.int .i64 key_, .slice 1 (values_.map iV)] (fun v => v = .int .i64 (keyedI key_ values_)) := sp_impl_KeyedHash key_ values_ _ (t_impl_KeyedHash key_ values_ hp0)

theorem sp_impl_orOne (n_ : Int) (r : Int) (hm : m_impl_orOne n_ = some r) : Spec Tryz.prog G0 157 [.int .i64 n_] (fun v => v = .int .i64 r) := by
 rw [m_impl_orOne] at hm
 refine enter (l := [.tmp 2]) Tryz.func157 rfl Tryz.ntmps157 rfl T.en157 fun E => ?_
 simp only [List.length_cons, List.length_nil, List.replicate_succ, List.replicate_zero, List.cons_append, List.nil_append, Nat.reduceAdd, Nat.reduceSub]
 refine sr <| m (as_ (.i rfl)) u2 <| e ?_
 refine sq ?_
 refine sr <| m (mv (.t n0)) u3 <| m (eql (.t n3) (.i rfl)) u4 <| e ?_
 refine cnd n4 (fun h1 => ?_) (fun h1 => ?_)
 ·
  replace hm := ct h1 hm
  refine sr <| m (as_ (.i rfl)) u2 <| e ?_
  replace hm := sj hm
  subst hm
  exact rt (ret1 (.t n2 (.p rfl) .n) rfl)
 ·
  replace hm := cf h1 hm
  refine skp ?_
  refine sr <| m (mv (.t n0)) u5 <| m (as_ (.t n5)) u2 <| e ?_
  replace hm := sj hm
  subst hm
  exact rt (ret1 (.t n2 (.p rfl) .n) rfl)

theorem tot_impl_orOne (n_ : Int)  : Spec Tryz.prog G0 157 [.int .i64 n_] (fun v => v = .int .i64 (orOneF n_)) := sp_impl_orOne n_ _ (t_impl_orOne n_)

theorem sp_impl_BytesToInts (b_ : List Int) (r : (List Int)) (hm : m_impl_BytesToInts b_ = some r) : Spec Tryz.prog G0 295 [.slice 1 (b_.map y8)] (fun v => v = .slice 1 (r.map iV)) := by
 rw [m_impl_BytesToInts] at hm
 refine enter (l := [.tmp 2]) Tryz.func295 rfl Tryz.ntmps295 rfl T.en295 fun E => ?_
 simp only [List.length_cons, List.length_nil, List.replicate_succ, List.replicate_zero, List.cons_append, List.nil_append, Nat.reduceAdd, Nat.reduceSub]
 refine sr <| m (as_ .n) u2 <| e ?_
 refine sr <| m (mv (.t n0)) u6 <| m (lenm (l := b_) (f := y8) T.s207 (.t n6)) u7 <| k (bom ([(b_.length : Int)] : List Int) iV T.s108 rfl rfl (.c (.t n7) rfl rfl rfl .n) rfl s0 u8) <| m (as_ (.t n8)) u3 <| e ?_
 refine sq ?_
 refine sr <| m (mv (.t n0)) u9 <| m (lenm (l := b_) (f := y8) T.s207 (.t n9)) u10 <| m (mv (.i rfl)) u11 <| e ?_
 refine jmb hm (fun j0r1 : List Int => ⟨[.any, .any, .any, .own 0, .any, .any, .any, .any, .any, .any, .any, .any, .any, .any, .any, .any, .any, .any, .any, .any, .any, .any], [.row 3 1 (j0r1.map iV)]⟩) (fun _ hm hq1 => ?_) (fun j0r1 hm => ?_)
 ·
  refine bk ?_
  refine lpf (m := m_impl_BytesToInts_l0 b_) hm (fun yy2_ : Nat × (List Int) => ⟨[.any, .any, .any, .own 0, .any, .any, .any, .any, .any, .slice 1 (b_.map y8), .int .i64 (b_.length : Int), .int .i64 (yy2_.1 : Int), .any, .any, .any, .any, .any, .any, .any, .any, .any, .any], [.row 3 1 (yy2_.2.map iV)]⟩) (fun _ => rfl) (le [0] (by decide) (.x2 (.c .a (.c (.w n0) (.x4 (.c .a (.c (.e rfl rfl) (.c (.e rfl rfl) (.c (.e rfl rfl) (.x8 (.x2 .n)))))))))) (.r n0 rfl .n)) ?_
  rintro f ⟨i0, v0r1⟩ hm
  rw [m_impl_BytesToInts_l0] at hm
  dsimp only at hm ⊢
  refine sr <| m (lss (.t n11) (.t n10)) u12 <| e ?_
  refine rng n10 fun _ ra3 => ?_
  replace ra3 := (show (_ : Int) ≤ 9223372036854775807 from ra3)
  refine sq ?_
  refine cnd n12 (fun h4 => ?_) (fun h4 => ?_)
  ·
   replace hm := ct h4 hm
   have h4d := of_decide_eq_true h4
   refine skp ?_
   refine sq ?_
   refine bk ?_
   obtain ⟨z5, e6, hm⟩ := bd_some hm
   refine sr <| m (ixq (f := y8) e6 T.s207 (.t n9) (.t n11)) u13 <| m (lde T.o5 n0 (.t n13)) u14 <| m (as_ (.t n14)) u5 <| e ?_
   obtain ⟨c7, hm⟩ := gd_some hm
   refine rg <| m (mv (.t n3)) u15 <| m (mv (.t n5)) u16 <| m (cnv T.is5 Tryz.underlying3 (.t n16)) u17 <| k (bsm ([IntKind.i64.wrap z5] : List Int) iV T.s108 rfl rfl (.c (.t n17) rfl rfl rfl .n) rfl u18) <| dr u3 <| k (apm (l := v0r1) (l2 := ([IntKind.i64.wrap z5] : List Int)) (f := iV) 15 c7 rfl (fun _ => rfl) T.s108 rfl n15 u15 n0 (.t n18) q0 rfl u19) <| m (as_ (.t n19)) u3 <| e ?_
   refine rg <| m (add (.t n11) (.i rfl)) u20 <| m (mv (.t n20)) u11 <| e ?_
   exact ⟨(i0 + 1, (v0r1 ++ ([IntKind.i64.wrap z5] : List Int))), hm, le [0] (by decide) (.x2 (.c .a (.c (.w n0) (.x4 (.c .a (.c (.e rfl rfl) (.c (.e rfl rfl) (.c (.e (wi (by omega)) rfl) (.x8 (.x2 .n)))))))))) (.r n0 rfl .n)⟩
  ·
   replace hm := cf h4 hm
   have h4d := of_decide_eq_false h4
   refine ex (x1 ?_)
   replace hm := sj hm
   subst hm
   have hm := hq1
   exact ⟨v0r1, hm, le [0] (by decide) (.x2 (.c .a (.c (.w n0) (.x16 (.x2 .n))))) (.r n0 rfl .n)⟩
 ·
  refine sr <| m (mv (.t n3)) u21 <| m (as_ (.t n21)) u2 <| e ?_
  replace hm := sj hm
  subst hm
  exact rt (ret1 (.t n2 (.o n0) .n) rfl)

theorem tot_impl_BytesToInts (b_ : List Int) (hp0 : b_.length ≤ 34359738300) : Spec Tryz.prog G0 295 [.slice 1 (b_.map y8)] (fun v => v = .slice 1 ((b2iF b_).map iV)) := sp_impl_BytesToInts b_ _ (t_impl_BytesToInts b_ hp0)

theorem sp_impl_Decrypt (key_ : Int) (ciphertext_ : List Int) (r : (List Int)) (hm : m_impl_Decrypt key_ ciphertext_ = some r) : Spec Tryz.prog G0 314 [.int .i64 key_, .slice 1 (ciphertext_.map y8)] (fun v => v = .slice 1 (r.map y8)) := by
 rw [m_impl_Decrypt] at hm
 refine enter (l := [.tmp 4]) Tryz.func314 rfl Tryz.ntmps314 rfl T.en314 fun E => ?_
 simp only [List.length_cons, List.length_nil, List.replicate_succ, List.replicate_zero, List.cons_append, List.nil_append, Nat.reduceAdd, Nat.reduceSub]
 refine sr <| m (as_ .n) u4 <| e ?_
 refine sr <| k (bom ([] : List Int) y8 T.s207 rfl rfl .n rfl s0 u8) <| m (as_ (.t n8)) u5 <| e ?_
 refine sq ?_
 refine sr <| m (mv (.t n1)) u9 <| m (lenm (l := ciphertext_) (f := y8) T.s207 (.t n9)) u10 <| m (mv (.i rfl)) u11 <| e ?_
 refine jmb hm (fun j0r1 : List Int => ⟨[.any, .any, .any, .any, .any, .own 0, .any, .any, .any, .any, .any, .any, .any, .any, .any, .any, .any, .any, .any, .any, .any, .any, .any, .any, .any, .any, .any, .any, .any, .any], [.row 5 1 (j0r1.map y8)]⟩) (fun _ hm hq1 => ?_) (fun j0r1 hm => ?_)
 ·
  refine bk ?_
  refine lpf (m := m_impl_Decrypt_l0 key_ ciphertext_) hm (fun yy2_ : Nat × (List Int) => ⟨[.int .i64 key_, .any, .any, .any, .any, .own 0, .any, .any, .any, .slice 1 (ciphertext_.map y8), .int .i64 (ciphertext_.length : Int), .int .i64 (yy2_.1 : Int), .any, .any, .any, .any, .any, .any, .any, .any, .any, .any, .any, .any, .any, .any, .any, .any, .any, .any], [.row 5 1 (yy2_.2.map y8)]⟩) (fun _ => rfl) (le [0] (by decide) (.c (.e rfl rfl) (.x4 (.c (.w n0) (.x2 (.c .a (.c (.e rfl rfl) (.c (.e rfl rfl) (.c (.e rfl rfl) (.x16 (.x2 .n)))))))))) (.r n0 rfl .n)) ?_
  rintro f ⟨i0, v0r1⟩ hm
  rw [m_impl_Decrypt_l0] at hm
  dsimp only at hm ⊢
  refine sr <| m (lss (.t n11) (.t n10)) u12 <| e ?_
  refine rng n10 fun _ ra3 => ?_
  replace ra3 := (show (_ : Int) ≤ 9223372036854775807 from ra3)
  refine sq ?_
  refine cnd n12 (fun h4 => ?_) (fun h4 => ?_)
  ·
   replace hm := ct h4 hm
   have h4d := of_decide_eq_true h4
   refine skp ?_
   refine sq ?_
   refine bk ?_
   obtain ⟨z5, e6, hm⟩ := bd_some hm
   refine sr <| m (mv (.t n11)) u13 <| m (ixq (f := y8) e6 T.s207 (.t n9) (.t n11)) u14 <| m (lde T.o5 n0 (.t n14)) u15 <| m (as_ (.t n13)) u6 <| m (as_ (.t n15)) u7 <| e ?_
   obtain ⟨c7, hm⟩ := gd_some hm
   obtain ⟨c8, hm⟩ := gd_some hm
   refine rg <| m (mv (.t n5)) u16 <| m (mv (.t n7)) u17 <| m (cnv T.is5 Tryz.underlying3 (.t n17)) u18 <| m (mv (.t n0)) u19 <| m (mv (.t n6)) u20 <| k (bsm ([(i0 : Int)] : List Int) iV T.s108 rfl rfl (.c (.t n20) rfl rfl rfl .n) rfl u21) <| c (call (tot_impl_KeyedHash key_ ([(i0 : Int)] : List Int) c7) (.c (.t n19) rfl (.c (.t n21) rfl .n))) u22 <| m (sub (.t n18) (.t n22)) u23 <| c (call (tot_impl_Mod (IntKind.i64.wrap (IntKind.i64.wrap z5 - (keyedI key_ ([(i0 : Int)] : List Int)))) (256 : Int)) (.c (.t n23) rfl (.c (.i rfl) rfl .n))) u24 <| m (cnv T.is3 Tryz.underlying5 (.t n24)) u25 <| k (bsm ([IntKind.u8.wrap (modI (IntKind.i64.wrap (IntKind.i64.wrap z5 - (keyedI key_ ([(i0 : Int)] : List Int)))) (256 : Int))] : List Int) y8 T.s207 rfl rfl (.c (.t n25) rfl rfl rfl .n) rfl u26) <| dr u5 <| k (apm (l := v0r1) (l2 := ([IntKind.u8.wrap (modI (IntKind.i64.wrap (IntKind.i64.wrap z5 - (keyedI key_ ([(i0 : Int)] : List Int)))) (256 : Int))] : List Int)) (f := y8) 16 c8 rfl (fun _ => rfl) T.s207 rfl n16 u16 n0 (.t n26) q0 rfl u27) <| m (as_ (.t n27)) u5 <| e ?_
   refine rg <| m (add (.t n11) (.i rfl)) u28 <| m (mv (.t n28)) u11 <| e ?_
   exact ⟨(i0 + 1, (v0r1 ++ ([IntKind.u8.wrap (modI (IntKind.i64.wrap (IntKind.i64.wrap z5 - (keyedI key_ ([(i0 : Int)] : List Int)))) (256 : Int))] : List Int))), hm, le [0] (by decide) (.c (.e rfl rfl) (.x4 (.c (.w n0) (.x2 (.c .a (.c (.e rfl rfl) (.c (.e rfl rfl) (.c (.e (wi (by omega)) rfl) (.x16 (.x2 .n)))))))))) (.r n0 rfl .n)⟩
  ·
   replace hm := cf h4 hm
   have h4d := of_decide_eq_false h4
   refine ex (x1 ?_)
   replace hm := sj hm
   subst hm
   have hm := hq1
   exact ⟨v0r1, hm, le [0] (by decide) (.x4 (.c .a (.c (.w n0) (.x16 (.x8 .n))))) (.r n0 rfl .n)⟩
 ·
  refine sr <| m (mv (.t n5)) u29 <| m (as_ (.t n29)) u4 <| e ?_
  replace hm := sj hm
  subst hm
  exact rt (ret1 (.t n4 (.o n0) .n) rfl)

theorem tot_impl_Decrypt (key_ : Int) (ciphertext_ : List Int) (hp0 : ciphertext_.length ≤ 34359738368) : Spec Tryz.prog G0 314 [.int .i64 key_, .slice 1 (ciphertext_.map y8)] (fun v => v = .slice 1 ((decF key_ ciphertext_).map y8)) := sp_impl_Decrypt key_ ciphertext_ _ (t_impl_Decrypt key_ ciphertext_ hp0)

theorem sp_impl_power (g_ : Int) (n_ : Int) (m_ : Int) (r : Int) (hm : m_impl_power g_ n_ m_ = some r) : Spec Tryz.prog G0 305 [.int .i64 g_, .int .i64 n_, .int .i64 m_] (fun v => v = .int .i64 r) := by
 rw [m_impl_power] at hm
 refine enter (l := [.tmp 6]) Tryz.func305 rfl Tryz.ntmps305 rfl T.en305 fun E => ?_
 simp only [List.length_cons, List.length_nil, List.replicate_succ, List.replicate_zero, List.cons_append, List.nil_append, Nat.reduceAdd, Nat.reduceSub]
 refine sr <| m (as_ (.i rfl)) u6 <| e ?_
 obtain ⟨c1, hm⟩ := gd_some hm
 refine sr <| m (mv (.t n2)) u8 <| m (rem c1 (.i rfl) (.t n8)) u9 <| m (as_ (.t n9)) u7 <| e ?_
 obtain ⟨c2, hm⟩ := gd_some hm
 refine sr <| m (mv (.t n0)) u10 <| m (mv (.t n2)) u11 <| m (rem c2 (.t n10) (.t n11)) u12 <| m (as_ (.t n12)) u0 <| e ?_
 refine sq ?_
 refine jmb hm (fun j0_7 : Int => ⟨[.any, .any, .any, .any, .any, .any, .any, .int .i64 j0_7, .any, .any, .any, .any, .any, .any, .any, .any, .any, .any, .any, .any, .any, .any, .any, .any, .any, .any, .any, .any, .any, .any, .any], []⟩) (fun _ hm hq3 => ?_) (fun j0_7 hm => ?_)
 ·
  refine bk ?_
  refine lpf (m := m_impl_power_l0 m_) hm (fun yy4_ : Int × Int × Int => ⟨[.int .i64 yy4_.1, .int .i64 yy4_.2.1, .int .i64 m_, .any, .any, .any, .any, .int .i64 yy4_.2.2, .any, .any, .any, .any, .any, .any, .any, .any, .any, .any, .any, .any, .any, .any, .any, .any, .any, .any, .any, .any, .any, .any, .any], []⟩) (fun _ => rfl) (le [] (by decide) (.c (.e rfl rfl) (.c (.e rfl rfl) (.c (.e rfl rfl) (.x4 (.c (.e rfl rfl) (.x16 (.x4 (.x2 (.c .a .n))))))))) .n) ?_
  rintro f ⟨v0_0, v0_1, v0_7⟩ hm
  rw [m_impl_power_l0] at hm
  dsimp only at hm ⊢
  refine sq ?_
  refine sr <| m (mv (.t n1)) u13 <| m (gtr (.t n13) (.i rfl)) u14 <| e ?_
  refine cnd n14 (fun h5 => ?_) (fun h5 => ?_)
  ·
   replace hm := ct h5 hm
   refine skp ?_
   refine bk ?_
   refine sq ?_
   refine sr <| m (mv (.t n1)) u15 <| m (rem (by decide) (.t n15) (.i rfl)) u16 <| m (eql (.t n16) (.i rfl)) u17 <| e ?_
   refine jmb hm (fun j1_7 : Int => ⟨[.int .i64 v0_0, .int .i64 v0_1, .int .i64 m_, .any, .any, .any, .any, .int .i64 j1_7, .any, .any, .any, .any, .any, .any, .any, .any, .any, .any, .any, .any, .any, .any, .any, .any, .any, .any, .any, .any, .any, .any, .any], []⟩) (fun _ hm hq6 => ?_) (fun j1_7 hm => ?_)
   ·
    refine cnd n17 (fun h7 => ?_) (fun h7 => ?_)
    ·
     replace hm := ct h7 hm
     obtain ⟨c8, hm⟩ := gd_some hm
     refine rg <| m (mv (.t n7)) u18 <| m (mv (.t n0)) u19 <| m (mul (.t n18) (.t n19)) u20 <| m (mv (.t n2)) u21 <| m (rem c8 (.t n20) (.t n21)) u22 <| m (as_ (.t n22)) u7 <| e ?_
     replace hm := sj hm
     subst hm
     have hm := hq6
     exact ⟨(IntKind.i64.wrap (v0_7 * v0_0)).tmod m_, hm, le [] (by decide) (.c (.e rfl rfl) (.c (.e rfl rfl) (.c (.e rfl rfl) (.x4 (.c (.e rfl rfl) (.x16 (.x4 (.x2 (.c .a .n))))))))) .n⟩
    ·
     replace hm := cf h7 hm
     refine skp ?_
     replace hm := sj hm
     subst hm
     have hm := hq6
     exact ⟨v0_7, hm, le [] (by decide) (.c (.e rfl rfl) (.c (.e rfl rfl) (.c (.e rfl rfl) (.x4 (.c (.e rfl rfl) (.x16 (.x4 (.x2 (.c .a .n))))))))) .n⟩
   ·
    obtain ⟨c9, hm⟩ := gd_some hm
    refine sr <| m (mv (.t n0)) u23 <| m (mv (.t n0)) u24 <| m (mul (.t n23) (.t n24)) u25 <| m (mv (.t n2)) u26 <| m (rem c9 (.t n25) (.t n26)) u27 <| m (as_ (.t n27)) u0 <| e ?_
    refine rg <| m (mv (.t n1)) u28 <| m (quo (by decide) (.t n28) (.i rfl)) u29 <| m (as_ (.t n29)) u1 <| e ?_
    exact ⟨((IntKind.i64.wrap (v0_0 * v0_0)).tmod m_, IntKind.i64.wrap (v0_1.tdiv (2 : Int)), j1_7), hm, le [] (by decide) (.c (.e rfl rfl) (.c (.e rfl rfl) (.c (.e rfl rfl) (.x4 (.c (.e rfl rfl) (.x16 (.x4 (.x2 (.c .a .n))))))))) .n⟩
  ·
   replace hm := cf h5 hm
   refine ex (x1 ?_)
   replace hm := sj hm
   subst hm
   have hm := hq3
   exact ⟨v0_7, hm, le [] (by decide) (.x4 (.x2 (.c .a (.c (.e rfl rfl) (.x16 (.x4 (.x2 (.c .a .n)))))))) .n⟩
 ·
  refine sr <| m (mv (.t n7)) u30 <| m (as_ (.t n30)) u6 <| e ?_
  replace hm := sj hm
  subst hm
  exact rt (ret1 (.t n6 (.p rfl) .n) rfl)

theorem sp_spec_DeriveKey (seed_ : Int) (labels_ : List Int) (r : Int) (hm : m_spec_DeriveKey seed_ labels_ = some r) : Spec Tryz.prog G0 71 [.int .i64 seed_, .slice 1 (labels_.map iV)] (fun v => v = .int .i64 r) := by
 rw [m_spec_DeriveKey] at hm
 refine enter (l := [.tmp 4]) Tryz.func71 rfl Tryz.ntmps71 rfl T.en71 fun E => ?_
 simp only [List.length_cons, List.length_nil, List.replicate_succ, List.replicate_zero, List.cons_append, List.nil_append, Nat.reduceAdd, Nat.reduceSub]
 refine sr <| m (as_ (.i rfl)) u4 <| e ?_
 obtain ⟨c1, hm⟩ := gd_some hm
 obtain ⟨c2, hm⟩ := gd_some hm
 refine sr <| m (mv (.t n0)) u5 <| k (bom ([(151 : Int)] : List Int) iV T.s108 rfl rfl (.c (.i rfl) rfl rfl rfl .n) rfl s0 u6) <| m (mv (.t n1)) u7 <| k (apm (l := ([(151 : Int)] : List Int)) (l2 := labels_) (f := iV) 6 c1 rfl (fun _ => rfl) T.s108 rfl n6 u6 n0 (.t n7) q0 rfl u8) <| c (callm (tot_spec_KeyedHash seed_ (([(151 : Int)] : List Int) ++ labels_) c2) rfl (.c (.t n5) (.p rfl) (.c (.t n8) (.o n0) .n))) u9 <| c (call (tot_spec_Max (1 : Int) (keyedI seed_ (([(151 : Int)] : List Int) ++ labels_))) (.c (.i rfl) rfl (.c (.t n9) rfl .n))) u10 <| m (as_ (.t n10)) u4 <| e ?_
 replace hm := sj hm
 subst hm
 exact rt (ret1 (.t n4 (.p rfl) .n) rfl)

theorem tot_spec_DeriveKey (seed_ : Int) (labels_ : List Int) (hp0 : labels_.length ≤ 34359738300) : Spec Tryz.prog G0 71 [.int .i64 seed_, .slice 1 (labels_.map iV)] (fun v => v = .int .i64 (deriveF seed_ labels_)) := sp_spec_DeriveKey seed_ labels_ _ (t_spec_DeriveKey seed_ labels_ hp0)

theorem sp_spec_PublicKey (private_ : Int) (r : Int) (hm : m_spec_PublicKey private_ = some r) : Spec Tryz.prog G0 282 [.int .i64 private_] (fun v => v = .int .i64 r) := by
 rw [m_spec_PublicKey] at hm
 refine enter (l := [.tmp 2]) Tryz.func282 rfl Tryz.ntmps282 rfl T.en282 fun E => ?_
 simp only [List.length_cons, List.length_nil, List.replicate_succ, List.replicate_zero, List.cons_append, List.nil_append, Nat.reduceAdd, Nat.reduceSub]
 refine sr <| m (as_ (.i rfl)) u2 <| e ?_
 refine sq ?_
 refine sr <| m (mv (.t n0)) u3 <| c (call (tot_spec_IsValidKey private_) (.c (.t n3) rfl .n)) u4 <| m (not_ (.t n4)) u5 <| e ?_
 refine cnd n5 (fun h1 => ?_) (fun h1 => ?_)
 ·
  replace hm := ct h1 hm
  refine sr <| m (as_ (.i rfl)) u2 <| e ?_
  replace hm := sj hm
  subst hm
  exact rt (ret1 (.t n2 (.p rfl) .n) rfl)
 ·
  replace hm := cf h1 hm
  refine skp ?_
  refine sr <| m (mv (.t n0)) u6 <| m (mul (.t n6) (.i rfl)) u7 <| m (rem (by decide) (.t n7) (.i rfl)) u8 <| m (as_ (.t n8)) u2 <| e ?_
  replace hm := sj hm
  subst hm
  exact rt (ret1 (.t n2 (.p rfl) .n) rfl)

theorem tot_spec_PublicKey (private_ : Int)  : Spec Tryz.prog G0 282 [.int .i64 private_] (fun v => v = .int .i64 (publicF private_)) := sp_spec_PublicKey private_ _ (t_spec_PublicKey private_)

theorem sp_spec_l6Power (b_ : Int) (n_ : Int) (r : Int) (hm : m_spec_l6Power b_ n_ = some r) : Spec Tryz.prog G0 297 [.int .i64 b_, .int .i64 n_] (fun v => v = .int .i64 r) := by
 rw [m_spec_l6Power] at hm
 refine enter (l := [.tmp 4]) Tryz.func297 rfl Tryz.ntmps297 rfl T.en297 fun E => ?_
 simp only [List.length_cons, List.length_nil, List.replicate_succ, List.replicate_zero, List.cons_append, List.nil_append, Nat.reduceAdd, Nat.reduceSub]
 refine sr <| m (as_ (.i rfl)) u4 <| e ?_
 refine sr <| m (as_ (.i rfl)) u5 <| e ?_
 refine sq ?_
 refine jmb hm (fun j0_5 : Int => ⟨[.any, .any, .any, .any, .any, .int .i64 j0_5, .any, .any, .any, .any, .any, .any, .any, .any, .any, .any, .any, .any, .any, .any, .any, .any], []⟩) (fun _ hm hq1 => ?_) (fun j0_5 hm => ?_)
 ·
  refine bk ?_
  refine lpf (m := m_spec_l6Power_l0) hm (fun yy2_ : Int × Int × Int => ⟨[.int .i64 yy2_.1, .int .i64 yy2_.2.1, .any, .any, .any, .int .i64 yy2_.2.2, .any, .any, .any, .any, .any, .any, .any, .any, .any, .any, .any, .any, .any, .any, .any, .any], []⟩) (fun _ => rfl) (le [] (by decide) (.c (.e rfl rfl) (.c (.e rfl rfl) (.x2 (.c .a (.c (.e rfl rfl) (.x16 .n)))))) .n) ?_
  rintro f ⟨v0_0, v0_1, v0_5⟩ hm
  rw [m_spec_l6Power_l0] at hm
  dsimp only at hm ⊢
  refine sq ?_
  refine sr <| m (mv (.t n1)) u6 <| m (gtr (.t n6) (.i rfl)) u7 <| e ?_
  refine cnd n7 (fun h3 => ?_) (fun h3 => ?_)
  ·
   replace hm := ct h3 hm
   refine skp ?_
   refine bk ?_
   refine sq ?_
   refine sr <| m (mv (.t n1)) u8 <| m (bitand (.t n8) (.i rfl)) u9 <| m (eql (.t n9) (.i rfl)) u10 <| e ?_
   refine jmb hm (fun j1_5 : Int => ⟨[.int .i64 v0_0, .int .i64 v0_1, .any, .any, .any, .int .i64 j1_5, .any, .any, .any, .any, .any, .any, .any, .any, .any, .any, .any, .any, .any, .any, .any, .any], []⟩) (fun _ hm hq4 => ?_) (fun j1_5 hm => ?_)
   ·
    refine cnd n10 (fun h5 => ?_) (fun h5 => ?_)
    ·
     replace hm := ct h5 hm
     refine rg <| m (mv (.t n5)) u11 <| m (mv (.t n0)) u12 <| m (mul (.t n11) (.t n12)) u13 <| m (rem (by decide) (.t n13) (.i rfl)) u14 <| m (as_ (.t n14)) u5 <| e ?_
     replace hm := sj hm
     subst hm
     have hm := hq4
     exact ⟨(IntKind.i64.wrap (v0_5 * v0_0)).tmod (2147483647 : Int), hm, le [] (by decide) (.c (.e rfl rfl) (.c (.e rfl rfl) (.x2 (.c .a (.c (.e rfl rfl) (.x16 .n)))))) .n⟩
    ·
     replace hm := cf h5 hm
     refine skp ?_
     replace hm := sj hm
     subst hm
     have hm := hq4
     exact ⟨v0_5, hm, le [] (by decide) (.c (.e rfl rfl) (.c (.e rfl rfl) (.x2 (.c .a (.c (.e rfl rfl) (.x16 .n)))))) .n⟩
   ·
    refine sr <| m (mv (.t n0)) u15 <| m (mv (.t n0)) u16 <| m (mul (.t n15) (.t n16)) u17 <| m (rem (by decide) (.t n17) (.i rfl)) u18 <| m (as_ (.t n18)) u0 <| e ?_
    refine rg <| m (mv (.t n1)) u19 <| m (shr_ (by decide) (.t n19) (.i rfl)) u20 <| m (as_ (.t n20)) u1 <| e ?_
    exact ⟨((IntKind.i64.wrap (v0_0 * v0_0)).tmod (2147483647 : Int), shrI .i64 v0_1 (1 : Int), j1_5), hm, le [] (by decide) (.c (.e rfl rfl) (.c (.e rfl rfl) (.x2 (.c .a (.c (.e rfl rfl) (.x16 .n)))))) .n⟩
  ·
   replace hm := cf h3 hm
   refine ex (x1 ?_)
   replace hm := sj hm
   subst hm
   have hm := hq1
   exact ⟨v0_5, hm, le [] (by decide) (.x4 (.c .a (.c (.e rfl rfl) (.x16 .n)))) .n⟩
 ·
  refine sr <| m (mv (.t n5)) u21 <| m (as_ (.t n21)) u4 <| e ?_
  replace hm := sj hm
  subst hm
  exact rt (ret1 (.t n4 (.p rfl) .n) rfl)

theorem sp_spec_PrivateKey (public_ : Int) (r : Int) (hm : m_spec_PrivateKey public_ = some r) : Spec Tryz.prog G0 259 [.int .i64 public_] (fun v => v = .int .i64 r) := by
 rw [m_spec_PrivateKey] at hm
 refine enter (l := [.tmp 2]) Tryz.func259 rfl Tryz.ntmps259 rfl T.en259 fun E => ?_
 simp only [List.length_cons, List.length_nil, List.replicate_succ, List.replicate_zero, List.cons_append, List.nil_append, Nat.reduceAdd, Nat.reduceSub]
 refine sr <| m (as_ (.i rfl)) u2 <| e ?_
 refine sq ?_
 refine sr <| m (mv (.t n0)) u4 <| c (call (tot_spec_l1In public_ (1 : Int) (2147483646 : Int)) (.c (.t n4) rfl (.c (.i rfl) rfl (.c (.i rfl) rfl .n)))) u5 <| m (not_ (.t n5)) u6 <| e ?_
 refine cnd n6 (fun h1 => ?_) (fun h1 => ?_)
 ·
  replace hm := ct h1 hm
  refine sr <| m (as_ (.i rfl)) u2 <| e ?_
  replace hm := sj hm
  subst hm
  exact rt (ret1 (.t n2 (.p rfl) .n) rfl)
 ·
  replace hm := cf h1 hm
  refine skp ?_
  obtain ⟨z2, e3, hm⟩ := bd_some hm
  refine sr <| m (mv (.t n0)) u7 <| c (call (sp_spec_l6Power (48271 : Int) (2147483645 : Int) _ e3) (.c (.i rfl) rfl (.c (.i rfl) rfl .n))) u8 <| m (mul (.t n7) (.t n8)) u9 <| m (rem (by decide) (.t n9) (.i rfl)) u10 <| m (as_ (.t n10)) u3 <| e ?_
  refine sq ?_
  refine sr <| m (mv (.t n3)) u11 <| c (call (tot_spec_PublicKey ((IntKind.i64.wrap (public_ * z2)).tmod (2147483647 : Int))) (.c (.t n11) rfl .n)) u12 <| m (mv (.t n0)) u13 <| m (neq (.t n12) (.t n13)) u14 <| e ?_
  refine cnd n14 (fun h4 => ?_) (fun h4 => ?_)
  ·
   replace hm := ct h4 hm
   refine sr <| m (as_ (.i rfl)) u2 <| e ?_
   replace hm := sj hm
   subst hm
   exact rt (ret1 (.t n2 (.p rfl) .n) rfl)
  ·
   replace hm := cf h4 hm
   refine skp ?_
   refine sr <| m (mv (.t n3)) u15 <| m (as_ (.t n15)) u2 <| e ?_
   replace hm := sj hm
   subst hm
   exact rt (ret1 (.t n2 (.p rfl) .n) rfl)

theorem tot_spec_PrivateKey (public_ : Int)  : Spec Tryz.prog G0 259 [.int .i64 public_] (fun v => v = .int .i64 (privF public_)) := sp_spec_PrivateKey public_ _ (t_spec_PrivateKey public_)

theorem sp_spec_SignMessage (private_ : Int) (message_ : List Int) (r : Int) (hm : m_spec_SignMessage private_ message_ = some r) : Spec Tryz.prog G0 299 [.int .i64 private_, .slice 1 (message_.map iV)] (fun v => v = .int .i64 r) := by
 rw [m_spec_SignMessage] at hm
 refine enter (l := [.tmp 4]) Tryz.func299 rfl Tryz.ntmps299 rfl T.en299 fun E => ?_
 simp only [List.length_cons, List.length_nil, List.replicate_succ, List.replicate_zero, List.cons_append, List.nil_append, Nat.reduceAdd, Nat.reduceSub]
 refine sr <| m (as_ (.i rfl)) u4 <| e ?_
 refine sq ?_
 refine sr <| m (mv (.t n0)) u5 <| c (call (tot_spec_IsValidKey private_) (.c (.t n5) rfl .n)) u6 <| m (not_ (.t n6)) u7 <| e ?_
 refine cnd n7 (fun h1 => ?_) (fun h1 => ?_)
 ·
  replace hm := ct h1 hm
  refine sr <| m (as_ (.i rfl)) u4 <| e ?_
  replace hm := sj hm
  subst hm
  exact rt (ret1 (.t n4 (.p rfl) .n) rfl)
 ·
  replace hm := cf h1 hm
  refine skp ?_
  obtain ⟨c2, hm⟩ := gd_some hm
  obtain ⟨c3, hm⟩ := gd_some hm
  refine sr <| m (mv (.t n0)) u8 <| m (mv (.t n1)) u9 <| m (lenm (l := message_) (f := iV) T.s108 (.t n9)) u10 <| k (bom ([(139 : Int), (message_.length : Int)] : List Int) iV T.s108 rfl rfl (.c (.i rfl) rfl rfl rfl (.c (.t n10) rfl rfl rfl .n)) rfl s0 u11) <| m (mv (.t n1)) u12 <| k (apm (l := ([(139 : Int), (message_.length : Int)] : List Int)) (l2 := message_) (f := iV) 11 c2 rfl (fun _ => rfl) T.s108 rfl n11 u11 n0 (.t n12) q0 rfl u13) <| c (callm (tot_spec_KeyedHash private_ (([(139 : Int), (message_.length : Int)] : List Int) ++ message_) c3) rfl (.c (.t n8) (.p rfl) (.c (.t n13) (.o n0) .n))) u14 <| m (as_ (.t n14)) u4 <| e ?_
  replace hm := sj hm
  subst hm
  exact rt (ret1 (.t n4 (.p rfl) .n) rfl)

theorem tot_spec_SignMessage (private_ : Int) (message_ : List Int) (hp0 : message_.length ≤ 34359738300) : Spec Tryz.prog G0 299 [.int .i64 private_, .slice 1 (message_.map iV)] (fun v => v = .int .i64 (signF private_ message_)) := sp_spec_SignMessage private_ message_ _ (t_spec_SignMessage private_ message_ hp0)

theorem sp_spec_VerifySignature (public_ : Int) (message_ : List Int) (signature_ : Int) (r : Bool) (hm : m_spec_VerifySignature public_ message_ signature_ = some r) : Spec Tryz.prog G0 263 [.int .i64 public_, .slice 1 (message_.map iV), .int .i64 signature_] (fun v => v = .bool r) := by
 rw [m_spec_VerifySignature] at hm
 refine enter (l := [.tmp 6]) Tryz.func263 rfl Tryz.ntmps263 rfl T.en263 fun E => ?_
 simp only [List.length_cons, List.length_nil, List.replicate_succ, List.replicate_zero, List.cons_append, List.nil_append, Nat.reduceAdd, Nat.reduceSub]
 refine sr <| m (as_ .b) u6 <| e ?_
 refine sr <| m (mv (.t n0)) u8 <| c (call (tot_spec_PrivateKey public_) (.c (.t n8) rfl .n)) u9 <| m (as_ (.t n9)) u7 <| e ?_
 refine sr <| rjb hm (fun j0_6 : Bool => ⟨[.any, .any, .any, .any, .any, .any, .bool j0_6, .any, .any, .any, .any, .any, .any, .any, .any, .any, .any, .any, .any], []⟩) (fun _ hm hq1 => ?_) (fun j0_6 hm => ?_)
 ·
  refine m (mv (.t n7)) u10 <| m (neq (.t n10) (.i rfl)) u11 <| m (mv (.t n11)) u12 <| sp n12 u12 u12 (fun h2 => ?_) (fun h2 => ?_)
  ·
   replace hm := ct h2 hm
   obtain ⟨c3, hm⟩ := gd_some hm
   refine mg n2 rfl n12 (mv (.t n7)) u13 <| mg n2 rfl n12 (mv (.t n1)) u14 <| cg n2 rfl n12 (call (tot_spec_SignMessage (privF public_) message_ c3) (.c (.t n13) rfl (.c (.t n14) rfl .n))) u15 <| mg n2 rfl n12 (mv (.t n2)) u16 <| mg n2 rfl n12 (eql (.t n15) (.t n16)) u17 <| m (pkt (.t n12) (.t n17)) u18 <| m (as_ (.t n18)) u6 <| e ?_
   replace hm := sj hm
   subst hm
   have hm := hq1
   exact ⟨((signF (privF public_) message_) == signature_), hm, le [] (by decide) (.x4 (.x2 (.c (.e rfl rfl) (.x8 (.x4 .n))))) .n⟩
  ·
   replace hm := cf h2 hm
   refine sk n2 rfl n12 rfl u13 <| sk n2 rfl n12 rfl u14 <| sk n2 rfl n12 rfl u15 <| sk n2 rfl n12 rfl u16 <| sk n2 rfl n12 rfl u17 <| m (pkf (.t n12) .b) u18 <| m (as_ (.t n18)) u6 <| e ?_
   replace hm := sj hm
   subst hm
   have hm := hq1
   exact ⟨false, hm, le [] (by decide) (.x4 (.x2 (.c (.e rfl rfl) (.x8 (.x4 .n))))) .n⟩
 ·
  replace hm := sj hm
  subst hm
  exact rt (ret1 (.t n6 (.p rfl) .n) rfl)

theorem tot_spec_VerifySignature (public_ : Int) (message_ : List Int) (signature_ : Int) (hp0 : message_.length ≤ 34359738300) : Spec Tryz.prog G0 263 [.int .i64 public_, .slice 1 (message_.map iV), .int .i64 signature_] (fun v => v = .bool (verifyF public_ message_ signature_)) := sp_spec_VerifySignature public_ message_ signature_ _ (t_spec_VerifySignature public_ message_ signature_ hp0)

theorem sp_impl_PrivateKey (public_ : Int) (r : Int) (hm : m_impl_PrivateKey public_ = some r) : Spec Tryz.prog G0 274 [.int .i64 public_] (fun v => v = .int .i64 r) := by
 rw [m_impl_PrivateKey] at hm
 refine enter (l := [.tmp 2]) Tryz.func274 rfl Tryz.ntmps274 rfl T.en274 fun E => ?_
 simp only [List.length_cons, List.length_nil, List.replicate_succ, List.replicate_zero, List.cons_append, List.nil_append, Nat.reduceAdd, Nat.reduceSub]
 refine sr <| m (as_ (.i rfl)) u2 <| e ?_
 refine sq ?_
 refine sr <| m (mv (.t n0)) u3 <| c (call (tot_impl_IsValidKey public_) (.c (.t n3) rfl .n)) u4 <| m (not_ (.t n4)) u5 <| e ?_
 refine cnd n5 (fun h1 => ?_) (fun h1 => ?_)
 ·
  replace hm := ct h1 hm
  refine sr <| m (as_ (.i rfl)) u2 <| e ?_
  replace hm := sj hm
  subst hm
  exact rt (ret1 (.t n2 (.p rfl) .n) rfl)
 ·
  replace hm := cf h1 hm
  refine skp ?_
  obtain ⟨z2, e3, hm⟩ := bd_some hm
  refine sr <| m (mv (.t n0)) u6 <| c (call (sp_impl_power (48271 : Int) (2147483645 : Int) (2147483647 : Int) _ e3) (.c (.i rfl) rfl (.c (.i rfl) rfl (.c (.i rfl) rfl .n)))) u7 <| m (mul (.t n6) (.t n7)) u8 <| m (rem (by decide) (.t n8) (.i rfl)) u9 <| m (as_ (.t n9)) u2 <| e ?_
  replace hm := sj hm
  subst hm
  exact rt (ret1 (.t n2 (.p rfl) .n) rfl)

theorem tot_impl_PrivateKey (public_ : Int)  : Spec Tryz.prog G0 274 [.int .i64 public_] (fun v => v = .int .i64 (privF public_)) := sp_impl_PrivateKey public_ _ (t_impl_PrivateKey public_)

theorem sp_impl_SignMessage (private_ : Int) (message_ : List Int) (r : Int) (hm : m_impl_SignMessage private_ message_ = some r) : Spec Tryz.prog G0 275 [.int .i64 private_, .slice 1 (message_.map iV)] (fun v => v = .int .i64 r) := by
 rw [m_impl_SignMessage] at hm
 refine enter (l := [.tmp 4]) Tryz.func275 rfl Tryz.ntmps275 rfl T.en275 fun E => ?_
 simp only [List.length_cons, List.length_nil, List.replicate_succ, List.replicate_zero, List.cons_append, List.nil_append, Nat.reduceAdd, Nat.reduceSub]
 refine sr <| m (as_ (.i rfl)) u4 <| e ?_
 refine sq ?_
 refine sr <| m (mv (.t n0)) u5 <| c (call (tot_impl_IsValidKey private_) (.c (.t n5) rfl .n)) u6 <| m (not_ (.t n6)) u7 <| e ?_
 refine cnd n7 (fun h1 => ?_) (fun h1 => ?_)
 ·
  replace hm := ct h1 hm
  refine sr <| m (as_ (.i rfl)) u4 <| e ?_
  replace hm := sj hm
  subst hm
  exact rt (ret1 (.t n4 (.p rfl) .n) rfl)
 ·
  replace hm := cf h1 hm
  refine skp ?_
  obtain ⟨c2, hm⟩ := gd_some hm
  obtain ⟨c3, hm⟩ := gd_some hm
  refine sr <| m (mv (.t n0)) u8 <| m (mv (.t n1)) u9 <| m (lenm (l := message_) (f := iV) T.s108 (.t n9)) u10 <| k (bsm ([(139 : Int), (message_.length : Int)] : List Int) iV T.s108 rfl rfl (.c (.i rfl) rfl rfl rfl (.c (.t n10) rfl rfl rfl .n)) rfl u11) <| m (mv (.t n1)) u12 <| k (bsm ([message_] : List (List Int)) (fun l => [V.slice 1 (l.map iV)]) T.s274 rfl rfl (.c (.t n12) rfl rfl rfl .n) rfl u13) <| c (call (tot_impl_joined ([(139 : Int), (message_.length : Int)] : List Int) ([message_] : List (List Int)) c2) (.c (.t n11) rfl (.c (.t n13) rfl .n))) u14 <| c (call (tot_impl_KeyedHash private_ (joinF ([(139 : Int), (message_.length : Int)] : List Int) ([message_] : List (List Int))) c3) (.c (.t n8) rfl (.c (.t n14) rfl .n))) u15 <| m (as_ (.t n15)) u4 <| e ?_
  replace hm := sj hm
  subst hm
  exact rt (ret1 (.t n4 (.p rfl) .n) rfl)

theorem tot_impl_SignMessage (private_ : Int) (message_ : List Int) (hp0 : message_.length ≤ 34359738300) : Spec Tryz.prog G0 275 [.int .i64 private_, .slice 1 (message_.map iV)] (fun v => v = .int .i64 (signF private_ message_)) := sp_impl_SignMessage private_ message_ _ (t_impl_SignMessage private_ message_ hp0)

theorem sp_impl_VerifySignature (public_ : Int) (message_ : List Int) (signature_ : Int) (r : Bool) (hm : m_impl_VerifySignature public_ message_ signature_ = some r) : Spec Tryz.prog G0 198 [.int .i64 public_, .slice 1 (message_.map iV), .int .i64 signature_] (fun v => v = .bool r) := by
 rw [m_impl_VerifySignature] at hm
 refine enter (l := [.tmp 6]) Tryz.func198 rfl Tryz.ntmps198 rfl T.en198 fun E => ?_
 simp only [List.length_cons, List.length_nil, List.replicate_succ, List.replicate_zero, List.cons_append, List.nil_append, Nat.reduceAdd, Nat.reduceSub]
 refine sr <| m (as_ .b) u6 <| e ?_
 refine sr <| m (mv (.t n0)) u8 <| c (call (tot_impl_PrivateKey public_) (.c (.t n8) rfl .n)) u9 <| m (as_ (.t n9)) u7 <| e ?_
 refine sr <| rjb hm (fun j0_6 : Bool => ⟨[.any, .any, .any, .any, .any, .any, .bool j0_6, .any, .any, .any, .any, .any, .any, .any, .any, .any, .any, .any, .any], []⟩) (fun _ hm hq1 => ?_) (fun j0_6 hm => ?_)
 ·
  refine m (mv (.t n7)) u10 <| m (neq (.t n10) (.i rfl)) u11 <| m (mv (.t n11)) u12 <| sp n12 u12 u12 (fun h2 => ?_) (fun h2 => ?_)
  ·
   replace hm := ct h2 hm
   obtain ⟨c3, hm⟩ := gd_some hm
   refine mg n2 rfl n12 (mv (.t n7)) u13 <| mg n2 rfl n12 (mv (.t n1)) u14 <| cg n2 rfl n12 (call (tot_impl_SignMessage (privF public_) message_ c3) (.c (.t n13) rfl (.c (.t n14) rfl .n))) u15 <| mg n2 rfl n12 (mv (.t n2)) u16 <| mg n2 rfl n12 (eql (.t n15) (.t n16)) u17 <| m (pkt (.t n12) (.t n17)) u18 <| m (as_ (.t n18)) u6 <| e ?_
   replace hm := sj hm
   subst hm
   have hm := hq1
   exact ⟨((signF (privF public_) message_) == signature_), hm, le [] (by decide) (.x4 (.x2 (.c (.e rfl rfl) (.x8 (.x4 .n))))) .n⟩
  ·
   replace hm := cf h2 hm
   refine sk n2 rfl n12 rfl u13 <| sk n2 rfl n12 rfl u14 <| sk n2 rfl n12 rfl u15 <| sk n2 rfl n12 rfl u16 <| sk n2 rfl n12 rfl u17 <| m (pkf (.t n12) .b) u18 <| m (as_ (.t n18)) u6 <| e ?_
   replace hm := sj hm
   subst hm
   have hm := hq1
   exact ⟨false, hm, le [] (by decide) (.x4 (.x2 (.c (.e rfl rfl) (.x8 (.x4 .n))))) .n⟩
 ·
  replace hm := sj hm
  subst hm
  exact rt (ret1 (.t n6 (.p rfl) .n) rfl)

theorem tot_impl_VerifySignature (public_ : Int) (message_ : List Int) (signature_ : Int) (hp0 : message_.length ≤ 34359738300) : Spec Tryz.prog G0 198 [.int .i64 public_, .slice 1 (message_.map iV), .int .i64 signature_] (fun v => v = .bool (verifyF public_ message_ signature_)) := sp_impl_VerifySignature public_ message_ signature_ _ (t_impl_VerifySignature public_ message_ signature_ hp0)

theorem sp_impl_DeriveKey (seed_ : Int) (labels_ : List Int) (r : Int) (hm : m_impl_DeriveKey seed_ labels_ = some r) : Spec Tryz.prog G0 73 [.int .i64 seed_, .slice 1 (labels_.map iV)] (fun v => v = .int .i64 r) := by
 rw [m_impl_DeriveKey] at hm
 refine enter (l := [.tmp 4]) Tryz.func73 rfl Tryz.ntmps73 rfl T.en73 fun E => ?_
 simp only [List.length_cons, List.length_nil, List.replicate_succ, List.replicate_zero, List.cons_append, List.nil_append, Nat.reduceAdd, Nat.reduceSub]
 refine sr <| m (as_ (.i rfl)) u4 <| e ?_
 obtain ⟨c1, hm⟩ := gd_some hm
 obtain ⟨c2, hm⟩ := gd_some hm
 refine sr <| m (mv (.t n0)) u5 <| k (bsm ([(151 : Int)] : List Int) iV T.s108 rfl rfl (.c (.i rfl) rfl rfl rfl .n) rfl u6) <| m (mv (.t n1)) u7 <| k (bsm ([labels_] : List (List Int)) (fun l => [V.slice 1 (l.map iV)]) T.s274 rfl rfl (.c (.t n7) rfl rfl rfl .n) rfl u8) <| c (call (tot_impl_joined ([(151 : Int)] : List Int) ([labels_] : List (List Int)) c1) (.c (.t n6) rfl (.c (.t n8) rfl .n))) u9 <| c (call (tot_impl_KeyedHash seed_ (joinF ([(151 : Int)] : List Int) ([labels_] : List (List Int))) c2) (.c (.t n5) rfl (.c (.t n9) rfl .n))) u10 <| c (call (tot_impl_orOne (keyedI seed_ (joinF ([(151 : Int)] : List Int) ([labels_] : List (List Int))))) (.c (.t n10) rfl .n)) u11 <| m (as_ (.t n11)) u4 <| e ?_
 replace hm := sj hm
 subst hm
 exact rt (ret1 (.t n4 (.p rfl) .n) rfl)

theorem tot_impl_DeriveKey (seed_ : Int) (labels_ : List Int) (hp0 : labels_.length ≤ 34359738300) : Spec Tryz.prog G0 73 [.int .i64 seed_, .slice 1 (labels_.map iV)] (fun v => v = .int .i64 (deriveF seed_ labels_)) := sp_impl_DeriveKey seed_ labels_ _ (t_impl_DeriveKey seed_ labels_ hp0)

theorem sp_impl_PublicKey (private_ : Int) (r : Int) (hm : m_impl_PublicKey private_ = some r) : Spec Tryz.prog G0 285 [.int .i64 private_] (fun v => v = .int .i64 r) := by
 rw [m_impl_PublicKey] at hm
 refine enter (l := [.tmp 2]) Tryz.func285 rfl Tryz.ntmps285 rfl T.en285 fun E => ?_
 simp only [List.length_cons, List.length_nil, List.replicate_succ, List.replicate_zero, List.cons_append, List.nil_append, Nat.reduceAdd, Nat.reduceSub]
 refine sr <| m (as_ (.i rfl)) u2 <| e ?_
 refine sq ?_
 refine sr <| m (mv (.t n0)) u3 <| c (call (tot_impl_IsValidKey private_) (.c (.t n3) rfl .n)) u4 <| m (not_ (.t n4)) u5 <| e ?_
 refine cnd n5 (fun h1 => ?_) (fun h1 => ?_)
 ·
  replace hm := ct h1 hm
  refine sr <| m (as_ (.i rfl)) u2 <| e ?_
  replace hm := sj hm
  subst hm
  exact rt (ret1 (.t n2 (.p rfl) .n) rfl)
 ·
  replace hm := cf h1 hm
  refine skp ?_
  refine sr <| m (mv (.t n0)) u6 <| m (mul (.t n6) (.i rfl)) u7 <| m (rem (by decide) (.t n7) (.i rfl)) u8 <| m (as_ (.t n8)) u2 <| e ?_
  replace hm := sj hm
  subst hm
  exact rt (ret1 (.t n2 (.p rfl) .n) rfl)

theorem tot_impl_PublicKey (private_ : Int)  : Spec Tryz.prog G0 285 [.int .i64 private_] (fun v => v = .int .i64 (publicF private_)) := sp_impl_PublicKey private_ _ (t_impl_PublicKey private_)

theorem sp_spec_BoxKey (private_ : Int) (ephemeral_ : Int) (r : Int) (hm : m_spec_BoxKey private_ ephemeral_ = some r) : Spec Tryz.prog G0 309 [.int .i64 private_, .int .i64 ephemeral_] (fun v => v = .int .i64 r) := by
 rw [m_spec_BoxKey] at hm
 refine enter (l := [.tmp 4]) Tryz.func309 rfl Tryz.ntmps309 rfl T.en309 fun E => ?_
 simp only [List.length_cons, List.length_nil, List.replicate_succ, List.replicate_zero, List.cons_append, List.nil_append, Nat.reduceAdd, Nat.reduceSub]
 refine sr <| m (as_ (.i rfl)) u4 <| e ?_
 obtain ⟨c1, hm⟩ := gd_some hm
 refine sr <| m (mv (.t n0)) u5 <| m (mv (.t n1)) u6 <| k (bsm ([(163 : Int), ephemeral_] : List Int) iV T.s108 rfl rfl (.c (.i rfl) rfl rfl rfl (.c (.t n6) rfl rfl rfl .n)) rfl u7) <| c (call (tot_spec_DeriveKey private_ ([(163 : Int), ephemeral_] : List Int) c1) (.c (.t n5) rfl (.c (.t n7) rfl .n))) u8 <| m (as_ (.t n8)) u4 <| e ?_
 replace hm := sj hm
 subst hm
 exact rt (ret1 (.t n4 (.p rfl) .n) rfl)

theorem tot_spec_BoxKey (private_ : Int) (ephemeral_ : Int)  : Spec Tryz.prog G0 309 [.int .i64 private_, .int .i64 ephemeral_] (fun v => v = .int .i64 (boxKeyF private_ ephemeral_)) := sp_spec_BoxKey private_ ephemeral_ _ (t_spec_BoxKey private_ ephemeral_)

theorem sp_spec_BoxMAC (key_ : Int) (b_ : D.Box) (r : Int) (hm : m_spec_BoxMAC key_ b_ = some r) : Spec Tryz.prog G0 310 [.int .i64 key_, .agg (D.Box.V b_)] (fun v => v = .int .i64 r) := by
 rw [m_spec_BoxMAC] at hm
 refine enter (l := [.tmp 4]) Tryz.func310 rfl Tryz.ntmps310 rfl T.en310 fun E => ?_
 simp only [List.length_cons, List.length_nil, List.replicate_succ, List.replicate_zero, List.cons_append, List.nil_append, Nat.reduceAdd, Nat.reduceSub]
 refine sr <| k (bx rfl s0 u3 (.t n1)) <| m (as_ (.i rfl)) u4 <| e ?_
 obtain ⟨c1, hm⟩ := gd_some hm
 obtain ⟨c2, hm⟩ := gd_some hm
 obtain ⟨c3, hm⟩ := gd_some hm
 refine sdx (some 9) T.mix (by kernel_rfl) <| xj ⟨[.any, .any, .any, .any, .int .i64 (keyedI key_ (([(167 : Int), b_.To, b_.Ephemeral] : List Int) ++ (b2iF b_.Data))), .any, .any, .any, .any, .any, .any, .any, .any, .any, .any, .any], []⟩ ?_ ?_
 ·
  refine xm n0 (by kernel_rfl) (mv (.t n0)) u5 <| xm n1 (by kernel_rfl) (fab 0 rfl T.f293_0 (.t n3)) u6 <| xm n2 (by kernel_rfl) (ldb T.o3 n0 n0 (.t n6)) u7 <| xm n3 (by kernel_rfl) (fab 1 rfl T.f293_1 (.t n3)) u8 <| xm n4 (by kernel_rfl) (ldb T.o3 n0 n1 (.t n8)) u9 <| xm n6 (by kernel_rfl) (fab 2 rfl T.f293_2 (.t n3)) u11 <| xm n7 (by kernel_rfl) (ldb T.o207 n0 n2 (.t n11)) u12 <| xa2 (i := 5) (j := 8) (by kernel_rfl) ?_ ?_
  ·
   refine SK n5 (bom ([(167 : Int), b_.To, b_.Ephemeral] : List Int) iV T.s108 rfl rfl (.c (.i rfl) rfl rfl rfl (.c (.t n7) rfl rfl rfl (.c (.t n9) rfl rfl rfl .n))) rfl s1 u10) <| xa1 (i := 8) (by kernel_rfl) <| SC n8 (call (tot_spec_BytesToInts b_.Data c1) (.c (.t n12) rfl .n)) u13 <| xa1 (i := 9) (by kernel_rfl) <| SA n9 (apm (l := ([(167 : Int), b_.To, b_.Ephemeral] : List Int)) (l2 := (b2iF b_.Data)) (f := iV) 10 c2 rfl (fun _ => rfl) T.s108 rfl n10 u10 n1 (.t n13) q1 rfl u14) (by kernel_rfl) <| zc n10 (callm (tot_spec_KeyedHash key_ (([(167 : Int), b_.To, b_.Ephemeral] : List Int) ++ (b2iF b_.Data)) c3) rfl (.c (.t n5) (.p rfl) (.c (.t n14) (.o n1) .n))) u15 <| zf n11 (as_ (.t n15)) u4 <| ze ?_
   exact le [] (by decide) (.x4 (.c (.e rfl rfl) (.x8 (.x2 (.c .a .n))))) .n
  ·
   refine SC n8 (call (tot_spec_BytesToInts b_.Data c1) (.c (.t n12) rfl .n)) u13 <| xa1 (i := 5) (by kernel_rfl) <| SK n5 (bom ([(167 : Int), b_.To, b_.Ephemeral] : List Int) iV T.s108 rfl rfl (.c (.i rfl) rfl rfl rfl (.c (.t n7) rfl rfl rfl (.c (.t n9) rfl rfl rfl .n))) rfl s1 u10) <| xa1 (i := 9) (by kernel_rfl) <| SA n9 (apm (l := ([(167 : Int), b_.To, b_.Ephemeral] : List Int)) (l2 := (b2iF b_.Data)) (f := iV) 10 c2 rfl (fun _ => rfl) T.s108 rfl n10 u10 n1 (.t n13) q1 rfl u14) (by kernel_rfl) <| zc n10 (callm (tot_spec_KeyedHash key_ (([(167 : Int), b_.To, b_.Ephemeral] : List Int) ++ (b2iF b_.Data)) c3) rfl (.c (.t n5) (.p rfl) (.c (.t n14) (.o n1) .n))) u15 <| zf n11 (as_ (.t n15)) u4 <| ze ?_
   exact le [] (by decide) (.x4 (.c (.e rfl rfl) (.x8 (.x2 (.c .a .n))))) .n
 ·
  replace hm := sj hm
  subst hm
  exact rt (ret1 (.t n4 (.p rfl) .n) rfl)

theorem tot_spec_BoxMAC (key_ : Int) (b_ : D.Box) (hp0 : b_.Data.length ≤ 34359738200) : Spec Tryz.prog G0 310 [.int .i64 key_, .agg (D.Box.V b_)] (fun v => v = .int .i64 (macF key_ b_)) := sp_spec_BoxMAC key_ b_ _ (t_spec_BoxMAC key_ b_ hp0)

theorem sp_spec_OpenBox (private_ : Int) (b_ : D.Box) (r : (List Int) × Bool) (hm : m_spec_OpenBox private_ b_ = some r) : Spec Tryz.prog G0 283 [.int .i64 private_, .agg (D.Box.V b_)] (fun v => v = .tup [.slice 1 (r.1.map y8), .bool r.2]) := by
 rw [m_spec_OpenBox] at hm
 refine enter (l := [.tmp 4, .tmp 5]) Tryz.func283 rfl Tryz.ntmps283 rfl T.en283 fun E => ?_
 simp only [List.length_cons, List.length_nil, List.replicate_succ, List.replicate_zero, List.cons_append, List.nil_append, Nat.reduceAdd, Nat.reduceSub]
 refine sr <| k (bx rfl s0 u3 (.t n1)) <| m (as_ .n) u4 <| m (as_ .b) u5 <| e ?_
 refine sq ?_
 refine sd none [(0, true), (1, false), (2, true), (3, true), (4, true), (5, true), (6, true), (7, false), (8, true), (9, true), (10, true), (11, true), (12, true), (13, false), (14, true), (15, true), (16, true), (17, true), (18, true), (19, true), (20, true), (21, true)] T.mix (by kernel_rfl) <| rob hm (fun j0_28 : Bool => ⟨[.int .i64 private_, .any, .any, .box 0 0, .any, .any, .any, .any, .any, .any, .any, .any, .any, .any, .any, .any, .any, .any, .any, .any, .any, .any, .any, .any, .any, .any, .any, .any, .bool j0_28, .any, .any, .any, .any, .any, .any, .any, .any, .any, .any, .any, .any, .any, .any, .any, .any], [.box 293 [.int .i64 b_.To, .int .i64 b_.Ephemeral, .slice 1 (b_.Data.map y8), .int .i64 b_.MAC]]⟩) (fun _ hm hq1 => ?_) (fun j0_28 hm => ?_)
 ·
  refine om n0 (mv (.t n0)) u7 <| oc n1 (call (tot_spec_IsValidKey private_) (.c (.t n7) rfl .n)) u8 <| om n2 (not_ (.t n8)) u9 <| om n3 (mv (.t n9)) u10 <| osp n10 u10 u10 (fun h2 => ?_) (fun h2 => ?_)
  ·
   replace hm := ct h2 hm
   refine os n4 n3 rfl n10 rfl u11 <| os n5 n3 rfl n10 rfl u12 <| os n6 n3 rfl n10 rfl u13 <| osf n7 n3 rfl n10 rfl u14 <| os n8 n3 rfl n10 rfl u15 <| om n9 (pkt (.t n10) .b) u16 <| om n10 (mv (.t n16)) u17 <| os n11 n10 rfl n17 rfl u18 <| os n12 n10 rfl n17 rfl u19 <| osf n13 n10 rfl n17 rfl u20 <| os n14 n10 rfl n17 rfl u21 <| om n15 (pkt (.t n17) .b) u22 <| om n16 (mv (.t n22)) u23 <| os n17 n16 rfl n23 rfl u24 <| os n18 n16 rfl n23 rfl u25 <| os n19 n16 rfl n23 rfl u26 <| os n20 n16 rfl n23 rfl u27 <| om n21 (pkt (.t n23) .b) u28 <| oe ?_
   replace hm := sj hm
   subst hm
   have hm := hq1
   exact ⟨true, hm, le [0] (by decide) (.c (.e rfl rfl) (.x2 (.c (.b n0) (.x16 (.x8 (.c (.e rfl rfl) (.x16 .n))))))) (.b n0 (.c (.e rfl rfl) (.c (.e rfl rfl) (.c (.e rfl rfl) (.c (.e rfl rfl) .n)))) .n)⟩
  ·
   replace hm := cf h2 hm
   refine omg n4 n3 rfl n10 (fab 0 rfl T.f293_0 (.t n3)) u11 <| omg n5 n3 rfl n10 (ldb T.o3 n0 n0 (.t n11)) u12 <| omg n6 n3 rfl n10 (mv (.t n0)) u13 <| ocg n7 n3 rfl n10 (call (tot_spec_PublicKey private_) (.c (.t n13) rfl .n)) u14 <| omg n8 n3 rfl n10 (neq (.t n12) (.t n14)) u15 <| om n9 (pkf (.t n10) (.t n15)) u16 <| om n10 (mv (.t n16)) u17 <| osp n17 u17 u17 (fun h3 => ?_) (fun h3 => ?_)
   ·
    replace hm := ct h3 hm
    refine os n11 n10 rfl n17 rfl u18 <| os n12 n10 rfl n17 rfl u19 <| osf n13 n10 rfl n17 rfl u20 <| os n14 n10 rfl n17 rfl u21 <| om n15 (pkt (.t n17) .b) u22 <| om n16 (mv (.t n22)) u23 <| os n17 n16 rfl n23 rfl u24 <| os n18 n16 rfl n23 rfl u25 <| os n19 n16 rfl n23 rfl u26 <| os n20 n16 rfl n23 rfl u27 <| om n21 (pkt (.t n23) .b) u28 <| oe ?_
    replace hm := sj hm
    subst hm
    have hm := hq1
    exact ⟨true, hm, le [0] (by decide) (.c (.e rfl rfl) (.x2 (.c (.b n0) (.x16 (.x8 (.c (.e rfl rfl) (.x16 .n))))))) (.b n0 (.c (.e rfl rfl) (.c (.e rfl rfl) (.c (.e rfl rfl) (.c (.e rfl rfl) .n)))) .n)⟩
   ·
    replace hm := cf h3 hm
    refine omg n11 n10 rfl n17 (fab 1 rfl T.f293_1 (.t n3)) u18 <| omg n12 n10 rfl n17 (ldb T.o3 n0 n1 (.t n18)) u19 <| ocg n13 n10 rfl n17 (call (tot_spec_IsValidKey b_.Ephemeral) (.c (.t n19) rfl .n)) u20 <| omg n14 n10 rfl n17 (not_ (.t n20)) u21 <| om n15 (pkf (.t n17) (.t n21)) u22 <| om n16 (mv (.t n22)) u23 <| osp n23 u23 u23 (fun h4 => ?_) (fun h4 => ?_)
    ·
     replace hm := ct h4 hm
     refine os n17 n16 rfl n23 rfl u24 <| os n18 n16 rfl n23 rfl u25 <| os n19 n16 rfl n23 rfl u26 <| os n20 n16 rfl n23 rfl u27 <| om n21 (pkt (.t n23) .b) u28 <| oe ?_
     replace hm := sj hm
     subst hm
     have hm := hq1
     exact ⟨true, hm, le [0] (by decide) (.c (.e rfl rfl) (.x2 (.c (.b n0) (.x16 (.x8 (.c (.e rfl rfl) (.x16 .n))))))) (.b n0 (.c (.e rfl rfl) (.c (.e rfl rfl) (.c (.e rfl rfl) (.c (.e rfl rfl) .n)))) .n)⟩
    ·
     replace hm := cf h4 hm
     refine omg n17 n16 rfl n23 (fab 2 rfl T.f293_2 (.t n3)) u24 <| omg n18 n16 rfl n23 (ldb T.o207 n0 n2 (.t n24)) u25 <| omg n19 n16 rfl n23 (lenm (l := b_.Data) (f := y8) T.s207 (.t n25)) u26 <| omg n20 n16 rfl n23 (gtr (.t n26) (.i rfl)) u27 <| om n21 (pkf (.t n23) (.t n27)) u28 <| oe ?_
     replace hm := sj hm
     subst hm
     have hm := hq1
     exact ⟨decide ((b_.Data.length : Int) > (200 : Int)), hm, le [0] (by decide) (.c (.e rfl rfl) (.x2 (.c (.b n0) (.x16 (.x8 (.c (.e rfl rfl) (.x16 .n))))))) (.b n0 (.c (.e rfl rfl) (.c (.e rfl rfl) (.c (.e rfl rfl) (.c (.e rfl rfl) .n)))) .n)⟩
 ·
  refine cnd n28 (fun h5 => ?_) (fun h5 => ?_)
  ·
   replace hm := ct h5 hm
   refine sr <| k (bsm ([] : List Int) y8 T.s207 rfl rfl .n rfl u29) <| m (as_ (.t n29)) u4 <| m (as_ .b) u5 <| e ?_
   replace hm := sj hm
   subst hm
   exact rt (ret2 (.t n4 (.p rfl) (.t n5 (.p rfl) .n)) rfl)
  ·
   replace hm := cf h5 hm
   refine skp ?_
   refine sr <| m (mv (.t n0)) u30 <| m (fab 1 rfl T.f293_1 (.t n3)) u31 <| m (ldb T.o3 n0 n1 (.t n31)) u32 <| c (call (tot_spec_BoxKey private_ b_.Ephemeral) (.c (.t n30) rfl (.c (.t n32) rfl .n))) u33 <| m (as_ (.t n33)) u6 <| e ?_
   refine sq ?_
   obtain ⟨c6, hm⟩ := gd_some hm
   refine sd none [(0, true), (1, true), (2, true), (3, true), (4, false), (5, true)] T.mix (by kernel_rfl) <| om n0 (fab 3 rfl T.f293_3 (.t n3)) u34 <| om n1 (ldb T.o3 n0 n3 (.t n34)) u35 <| om n2 (mv (.t n6)) u36 <| om n3 (lab T.a293 n0 d0 k4 (.t n3)) u37 <| oc n4 (call (tot_spec_BoxMAC (boxKeyF private_ b_.Ephemeral) b_ c6) (.c (.t n36) rfl (.c (.t n37) rfl .n))) u38 <| om n5 (neq (.t n35) (.t n38)) u39 <| oe ?_
   refine cnd n39 (fun h7 => ?_) (fun h7 => ?_)
   ·
    replace hm := ct h7 hm
    refine sr <| k (bsm ([] : List Int) y8 T.s207 rfl rfl .n rfl u40) <| m (as_ (.t n40)) u4 <| m (as_ .b) u5 <| e ?_
    replace hm := sj hm
    subst hm
    exact rt (ret2 (.t n4 (.p rfl) (.t n5 (.p rfl) .n)) rfl)
   ·
    replace hm := cf h7 hm
    refine skp ?_
    obtain ⟨c8, hm⟩ := gd_some hm
    refine sr <| m (mv (.t n6)) u41 <| m (fab 2 rfl T.f293_2 (.t n3)) u42 <| m (ldb T.o207 n0 n2 (.t n42)) u43 <| c (call (tot_spec_Decrypt (boxKeyF private_ b_.Ephemeral) b_.Data c8) (.c (.t n41) rfl (.c (.t n43) rfl .n))) u44 <| m (as_ (.t n44)) u4 <| m (as_ .b) u5 <| e ?_
    replace hm := sj hm
    subst hm
    exact rt (ret2 (.t n4 (.p rfl) (.t n5 (.p rfl) .n)) rfl)

theorem tot_spec_OpenBox (private_ : Int) (b_ : D.Box)  : Spec Tryz.prog G0 283 [.int .i64 private_, .agg (D.Box.V b_)] (fun v => v = .tup [.slice 1 (((openBoxF private_ b_).1).map y8), .bool ((openBoxF private_ b_).2)]) := sp_spec_OpenBox private_ b_ _ (t_spec_OpenBox private_ b_)

theorem sp_spec_FindBox (boxes_ : List D.Box) (private_ : Int) (r : (List Int) × Bool) (hm : m_spec_FindBox boxes_ private_ = some r) : Spec Tryz.prog G0 214 [.slice 4 (boxes_.map D.Box.V), .int .i64 private_] (fun v => v = .tup [.slice 1 (r.1.map y8), .bool r.2]) := by
 rw [m_spec_FindBox] at hm
 refine enter (l := [.tmp 4, .tmp 5]) Tryz.func214 rfl Tryz.ntmps214 rfl T.en214 fun E => ?_
 simp only [List.length_cons, List.length_nil, List.replicate_succ, List.replicate_zero, List.cons_append, List.nil_append, Nat.reduceAdd, Nat.reduceSub]
 refine sr <| m (as_ .n) u4 <| m (as_ .b) u5 <| e ?_
 refine sq ?_
 refine sr <| m (as_ (.i rfl)) u6 <| e ?_
 refine jmx hm (fun _ : Unit => ⟨[.any, .any, .any, .any, .any, .any, .any, .any, .any, .any, .any, .any, .any, .any, .any, .any, .any, .any, .any, .any, .any, .any, .any, .any, .any, .any, .any], []⟩) (fun _ hm hq1 => ?_) (fun _ hm => ?_)
 ·
  refine bk ?_
  refine lpf (m := m_spec_FindBox_l0 boxes_ private_) hm (fun i0 : Nat => ⟨[.slice 4 (boxes_.map D.Box.V), .int .i64 private_, .any, .any, .any, .any, .int .i64 (i0 : Int), .any, .any, .any, .any, .any, .any, .any, .any, .any, .any, .any, .any, .any, .any, .any, .any, .any, .any, .any, .any], []⟩) (fun _ => rfl) (le [] (by decide) (.c (.e rfl rfl) (.c (.e rfl rfl) (.x4 (.c (.e rfl rfl) (.x16 (.x4 .n)))))) .n) ?_
  rintro f i0 hm
  rw [m_spec_FindBox_l0] at hm
  refine sq ?_
  refine sr <| m (mv (.t n6)) u9 <| m (mv (.t n0)) u10 <| m (lenm (l := boxes_) (f := D.Box.V) T.s44 (.t n10)) u11 <| m (lss (.t n9) (.t n11)) u12 <| e ?_
  refine rng n11 fun _ ra2 => ?_
  replace ra2 := (show (_ : Int) ≤ 9223372036854775807 from ra2)
  refine cnd n12 (fun h3 => ?_) (fun h3 => ?_)
  ·
   replace hm := ct h3 hm
   have h3d := of_decide_eq_true h3
   refine skp ?_
   refine sq ?_
   refine bk ?_
   obtain ⟨z4, e5, hm⟩ := bd_some hm
   refine sr <| m (mv (.t n1)) u16 <| m (mv (.t n0)) u17 <| m (mv (.t n6)) u18 <| m (ixq (f := D.Box.V) e5 T.s44 (.t n17) (.t n18)) u19 <| m (lae T.a293 k4 (.t n19)) u20 <| c (call (tot_spec_OpenBox private_ z4) (.c (.t n16) rfl (.c (.t n20) rfl .n))) u21 <| m (mv (.t n21)) u15 <| m (ext_ n0 (.t n15)) u22 <| m (ext_ n1 (.t n15)) u23 <| m (as_ (.t n22)) u7 <| m (as_ (.t n23)) u8 <| e ?_
   refine sr <| m (mv (.t n8)) u24 <| e ?_
   refine cnd n24 (fun h6 => ?_) (fun h6 => ?_)
   ·
    replace hm := ct h6 hm
    refine sr <| m (mv (.t n7)) u25 <| m (as_ (.t n25)) u4 <| m (as_ .b) u5 <| e ?_
    replace hm := inl1 hm hq1
    subst hm
    exact rt (ret2 (.t n4 (.p rfl) (.t n5 (.p rfl) .n)) rfl)
   ·
    replace hm := cf h6 hm
    refine skp ?_
    refine rg <| m (mv (.t n6)) u13 <| m (add (.t n13) (.i rfl)) u14 <| m (as_ (.t n14)) u6 <| e ?_
    exact ⟨i0 + 1, hm, le [] (by decide) (.c (.e rfl rfl) (.c (.e rfl rfl) (.x4 (.c (.e (wi (by omega)) rfl) (.x16 (.x4 .n)))))) .n⟩
  ·
   replace hm := cf h3 hm
   have h3d := of_decide_eq_false h3
   refine ex (x1 ?_)
   replace hm := inr1 hm hq1
   exact ⟨(), hm, le [] (by decide) (.x16 (.x8 (.x2 (.c .a .n)))) .n⟩
 ·
  refine sr <| k (bsm ([] : List Int) y8 T.s207 rfl rfl .n rfl u26) <| m (as_ (.t n26)) u4 <| m (as_ .b) u5 <| e ?_
  replace hm := sj hm
  subst hm
  exact rt (ret2 (.t n4 (.p rfl) (.t n5 (.p rfl) .n)) rfl)

theorem tot_spec_FindBox (boxes_ : List D.Box) (private_ : Int)  : Spec Tryz.prog G0 214 [.slice 4 (boxes_.map D.Box.V), .int .i64 private_] (fun v => v = .tup [.slice 1 (((findBoxF boxes_ private_).1).map y8), .bool ((findBoxF boxes_ private_).2)]) := sp_spec_FindBox boxes_ private_ _ (t_spec_FindBox boxes_ private_)

theorem sp_impl_BoxKey (private_ : Int) (ephemeral_ : Int) (r : Int) (hm : m_impl_BoxKey private_ ephemeral_ = some r) : Spec Tryz.prog G0 312 [.int .i64 private_, .int .i64 ephemeral_] (fun v => v = .int .i64 r) := by
 rw [m_impl_BoxKey] at hm
 refine enter (l := [.tmp 4]) Tryz.func312 rfl Tryz.ntmps312 rfl T.en312 fun E => ?_
 simp only [List.length_cons, List.length_nil, List.replicate_succ, List.replicate_zero, List.cons_append, List.nil_append, Nat.reduceAdd, Nat.reduceSub]
 refine sr <| m (as_ (.i rfl)) u4 <| e ?_
 obtain ⟨c1, hm⟩ := gd_some hm
 refine sr <| m (mv (.t n0)) u5 <| m (mv (.t n1)) u6 <| k (bsm ([(163 : Int), ephemeral_] : List Int) iV T.s108 rfl rfl (.c (.i rfl) rfl rfl rfl (.c (.t n6) rfl rfl rfl .n)) rfl u7) <| c (call (tot_impl_DeriveKey private_ ([(163 : Int), ephemeral_] : List Int) c1) (.c (.t n5) rfl (.c (.t n7) rfl .n))) u8 <| m (as_ (.t n8)) u4 <| e ?_
 replace hm := sj hm
 subst hm
 exact rt (ret1 (.t n4 (.p rfl) .n) rfl)

theorem tot_impl_BoxKey (private_ : Int) (ephemeral_ : Int)  : Spec Tryz.prog G0 312 [.int .i64 private_, .int .i64 ephemeral_] (fun v => v = .int .i64 (boxKeyF private_ ephemeral_)) := sp_impl_BoxKey private_ ephemeral_ _ (t_impl_BoxKey private_ ephemeral_)

theorem sp_impl_BoxMAC (key_ : Int) (b_ : D.Box) (r : Int) (hm : m_impl_BoxMAC key_ b_ = some r) : Spec Tryz.prog G0 313 [.int .i64 key_, .agg (D.Box.V b_)] (fun v => v = .int .i64 r) := by
 rw [m_impl_BoxMAC] at hm
 refine enter (l := [.tmp 4]) Tryz.func313 rfl Tryz.ntmps313 rfl T.en313 fun E => ?_
 simp only [List.length_cons, List.length_nil, List.replicate_succ, List.replicate_zero, List.cons_append, List.nil_append, Nat.reduceAdd, Nat.reduceSub]
 refine sr <| k (bx rfl s0 u3 (.t n1)) <| m (as_ (.i rfl)) u4 <| e ?_
 obtain ⟨c1, hm⟩ := gd_some hm
 obtain ⟨c2, hm⟩ := gd_some hm
 obtain ⟨c3, hm⟩ := gd_some hm
 refine sdx none T.mix (by kernel_rfl) <| xj ⟨[.any, .any, .any, .any, .int .i64 (keyedI key_ (joinF ([(167 : Int), b_.To, b_.Ephemeral] : List Int) ([(b2iF b_.Data)] : List (List Int)))), .any, .any, .any, .any, .any, .any, .any, .any, .any, .any, .any, .any], []⟩ ?_ ?_
 ·
  refine xm n0 (by kernel_rfl) (mv (.t n0)) u5 <| xm n1 (by kernel_rfl) (fab 0 rfl T.f293_0 (.t n3)) u6 <| xm n2 (by kernel_rfl) (ldb T.o3 n0 n0 (.t n6)) u7 <| xm n3 (by kernel_rfl) (fab 1 rfl T.f293_1 (.t n3)) u8 <| xm n4 (by kernel_rfl) (ldb T.o3 n0 n1 (.t n8)) u9 <| xm n6 (by kernel_rfl) (fab 2 rfl T.f293_2 (.t n3)) u11 <| xm n7 (by kernel_rfl) (ldb T.o207 n0 n2 (.t n11)) u12 <| xa2 (i := 5) (j := 8) (by kernel_rfl) ?_ ?_
  ·
   refine SK n5 (bsm ([(167 : Int), b_.To, b_.Ephemeral] : List Int) iV T.s108 rfl rfl (.c (.i rfl) rfl rfl rfl (.c (.t n7) rfl rfl rfl (.c (.t n9) rfl rfl rfl .n))) rfl u10) <| xa1 (i := 8) (by kernel_rfl) <| SC n8 (call (tot_impl_BytesToInts b_.Data c1) (.c (.t n12) rfl .n)) u13 <| xa1 (i := 9) (by kernel_rfl) <| SK n9 (bsm ([(b2iF b_.Data)] : List (List Int)) (fun l => [V.slice 1 (l.map iV)]) T.s274 rfl rfl (.c (.t n13) rfl rfl rfl .n) rfl u14) <| xa1 (i := 10) (by kernel_rfl) <| SC n10 (call (tot_impl_joined ([(167 : Int), b_.To, b_.Ephemeral] : List Int) ([(b2iF b_.Data)] : List (List Int)) c2) (.c (.t n10) rfl (.c (.t n14) rfl .n))) u15 <| xa1 (i := 11) (by kernel_rfl) <| SC n11 (call (tot_impl_KeyedHash key_ (joinF ([(167 : Int), b_.To, b_.Ephemeral] : List Int) ([(b2iF b_.Data)] : List (List Int))) c3) (.c (.t n5) rfl (.c (.t n15) rfl .n))) u16 <| xm n12 (by kernel_rfl) (as_ (.t n16)) u4 <| xe (by kernel_rfl) ?_
   exact le [] (by decide) (.x4 (.c (.e rfl rfl) (.x8 (.x4 .n)))) .n
  ·
   refine SC n8 (call (tot_impl_BytesToInts b_.Data c1) (.c (.t n12) rfl .n)) u13 <| xa2 (i := 5) (j := 9) (by kernel_rfl) ?_ ?_
   ·
    refine SK n5 (bsm ([(167 : Int), b_.To, b_.Ephemeral] : List Int) iV T.s108 rfl rfl (.c (.i rfl) rfl rfl rfl (.c (.t n7) rfl rfl rfl (.c (.t n9) rfl rfl rfl .n))) rfl u10) <| xa1 (i := 9) (by kernel_rfl) <| SK n9 (bsm ([(b2iF b_.Data)] : List (List Int)) (fun l => [V.slice 1 (l.map iV)]) T.s274 rfl rfl (.c (.t n13) rfl rfl rfl .n) rfl u14) <| xa1 (i := 10) (by kernel_rfl) <| SC n10 (call (tot_impl_joined ([(167 : Int), b_.To, b_.Ephemeral] : List Int) ([(b2iF b_.Data)] : List (List Int)) c2) (.c (.t n10) rfl (.c (.t n14) rfl .n))) u15 <| xa1 (i := 11) (by kernel_rfl) <| SC n11 (call (tot_impl_KeyedHash key_ (joinF ([(167 : Int), b_.To, b_.Ephemeral] : List Int) ([(b2iF b_.Data)] : List (List Int))) c3) (.c (.t n5) rfl (.c (.t n15) rfl .n))) u16 <| xm n12 (by kernel_rfl) (as_ (.t n16)) u4 <| xe (by kernel_rfl) ?_
    exact le [] (by decide) (.x4 (.c (.e rfl rfl) (.x8 (.x4 .n)))) .n
   ·
    refine SK n9 (bsm ([(b2iF b_.Data)] : List (List Int)) (fun l => [V.slice 1 (l.map iV)]) T.s274 rfl rfl (.c (.t n13) rfl rfl rfl .n) rfl u14) <| xa1 (i := 5) (by kernel_rfl) <| SK n5 (bsm ([(167 : Int), b_.To, b_.Ephemeral] : List Int) iV T.s108 rfl rfl (.c (.i rfl) rfl rfl rfl (.c (.t n7) rfl rfl rfl (.c (.t n9) rfl rfl rfl .n))) rfl u10) <| xa1 (i := 10) (by kernel_rfl) <| SC n10 (call (tot_impl_joined ([(167 : Int), b_.To, b_.Ephemeral] : List Int) ([(b2iF b_.Data)] : List (List Int)) c2) (.c (.t n10) rfl (.c (.t n14) rfl .n))) u15 <| xa1 (i := 11) (by kernel_rfl) <| SC n11 (call (tot_impl_KeyedHash key_ (joinF ([(167 : Int), b_.To, b_.Ephemeral] : List Int) ([(b2iF b_.Data)] : List (List Int))) c3) (.c (.t n5) rfl (.c (.t n15) rfl .n))) u16 <| xm n12 (by kernel_rfl) (as_ (.t n16)) u4 <| xe (by kernel_rfl) ?_
    exact le [] (by decide) (.x4 (.c (.e rfl rfl) (.x8 (.x4 .n)))) .n
 ·
  replace hm := sj hm
  subst hm
  exact rt (ret1 (.t n4 (.p rfl) .n) rfl)

theorem tot_impl_BoxMAC (key_ : Int) (b_ : D.Box) (hp0 : b_.Data.length ≤ 34359738200) : Spec Tryz.prog G0 313 [.int .i64 key_, .agg (D.Box.V b_)] (fun v => v = .int .i64 (macF key_ b_)) := sp_impl_BoxMAC key_ b_ _ (t_impl_BoxMAC key_ b_ hp0)

theorem sp_impl_OpenBox (private_ : Int) (b_ : D.Box) (r : (List Int) × Bool) (hm : m_impl_OpenBox private_ b_ = some r) : Spec Tryz.prog G0 286 [.int .i64 private_, .agg (D.Box.V b_)] (fun v => v = .tup [.slice 1 (r.1.map y8), .bool r.2]) := by
 rw [m_impl_OpenBox] at hm
 refine enter (l := [.tmp 4, .tmp 5]) Tryz.func286 rfl Tryz.ntmps286 rfl T.en286 fun E => ?_
 simp only [List.length_cons, List.length_nil, List.replicate_succ, List.replicate_zero, List.cons_append, List.nil_append, Nat.reduceAdd, Nat.reduceSub]
 refine sr <| k (bx rfl s0 u3 (.t n1)) <| m (as_ .n) u4 <| m (as_ .b) u5 <| e ?_
 refine sq ?_
 refine sd none [(0, true), (1, false), (2, true), (3, true), (4, true), (5, true), (6, true), (7, false), (8, true), (9, true), (10, true), (11, true), (12, true), (13, false), (14, true), (15, true), (16, true), (17, true), (18, true), (19, true), (20, true), (21, true)] T.mix (by kernel_rfl) <| rob hm (fun j0_28 : Bool => ⟨[.int .i64 private_, .any, .any, .box 0 0, .any, .any, .any, .any, .any, .any, .any, .any, .any, .any, .any, .any, .any, .any, .any, .any, .any, .any, .any, .any, .any, .any, .any, .any, .bool j0_28, .any, .any, .any, .any, .any, .any, .any, .any, .any, .any, .any, .any, .any, .any], [.box 293 [.int .i64 b_.To, .int .i64 b_.Ephemeral, .slice 1 (b_.Data.map y8), .int .i64 b_.MAC]]⟩) (fun _ hm hq1 => ?_) (fun j0_28 hm => ?_)
 ·
  refine om n0 (mv (.t n0)) u7 <| oc n1 (call (tot_impl_IsValidKey private_) (.c (.t n7) rfl .n)) u8 <| om n2 (not_ (.t n8)) u9 <| om n3 (mv (.t n9)) u10 <| osp n10 u10 u10 (fun h2 => ?_) (fun h2 => ?_)
  ·
   replace hm := ct h2 hm
   refine os n4 n3 rfl n10 rfl u11 <| os n5 n3 rfl n10 rfl u12 <| os n6 n3 rfl n10 rfl u13 <| osf n7 n3 rfl n10 rfl u14 <| os n8 n3 rfl n10 rfl u15 <| om n9 (pkt (.t n10) .b) u16 <| om n10 (mv (.t n16)) u17 <| os n11 n10 rfl n17 rfl u18 <| os n12 n10 rfl n17 rfl u19 <| osf n13 n10 rfl n17 rfl u20 <| os n14 n10 rfl n17 rfl u21 <| om n15 (pkt (.t n17) .b) u22 <| om n16 (mv (.t n22)) u23 <| os n17 n16 rfl n23 rfl u24 <| os n18 n16 rfl n23 rfl u25 <| os n19 n16 rfl n23 rfl u26 <| os n20 n16 rfl n23 rfl u27 <| om n21 (pkt (.t n23) .b) u28 <| oe ?_
   replace hm := sj hm
   subst hm
   have hm := hq1
   exact ⟨true, hm, le [0] (by decide) (.c (.e rfl rfl) (.x2 (.c (.b n0) (.x16 (.x8 (.c (.e rfl rfl) (.x8 (.x4 (.x2 .n))))))))) (.b n0 (.c (.e rfl rfl) (.c (.e rfl rfl) (.c (.e rfl rfl) (.c (.e rfl rfl) .n)))) .n)⟩
  ·
   replace hm := cf h2 hm
   refine omg n4 n3 rfl n10 (fab 0 rfl T.f293_0 (.t n3)) u11 <| omg n5 n3 rfl n10 (ldb T.o3 n0 n0 (.t n11)) u12 <| omg n6 n3 rfl n10 (mv (.t n0)) u13 <| ocg n7 n3 rfl n10 (call (tot_impl_PublicKey private_) (.c (.t n13) rfl .n)) u14 <| omg n8 n3 rfl n10 (neq (.t n12) (.t n14)) u15 <| om n9 (pkf (.t n10) (.t n15)) u16 <| om n10 (mv (.t n16)) u17 <| osp n17 u17 u17 (fun h3 => ?_) (fun h3 => ?_)
   ·
    replace hm := ct h3 hm
    refine os n11 n10 rfl n17 rfl u18 <| os n12 n10 rfl n17 rfl u19 <| osf n13 n10 rfl n17 rfl u20 <| os n14 n10 rfl n17 rfl u21 <| om n15 (pkt (.t n17) .b) u22 <| om n16 (mv (.t n22)) u23 <| os n17 n16 rfl n23 rfl u24 <| os n18 n16 rfl n23 rfl u25 <| os n19 n16 rfl n23 rfl u26 <| os n20 n16 rfl n23 rfl u27 <| om n21 (pkt (.t n23) .b) u28 <| oe ?_
    replace hm := sj hm
    subst hm
    have hm := hq1
    exact ⟨true, hm, le [0] (by decide) (.c (.e rfl rfl) (.x2 (.c (.b n0) (.x16 (.x8 (.c (.e rfl rfl) (.x8 (.x4 (.x2 .n))))))))) (.b n0 (.c (.e rfl rfl) (.c (.e rfl rfl) (.c (.e rfl rfl) (.c (.e rfl rfl) .n)))) .n)⟩
   ·
    replace hm := cf h3 hm
    refine omg n11 n10 rfl n17 (fab 1 rfl T.f293_1 (.t n3)) u18 <| omg n12 n10 rfl n17 (ldb T.o3 n0 n1 (.t n18)) u19 <| ocg n13 n10 rfl n17 (call (tot_impl_IsValidKey b_.Ephemeral) (.c (.t n19) rfl .n)) u20 <| omg n14 n10 rfl n17 (not_ (.t n20)) u21 <| om n15 (pkf (.t n17) (.t n21)) u22 <| om n16 (mv (.t n22)) u23 <| osp n23 u23 u23 (fun h4 => ?_) (fun h4 => ?_)
    ·
     replace hm := ct h4 hm
     refine os n17 n16 rfl n23 rfl u24 <| os n18 n16 rfl n23 rfl u25 <| os n19 n16 rfl n23 rfl u26 <| os n20 n16 rfl n23 rfl u27 <| om n21 (pkt (.t n23) .b) u28 <| oe ?_
     replace hm := sj hm
     subst hm
     have hm := hq1
     exact ⟨true, hm, le [0] (by decide) (.c (.e rfl rfl) (.x2 (.c (.b n0) (.x16 (.x8 (.c (.e rfl rfl) (.x8 (.x4 (.x2 .n))))))))) (.b n0 (.c (.e rfl rfl) (.c (.e rfl rfl) (.c (.e rfl rfl) (.c (.e rfl rfl) .n)))) .n)⟩
    ·
     replace hm := cf h4 hm
     refine omg n17 n16 rfl n23 (fab 2 rfl T.f293_2 (.t n3)) u24 <| omg n18 n16 rfl n23 (ldb T.o207 n0 n2 (.t n24)) u25 <| omg n19 n16 rfl n23 (lenm (l := b_.Data) (f := y8) T.s207 (.t n25)) u26 <| omg n20 n16 rfl n23 (gtr (.t n26) (.i rfl)) u27 <| om n21 (pkf (.t n23) (.t n27)) u28 <| oe ?_
     replace hm := sj hm
     subst hm
     have hm := hq1
     exact ⟨decide ((b_.Data.length : Int) > (200 : Int)), hm, le [0] (by decide) (.c (.e rfl rfl) (.x2 (.c (.b n0) (.x16 (.x8 (.c (.e rfl rfl) (.x8 (.x4 (.x2 .n))))))))) (.b n0 (.c (.e rfl rfl) (.c (.e rfl rfl) (.c (.e rfl rfl) (.c (.e rfl rfl) .n)))) .n)⟩
 ·
  refine cnd n28 (fun h5 => ?_) (fun h5 => ?_)
  ·
   replace hm := ct h5 hm
   refine sr <| m (as_ .n) u4 <| m (as_ .b) u5 <| e ?_
   replace hm := sj hm
   subst hm
   exact rt (ret2 (.t n4 .n (.t n5 (.p rfl) .n)) rfl)
  ·
   replace hm := cf h5 hm
   refine skp ?_
   refine sr <| m (mv (.t n0)) u29 <| m (fab 1 rfl T.f293_1 (.t n3)) u30 <| m (ldb T.o3 n0 n1 (.t n30)) u31 <| c (call (tot_impl_BoxKey private_ b_.Ephemeral) (.c (.t n29) rfl (.c (.t n31) rfl .n))) u32 <| m (as_ (.t n32)) u6 <| e ?_
   refine sq ?_
   obtain ⟨c6, hm⟩ := gd_some hm
   refine sd none [(0, true), (1, true), (2, true), (3, true), (4, false), (5, true)] T.mix (by kernel_rfl) <| om n0 (fab 3 rfl T.f293_3 (.t n3)) u33 <| om n1 (ldb T.o3 n0 n3 (.t n33)) u34 <| om n2 (mv (.t n6)) u35 <| om n3 (lab T.a293 n0 d0 k4 (.t n3)) u36 <| oc n4 (call (tot_impl_BoxMAC (boxKeyF private_ b_.Ephemeral) b_ c6) (.c (.t n35) rfl (.c (.t n36) rfl .n))) u37 <| om n5 (neq (.t n34) (.t n37)) u38 <| oe ?_
   refine cnd n38 (fun h7 => ?_) (fun h7 => ?_)
   ·
    replace hm := ct h7 hm
    refine sr <| m (as_ .n) u4 <| m (as_ .b) u5 <| e ?_
    replace hm := sj hm
    subst hm
    exact rt (ret2 (.t n4 .n (.t n5 (.p rfl) .n)) rfl)
   ·
    replace hm := cf h7 hm
    refine skp ?_
    obtain ⟨c8, hm⟩ := gd_some hm
    refine sr <| m (mv (.t n6)) u39 <| m (fab 2 rfl T.f293_2 (.t n3)) u40 <| m (ldb T.o207 n0 n2 (.t n40)) u41 <| c (call (tot_impl_Decrypt (boxKeyF private_ b_.Ephemeral) b_.Data c8) (.c (.t n39) rfl (.c (.t n41) rfl .n))) u42 <| m (as_ (.t n42)) u4 <| m (as_ .b) u5 <| e ?_
    replace hm := sj hm
    subst hm
    exact rt (ret2 (.t n4 (.p rfl) (.t n5 (.p rfl) .n)) rfl)

theorem tot_impl_OpenBox (private_ : Int) (b_ : D.Box)  : Spec Tryz.prog G0 286 [.int .i64 private_, .agg (D.Box.V b_)] (fun v => v = .tup [.slice 1 (((openBoxF private_ b_).1).map y8), .bool ((openBoxF private_ b_).2)]) := sp_impl_OpenBox private_ b_ _ (t_impl_OpenBox private_ b_)

theorem sp_impl_FindBox (boxes_ : List D.Box) (private_ : Int) (r : (List Int) × Bool) (hm : m_impl_FindBox boxes_ private_ = some r) : Spec Tryz.prog G0 218 [.slice 4 (boxes_.map D.Box.V), .int .i64 private_] (fun v => v = .tup [.slice 1 (r.1.map y8), .bool r.2]) := by
 rw [m_impl_FindBox] at hm
 refine enter (l := [.tmp 4, .tmp 5]) Tryz.func218 rfl Tryz.ntmps218 rfl T.en218 fun E => ?_
 simp only [List.length_cons, List.length_nil, List.replicate_succ, List.replicate_zero, List.cons_append, List.nil_append, Nat.reduceAdd, Nat.reduceSub]
 refine sr <| m (as_ .n) u4 <| m (as_ .b) u5 <| e ?_
 refine sq ?_
 refine sr <| m (mv (.t n0)) u10 <| m (lenm (l := boxes_) (f := D.Box.V) T.s44 (.t n10)) u11 <| m (mv (.i rfl)) u12 <| e ?_
 refine jmx hm (fun _ : Unit => ⟨[.any, .any, .any, .any, .any, .any, .any, .any, .any, .any, .any, .any, .any, .any, .any, .any, .any, .any, .any, .any, .any, .any, .any, .any, .any], []⟩) (fun _ hm hq1 => ?_) (fun _ hm => ?_)
 ·
  refine bk ?_
  refine lpf (m := m_impl_FindBox_l0 boxes_ private_) hm (fun i0 : Nat => ⟨[.any, .int .i64 private_, .any, .any, .any, .any, .any, .any, .any, .any, .slice 4 (boxes_.map D.Box.V), .int .i64 (boxes_.length : Int), .int .i64 (i0 : Int), .any, .any, .any, .any, .any, .any, .any, .any, .any, .any, .any, .any], []⟩) (fun _ => rfl) (le [] (by decide) (.c .a (.c (.e rfl rfl) (.x8 (.c (.e rfl rfl) (.c (.e rfl rfl) (.c (.e rfl rfl) (.x8 (.x4 .n)))))))) .n) ?_
  rintro f i0 hm
  rw [m_impl_FindBox_l0] at hm
  refine sr <| m (lss (.t n12) (.t n11)) u13 <| e ?_
  refine rng n11 fun _ ra2 => ?_
  replace ra2 := (show (_ : Int) ≤ 9223372036854775807 from ra2)
  refine sq ?_
  refine cnd n13 (fun h3 => ?_) (fun h3 => ?_)
  ·
   replace hm := ct h3 hm
   have h3d := of_decide_eq_true h3
   refine skp ?_
   refine sq ?_
   refine bk ?_
   obtain ⟨z4, e5, hm⟩ := bd_some hm
   refine sr <| m (ixq (f := D.Box.V) e5 T.s44 (.t n10) (.t n12)) u14 <| m (lae T.a293 k4 (.t n14)) u15 <| k (al T.z293 s0 u7) <| k (sta T.a293 rfl rfl n0 (.z (.z (.z (.z .n)))) q0 (.t n7) (.t n15)) <| e ?_
   refine sr <| m (mv (.t n1)) u17 <| m (lab T.a293 n0 d0 k4 (.t n7)) u18 <| c (call (tot_impl_OpenBox private_ z4) (.c (.t n17) rfl (.c (.t n18) rfl .n))) u19 <| m (mv (.t n19)) u16 <| m (ext_ n0 (.t n16)) u20 <| m (ext_ n1 (.t n16)) u21 <| m (as_ (.t n20)) u8 <| m (as_ (.t n21)) u9 <| e ?_
   refine sr <| m (mv (.t n9)) u22 <| e ?_
   refine cnd n22 (fun h6 => ?_) (fun h6 => ?_)
   ·
    replace hm := ct h6 hm
    refine sr <| m (mv (.t n8)) u23 <| m (as_ (.t n23)) u4 <| m (as_ .b) u5 <| e ?_
    replace hm := inl1 hm hq1
    subst hm
    exact rt (ret2 (.t n4 (.p rfl) (.t n5 (.p rfl) .n)) rfl)
   ·
    replace hm := cf h6 hm
    refine skp ?_
    refine rg <| m (add (.t n12) (.i rfl)) u24 <| m (mv (.t n24)) u12 <| e ?_
    exact ⟨i0 + 1, hm, le [] (by decide) (.c .a (.c (.e rfl rfl) (.x8 (.c (.e rfl rfl) (.c (.e rfl rfl) (.c (.e (wi (by omega)) rfl) (.x8 (.x4 .n)))))))) .n⟩
  ·
   replace hm := cf h3 hm
   have h3d := of_decide_eq_false h3
   refine ex (x1 ?_)
   replace hm := inr1 hm hq1
   exact ⟨(), hm, le [] (by decide) (.x16 (.x8 (.c .a .n))) .n⟩
 ·
  refine sr <| m (as_ .n) u4 <| m (as_ .b) u5 <| e ?_
  replace hm := sj hm
  subst hm
  exact rt (ret2 (.t n4 .n (.t n5 (.p rfl) .n)) rfl)

theorem tot_impl_FindBox (boxes_ : List D.Box) (private_ : Int)  : Spec Tryz.prog G0 218 [.slice 4 (boxes_.map D.Box.V), .int .i64 private_] (fun v => v = .tup [.slice 1 (((findBoxF boxes_ private_).1).map y8), .bool ((findBoxF boxes_ private_).2)]) := sp_impl_FindBox boxes_ private_ _ (t_impl_FindBox boxes_ private_)

theorem sp_spec_l9Labels (s_ : ByteArray) (r : (List ByteArray)) (hm : m_spec_l9Labels s_ = some r) : Spec Tryz.prog G0 261 [.str s_] (fun v => v = .slice 1 (r.map sV)) := by
 rw [m_spec_l9Labels] at hm
 refine enter (l := [.tmp 2]) Tryz.func261 rfl Tryz.ntmps261 rfl T.en261 fun E => ?_
 simp only [List.length_cons, List.length_nil, List.replicate_succ, List.replicate_zero, List.cons_append, List.nil_append, Nat.reduceAdd, Nat.reduceSub]
 refine sr <| m (as_ .n) u2 <| e ?_
 refine sr <| k (bom ([] : List ByteArray) sV T.s290 rfl rfl .n rfl s0 u6) <| m (as_ (.t n6)) u3 <| e ?_
 refine sr <| m (as_ (.i rfl)) u4 <| e ?_
 refine sq ?_
 refine sr <| m (as_ (.i rfl)) u5 <| e ?_
 refine jmb hm (fun j0r1 : List ByteArray => ⟨[.any, .any, .any, .own 0, .any, .any, .any, .any, .any, .any, .any, .any, .any, .any, .any, .any, .any, .any, .any, .any, .any, .any, .any, .any, .any, .any, .any, .any, .any, .any, .any, .any, .any], [.row 9 1 (j0r1.map sV)]⟩) (fun _ hm hq1 => ?_) (fun j0r1 hm => ?_)
 ·
  refine bk ?_
  refine lpf (m := m_spec_l9Labels_l0 s_) hm (fun yy2_ : Int × Nat × (List ByteArray) => ⟨[.str s_, .any, .any, .own 0, .int .i64 yy2_.1, .int .i64 (yy2_.2.1 : Int), .any, .any, .any, .any, .any, .any, .any, .any, .any, .any, .any, .any, .any, .any, .any, .any, .any, .any, .any, .any, .any, .any, .any, .any, .any, .any, .any], [.row 9 1 (yy2_.2.2.map sV)]⟩) (fun _ => rfl) (le [0] (by decide) (.c (.e rfl rfl) (.x2 (.c (.w n0) (.c (.e rfl rfl) (.c (.e rfl rfl) (.x16 (.x8 (.x2 (.c .a .n))))))))) (.r n0 rfl .n)) ?_
  rintro f ⟨v0_4, i0, v0r1⟩ hm
  rw [m_spec_l9Labels_l0] at hm
  dsimp only at hm ⊢
  refine sq ?_
  refine sr <| m (mv (.t n5)) u7 <| m (mv (.t n0)) u8 <| m (lenS Tryz.underlying9 (.t n8)) u9 <| m (leq (.t n7) (.t n9)) u10 <| e ?_
  refine rng n9 fun _ ra3 => ?_
  replace ra3 := (show (_ : Int) ≤ 9223372036854775807 from ra3)
  refine cnd n10 (fun h4 => ?_) (fun h4 => ?_)
  ·
   replace hm := ct h4 hm
   have h4d := of_decide_eq_true h4
   refine skp ?_
   refine sq ?_
   refine jmb hm (fun yy6_ : Int × (List ByteArray) => ⟨[.str s_, .any, .any, .own 0, .int .i64 yy6_.1, .int .i64 (i0 : Int), .any, .any, .any, .any, .any, .any, .any, .any, .any, .any, .any, .any, .any, .any, .any, .any, .any, .any, .any, .any, .any, .any, .any, .any, .any, .any, .any], [.row 9 1 (yy6_.2.map sV)]⟩) (fun _ hm hq5 => ?_) (fun t hm => ?_)
   ·
    refine bk ?_
    refine sr <| rjb hm (fun j2_22 : Bool => ⟨[.str s_, .any, .any, .own 0, .int .i64 v0_4, .int .i64 (i0 : Int), .any, .any, .any, .any, .any, .any, .any, .any, .any, .any, .any, .any, .any, .any, .any, .any, .bool j2_22, .any, .any, .any, .any, .any, .any, .any, .any, .any, .any], [.row 9 1 (v0r1.map sV)]⟩) (fun _ hm hq7 => ?_) (fun j2_22 hm => ?_)
    ·
     refine m (mv (.t n5)) u13 <| m (mv (.t n0)) u14 <| m (lenS Tryz.underlying9 (.t n14)) u15 <| m (eql (.t n13) (.t n15)) u16 <| m (mv (.t n16)) u17 <| sp n17 u17 u17 (fun h8 => ?_) (fun h8 => ?_)
     ·
      replace hm := ct h8 hm
      refine sk n4 rfl n17 rfl u18 <| sk n4 rfl n17 rfl u19 <| sk n4 rfl n17 rfl u20 <| sk n4 rfl n17 rfl u21 <| m (pkt (.t n17) .b) u22 <| e ?_
      replace hm := sj hm
      subst hm
      have hm := hq7
      exact ⟨true, hm, le [0] (by decide) (.c (.e rfl rfl) (.x2 (.c (.w n0) (.c (.e rfl rfl) (.c (.e rfl rfl) (.x16 (.c (.e rfl rfl) (.x8 (.x2 .n))))))))) (.r n0 rfl .n)⟩
     ·
      replace hm := cf h8 hm
      obtain ⟨z9, e10, hm⟩ := bd_some hm
      refine mg n4 rfl n17 (mv (.t n0)) u18 <| mg n4 rfl n17 (mv (.t n5)) u19 <| mg n4 rfl n17 (sidx e10 Tryz.underlying9 (.t n18) (.t n19)) u20 <| mg n4 rfl n17 (eql (.t n20) (.i rfl)) u21 <| m (pkf (.t n17) (.t n21)) u22 <| e ?_
      replace hm := sj hm
      subst hm
      have hm := hq7
      exact ⟨(z9 == (46 : Int)), hm, le [0] (by decide) (.c (.e rfl rfl) (.x2 (.c (.w n0) (.c (.e rfl rfl) (.c (.e rfl rfl) (.x16 (.c (.e rfl rfl) (.x8 (.x2 .n))))))))) (.r n0 rfl .n)⟩
    ·
     refine cnd n22 (fun h11 => ?_) (fun h11 => ?_)
     ·
      replace hm := ct h11 hm
      obtain ⟨c12, hm⟩ := gd_some hm
      obtain ⟨c13, hm⟩ := gd_some hm
      refine sr <| m (mv (.t n3)) u23 <| m (mv (.t n0)) u24 <| m (mv (.t n4)) u25 <| m (mv (.t n5)) u26 <| m (ssl3 c12 Tryz.underlying9 (.t n24) (.t n25) (.t n26)) u27 <| k (bsm ([(s_.extract v0_4.toNat (i0 : Int).toNat)] : List ByteArray) sV T.s290 rfl rfl (.c (.t n27) rfl rfl rfl .n) rfl u28) <| dr u3 <| k (apm (l := v0r1) (l2 := ([(s_.extract v0_4.toNat (i0 : Int).toNat)] : List ByteArray)) (f := sV) 23 c13 rfl (fun _ => rfl) T.s290 rfl n23 u23 n0 (.t n28) q0 rfl u29) <| m (as_ (.t n29)) u3 <| e ?_
      refine rg <| m (mv (.t n5)) u30 <| m (add (.t n30) (.i rfl)) u31 <| m (as_ (.t n31)) u4 <| e ?_
      replace hm := sj hm
      subst hm
      have hm := hq5
      exact ⟨(IntKind.i64.wrap ((i0 : Int) + (1 : Int)), (v0r1 ++ ([(s_.extract v0_4.toNat (i0 : Int).toNat)] : List ByteArray))), hm, le [0] (by decide) (.c (.e rfl rfl) (.x2 (.c (.w n0) (.c (.e rfl rfl) (.c (.e rfl rfl) (.x16 (.x8 (.x2 (.c .a .n))))))))) (.r n0 rfl .n)⟩
     ·
      replace hm := cf h11 hm
      refine skp ?_
      replace hm := sj hm
      subst hm
      have hm := hq5
      exact ⟨(v0_4, v0r1), hm, le [0] (by decide) (.c (.e rfl rfl) (.x2 (.c (.w n0) (.c (.e rfl rfl) (.c (.e rfl rfl) (.x16 (.x8 (.x2 (.c .a .n))))))))) (.r n0 rfl .n)⟩
   ·
    obtain ⟨j1_4, j1r1⟩ := t
    dsimp only at hm ⊢
    refine rg <| m (mv (.t n5)) u11 <| m (add (.t n11) (.i rfl)) u12 <| m (as_ (.t n12)) u5 <| e ?_
    obtain ⟨c14, hm⟩ := gd_some hm
    exact ⟨(j1_4, i0 + 1, j1r1), hm, le [0] (by decide) (.c (.e rfl rfl) (.x2 (.c (.w n0) (.c (.e rfl rfl) (.c (.e (wi c14) rfl) (.x16 (.x8 (.x2 (.c .a .n))))))))) (.r n0 rfl .n)⟩
  ·
   replace hm := cf h4 hm
   have h4d := of_decide_eq_false h4
   refine ex (x1 ?_)
   replace hm := sj hm
   subst hm
   have hm := hq1
   exact ⟨v0r1, hm, le [0] (by decide) (.x2 (.c .a (.c (.w n0) (.x16 (.x8 (.x4 (.c .a .n))))))) (.r n0 rfl .n)⟩
 ·
  refine sr <| m (mv (.t n3)) u32 <| m (as_ (.t n32)) u2 <| e ?_
  replace hm := sj hm
  subst hm
  exact rt (ret1 (.t n2 (.o n0) .n) rfl)

theorem tot_spec_l9Labels (s_ : ByteArray) (hp0 : s_.size ≤ 34359738368) : Spec Tryz.prog G0 261 [.str s_] (fun v => v = .slice 1 ((labelsF s_).map sV)) := sp_spec_l9Labels s_ _ (t_spec_l9Labels s_ hp0)

theorem sp_spec_l9Label (s_ : ByteArray) (r : Bool) (hm : m_spec_l9Label s_ = some r) : Spec Tryz.prog G0 298 [.str s_] (fun v => v = .bool r) := by
 rw [m_spec_l9Label] at hm
 refine enter (l := [.tmp 2]) Tryz.func298 rfl Tryz.ntmps298 rfl T.en298 fun E => ?_
 simp only [List.length_cons, List.length_nil, List.replicate_succ, List.replicate_zero, List.cons_append, List.nil_append, Nat.reduceAdd, Nat.reduceSub]
 refine sr <| m (as_ .b) u2 <| e ?_
 refine sq ?_
 refine sr <| m (as_ (.i rfl)) u3 <| e ?_
 refine jmx hm (fun _ : Unit => ⟨[.str s_, .any, .any, .any, .any, .any, .any, .any, .any, .any, .any, .any, .any, .any, .any, .any, .any, .any, .any, .any, .any, .any, .any, .any, .any, .any, .any, .any, .any, .any, .any, .any, .any, .any, .any, .any, .any, .any, .any, .any, .any, .any, .any, .any, .any, .any, .any, .any, .any, .any, .any, .any, .any, .any, .any, .any, .any], []⟩) (fun _ hm hq1 => ?_) (fun _ hm => ?_)
 ·
  refine bk ?_
  refine lpf (m := m_spec_l9Label_l0 s_) hm (fun i0 : Nat => ⟨[.str s_, .any, .any, .int .i64 (i0 : Int), .any, .any, .any, .any, .any, .any, .any, .any, .any, .any, .any, .any, .any, .any, .any, .any, .any, .any, .any, .any, .any, .any, .any, .any, .any, .any, .any, .any, .any, .any, .any, .any, .any, .any, .any, .any, .any, .any, .any, .any, .any, .any, .any, .any, .any, .any, .any, .any, .any, .any, .any, .any, .any], []⟩) (fun _ => rfl) (le [] (by decide) (.c (.e rfl rfl) (.x2 (.c (.e rfl rfl) (.x32 (.x16 (.x4 (.c .a .n))))))) .n) ?_
  rintro f i0 hm
  rw [m_spec_l9Label_l0] at hm
  refine sq ?_
  refine sr <| m (mv (.t n3)) u5 <| m (mv (.t n0)) u6 <| m (lenS Tryz.underlying9 (.t n6)) u7 <| m (lss (.t n5) (.t n7)) u8 <| e ?_
  refine rng n7 fun _ ra2 => ?_
  replace ra2 := (show (_ : Int) ≤ 9223372036854775807 from ra2)
  refine cnd n8 (fun h3 => ?_) (fun h3 => ?_)
  ·
   replace hm := ct h3 hm
   have h3d := of_decide_eq_true h3
   refine skp ?_
   refine sq ?_
   refine bk ?_
   refine sr <| rjb hm (fun j1_4 : Bool => ⟨[.str s_, .any, .any, .int .i64 (i0 : Int), .bool j1_4, .any, .any, .any, .any, .any, .any, .any, .any, .any, .any, .any, .any, .any, .any, .any, .any, .any, .any, .any, .any, .any, .any, .any, .any, .any, .any, .any, .any, .any, .any, .any, .any, .any, .any, .any, .any, .any, .any, .any, .any, .any, .any, .any, .any, .any, .any, .any, .any, .any, .any, .any, .any], []⟩) (fun _ hm hq4 => ?_) (fun j1_4 hm => ?_)
   ·
    obtain ⟨z5, e6, hm⟩ := bd_some hm
    refine m (mv (.t n0)) u11 <| m (mv (.t n3)) u12 <| m (sidx e6 Tryz.underlying9 (.t n11) (.t n12)) u13 <| m (geq (.t n13) (.i rfl)) u14 <| m (mv (.t n14)) u15 <| sp n15 u15 u15 (fun h7 => ?_) (fun h7 => ?_)
    ·
     replace hm := ct h7 hm
     refine mg n4 rfl n15 (mv (.t n0)) u16 <| mg n4 rfl n15 (mv (.t n3)) u17 <| mg n4 rfl n15 (sidx e6 Tryz.underlying9 (.t n16) (.t n17)) u18 <| mg n4 rfl n15 (leq (.t n18) (.i rfl)) u19 <| m (pkt (.t n15) (.t n19)) u20 <| m (mv (.t n20)) u21 <| sp n21 u21 u21 (fun h8 => ?_) (fun h8 => ?_)
     ·
      replace hm := ct h8 hm
      refine sk n10 rfl n21 rfl u22 <| sk n10 rfl n21 rfl u23 <| sk n10 rfl n21 rfl u24 <| sk n10 rfl n21 rfl u25 <| sk n10 rfl n21 rfl u26 <| sku n15 rfl n26 u27 <| sku n15 rfl n26 u28 <| sku n15 rfl n26 u29 <| sku n15 rfl n26 u30 <| sk n10 rfl n21 rfl u31 <| m (pkt (.t n21) .b) u32 <| m (mv (.t n32)) u33 <| sk n22 rfl n33 rfl u34 <| sk n22 rfl n33 rfl u35 <| sk n22 rfl n33 rfl u36 <| sk n22 rfl n33 rfl u37 <| m (pkt (.t n33) .b) u38 <| m (as_ (.t n38)) u4 <| e ?_
      replace hm := sj hm
      subst hm
      have hm := hq4
      exact ⟨true, hm, le [] (by decide) (.c (.e rfl rfl) (.x2 (.c (.e rfl rfl) (.c (.e rfl rfl) (.x32 (.x16 (.x4 .n))))))) .n⟩
     ·
      replace hm := cf h8 hm
      refine mg n10 rfl n21 (mv (.t n0)) u22 <| mg n10 rfl n21 (mv (.t n3)) u23 <| mg n10 rfl n21 (sidx e6 Tryz.underlying9 (.t n22) (.t n23)) u24 <| mg n10 rfl n21 (geq (.t n24) (.i rfl)) u25 <| mg n10 rfl n21 (mv (.t n25)) u26 <| sp n26 u26 u26 (fun h9 => ?_) (fun h9 => ?_)
      ·
       replace hm := ct h9 hm
       refine mg n15 rfl n26 (mv (.t n0)) u27 <| mg n15 rfl n26 (mv (.t n3)) u28 <| mg n15 rfl n26 (sidx e6 Tryz.underlying9 (.t n27) (.t n28)) u29 <| mg n15 rfl n26 (leq (.t n29) (.i rfl)) u30 <| mg n10 rfl n21 (pkt (.t n26) (.t n30)) u31 <| m (pkf (.t n21) (.t n31)) u32 <| m (mv (.t n32)) u33 <| sp n33 u33 u33 (fun h10 => ?_) (fun h10 => ?_)
       ·
        replace hm := ct h10 hm
        refine sk n22 rfl n33 rfl u34 <| sk n22 rfl n33 rfl u35 <| sk n22 rfl n33 rfl u36 <| sk n22 rfl n33 rfl u37 <| m (pkt (.t n33) .b) u38 <| m (as_ (.t n38)) u4 <| e ?_
        replace hm := sj hm
        subst hm
        have hm := hq4
        exact ⟨true, hm, le [] (by decide) (.c (.e rfl rfl) (.x2 (.c (.e rfl rfl) (.c (.e rfl rfl) (.x32 (.x16 (.x4 .n))))))) .n⟩
       ·
        replace hm := cf h10 hm
        refine mg n22 rfl n33 (mv (.t n0)) u34 <| mg n22 rfl n33 (mv (.t n3)) u35 <| mg n22 rfl n33 (sidx e6 Tryz.underlying9 (.t n34) (.t n35)) u36 <| mg n22 rfl n33 (eql (.t n36) (.i rfl)) u37 <| m (pkf (.t n33) (.t n37)) u38 <| m (as_ (.t n38)) u4 <| e ?_
        replace hm := sj hm
        subst hm
        have hm := hq4
        exact ⟨(z5 == (45 : Int)), hm, le [] (by decide) (.c (.e rfl rfl) (.x2 (.c (.e rfl rfl) (.c (.e rfl rfl) (.x32 (.x16 (.x4 .n))))))) .n⟩
      ·
       replace hm := cf h9 hm
       refine sk n15 rfl n26 rfl u27 <| sk n15 rfl n26 rfl u28 <| sk n15 rfl n26 rfl u29 <| sk n15 rfl n26 rfl u30 <| mg n10 rfl n21 (pkf (.t n26) .b) u31 <| m (pkf (.t n21) (.t n31)) u32 <| m (mv (.t n32)) u33 <| mg n22 rfl n33 (mv (.t n0)) u34 <| mg n22 rfl n33 (mv (.t n3)) u35 <| mg n22 rfl n33 (sidx e6 Tryz.underlying9 (.t n34) (.t n35)) u36 <| mg n22 rfl n33 (eql (.t n36) (.i rfl)) u37 <| m (pkf (.t n33) (.t n37)) u38 <| m (as_ (.t n38)) u4 <| e ?_
       replace hm := sj hm
       subst hm
       have hm := hq4
       exact ⟨(z5 == (45 : Int)), hm, le [] (by decide) (.c (.e rfl rfl) (.x2 (.c (.e rfl rfl) (.c (.e rfl rfl) (.x32 (.x16 (.x4 .n))))))) .n⟩
    ·
     replace hm := cf h7 hm
     refine sk n4 rfl n15 rfl u16 <| sk n4 rfl n15 rfl u17 <| sk n4 rfl n15 rfl u18 <| sk n4 rfl n15 rfl u19 <| m (pkf (.t n15) .b) u20 <| m (mv (.t n20)) u21 <| mg n10 rfl n21 (mv (.t n0)) u22 <| mg n10 rfl n21 (mv (.t n3)) u23 <| mg n10 rfl n21 (sidx e6 Tryz.underlying9 (.t n22) (.t n23)) u24 <| mg n10 rfl n21 (geq (.t n24) (.i rfl)) u25 <| mg n10 rfl n21 (mv (.t n25)) u26 <| sp n26 u26 u26 (fun h11 => ?_) (fun h11 => ?_)
     ·
      replace hm := ct h11 hm
      refine mg n15 rfl n26 (mv (.t n0)) u27 <| mg n15 rfl n26 (mv (.t n3)) u28 <| mg n15 rfl n26 (sidx e6 Tryz.underlying9 (.t n27) (.t n28)) u29 <| mg n15 rfl n26 (leq (.t n29) (.i rfl)) u30 <| mg n10 rfl n21 (pkt (.t n26) (.t n30)) u31 <| m (pkf (.t n21) (.t n31)) u32 <| m (mv (.t n32)) u33 <| sp n33 u33 u33 (fun h12 => ?_) (fun h12 => ?_)
      ·
       replace hm := ct h12 hm
       refine sk n22 rfl n33 rfl u34 <| sk n22 rfl n33 rfl u35 <| sk n22 rfl n33 rfl u36 <| sk n22 rfl n33 rfl u37 <| m (pkt (.t n33) .b) u38 <| m (as_ (.t n38)) u4 <| e ?_
       replace hm := sj hm
       subst hm
       have hm := hq4
       exact ⟨true, hm, le [] (by decide) (.c (.e rfl rfl) (.x2 (.c (.e rfl rfl) (.c (.e rfl rfl) (.x32 (.x16 (.x4 .n))))))) .n⟩
      ·
       replace hm := cf h12 hm
       refine mg n22 rfl n33 (mv (.t n0)) u34 <| mg n22 rfl n33 (mv (.t n3)) u35 <| mg n22 rfl n33 (sidx e6 Tryz.underlying9 (.t n34) (.t n35)) u36 <| mg n22 rfl n33 (eql (.t n36) (.i rfl)) u37 <| m (pkf (.t n33) (.t n37)) u38 <| m (as_ (.t n38)) u4 <| e ?_
       replace hm := sj hm
       subst hm
       have hm := hq4
       exact ⟨(z5 == (45 : Int)), hm, le [] (by decide) (.c (.e rfl rfl) (.x2 (.c (.e rfl rfl) (.c (.e rfl rfl) (.x32 (.x16 (.x4 .n))))))) .n⟩
     ·
      replace hm := cf h11 hm
      refine sk n15 rfl n26 rfl u27 <| sk n15 rfl n26 rfl u28 <| sk n15 rfl n26 rfl u29 <| sk n15 rfl n26 rfl u30 <| mg n10 rfl n21 (pkf (.t n26) .b) u31 <| m (pkf (.t n21) (.t n31)) u32 <| m (mv (.t n32)) u33 <| mg n22 rfl n33 (mv (.t n0)) u34 <| mg n22 rfl n33 (mv (.t n3)) u35 <| mg n22 rfl n33 (sidx e6 Tryz.underlying9 (.t n34) (.t n35)) u36 <| mg n22 rfl n33 (eql (.t n36) (.i rfl)) u37 <| m (pkf (.t n33) (.t n37)) u38 <| m (as_ (.t n38)) u4 <| e ?_
      replace hm := sj hm
      subst hm
      have hm := hq4
      exact ⟨(z5 == (45 : Int)), hm, le [] (by decide) (.c (.e rfl rfl) (.x2 (.c (.e rfl rfl) (.c (.e rfl rfl) (.x32 (.x16 (.x4 .n))))))) .n⟩
   ·
    refine sr <| m (mv (.t n4)) u39 <| m (not_ (.t n39)) u40 <| e ?_
    refine cnd n40 (fun h13 => ?_) (fun h13 => ?_)
    ·
     replace hm := ct h13 hm
     refine sr <| m (as_ .b) u2 <| e ?_
     replace hm := inl1 hm hq1
     subst hm
     exact rt (ret1 (.t n2 (.p rfl) .n) rfl)
    ·
     replace hm := cf h13 hm
     refine skp ?_
     refine rg <| m (mv (.t n3)) u9 <| m (add (.t n9) (.i rfl)) u10 <| m (as_ (.t n10)) u3 <| e ?_
     exact ⟨i0 + 1, hm, le [] (by decide) (.c (.e rfl rfl) (.x2 (.c (.e (wi (by omega)) rfl) (.x32 (.x16 (.x4 (.c .a .n))))))) .n⟩
  ·
   replace hm := cf h3 hm
   have h3d := of_decide_eq_false h3
   refine ex (x1 ?_)
   replace hm := inr1 hm hq1
   exact ⟨(), hm, le [] (by decide) (.c (.e rfl rfl) (.x32 (.x16 (.x8 .n)))) .n⟩
 ·
  refine sr <| rjb hm (fun j2_2 : Bool => ⟨[.any, .any, .bool j2_2, .any, .any, .any, .any, .any, .any, .any, .any, .any, .any, .any, .any, .any, .any, .any, .any, .any, .any, .any, .any, .any, .any, .any, .any, .any, .any, .any, .any, .any, .any, .any, .any, .any, .any, .any, .any, .any, .any, .any, .any, .any, .any, .any, .any, .any, .any, .any, .any, .any, .any, .any, .any, .any, .any], []⟩) (fun _ hm hq14 => ?_) (fun j2_2 hm => ?_)
  ·
   refine m (mv (.t n0)) u41 <| m (lenS Tryz.underlying9 (.t n41)) u42 <| c (call (tot_spec_l1In (s_.size : Int) (1 : Int) (20 : Int)) (.c (.t n42) rfl (.c (.i rfl) rfl (.c (.i rfl) rfl .n)))) u43 <| m (mv (.t n43)) u44 <| sp n44 u44 u44 (fun h15 => ?_) (fun h15 => ?_)
   ·
    replace hm := ct h15 hm
    obtain ⟨z16, e17, hm⟩ := bd_some hm
    refine mg n3 rfl n44 (mv (.t n0)) u45 <| mg n3 rfl n44 (sidx e17 Tryz.underlying9 (.t n45) (.i rfl)) u46 <| mg n3 rfl n44 (neq (.t n46) (.i rfl)) u47 <| m (pkt (.t n44) (.t n47)) u48 <| m (mv (.t n48)) u49 <| sp n49 u49 u49 (fun h18 => ?_) (fun h18 => ?_)
    ·
     replace hm := ct h18 hm
     obtain ⟨z19, e20, hm⟩ := bd_some hm
     refine mg n8 rfl n49 (mv (.t n0)) u50 <| mg n8 rfl n49 (mv (.t n0)) u51 <| mg n8 rfl n49 (lenS Tryz.underlying9 (.t n51)) u52 <| mg n8 rfl n49 (sub (.t n52) (.i rfl)) u53 <| mg n8 rfl n49 (sidx e20 Tryz.underlying9 (.t n50) (.t n53)) u54 <| mg n8 rfl n49 (neq (.t n54) (.i rfl)) u55 <| m (pkt (.t n49) (.t n55)) u56 <| m (as_ (.t n56)) u2 <| e ?_
     replace hm := sj hm
     subst hm
     have hm := hq14
     exact ⟨(z19 != (45 : Int)), hm, le [] (by decide) (.x2 (.c (.e rfl rfl) (.x32 (.x16 (.x4 (.x2 .n)))))) .n⟩
    ·
     replace hm := cf h18 hm
     refine sk n8 rfl n49 rfl u50 <| sk n8 rfl n49 rfl u51 <| sk n8 rfl n49 rfl u52 <| sk n8 rfl n49 rfl u53 <| sk n8 rfl n49 rfl u54 <| sk n8 rfl n49 rfl u55 <| m (pkf (.t n49) .b) u56 <| m (as_ (.t n56)) u2 <| e ?_
     replace hm := sj hm
     subst hm
     have hm := hq14
     exact ⟨false, hm, le [] (by decide) (.x2 (.c (.e rfl rfl) (.x32 (.x16 (.x4 (.x2 .n)))))) .n⟩
   ·
    replace hm := cf h15 hm
    refine sk n3 rfl n44 rfl u45 <| sk n3 rfl n44 rfl u46 <| sk n3 rfl n44 rfl u47 <| m (pkf (.t n44) .b) u48 <| m (mv (.t n48)) u49 <| sk n8 rfl n49 rfl u50 <| sk n8 rfl n49 rfl u51 <| sk n8 rfl n49 rfl u52 <| sk n8 rfl n49 rfl u53 <| sk n8 rfl n49 rfl u54 <| sk n8 rfl n49 rfl u55 <| m (pkf (.t n49) .b) u56 <| m (as_ (.t n56)) u2 <| e ?_
    replace hm := sj hm
    subst hm
    have hm := hq14
    exact ⟨false, hm, le [] (by decide) (.x2 (.c (.e rfl rfl) (.x32 (.x16 (.x4 (.x2 .n)))))) .n⟩
  ·
   replace hm := sj hm
   subst hm
   exact rt (ret1 (.t n2 (.p rfl) .n) rfl)

theorem tot_spec_l9Label (s_ : ByteArray) (hp0 : s_.size ≤ 34359738368) : Spec Tryz.prog G0 298 [.str s_] (fun v => v = .bool (labelOkF s_)) := sp_spec_l9Label s_ _ (t_spec_l9Label s_ hp0)

theorem sp_spec_IsHost (s_ : ByteArray) (r : Bool) (hm : m_spec_IsHost s_ = some r) : Spec Tryz.prog G0 260 [.str s_] (fun v => v = .bool r) := by
 rw [m_spec_IsHost] at hm
 refine enter (l := [.tmp 2]) Tryz.func260 rfl Tryz.ntmps260 rfl T.en260 fun E => ?_
 simp only [List.length_cons, List.length_nil, List.replicate_succ, List.replicate_zero, List.cons_append, List.nil_append, Nat.reduceAdd, Nat.reduceSub]
 refine sr <| m (as_ .b) u2 <| e ?_
 obtain ⟨c1, hm⟩ := gd_some hm
 refine sr <| m (mv (.t n0)) u5 <| c (call (tot_spec_l9Labels s_ c1) (.c (.t n5) rfl .n)) u6 <| m (as_ (.t n6)) u3 <| e ?_
 refine sq ?_
 refine sr <| m (as_ (.i rfl)) u4 <| e ?_
 refine jmx hm (fun _ : Unit => ⟨[.str s_, .any, .any, .any, .any, .any, .any, .any, .any, .any, .any, .any, .any, .any, .any, .any, .any, .any, .any, .any, .any, .any], []⟩) (fun _ hm hq2 => ?_) (fun _ hm => ?_)
 ·
  refine bk ?_
  refine lpf (m := m_spec_IsHost_l0 s_) hm (fun i0 : Nat => ⟨[.str s_, .any, .any, .slice 1 ((labelsF s_).map sV), .int .i64 (i0 : Int), .any, .any, .any, .any, .any, .any, .any, .any, .any, .any, .any, .any, .any, .any, .any, .any, .any], []⟩) (fun _ => rfl) (le [] (by decide) (.c (.e rfl rfl) (.x2 (.c (.e rfl rfl) (.c (.e rfl rfl) (.x16 (.c .a .n)))))) .n) ?_
  rintro f i0 hm
  rw [m_spec_IsHost_l0] at hm
  refine sq ?_
  refine sr <| m (mv (.t n4)) u7 <| m (mv (.t n3)) u8 <| m (lenm (l := (labelsF s_)) (f := sV) T.s290 (.t n8)) u9 <| m (lss (.t n7) (.t n9)) u10 <| e ?_
  refine rng n9 fun _ ra3 => ?_
  replace ra3 := (show (_ : Int) ≤ 9223372036854775807 from ra3)
  refine cnd n10 (fun h4 => ?_) (fun h4 => ?_)
  ·
   replace hm := ct h4 hm
   have h4d := of_decide_eq_true h4
   refine skp ?_
   refine sq ?_
   refine bk ?_
   obtain ⟨z5, e6, hm⟩ := bd_some hm
   obtain ⟨c7, hm⟩ := gd_some hm
   refine sr <| m (mv (.t n3)) u13 <| m (mv (.t n4)) u14 <| m (ixq (f := sV) e6 T.s290 (.t n13) (.t n14)) u15 <| m (lde T.o9 n0 (.t n15)) u16 <| c (call (tot_spec_l9Label z5 c7) (.c (.t n16) rfl .n)) u17 <| m (not_ (.t n17)) u18 <| e ?_
   refine cnd n18 (fun h8 => ?_) (fun h8 => ?_)
   ·
    replace hm := ct h8 hm
    refine sr <| m (as_ .b) u2 <| e ?_
    replace hm := inl1 hm hq2
    subst hm
    exact rt (ret1 (.t n2 (.p rfl) .n) rfl)
   ·
    replace hm := cf h8 hm
    refine skp ?_
    refine rg <| m (mv (.t n4)) u11 <| m (add (.t n11) (.i rfl)) u12 <| m (as_ (.t n12)) u4 <| e ?_
    exact ⟨i0 + 1, hm, le [] (by decide) (.c (.e rfl rfl) (.x2 (.c (.e rfl rfl) (.c (.e (wi (by omega)) rfl) (.x16 (.c .a .n)))))) .n⟩
  ·
   replace hm := cf h4 hm
   have h4d := of_decide_eq_false h4
   refine ex (x1 ?_)
   replace hm := inr1 hm hq2
   exact ⟨(), hm, le [] (by decide) (.c (.e rfl rfl) (.x16 (.x4 (.c .a .n)))) .n⟩
 ·
  refine sr <| m (mv (.t n0)) u19 <| m (lenS Tryz.underlying9 (.t n19)) u20 <| m (leq (.t n20) (.i rfl)) u21 <| m (as_ (.t n21)) u2 <| e ?_
  replace hm := sj hm
  subst hm
  exact rt (ret1 (.t n2 (.p rfl) .n) rfl)

theorem tot_spec_IsHost (s_ : ByteArray) (hp0 : s_.size ≤ 34359738368) : Spec Tryz.prog G0 260 [.str s_] (fun v => v = .bool (isHostF s_)) := sp_spec_IsHost s_ _ (t_spec_IsHost s_ hp0)

theorem sp_impl_IsHost (s_ : ByteArray) (r : Bool) (hm : m_impl_IsHost s_ = some r) : Spec Tryz.prog G0 271 [.str s_] (fun v => v = .bool r) := by
 rw [m_impl_IsHost] at hm
 refine enter (l := [.tmp 2]) Tryz.func271 rfl Tryz.ntmps271 rfl T.en271 fun E => ?_
 simp only [List.length_cons, List.length_nil, List.replicate_succ, List.replicate_zero, List.cons_append, List.nil_append, Nat.reduceAdd, Nat.reduceSub]
 refine sr <| m (as_ .b) u2 <| e ?_
 refine sq ?_
 refine sr <| m (mv (.t n0)) u7 <| m (lenS Tryz.underlying9 (.t n7)) u8 <| m (gtr (.t n8) (.i rfl)) u9 <| e ?_
 refine cnd n9 (fun h1 => ?_) (fun h1 => ?_)
 ·
  replace hm := ct h1 hm
  refine sr <| m (as_ .b) u2 <| e ?_
  replace hm := sj hm
  subst hm
  exact rt (ret1 (.t n2 (.p rfl) .n) rfl)
 ·
  replace hm := cf h1 hm
  refine skp ?_
  refine sq ?_
  obtain ⟨c2, hm⟩ := gd_some hm
  obtain ⟨c3, hm⟩ := gd_some hm
  refine sr <| m (mv (.t n0)) u10 <| c (call (sp_strings_Split s_ (⟨#[46]⟩ : ByteArray) c2 c3) (.c (.t n10) rfl (.c (.s rfl) rfl .n))) u11 <| m (lenm (l := (splitF s_ (⟨#[46]⟩ : ByteArray))) (f := sV) T.s290 (.t n11)) u12 <| m (mv (.i rfl)) u13 <| e ?_
  refine jmx hm (fun _ : Unit => ⟨[.any, .any, .any, .any, .any, .any, .any, .any, .any, .any, .any, .any, .any, .any, .any, .any, .any, .any, .any, .any, .any, .any, .any, .any, .any, .any, .any, .any, .any, .any, .any, .any, .any, .any, .any, .any, .any, .any, .any, .any, .any, .any, .any, .any, .any, .any, .any, .any, .any, .any, .any, .any, .any, .any, .any, .any, .any, .any, .any, .any, .any, .any, .any, .any, .any, .any, .any], []⟩) (fun _ hm hq4 => ?_) (fun _ hm => ?_)
  ·
   refine bk ?_
   refine lpf (m := m_impl_IsHost_l0 s_) hm (fun i0 : Nat => ⟨[.any, .any, .any, .any, .any, .any, .any, .any, .any, .any, .any, .slice 1 ((splitF s_ (⟨#[46]⟩ : ByteArray)).map sV), .int .i64 ((splitF s_ (⟨#[46]⟩ : ByteArray)).length : Int), .int .i64 (i0 : Int), .any, .any, .any, .any, .any, .any, .any, .any, .any, .any, .any, .any, .any, .any, .any, .any, .any, .any, .any, .any, .any, .any, .any, .any, .any, .any, .any, .any, .any, .any, .any, .any, .any, .any, .any, .any, .any, .any, .any, .any, .any, .any, .any, .any, .any, .any, .any, .any, .any, .any, .any, .any, .any], []⟩) (fun _ => rfl) (le [] (by decide) (.x8 (.x2 (.c .a (.c (.e rfl rfl) (.c (.e rfl rfl) (.c (.e rfl rfl) (.x32 (.x16 (.x4 (.c .a .n)))))))))) .n) ?_
   rintro f i0 hm
   rw [m_impl_IsHost_l0] at hm
   refine sr <| m (lss (.t n13) (.t n12)) u14 <| e ?_
   refine rng n12 fun _ ra5 => ?_
   replace ra5 := (show (_ : Int) ≤ 9223372036854775807 from ra5)
   refine sq ?_
   refine cnd n14 (fun h6 => ?_) (fun h6 => ?_)
   ·
    replace hm := ct h6 hm
    have h6d := of_decide_eq_true h6
    refine skp ?_
    refine sq ?_
    refine jmx hm (fun _ : Unit => ⟨[.any, .any, .any, .any, .any, .any, .any, .any, .any, .any, .any, .slice 1 ((splitF s_ (⟨#[46]⟩ : ByteArray)).map sV), .int .i64 ((splitF s_ (⟨#[46]⟩ : ByteArray)).length : Int), .int .i64 (i0 : Int), .any, .any, .any, .any, .any, .any, .any, .any, .any, .any, .any, .any, .any, .any, .any, .any, .any, .any, .any, .any, .any, .any, .any, .any, .any, .any, .any, .any, .any, .any, .any, .any, .any, .any, .any, .any, .any, .any, .any, .any, .any, .any, .any, .any, .any, .any, .any, .any, .any, .any, .any, .any, .any], []⟩) (fun _ hm hq7 => ?_) (fun _ hm => ?_)
    ·
     refine bk ?_
     obtain ⟨z8, e9, hm⟩ := bd_some hm
     refine sr <| m (ixq (f := sV) e9 T.s290 (.t n11) (.t n13)) u15 <| m (lde T.o9 n0 (.t n15)) u16 <| m (as_ (.t n16)) u4 <| e ?_
     refine sq ?_
     refine sr <| rjb hm (fun j2_37 : Bool => ⟨[.any, .any, .any, .any, .str z8, .any, .any, .any, .any, .any, .any, .slice 1 ((splitF s_ (⟨#[46]⟩ : ByteArray)).map sV), .int .i64 ((splitF s_ (⟨#[46]⟩ : ByteArray)).length : Int), .int .i64 (i0 : Int), .any, .any, .any, .any, .any, .any, .any, .any, .any, .any, .any, .any, .any, .any, .any, .any, .any, .any, .any, .any, .any, .any, .any, .bool j2_37, .any, .any, .any, .any, .any, .any, .any, .any, .any, .any, .any, .any, .any, .any, .any, .any, .any, .any, .any, .any, .any, .any, .any, .any, .any, .any, .any, .any, .any], []⟩) (fun _ hm hq10 => ?_) (fun j2_37 hm => ?_)
     ·
      refine m (mv (.t n4)) u17 <| m (lenS Tryz.underlying9 (.t n17)) u18 <| m (lss (.t n18) (.i rfl)) u19 <| m (mv (.t n19)) u20 <| sp n20 u20 u20 (fun h11 => ?_) (fun h11 => ?_)
      ·
       replace hm := ct h11 hm
       refine sk n3 rfl n20 rfl u21 <| sk n3 rfl n20 rfl u22 <| sk n3 rfl n20 rfl u23 <| m (pkt (.t n20) .b) u24 <| m (mv (.t n24)) u25 <| sk n8 rfl n25 rfl u26 <| sk n8 rfl n25 rfl u27 <| sk n8 rfl n25 rfl u28 <| m (pkt (.t n25) .b) u29 <| m (mv (.t n29)) u30 <| sk n13 rfl n30 rfl u31 <| sk n13 rfl n30 rfl u32 <| sk n13 rfl n30 rfl u33 <| sk n13 rfl n30 rfl u34 <| sk n13 rfl n30 rfl u35 <| sk n13 rfl n30 rfl u36 <| m (pkt (.t n30) .b) u37 <| e ?_
       replace hm := sj hm
       subst hm
       have hm := hq10
       exact ⟨true, hm, le [] (by decide) (.x4 (.c (.e rfl rfl) (.x4 (.x2 (.c (.e rfl rfl) (.c (.e rfl rfl) (.c (.e rfl rfl) (.x16 (.x4 (.x2 (.c .a (.c (.e rfl rfl) (.x16 (.x8 (.x4 (.c .a .n)))))))))))))))) .n⟩
      ·
       replace hm := cf h11 hm
       refine mg n3 rfl n20 (mv (.t n4)) u21 <| mg n3 rfl n20 (lenS Tryz.underlying9 (.t n21)) u22 <| mg n3 rfl n20 (gtr (.t n22) (.i rfl)) u23 <| m (pkf (.t n20) (.t n23)) u24 <| m (mv (.t n24)) u25 <| sp n25 u25 u25 (fun h12 => ?_) (fun h12 => ?_)
       ·
        replace hm := ct h12 hm
        refine sk n8 rfl n25 rfl u26 <| sk n8 rfl n25 rfl u27 <| sk n8 rfl n25 rfl u28 <| m (pkt (.t n25) .b) u29 <| m (mv (.t n29)) u30 <| sk n13 rfl n30 rfl u31 <| sk n13 rfl n30 rfl u32 <| sk n13 rfl n30 rfl u33 <| sk n13 rfl n30 rfl u34 <| sk n13 rfl n30 rfl u35 <| sk n13 rfl n30 rfl u36 <| m (pkt (.t n30) .b) u37 <| e ?_
        replace hm := sj hm
        subst hm
        have hm := hq10
        exact ⟨true, hm, le [] (by decide) (.x4 (.c (.e rfl rfl) (.x4 (.x2 (.c (.e rfl rfl) (.c (.e rfl rfl) (.c (.e rfl rfl) (.x16 (.x4 (.x2 (.c .a (.c (.e rfl rfl) (.x16 (.x8 (.x4 (.c .a .n)))))))))))))))) .n⟩
       ·
        replace hm := cf h12 hm
        obtain ⟨z13, e14, hm⟩ := bd_some hm
        refine mg n8 rfl n25 (mv (.t n4)) u26 <| mg n8 rfl n25 (sidx e14 Tryz.underlying9 (.t n26) (.i rfl)) u27 <| mg n8 rfl n25 (eql (.t n27) (.i rfl)) u28 <| m (pkf (.t n25) (.t n28)) u29 <| m (mv (.t n29)) u30 <| sp n30 u30 u30 (fun h15 => ?_) (fun h15 => ?_)
        ·
         replace hm := ct h15 hm
         refine sk n13 rfl n30 rfl u31 <| sk n13 rfl n30 rfl u32 <| sk n13 rfl n30 rfl u33 <| sk n13 rfl n30 rfl u34 <| sk n13 rfl n30 rfl u35 <| sk n13 rfl n30 rfl u36 <| m (pkt (.t n30) .b) u37 <| e ?_
         replace hm := sj hm
         subst hm
         have hm := hq10
         exact ⟨true, hm, le [] (by decide) (.x4 (.c (.e rfl rfl) (.x4 (.x2 (.c (.e rfl rfl) (.c (.e rfl rfl) (.c (.e rfl rfl) (.x16 (.x4 (.x2 (.c .a (.c (.e rfl rfl) (.x16 (.x8 (.x4 (.c .a .n)))))))))))))))) .n⟩
        ·
         replace hm := cf h15 hm
         obtain ⟨z16, e17, hm⟩ := bd_some hm
         refine mg n13 rfl n30 (mv (.t n4)) u31 <| mg n13 rfl n30 (mv (.t n4)) u32 <| mg n13 rfl n30 (lenS Tryz.underlying9 (.t n32)) u33 <| mg n13 rfl n30 (sub (.t n33) (.i rfl)) u34 <| mg n13 rfl n30 (sidx e17 Tryz.underlying9 (.t n31) (.t n34)) u35 <| mg n13 rfl n30 (eql (.t n35) (.i rfl)) u36 <| m (pkf (.t n30) (.t n36)) u37 <| e ?_
         replace hm := sj hm
         subst hm
         have hm := hq10
         exact ⟨(z16 == (45 : Int)), hm, le [] (by decide) (.x4 (.c (.e rfl rfl) (.x4 (.x2 (.c (.e rfl rfl) (.c (.e rfl rfl) (.c (.e rfl rfl) (.x16 (.x4 (.x2 (.c .a (.c (.e rfl rfl) (.x16 (.x8 (.x4 (.c .a .n)))))))))))))))) .n⟩
     ·
      refine cnd n37 (fun h18 => ?_) (fun h18 => ?_)
      ·
       replace hm := ct h18 hm
       refine sr <| m (as_ .b) u2 <| e ?_
       replace hm := inl1 hm hq7
       replace hm := inl2 hm hq4
       subst hm
       exact rt (ret1 (.t n2 (.p rfl) .n) rfl)
      ·
       replace hm := cf h18 hm
       refine skp ?_
       refine sr <| m (as_ (.i rfl)) u5 <| e ?_
       refine jmx hm (fun _ : Unit => ⟨[.any, .any, .any, .any, .any, .any, .any, .any, .any, .any, .any, .slice 1 ((splitF s_ (⟨#[46]⟩ : ByteArray)).map sV), .int .i64 ((splitF s_ (⟨#[46]⟩ : ByteArray)).length : Int), .int .i64 (i0 : Int), .any, .any, .any, .any, .any, .any, .any, .any, .any, .any, .any, .any, .any, .any, .any, .any, .any, .any, .any, .any, .any, .any, .any, .any, .any, .any, .any, .any, .any, .any, .any, .any, .any, .any, .any, .any, .any, .any, .any, .any, .any, .any, .any, .any, .any, .any, .any, .any, .any, .any, .any, .any, .any], []⟩) (fun _ hm hq19 => ?_) (fun _ hm => ?_)
       ·
        refine bk ?_
        refine lpf (m := m_impl_IsHost_l1 z8) hm (fun i1 : Nat => ⟨[.any, .any, .any, .any, .str z8, .int .i64 (i1 : Int), .any, .any, .any, .any, .any, .slice 1 ((splitF s_ (⟨#[46]⟩ : ByteArray)).map sV), .int .i64 ((splitF s_ (⟨#[46]⟩ : ByteArray)).length : Int), .int .i64 (i0 : Int), .any, .any, .any, .any, .any, .any, .any, .any, .any, .any, .any, .any, .any, .any, .any, .any, .any, .any, .any, .any, .any, .any, .any, .any, .any, .any, .any, .any, .any, .any, .any, .any, .any, .any, .any, .any, .any, .any, .any, .any, .any, .any, .any, .any, .any, .any, .any, .any, .any, .any, .any, .any, .any], []⟩) (fun _ => rfl) (le [] (by decide) (.x4 (.c (.e rfl rfl) (.c (.e rfl rfl) (.x4 (.c .a (.c (.e rfl rfl) (.c (.e rfl rfl) (.c (.e rfl rfl) (.x32 (.x16 (.x4 (.c .a .n)))))))))))) .n) ?_
        rintro f i1 hm
        rw [m_impl_IsHost_l1] at hm
        refine sq ?_
        refine sr <| m (mv (.t n5)) u38 <| m (mv (.t n4)) u39 <| m (lenS Tryz.underlying9 (.t n39)) u40 <| m (lss (.t n38) (.t n40)) u41 <| e ?_
        refine rng n40 fun _ ra20 => ?_
        replace ra20 := (show (_ : Int) ≤ 9223372036854775807 from ra20)
        refine cnd n41 (fun h21 => ?_) (fun h21 => ?_)
        ·
         replace hm := ct h21 hm
         have h21d := of_decide_eq_true h21
         refine skp ?_
         refine sq ?_
         refine bk ?_
         obtain ⟨z22, e23, hm⟩ := bd_some hm
         refine sr <| m (mv (.t n4)) u44 <| m (mv (.t n5)) u45 <| m (sidx e23 Tryz.underlying9 (.t n44) (.t n45)) u46 <| m (as_ (.t n46)) u6 <| e ?_
         refine sr <| rjb hm (fun j4_65 : Bool => ⟨[.any, .any, .any, .any, .str z8, .int .i64 (i1 : Int), .any, .any, .any, .any, .any, .slice 1 ((splitF s_ (⟨#[46]⟩ : ByteArray)).map sV), .int .i64 ((splitF s_ (⟨#[46]⟩ : ByteArray)).length : Int), .int .i64 (i0 : Int), .any, .any, .any, .any, .any, .any, .any, .any, .any, .any, .any, .any, .any, .any, .any, .any, .any, .any, .any, .any, .any, .any, .any, .any, .any, .any, .any, .any, .any, .any, .any, .any, .any, .any, .any, .any, .any, .any, .any, .any, .any, .any, .any, .any, .any, .any, .any, .any, .any, .any, .any, .bool j4_65, .any], []⟩) (fun _ hm hq24 => ?_) (fun j4_65 hm => ?_)
         ·
          refine m (mv (.t n6)) u47 <| m (geq (.t n47) (.i rfl)) u48 <| m (mv (.t n48)) u49 <| sp n49 u49 u49 (fun h25 => ?_) (fun h25 => ?_)
          ·
           replace hm := ct h25 hm
           refine mg n2 rfl n49 (mv (.t n6)) u50 <| mg n2 rfl n49 (leq (.t n50) (.i rfl)) u51 <| m (pkt (.t n49) (.t n51)) u52 <| m (mv (.t n52)) u53 <| sp n53 u53 u53 (fun h26 => ?_) (fun h26 => ?_)
           ·
            replace hm := ct h26 hm
            refine sk n6 rfl n53 rfl u54 <| sk n6 rfl n53 rfl u55 <| sk n6 rfl n53 rfl u56 <| sku n9 rfl n56 u57 <| sku n9 rfl n56 u58 <| sk n6 rfl n53 rfl u59 <| m (pkt (.t n53) .b) u60 <| m (mv (.t n60)) u61 <| sk n14 rfl n61 rfl u62 <| sk n14 rfl n61 rfl u63 <| m (pkt (.t n61) .b) u64 <| m (not_ (.t n64)) u65 <| e ?_
            replace hm := sj hm
            subst hm
            have hm := hq24
            exact ⟨(!true), hm, le [] (by decide) (.x4 (.c (.e rfl rfl) (.c (.e rfl rfl) (.x4 (.c .a (.c (.e rfl rfl) (.c (.e rfl rfl) (.c (.e rfl rfl) (.x32 (.x16 (.x2 (.c .a (.c (.e rfl rfl) (.c .a .n)))))))))))))) .n⟩
           ·
            replace hm := cf h26 hm
            refine mg n6 rfl n53 (mv (.t n6)) u54 <| mg n6 rfl n53 (geq (.t n54) (.i rfl)) u55 <| mg n6 rfl n53 (mv (.t n55)) u56 <| sp n56 u56 u56 (fun h27 => ?_) (fun h27 => ?_)
            ·
             replace hm := ct h27 hm
             refine mg n9 rfl n56 (mv (.t n6)) u57 <| mg n9 rfl n56 (leq (.t n57) (.i rfl)) u58 <| mg n6 rfl n53 (pkt (.t n56) (.t n58)) u59 <| m (pkf (.t n53) (.t n59)) u60 <| m (mv (.t n60)) u61 <| sp n61 u61 u61 (fun h28 => ?_) (fun h28 => ?_)
             ·
              replace hm := ct h28 hm
              refine sk n14 rfl n61 rfl u62 <| sk n14 rfl n61 rfl u63 <| m (pkt (.t n61) .b) u64 <| m (not_ (.t n64)) u65 <| e ?_
              replace hm := sj hm
              subst hm
              have hm := hq24
              exact ⟨(!true), hm, le [] (by decide) (.x4 (.c (.e rfl rfl) (.c (.e rfl rfl) (.x4 (.c .a (.c (.e rfl rfl) (.c (.e rfl rfl) (.c (.e rfl rfl) (.x32 (.x16 (.x2 (.c .a (.c (.e rfl rfl) (.c .a .n)))))))))))))) .n⟩
             ·
              replace hm := cf h28 hm
              refine mg n14 rfl n61 (mv (.t n6)) u62 <| mg n14 rfl n61 (eql (.t n62) (.i rfl)) u63 <| m (pkf (.t n61) (.t n63)) u64 <| m (not_ (.t n64)) u65 <| e ?_
              replace hm := sj hm
              subst hm
              have hm := hq24
              exact ⟨(!(z22 == (45 : Int))), hm, le [] (by decide) (.x4 (.c (.e rfl rfl) (.c (.e rfl rfl) (.x4 (.c .a (.c (.e rfl rfl) (.c (.e rfl rfl) (.c (.e rfl rfl) (.x32 (.x16 (.x2 (.c .a (.c (.e rfl rfl) (.c .a .n)))))))))))))) .n⟩
            ·
             replace hm := cf h27 hm
             refine sk n9 rfl n56 rfl u57 <| sk n9 rfl n56 rfl u58 <| mg n6 rfl n53 (pkf (.t n56) .b) u59 <| m (pkf (.t n53) (.t n59)) u60 <| m (mv (.t n60)) u61 <| mg n14 rfl n61 (mv (.t n6)) u62 <| mg n14 rfl n61 (eql (.t n62) (.i rfl)) u63 <| m (pkf (.t n61) (.t n63)) u64 <| m (not_ (.t n64)) u65 <| e ?_
             replace hm := sj hm
             subst hm
             have hm := hq24
             exact ⟨(!(z22 == (45 : Int))), hm, le [] (by decide) (.x4 (.c (.e rfl rfl) (.c (.e rfl rfl) (.x4 (.c .a (.c (.e rfl rfl) (.c (.e rfl rfl) (.c (.e rfl rfl) (.x32 (.x16 (.x2 (.c .a (.c (.e rfl rfl) (.c .a .n)))))))))))))) .n⟩
          ·
           replace hm := cf h25 hm
           refine sk n2 rfl n49 rfl u50 <| sk n2 rfl n49 rfl u51 <| m (pkf (.t n49) .b) u52 <| m (mv (.t n52)) u53 <| mg n6 rfl n53 (mv (.t n6)) u54 <| mg n6 rfl n53 (geq (.t n54) (.i rfl)) u55 <| mg n6 rfl n53 (mv (.t n55)) u56 <| sp n56 u56 u56 (fun h29 => ?_) (fun h29 => ?_)
           ·
            replace hm := ct h29 hm
            refine mg n9 rfl n56 (mv (.t n6)) u57 <| mg n9 rfl n56 (leq (.t n57) (.i rfl)) u58 <| mg n6 rfl n53 (pkt (.t n56) (.t n58)) u59 <| m (pkf (.t n53) (.t n59)) u60 <| m (mv (.t n60)) u61 <| sp n61 u61 u61 (fun h30 => ?_) (fun h30 => ?_)
            ·
             replace hm := ct h30 hm
             refine sk n14 rfl n61 rfl u62 <| sk n14 rfl n61 rfl u63 <| m (pkt (.t n61) .b) u64 <| m (not_ (.t n64)) u65 <| e ?_
             replace hm := sj hm
             subst hm
             have hm := hq24
             exact ⟨(!true), hm, le [] (by decide) (.x4 (.c (.e rfl rfl) (.c (.e rfl rfl) (.x4 (.c .a (.c (.e rfl rfl) (.c (.e rfl rfl) (.c (.e rfl rfl) (.x32 (.x16 (.x2 (.c .a (.c (.e rfl rfl) (.c .a .n)))))))))))))) .n⟩
            ·
             replace hm := cf h30 hm
             refine mg n14 rfl n61 (mv (.t n6)) u62 <| mg n14 rfl n61 (eql (.t n62) (.i rfl)) u63 <| m (pkf (.t n61) (.t n63)) u64 <| m (not_ (.t n64)) u65 <| e ?_
             replace hm := sj hm
             subst hm
             have hm := hq24
             exact ⟨(!(z22 == (45 : Int))), hm, le [] (by decide) (.x4 (.c (.e rfl rfl) (.c (.e rfl rfl) (.x4 (.c .a (.c (.e rfl rfl) (.c (.e rfl rfl) (.c (.e rfl rfl) (.x32 (.x16 (.x2 (.c .a (.c (.e rfl rfl) (.c .a .n)))))))))))))) .n⟩
           ·
            replace hm := cf h29 hm
            refine sk n9 rfl n56 rfl u57 <| sk n9 rfl n56 rfl u58 <| mg n6 rfl n53 (pkf (.t n56) .b) u59 <| m (pkf (.t n53) (.t n59)) u60 <| m (mv (.t n60)) u61 <| mg n14 rfl n61 (mv (.t n6)) u62 <| mg n14 rfl n61 (eql (.t n62) (.i rfl)) u63 <| m (pkf (.t n61) (.t n63)) u64 <| m (not_ (.t n64)) u65 <| e ?_
            replace hm := sj hm
            subst hm
            have hm := hq24
            exact ⟨(!(z22 == (45 : Int))), hm, le [] (by decide) (.x4 (.c (.e rfl rfl) (.c (.e rfl rfl) (.x4 (.c .a (.c (.e rfl rfl) (.c (.e rfl rfl) (.c (.e rfl rfl) (.x32 (.x16 (.x2 (.c .a (.c (.e rfl rfl) (.c .a .n)))))))))))))) .n⟩
         ·
          refine cnd n65 (fun h31 => ?_) (fun h31 => ?_)
          ·
           replace hm := ct h31 hm
           refine sr <| m (as_ .b) u2 <| e ?_
           replace hm := inl1 hm hq19
           replace hm := inl2 hm hq7
           replace hm := inl2 hm hq4
           subst hm
           exact rt (ret1 (.t n2 (.p rfl) .n) rfl)
          ·
           replace hm := cf h31 hm
           refine skp ?_
           refine rg <| m (mv (.t n5)) u42 <| m (add (.t n42) (.i rfl)) u43 <| m (as_ (.t n43)) u5 <| e ?_
           exact ⟨i1 + 1, hm, le [] (by decide) (.x4 (.c (.e rfl rfl) (.c (.e (wi (by omega)) rfl) (.x4 (.c .a (.c (.e rfl rfl) (.c (.e rfl rfl) (.c (.e rfl rfl) (.x32 (.x16 (.x4 (.c .a .n)))))))))))) .n⟩
        ·
         replace hm := cf h21 hm
         have h21d := of_decide_eq_false h21
         refine ex (x1 ?_)
         replace hm := inr1 hm hq19
         exact ⟨(), hm, le [] (by decide) (.x8 (.x2 (.c .a (.c (.e rfl rfl) (.c (.e rfl rfl) (.c (.e rfl rfl) (.x32 (.x16 (.x4 (.c .a .n)))))))))) .n⟩
       ·
        replace hm := inr1 hm hq7
        exact ⟨(), hm, le [] (by decide) (.x8 (.x2 (.c .a (.c (.e rfl rfl) (.c (.e rfl rfl) (.c (.e rfl rfl) (.x32 (.x16 (.x4 (.c .a .n)))))))))) .n⟩
    ·
     refine rg <| m (add (.t n13) (.i rfl)) u66 <| m (mv (.t n66)) u13 <| e ?_
     exact ⟨i0 + 1, hm, le [] (by decide) (.x8 (.x2 (.c .a (.c (.e rfl rfl) (.c (.e rfl rfl) (.c (.e (wi (by omega)) rfl) (.x32 (.x16 (.x4 (.c .a .n)))))))))) .n⟩
   ·
    replace hm := cf h6 hm
    have h6d := of_decide_eq_false h6
    refine ex (x1 ?_)
    replace hm := inr1 hm hq4
    exact ⟨(), hm, le [] (by decide) (.x32 (.x32 (.x2 (.c .a .n)))) .n⟩
  ·
   refine sr <| m (as_ .b) u2 <| e ?_
   replace hm := sj hm
   subst hm
   exact rt (ret1 (.t n2 (.p rfl) .n) rfl)

theorem tot_impl_IsHost (s_ : ByteArray)  : Spec Tryz.prog G0 271 [.str s_] (fun v => v = .bool (isHostF s_)) := sp_impl_IsHost s_ _ (t_impl_IsHost s_)
end Go.VK
