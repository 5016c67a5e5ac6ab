/-
  THE VALUE KIT, eighth part, printed by a program of ours (genlists.py): places in lists, by name. Plain facts; no condition.
-/
import Derived.Test.YtiojlennpdmapaaGreatVKg
set_option linter.unusedVariables false
namespace Go.VK

section
variable {α : Type} {a0 a1 a2 a3 a4 a5 a6 a7 a8 a9 b0 b1 b2 b3 b4 b5 b6 b7 b8 b9 c0 c1 c2 c3 c4 c5 c6 c7 c8 c9 f0 f1 f2 f3 f4 f5 f6 f7 f8 f9 g0 g1 g2 g3 g4 g5 g6 g7 g8 g9 h0 h1 h2 h3 h4 h5 h6 h7 h8 h9 i0 i1 i2 i3 i4 i5 i6 i7 i8 i9 j0 j1 j2 j3 j4 j5 j6 j7 j8 j9 l0 l1 l2 l3 l4 l5 l6 l7 l8 l9 m0 m1 m2 m3 m4 m5 m6 m7 m8 m9 x : α} {t : List α}
theorem n0 : At (x::t) 0 x := .z
theorem n1 : At (a0::x::t) 1 x := .s n0
theorem n2 : At (a0::a1::x::t) 2 x := .s n1
theorem n3 : At (a0::a1::a2::x::t) 3 x := .s n2
theorem n4 : At (a0::a1::a2::a3::x::t) 4 x := .s n3
theorem n5 : At (a0::a1::a2::a3::a4::x::t) 5 x := .s n4
theorem n6 : At (a0::a1::a2::a3::a4::a5::x::t) 6 x := .s n5
theorem n7 : At (a0::a1::a2::a3::a4::a5::a6::x::t) 7 x := .s n6
theorem n8 : At (a0::a1::a2::a3::a4::a5::a6::a7::x::t) 8 x := .s n7
theorem n9 : At (a0::a1::a2::a3::a4::a5::a6::a7::a8::x::t) 9 x := .s n8
end
section
variable {a0 a1 a2 a3 a4 a5 a6 a7 a8 a9 b0 b1 b2 b3 b4 b5 b6 b7 b8 b9 c0 c1 c2 c3 c4 c5 c6 c7 c8 c9 f0 f1 f2 f3 f4 f5 f6 f7 f8 f9 g0 g1 g2 g3 g4 g5 g6 g7 g8 g9 h0 h1 h2 h3 h4 h5 h6 h7 h8 h9 i0 i1 i2 i3 i4 i5 i6 i7 i8 i9 j0 j1 j2 j3 j4 j5 j6 j7 j8 j9 l0 l1 l2 l3 l4 l5 l6 l7 l8 l9 m0 m1 m2 m3 m4 m5 m6 m7 m8 m9 x y : V} {t : List V}
theorem u0 : Upd (x::t) 0 y (y::t) := .z
theorem u1 : Upd (a0::x::t) 1 y (a0::y::t) := .s u0
theorem u2 : Upd (a0::a1::x::t) 2 y (a0::a1::y::t) := .s u1
theorem u3 : Upd (a0::a1::a2::x::t) 3 y (a0::a1::a2::y::t) := .s u2
theorem u4 : Upd (a0::a1::a2::a3::x::t) 4 y (a0::a1::a2::a3::y::t) := .s u3
theorem u5 : Upd (a0::a1::a2::a3::a4::x::t) 5 y (a0::a1::a2::a3::a4::y::t) := .s u4
theorem u6 : Upd (a0::a1::a2::a3::a4::a5::x::t) 6 y (a0::a1::a2::a3::a4::a5::y::t) := .s u5
theorem u7 : Upd (a0::a1::a2::a3::a4::a5::a6::x::t) 7 y (a0::a1::a2::a3::a4::a5::a6::y::t) := .s u6
theorem u8 : Upd (a0::a1::a2::a3::a4::a5::a6::a7::x::t) 8 y (a0::a1::a2::a3::a4::a5::a6::a7::y::t) := .s u7
theorem d0 : Dr (t) 0 t := .z
theorem d1 : Dr (a0::t) 1 t := .s d0
theorem d2 : Dr (a0::a1::t) 2 t := .s d1
theorem d3 : Dr (a0::a1::a2::t) 3 t := .s d2
theorem d4 : Dr (a0::a1::a2::a3::t) 4 t := .s d3
theorem d5 : Dr (a0::a1::a2::a3::a4::t) 5 t := .s d4
theorem d6 : Dr (a0::a1::a2::a3::a4::a5::t) 6 t := .s d5
theorem d7 : Dr (a0::a1::a2::a3::a4::a5::a6::t) 7 t := .s d6
theorem k0 : Tk (t) 0 [] := .z
theorem k1 : Tk (a0::t) 1 [a0] := .s k0
theorem k2 : Tk (a0::a1::t) 2 [a0,a1] := .s k1
theorem k3 : Tk (a0::a1::a2::t) 3 [a0,a1,a2] := .s k2
theorem k4 : Tk (a0::a1::a2::a3::t) 4 [a0,a1,a2,a3] := .s k3
theorem k5 : Tk (a0::a1::a2::a3::a4::t) 5 [a0,a1,a2,a3,a4] := .s k4
theorem k6 : Tk (a0::a1::a2::a3::a4::a5::t) 6 [a0,a1,a2,a3,a4,a5] := .s k5
theorem k7 : Tk (a0::a1::a2::a3::a4::a5::a6::t) 7 [a0,a1,a2,a3,a4,a5,a6] := .s k6
theorem k8 : Tk (a0::a1::a2::a3::a4::a5::a6::a7::t) 8 [a0,a1,a2,a3,a4,a5,a6,a7] := .s k7
end
section
variable {a0 a1 a2 a3 a4 a5 a6 a7 a8 a9 b0 b1 b2 b3 b4 b5 b6 b7 b8 b9 c0 c1 c2 c3 c4 c5 c6 c7 c8 c9 f0 f1 f2 f3 f4 f5 f6 f7 f8 f9 g0 g1 g2 g3 g4 g5 g6 g7 g8 g9 h0 h1 h2 h3 h4 h5 h6 h7 h8 h9 i0 i1 i2 i3 i4 i5 i6 i7 i8 i9 j0 j1 j2 j3 j4 j5 j6 j7 j8 j9 l0 l1 l2 l3 l4 l5 l6 l7 l8 l9 m0 m1 m2 m3 m4 m5 m6 m7 m8 m9 x y : Ob} {t : List Ob}
theorem s0 : Sn [] x 0 [x] := .z
theorem s1 : Sn [a0] x 1 [a0,x] := .s s0
theorem s2 : Sn [a0,a1] x 2 [a0,a1,x] := .s s1
theorem s3 : Sn [a0,a1,a2] x 3 [a0,a1,a2,x] := .s s2
theorem q0 : UpO (x::t) 0 y (y::t) := .z
theorem q1 : UpO (a0::x::t) 1 y (a0::y::t) := .s q0
theorem q2 : UpO (a0::a1::x::t) 2 y (a0::a1::y::t) := .s q1
theorem q3 : UpO (a0::a1::a2::x::t) 3 y (a0::a1::a2::y::t) := .s q2
theorem q4 : UpO (a0::a1::a2::a3::x::t) 4 y (a0::a1::a2::a3::y::t) := .s q3
theorem q5 : UpO (a0::a1::a2::a3::a4::x::t) 5 y (a0::a1::a2::a3::a4::y::t) := .s q4
theorem q6 : UpO (a0::a1::a2::a3::a4::a5::x::t) 6 y (a0::a1::a2::a3::a4::a5::y::t) := .s q5
theorem q7 : UpO (a0::a1::a2::a3::a4::a5::a6::x::t) 7 y (a0::a1::a2::a3::a4::a5::a6::y::t) := .s q6
theorem q8 : UpO (a0::a1::a2::a3::a4::a5::a6::a7::x::t) 8 y (a0::a1::a2::a3::a4::a5::a6::a7::y::t) := .s q7
end
end Go.VK
