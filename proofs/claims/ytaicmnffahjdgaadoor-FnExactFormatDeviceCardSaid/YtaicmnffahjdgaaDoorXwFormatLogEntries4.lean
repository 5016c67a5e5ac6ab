/-
  Printed by wip/tools (own work of this part): walks over the value kit
-/
import Derived.Test.YtaicmnffahjdgaaDoorXwFormatMail4
set_option linter.unusedVariables false
set_option linter.unusedSimpArgs false
set_option maxRecDepth 100000
set_option maxHeartbeats 4000000
namespace Go.VK
open Go.RowKit Go.Proofs
theorem sp_laws_szLogEntryS (l : List D.LogEntry) (left : Int) (h0 : 0 ≤ left) (h1 : left ≤ 1048576) : Spec Tryd.prog G0 24 [.slice 6 (l.map D.LogEntry.V), .int .i64 left] (fun r => ∃ n : Int, r = .int .i64 n ∧ (0 ≤ n → (l.length : Int) + n ≤ left)) := by
  refine enter (l := [.tmp 4]) Tryd.func24 rfl Tryd.ntmps24 rfl T.en24 fun E => ?_
  simp only [List.length_cons, List.length_nil, List.replicate_succ, List.replicate_zero, List.cons_append, List.nil_append, Nat.reduceAdd, Nat.reduceSub]
  refine rngl n0 fun hlen => ?_
  simp only [List.length_map, maxLen] at hlen
  have hw : IntKind.i64.wrap (left - (l.length : Int)) = left - (l.length : Int) := by rw [IntKind.wrap_i64]; omega
  refine sr <| m (as_ (.i rfl)) u4 <| e ?_
  refine sr <| m (mv (.t n1)) u5 <| m (mv (.t n0)) u6 <| m (lenm T.s62 (.t n6)) u7 <| m (sub (.t n5) (.t n7)) u8 <| m (as_ (.t n8)) u1 <| e ?_
  refine sq ?_
  refine sr <| m (mv (.t n1)) u9 <| m (lss (.t n9) (.i rfl)) u10 <| e ?_
  refine cnd n10 (fun h1 => ?_) (fun h1 => ?_)
  ·
    replace h1 := of_decide_eq_true h1
    refine sr <| m (as_ (.i rfl)) u4 <| e ?_
    refine rt (ret1 (.t n4 (.p rfl) .n) ?_)
    refine ⟨_, rfl, fun hn => ?_⟩
    first | omega | (rw [hw]; omega)
  ·
    replace h1 := of_decide_eq_false h1
    refine skp ?_
    refine sr <| m (mv (.t n1)) u11 <| m (as_ (.t n11)) u4 <| e ?_
    refine rt (ret1 (.t n4 (.p rfl) .n) ?_)
    refine ⟨_, rfl, fun hn => ?_⟩
    first | omega | (rw [hw]; omega)

theorem sp_laws_toLogEntry (x : D.LogEntry) : Spec Tryd.prog G0 60 [.agg (D.LogEntry.V x)] (fun r => r = .agg x.V) := by
  refine enter (l := [.cell 2 126]) Tryd.func60 rfl Tryd.ntmps60 rfl T.en60 fun E => ?_
  simp only [List.length_cons, List.length_nil, List.replicate_succ, List.replicate_zero, List.cons_append, List.nil_append, Nat.reduceAdd, Nat.reduceSub]
  refine sr <| k (bx rfl s0 u1 (.t n0)) <| k (al T.z126 s1 u2) <| e ?_
  refine sr <| k (al T.z126 s2 u3) <| e ?_
  refine sr <| m (fab 0 rfl T.f129_0 (.t n1)) u4 <| m (ldb T.o3 n0 n0 (.t n4)) u5 <| m (fab 0 rfl T.f126_0 (.t n3)) u6 <| k (st1 T.o3 rfl n2 u0 q2 (.t n6) (.t n5)) <| e ?_
  refine sr <| m (fab 1 rfl T.f129_1 (.t n1)) u7 <| m (ldb T.o3 n0 n1 (.t n7)) u8 <| m (fab 1 rfl T.f126_1 (.t n3)) u9 <| k (st1 T.o3 rfl n2 u1 q2 (.t n9) (.t n8)) <| e ?_
  refine sr <| m (fab 2 rfl T.f129_2 (.t n1)) u10 <| m (ldb T.o3 n0 n2 (.t n10)) u11 <| m (fab 2 rfl T.f126_2 (.t n3)) u12 <| k (st1 T.o3 rfl n2 u2 q2 (.t n12) (.t n11)) <| e ?_
  refine sr <| m (fab 3 rfl T.f129_3 (.t n1)) u13 <| m (ldb T.o3 n0 n3 (.t n13)) u14 <| m (fab 3 rfl T.f126_3 (.t n3)) u15 <| k (st1 T.o3 rfl n2 u3 q2 (.t n15) (.t n14)) <| e ?_
  refine sr <| m (fab 4 rfl T.f129_4 (.t n1)) u16 <| m (ldb T.o3 n0 n4 (.t n16)) u17 <| m (fab 4 rfl T.f126_4 (.t n3)) u18 <| k (st1 T.o3 rfl n2 u4 q2 (.t n18) (.t n17)) <| e ?_
  refine sr <| m (fab 5 rfl T.f129_5 (.t n1)) u19 <| m (ldb T.o3 n0 n5 (.t n19)) u20 <| m (fab 5 rfl T.f126_5 (.t n3)) u21 <| k (st1 T.o3 rfl n2 u5 q2 (.t n21) (.t n20)) <| e ?_
  refine sr <| m (lab T.a126 n2 d0 k6 (.t n3)) u22 <| k (sta T.a126 rfl rfl n1 (.z (.z (.z (.z (.z (.z .n)))))) q1 (.t n2) (.t n22)) <| e ?_
  refine rt (ret1 (.a n2 T.a126 n1 rfl (.c (.p rfl) (.c (.p rfl) (.c (.p rfl) (.c (.p rfl) (.c (.p rfl) (.c (.p rfl) .n)))))) .n) ?_)
  rfl

theorem sp_laws_toLogEntryS (l : List D.LogEntry) (hl : l.length ≤ 1048576) : Spec Tryd.prog G0 26 [.slice 6 (l.map D.LogEntry.V)] (fun r => r = .slice 6 (l.map D.LogEntry.V)) := by
  refine enter (l := [.tmp 2]) Tryd.func26 rfl Tryd.ntmps26 rfl T.en26 fun E => ?_
  simp only [List.length_cons, List.length_nil, List.replicate_succ, List.replicate_zero, List.cons_append, List.nil_append, Nat.reduceAdd, Nat.reduceSub]
  refine sr <| m (as_ .n) u2 <| e ?_
  refine sr <| m (mv (.t n0)) u5 <| m (lenm T.s62 (.t n5)) u6 <| k (mk_ T.s65 T.z126 (by omega) (by omega) s0 u7 (.t n6) (.t n6)) <| m (as_ (.t n7)) u3 <| e ?_
  refine sq ?_
  refine sr <| m (as_ (.i rfl)) u4 <| e ?_
  refine bk ?_
  refine lp (fun i : Nat => ⟨[.slice 6 (l.map D.LogEntry.V), .any, .nil, .own 0, .int .i64 (i : Int), .any, .any, .own 0, .any, .any, .any, .any, .any, .any, .any, .any, .any, .any, .any, .any, .any, .any, .any], [.row 126 6 (pref D.LogEntry.V l [.int .i64 0, .int .i64 0, .int .i64 0, .int .i64 0, .int .i64 0, .int .i64 0] i)]⟩) (fun i : Nat => i ≤ l.length) (fun i : Nat => l.length - i) (0) (by simp) (le [0] (by decide) (.c (.e rfl rfl) (.c .a (.c (.e rfl rfl) (.c (.w n0) (.c (.e rfl rfl) (.c .a (.c .a (.c (.w n0) (.c .a (.c .a (.c .a (.c .a (.c .a (.c .a (.c .a (.c .a (.c .a (.c .a (.c .a (.c .a (.c .a (.c .a (.c .a .n))))))))))))))))))))))) (.r n0 (pref_0 _ _ _).symm .n)) ?_
  rintro i hJ
  try dsimp only at hJ ⊢
  refine sq ?_
  refine sr <| m (mv (.t n4)) u8 <| m (mv (.t n0)) u9 <| m (lenm T.s62 (.t n9)) u10 <| m (lss (.t n8) (.t n10)) u11 <| e ?_
  refine cnd n11 (fun h1 => ?_) (fun h1 => ?_)
  ·
    replace h1 := of_decide_eq_true h1
    refine skp ?_
    refine sq ?_
    refine bk ?_
    refine rg <| m (mv (.t n3)) u14 <| m (mv (.t n4)) u15 <| m (mv (.t n0)) u16 <| m (mv (.t n4)) u17 <| m (ixm T.s62 (Int.natCast_nonneg _) (gi (by omega)) (.t n16) (.t n17)) u18 <| m (lae T.a129 k6 (.t n18)) u19 <| c (call (sp_laws_toLogEntry _) (.c (.t n19) rfl .n)) u20 <| m (oix T.s65 n0 (Int.natCast_nonneg _) (by rw [Int.toNat_natCast, pref_len (by omega)]; omega) (.t n14) (.t n15)) u21 <| k (stoA rfl (by rw [Int.toNat_natCast, pref_len (by omega)]; omega) T.a126 rfl rfl rfl n0 q0 (.t n21) (.t n20)) <| e ?_
    refine rg <| m (mv (.t n4)) u12 <| m (add (.t n12) (.i rfl)) u13 <| m (as_ (.t n13)) u4 <| e ?_
    exact ⟨i + 1, (by omega), (by omega), le [0] (by decide) (.c (.e rfl rfl) (.c .a (.c (.e rfl rfl) (.c (.w n0) (.c (.e (wi (by omega)) rfl) (.c .a (.c .a (.c (.w n0) (.c .a (.c .a (.c .a (.c .a (.c .a (.c .a (.c .a (.c .a (.c .a (.c .a (.c .a (.c .a (.c .a (.c .a (.c .a .n))))))))))))))))))))))) (.r n0 (pref_set (by omega)) .n)⟩
  ·
    replace h1 := of_decide_eq_false h1
    refine ex (x1 ?_)
    refine sr <| m (mv (.t n3)) u22 <| m (as_ (.t n22)) u2 <| e ?_
    refine rt (ret1 (.t n2 (.o n0) .n) ?_)
    show V.slice _ _ = V.slice _ _
    rw [show i = l.length from by omega, pref_full]

theorem sp_laws_eqLogEntry (x : D.LogEntry) : Spec Tryd.prog G0 62 [.agg (D.LogEntry.V x), .agg (D.LogEntry.V x)] (fun r => r = .bool true) := by
  refine enter (l := [.tmp 4]) Tryd.func62 rfl Tryd.ntmps62 rfl T.en62 fun E => ?_
  simp only [List.length_cons, List.length_nil, List.replicate_succ, List.replicate_zero, List.cons_append, List.nil_append, Nat.reduceAdd, Nat.reduceSub]
  refine sr <| k (bx rfl s0 u2 (.t n0)) <| k (bx rfl s1 u3 (.t n1)) <| m (as_ .b) u4 <| e ?_
  refine sq ?_
  refine sr <| m (fab 0 rfl T.f126_0 (.t n2)) u5 <| m (ldb T.o3 n0 n0 (.t n5)) u6 <| m (fab 0 rfl T.f126_0 (.t n3)) u7 <| m (ldb T.o3 n1 n0 (.t n7)) u8 <| m (neqs (.t n6) (.t n8)) u9 <| e ?_
  refine cdf n9 ?_
  refine skp ?_
  refine sq ?_
  refine sr <| m (fab 1 rfl T.f126_1 (.t n2)) u10 <| m (ldb T.o3 n0 n1 (.t n10)) u11 <| m (fab 1 rfl T.f126_1 (.t n3)) u12 <| m (ldb T.o3 n1 n1 (.t n12)) u13 <| m (neqs (.t n11) (.t n13)) u14 <| e ?_
  refine cdf n14 ?_
  refine skp ?_
  refine sq ?_
  refine sr <| m (fab 2 rfl T.f126_2 (.t n2)) u15 <| m (ldb T.o3 n0 n2 (.t n15)) u16 <| m (fab 2 rfl T.f126_2 (.t n3)) u17 <| m (ldb T.o3 n1 n2 (.t n17)) u18 <| m (neqs (.t n16) (.t n18)) u19 <| e ?_
  refine cdf n19 ?_
  refine skp ?_
  refine sq ?_
  refine sr <| m (fab 3 rfl T.f126_3 (.t n2)) u20 <| m (ldb T.o3 n0 n3 (.t n20)) u21 <| m (fab 3 rfl T.f126_3 (.t n3)) u22 <| m (ldb T.o3 n1 n3 (.t n22)) u23 <| m (neqs (.t n21) (.t n23)) u24 <| e ?_
  refine cdf n24 ?_
  refine skp ?_
  refine sq ?_
  refine sr <| m (fab 4 rfl T.f126_4 (.t n2)) u25 <| m (ldb T.o3 n0 n4 (.t n25)) u26 <| m (fab 4 rfl T.f126_4 (.t n3)) u27 <| m (ldb T.o3 n1 n4 (.t n27)) u28 <| m (neqs (.t n26) (.t n28)) u29 <| e ?_
  refine cdf n29 ?_
  refine skp ?_
  refine sq ?_
  refine sr <| m (fab 5 rfl T.f126_5 (.t n2)) u30 <| m (ldb T.o3 n0 n5 (.t n30)) u31 <| m (fab 5 rfl T.f126_5 (.t n3)) u32 <| m (ldb T.o3 n1 n5 (.t n32)) u33 <| m (neqs (.t n31) (.t n33)) u34 <| e ?_
  refine cdf n34 ?_
  refine skp ?_
  refine sr <| m (as_ .b) u4 <| e ?_
  refine rt (ret1 (.t n4 (.p rfl) .n) ?_)
  rfl

theorem sp_laws_eqLogEntryS (l : List D.LogEntry) : Spec Tryd.prog G0 28 [.slice 6 (l.map D.LogEntry.V), .slice 6 (l.map D.LogEntry.V)] (fun r => r = .bool true) := by
  refine enter (l := [.tmp 4]) Tryd.func28 rfl Tryd.ntmps28 rfl T.en28 fun E => ?_
  simp only [List.length_cons, List.length_nil, List.replicate_succ, List.replicate_zero, List.cons_append, List.nil_append, Nat.reduceAdd, Nat.reduceSub]
  refine rngl n0 fun hlen => ?_
  simp only [List.length_map, maxLen] at hlen
  refine sr <| m (as_ .b) u4 <| e ?_
  refine sq ?_
  refine sr <| m (mv (.t n0)) u6 <| m (lenm T.s65 (.t n6)) u7 <| m (mv (.t n1)) u8 <| m (lenm T.s65 (.t n8)) u9 <| m (neqs (.t n7) (.t n9)) u10 <| e ?_
  refine cdf n10 ?_
  refine skp ?_
  refine sq ?_
  refine sr <| m (as_ (.i rfl)) u5 <| e ?_
  refine bk ?_
  refine lp (fun i : Nat => ⟨[.slice 6 (l.map D.LogEntry.V), .slice 6 (l.map D.LogEntry.V), .any, .any, .any, .int .i64 (i : Int), .any, .any, .any, .any, .any, .any, .any, .any, .any, .any, .any, .any, .any, .any, .any, .any, .any, .any, .any, .any, .any], []⟩) (fun i : Nat => i ≤ l.length) (fun i : Nat => l.length - i) (0) (by simp) (le [] (by decide) (.c (.e rfl rfl) (.c (.e rfl rfl) (.c .a (.c .a (.c .a (.c (.e rfl rfl) (.c .a (.c .a (.c .a (.c .a (.c .a (.c .a (.c .a (.c .a (.c .a (.c .a (.c .a (.c .a (.c .a (.c .a (.c .a (.c .a (.c .a (.c .a (.c .a (.c .a (.c .a .n))))))))))))))))))))))))))) .n) ?_
  rintro i hJ
  try dsimp only at hJ ⊢
  refine sq ?_
  refine sr <| m (mv (.t n5)) u11 <| m (mv (.t n0)) u12 <| m (lenm T.s65 (.t n12)) u13 <| m (lss (.t n11) (.t n13)) u14 <| e ?_
  refine cnd n14 (fun h1 => ?_) (fun h1 => ?_)
  ·
    replace h1 := of_decide_eq_true h1
    refine skp ?_
    refine sq ?_
    refine bk ?_
    refine sd [(0, true), (1, true), (2, true), (3, true), (4, true), (5, true), (6, true), (7, true), (8, false), (9, true)] T.mix (by kernel_rfl) <| om n0 (mv (.t n0)) u17 <| om n1 (mv (.t n5)) u18 <| om n2 (ixm T.s65 (Int.natCast_nonneg _) (gi (by omega)) (.t n17) (.t n18)) u19 <| om n3 (lae T.a126 k6 (.t n19)) u20 <| om n4 (mv (.t n1)) u21 <| om n5 (mv (.t n5)) u22 <| om n6 (ixm T.s65 (Int.natCast_nonneg _) (gi (by omega)) (.t n21) (.t n22)) u23 <| om n7 (lae T.a126 k6 (.t n23)) u24 <| oc n8 (call (sp_laws_eqLogEntry _) (.c (.t n20) rfl (.c (.t n24) rfl .n))) u25 <| om n9 (not_ (.t n25)) u26 <| oe ?_
    refine cdf n26 ?_
    refine skp ?_
    refine rg <| m (mv (.t n5)) u15 <| m (add (.t n15) (.i rfl)) u16 <| m (as_ (.t n16)) u5 <| e ?_
    exact ⟨i + 1, (by omega), (by omega), le [] (by decide) (.c (.e rfl rfl) (.c (.e rfl rfl) (.c .a (.c .a (.c .a (.c (.e (wi (by omega)) rfl) (.c .a (.c .a (.c .a (.c .a (.c .a (.c .a (.c .a (.c .a (.c .a (.c .a (.c .a (.c .a (.c .a (.c .a (.c .a (.c .a (.c .a (.c .a (.c .a (.c .a (.c .a .n))))))))))))))))))))))))))) .n⟩
  ·
    replace h1 := of_decide_eq_false h1
    refine ex (x1 ?_)
    refine sr <| m (as_ .b) u4 <| e ?_
    refine rt (ret1 (.t n4 (.p rfl) .n) ?_)
    rfl

theorem sp_impl_Mod (p q : Int) : Spec Tryd.prog G0 111 [.int .i64 p, .int .i64 q] (fun r => r = .int .i64 (modI p q)) := by
  refine enter (l := [.tmp 4]) Tryd.func111 rfl Tryd.ntmps111 rfl T.en111 fun E => ?_
  simp only [List.length_cons, List.length_nil, List.replicate_succ, List.replicate_zero, List.cons_append, List.nil_append, Nat.reduceAdd, Nat.reduceSub]
  refine sr <| m (as_ (.i rfl)) u4 <| e ?_
  refine sq ?_
  refine sr <| m (mv (.t n1)) u6 <| m (lss (.t n6) (.i rfl)) u7 <| m (mv (.t n7)) u8 <| sp n8 u8 u8 (fun h1 => ?_) (fun h1 => ?_)
  ·
    replace h1 := of_decide_eq_true h1
    refine sk n2 rfl n8 rfl u9 <| sk n2 rfl n8 rfl u10 <| m (pkt (.t n8) .b) u11 <| e ?_
    refine cdt n11 ?_
    refine sr <| m (as_ (.i rfl)) u4 <| e ?_
    refine rt (ret1 (.t n4 (.p rfl) .n) ?_)
    exact congrArg (V.int .i64) (modI_0 (by omega)).symm
  ·
    replace h1 := of_decide_eq_false h1
    refine mg n2 rfl n8 (mv (.t n1)) u9 <| mg n2 rfl n8 (gtr (.t n9) (.i rfl)) u10 <| m (pkf (.t n8) (.t n10)) u11 <| e ?_
    refine cnd n11 (fun h2 => ?_) (fun h2 => ?_)
    ·
      replace h2 := of_decide_eq_true h2
      refine sr <| m (as_ (.i rfl)) u4 <| e ?_
      refine rt (ret1 (.t n4 (.p rfl) .n) ?_)
      exact congrArg (V.int .i64) (modI_0 (by omega)).symm
    ·
      replace h2 := of_decide_eq_false h2
      refine skp ?_
      refine sr <| m (mv (.t n0)) u12 <| m (mv (.t n1)) u13 <| m (rem (by omega) (.t n12) (.t n13)) u14 <| m (as_ (.t n14)) u5 <| e ?_
      refine sq ?_
      refine sr <| m (mv (.t n5)) u15 <| m (lss (.t n15) (.i rfl)) u16 <| e ?_
      refine cnd n16 (fun h3 => ?_) (fun h3 => ?_)
      ·
        replace h3 := of_decide_eq_true h3
        refine rg <| m (mv (.t n5)) u17 <| m (mv (.t n1)) u18 <| m (add (.t n17) (.t n18)) u19 <| m (as_ (.t n19)) u5 <| e ?_
        refine sr <| m (mv (.t n5)) u20 <| m (as_ (.t n20)) u4 <| e ?_
        refine rt (ret1 (.t n4 (.p rfl) .n) ?_)
        show V.int _ _ = V.int _ _
        have hs := tmod_split (p := p) (q := q) (by omega)
        rw [wrap64_id (by omega) (by omega), modI_n (by omega) h3]
      ·
        replace h3 := of_decide_eq_false h3
        refine skp ?_
        refine sr <| m (mv (.t n5)) u20 <| m (as_ (.t n20)) u4 <| e ?_
        refine rt (ret1 (.t n4 (.p rfl) .n) ?_)
        show V.int _ _ = V.int _ _
        rw [modI_p (by omega) h3]

theorem sp_spec_Mod (p q : Int) : Spec Tryd.prog G0 110 [.int .i64 p, .int .i64 q] (fun r => r = .int .i64 (modI p q)) := by
  refine enter (l := [.tmp 4]) Tryd.func110 rfl Tryd.ntmps110 rfl T.en110 fun E => ?_
  simp only [List.length_cons, List.length_nil, List.replicate_succ, List.replicate_zero, List.cons_append, List.nil_append, Nat.reduceAdd, Nat.reduceSub]
  refine sr <| m (as_ (.i rfl)) u4 <| e ?_
  refine sq ?_
  refine sr <| m (mv (.t n1)) u5 <| c (call (sp_spec_l1In _ _ _) (.c (.t n5) rfl (.c (.i rfl) rfl (.c (.i rfl) rfl .n)))) u6 <| m (not_ (.t n6)) u7 <| e ?_
  refine cnd n7 (fun h1 => ?_) (fun h1 => ?_)
  ·
    rw [Bool.not_eq_true'] at h1
    replace h1 := inR_f h1
    refine sr <| m (as_ (.i rfl)) u4 <| e ?_
    refine rt (ret1 (.t n4 (.p rfl) .n) ?_)
    exact congrArg (V.int .i64) (modI_0 h1).symm
  ·
    rw [Bool.not_eq_false'] at h1
    replace h1 := inR_t h1
    refine skp ?_
    refine sr <| m (mv (.t n0)) u8 <| m (mv (.t n1)) u9 <| m (rem (by omega) (.t n8) (.t n9)) u10 <| m (mv (.t n1)) u11 <| m (add (.t n10) (.t n11)) u12 <| m (mv (.t n1)) u13 <| m (rem (by omega) (.t n12) (.t n13)) u14 <| m (as_ (.t n14)) u4 <| e ?_
    refine rt (ret1 (.t n4 (.p rfl) .n) ?_)
    exact congrArg (V.int .i64) (modI_s h1)

theorem sp_impl_Hash (l : List Int) : Spec Tryd.prog G0 101 [.slice 1 (l.map iV)] (fun r => r = .int .i64 (hashI l)) := by
  refine enter (l := [.tmp 2]) Tryd.func101 rfl Tryd.ntmps101 rfl T.en101 fun E => ?_
  simp only [List.length_cons, List.length_nil, List.replicate_succ, List.replicate_zero, List.cons_append, List.nil_append, Nat.reduceAdd, Nat.reduceSub]
  refine rngl n0 fun hlen => ?_
  simp only [List.length_map, maxLen] at hlen
  refine sr <| m (as_ (.i rfl)) u2 <| e ?_
  refine sr <| m (as_ (.i rfl)) u3 <| e ?_
  refine sq ?_
  refine sr <| m (mv (.t n0)) u6 <| m (lenm T.s91 (.t n6)) u7 <| m (mv (.i rfl)) u8 <| e ?_
  refine bk ?_
  refine lp (fun i : Nat => ⟨[.slice 1 (l.map iV), .any, .any, .int .i64 (hashI (l.take i)), .any, .any, .slice 1 (l.map iV), .int .i64 (l.length : Int), .int .i64 (i : Int), .any, .any, .any, .any, .any, .any, .any, .any, .any, .any, .any, .any], []⟩) (fun i : Nat => i ≤ l.length) (fun i : Nat => l.length - i) (0) (by simp) (le [] (by decide) (.c (.e rfl rfl) (.c .a (.c .a (.c (.e rfl rfl) (.c .a (.c .a (.c (.e rfl rfl) (.c (.e rfl rfl) (.c (.e rfl rfl) (.c .a (.c .a (.c .a (.c .a (.c .a (.c .a (.c .a (.c .a (.c .a (.c .a (.c .a (.c .a .n))))))))))))))))))))) .n) ?_
  rintro i hJ
  try dsimp only at hJ ⊢
  refine sr <| m (lss (.t n8) (.t n7)) u9 <| e ?_
  refine sq ?_
  refine cnd n9 (fun h1 => ?_) (fun h1 => ?_)
  ·
    replace h1 := of_decide_eq_true h1
    refine skp ?_
    refine sq ?_
    refine bk ?_
    refine sr <| m (ixm T.s91 (Int.natCast_nonneg _) (gi (by omega)) (.t n6) (.t n8)) u10 <| m (lde T.o3 n0 (.t n10)) u11 <| m (as_ (.t n11)) u5 <| e ?_
    refine rg <| m (mv (.t n3)) u12 <| m (mul (.t n12) (.i rfl)) u13 <| m (mv (.t n5)) u14 <| c (call (sp_impl_Mod _ _) (.c (.t n14) rfl (.c (.i rfl) rfl .n))) u15 <| m (add (.t n13) (.t n15)) u16 <| m (add (.t n16) (.i rfl)) u17 <| m (rem (by decide) (.t n17) (.i rfl)) u18 <| m (as_ (.t n18)) u3 <| e ?_
    refine rg <| m (add (.t n8) (.i rfl)) u19 <| m (mv (.t n19)) u8 <| e ?_
    exact ⟨i + 1, (by omega), (by omega), le [] (by decide) (.c (.e rfl rfl) (.c .a (.c .a (.c (.e (congrArg (V.int .i64) (hash_step (by omega))) rfl) (.c .a (.c .a (.c (.e rfl rfl) (.c (.e rfl rfl) (.c (.e (wi (by omega)) rfl) (.c .a (.c .a (.c .a (.c .a (.c .a (.c .a (.c .a (.c .a (.c .a (.c .a (.c .a (.c .a .n))))))))))))))))))))) .n⟩
  ·
    replace h1 := of_decide_eq_false h1
    refine ex (x1 ?_)
    refine sr <| m (mv (.t n3)) u20 <| m (as_ (.t n20)) u2 <| e ?_
    refine rt (ret1 (.t n2 (.p rfl) .n) ?_)
    exact congrArg (V.int .i64) (congrArg hashI (show l.take i = l from List.take_of_length_le (by omega)))

theorem sp_spec_Hash (l : List Int) : Spec Tryd.prog G0 100 [.slice 1 (l.map iV)] (fun r => r = .int .i64 (hashI l)) := by
  refine enter (l := [.tmp 2]) Tryd.func100 rfl Tryd.ntmps100 rfl T.en100 fun E => ?_
  simp only [List.length_cons, List.length_nil, List.replicate_succ, List.replicate_zero, List.cons_append, List.nil_append, Nat.reduceAdd, Nat.reduceSub]
  refine rngl n0 fun hlen => ?_
  simp only [List.length_map, maxLen] at hlen
  refine sr <| m (as_ (.i rfl)) u2 <| e ?_
  refine sr <| m (as_ (.i rfl)) u3 <| e ?_
  refine sq ?_
  refine sr <| m (as_ (.i rfl)) u4 <| e ?_
  refine bk ?_
  refine lp (fun i : Nat => ⟨[.slice 1 (l.map iV), .any, .any, .int .i64 (hashI (l.take i)), .int .i64 (i : Int), .any, .any, .any, .any, .any, .any, .any, .any, .any, .any, .any, .any, .any, .any, .any, .any, .any], []⟩) (fun i : Nat => i ≤ l.length) (fun i : Nat => l.length - i) (0) (by simp) (le [] (by decide) (.c (.e rfl rfl) (.c .a (.c .a (.c (.e rfl rfl) (.c (.e rfl rfl) (.c .a (.c .a (.c .a (.c .a (.c .a (.c .a (.c .a (.c .a (.c .a (.c .a (.c .a (.c .a (.c .a (.c .a (.c .a (.c .a (.c .a .n)))))))))))))))))))))) .n) ?_
  rintro i hJ
  try dsimp only at hJ ⊢
  refine sq ?_
  refine sr <| m (mv (.t n4)) u5 <| m (mv (.t n0)) u6 <| m (lenm T.s91 (.t n6)) u7 <| m (lss (.t n5) (.t n7)) u8 <| e ?_
  refine cnd n8 (fun h1 => ?_) (fun h1 => ?_)
  ·
    replace h1 := of_decide_eq_true h1
    refine skp ?_
    refine sq ?_
    refine bk ?_
    refine rg <| m (mv (.t n3)) u11 <| m (mul (.t n11) (.i rfl)) u12 <| m (mv (.t n0)) u13 <| m (mv (.t n4)) u14 <| m (ixm T.s91 (Int.natCast_nonneg _) (gi (by omega)) (.t n13) (.t n14)) u15 <| m (lde T.o3 n0 (.t n15)) u16 <| c (call (sp_spec_Mod _ _) (.c (.t n16) rfl (.c (.i rfl) rfl .n))) u17 <| m (add (.t n12) (.t n17)) u18 <| m (add (.t n18) (.i rfl)) u19 <| m (rem (by decide) (.t n19) (.i rfl)) u20 <| m (as_ (.t n20)) u3 <| e ?_
    refine rg <| m (mv (.t n4)) u9 <| m (add (.t n9) (.i rfl)) u10 <| m (as_ (.t n10)) u4 <| e ?_
    exact ⟨i + 1, (by omega), (by omega), le [] (by decide) (.c (.e rfl rfl) (.c .a (.c .a (.c (.e (congrArg (V.int .i64) (hash_step (by omega))) rfl) (.c (.e (wi (by omega)) rfl) (.c .a (.c .a (.c .a (.c .a (.c .a (.c .a (.c .a (.c .a (.c .a (.c .a (.c .a (.c .a (.c .a (.c .a (.c .a (.c .a (.c .a .n)))))))))))))))))))))) .n⟩
  ·
    replace h1 := of_decide_eq_false h1
    refine ex (x1 ?_)
    refine sr <| m (mv (.t n3)) u21 <| m (as_ (.t n21)) u2 <| e ?_
    refine rt (ret1 (.t n2 (.p rfl) .n) ?_)
    exact congrArg (V.int .i64) (congrArg hashI (show l.take i = l from List.take_of_length_le (by omega)))

theorem sp_impl_joined (xs : List Int) (rs : List (List Int)) (hl : xs.length + rs.flatten.length ≤ 1099511627776) : Spec Tryd.prog G0 102 [.slice 1 (xs.map iV), .slice 1 (rs.map fun l => [.slice 1 (l.map iV)])] (fun r => r = .slice 1 ((xs ++ rs.flatten).map iV)) := by
  refine enter (l := [.tmp 4]) Tryd.func102 rfl Tryd.ntmps102 rfl T.en102 fun E => ?_
  simp only [List.length_cons, List.length_nil, List.replicate_succ, List.replicate_zero, List.cons_append, List.nil_append, Nat.reduceAdd, Nat.reduceSub]
  refine rngl n1 fun hlen => ?_
  simp only [List.length_map, maxLen] at hlen
  refine sr <| m (as_ .n) u4 <| e ?_
  refine sr <| k (bo T.s91 rfl rfl .n s0 u8) <| m (mv (.t n0)) u9 <| k (ap 8 T.s91 rfl n8 u8 n0 (.t n9) (oneM fun _ => rfl) (by simp; omega) (by simp only [maxLen]; simp; omega) q0 rfl u10) <| m (as_ (.t n10)) u5 <| e ?_
  refine sq ?_
  refine sr <| m (mv (.t n1)) u11 <| m (lenm T.s189 (.t n11)) u12 <| m (mv (.i rfl)) u13 <| e ?_
  refine bk ?_
  refine lp (fun i : Nat => ⟨[.slice 1 (xs.map iV), .any, .any, .any, .nil, .own 0, .any, .any, .any, .any, .any, .slice 1 (rs.map fun l => [.slice 1 (l.map iV)]), .int .i64 (rs.length : Int), .int .i64 (i : Int), .any, .any, .any, .any, .any, .any, .any, .any], [.row 3 1 ((xs ++ (rs.take i).flatten).map iV)]⟩) (fun i : Nat => i ≤ rs.length) (fun i : Nat => rs.length - i) (0) (by simp) (le [0] (by decide) (.c (.e rfl rfl) (.c .a (.c .a (.c .a (.c (.e rfl rfl) (.c (.w n0) (.c .a (.c .a (.c .a (.c .a (.c .a (.c (.e rfl rfl) (.c (.e rfl rfl) (.c (.e rfl rfl) (.c .a (.c .a (.c .a (.c .a (.c .a (.c .a (.c .a (.c .a .n)))))))))))))))))))))) (.r n0 (by simp) .n)) ?_
  rintro i hJ
  try dsimp only at hJ ⊢
  refine sr <| m (lss (.t n13) (.t n12)) u14 <| e ?_
  refine sq ?_
  refine cnd n14 (fun h1 => ?_) (fun h1 => ?_)
  ·
    replace h1 := of_decide_eq_true h1
    refine skp ?_
    refine sq ?_
    refine bk ?_
    refine sr <| m (ixm T.s189 (Int.natCast_nonneg _) (gi (by omega)) (.t n11) (.t n13)) u15 <| m (lde T.o91 n0 (.t n15)) u16 <| m (as_ (.t n16)) u7 <| e ?_
    refine rg <| m (mv (.t n5)) u17 <| m (mv (.t n7)) u18 <| dr u5 <| k (ap 17 T.s91 rfl n17 u17 n0 (.t n18) (oneM fun _ => rfl) (by have := flat_le (l := rs) (i := i) (by omega); simp only [List.length_map, List.length_append]; omega) (by have := flat_le (l := rs) (i := i) (by omega); simp only [maxLen, List.length_map, List.length_append]; omega) q0 rfl u19) <| m (as_ (.t n19)) u5 <| e ?_
    refine rg <| m (add (.t n13) (.i rfl)) u20 <| m (mv (.t n20)) u13 <| e ?_
    exact ⟨i + 1, (by omega), (by omega), le [0] (by decide) (.c (.e rfl rfl) (.c .a (.c .a (.c .a (.c (.e rfl rfl) (.c (.w n0) (.c .a (.c .a (.c .a (.c .a (.c .a (.c (.e rfl rfl) (.c (.e rfl rfl) (.c (.e (wi (by omega)) rfl) (.c .a (.c .a (.c .a (.c .a (.c .a (.c .a (.c .a (.c .a .n)))))))))))))))))))))) (.r n0 (flat_snoc xs iV (by omega)) .n)⟩
  ·
    replace h1 := of_decide_eq_false h1
    refine ex (x1 ?_)
    refine sr <| m (mv (.t n5)) u21 <| m (as_ (.t n21)) u4 <| e ?_
    refine rt (ret1 (.t n4 (.o n0) .n) ?_)
    exact congrArg (fun z => V.slice 1 ((xs ++ z.flatten).map iV)) (show rs.take i = rs from List.take_of_length_le (by omega))

theorem sp_impl_KeyedHash (key : Int) (l : List Int) (hl : l.length ≤ 1099511627000) : Spec Tryd.prog G0 90 [.int .i64 key, .slice 1 (l.map iV)] (fun r => r = .int .i64 (keyedI key l)) := by
  refine enter (l := [.tmp 4]) Tryd.func90 rfl Tryd.ntmps90 rfl T.en90 fun E => ?_
  simp only [List.length_cons, List.length_nil, List.replicate_succ, List.replicate_zero, List.cons_append, List.nil_append, Nat.reduceAdd, Nat.reduceSub]
  refine sr <| m (as_ (.i rfl)) u4 <| e ?_
  refine sr <| m (mv (.t n0)) u5 <| k (bs T.s91 rfl rfl (.c (.t n5) rfl rfl rfl .n) u6) <| m (mv (.t n1)) u7 <| m (mv (.t n0)) u8 <| k (bs T.s91 rfl rfl (.c (.t n8) rfl rfl rfl .n) u9) <| k (bs T.s189 rfl rfl (.c (.t n7) rfl rfl rfl (.c (.t n9) rfl rfl rfl .n)) u10) <| c (call (sp_impl_joined [key] [l, [key]] (by simp; omega)) (.c (.t n6) rfl (.c (.t n10) rfl .n))) u11 <| c (call (sp_impl_Hash ([key] ++ [l, [key]].flatten)) (.c (.t n11) rfl .n)) u12 <| m (as_ (.t n12)) u4 <| e ?_
  refine rt (ret1 (.t n4 (.p rfl) .n) ?_)
  rfl

theorem sp_spec_KeyedHash (key : Int) (l : List Int) (hl : l.length ≤ 1099511627000) : Spec Tryd.prog G0 89 [.int .i64 key, .slice 1 (l.map iV)] (fun r => r = .int .i64 (keyedI key l)) := by
  refine enter (l := [.tmp 4]) Tryd.func89 rfl Tryd.ntmps89 rfl T.en89 fun E => ?_
  simp only [List.length_cons, List.length_nil, List.replicate_succ, List.replicate_zero, List.cons_append, List.nil_append, Nat.reduceAdd, Nat.reduceSub]
  refine sr <| m (as_ (.i rfl)) u4 <| e ?_
  refine sr <| m (mv (.t n0)) u5 <| k (bo T.s91 rfl rfl (.c (.t n5) rfl rfl rfl .n) s0 u6) <| m (mv (.t n1)) u7 <| k (ap 6 T.s91 rfl n6 u6 n0 (.t n7) (oneM fun _ => rfl) (by simp; omega) (by simp only [maxLen]; simp; omega) q0 rfl u8) <| m (mv (.t n0)) u9 <| k (bs T.s91 rfl rfl (.c (.t n9) rfl rfl rfl .n) u10) <| k (ap 8 T.s91 rfl n8 u8 n0 (.t n10) (one1 rfl) (by simp; omega) (by simp only [maxLen]; simp; omega) q0 rfl u11) <| c (callm (sp_spec_Hash ([key] ++ [l, [key]].flatten)) rfl (.c (.t n11) (Cv.oe n0 (by simp [iV, V.parts])) .n)) u12 <| m (as_ (.t n12)) u4 <| e ?_
  refine rt (ret1 (.t n4 (.p rfl) .n) ?_)
  rfl

theorem sp_impl_KeyFingerprint (n : Int) : Spec Tryd.prog G0 61 [.int .i64 n] (fun r => r = .int .i64 (fpI n)) := by
  refine enter (l := [.tmp 2]) Tryd.func61 rfl Tryd.ntmps61 rfl T.en61 fun E => ?_
  simp only [List.length_cons, List.length_nil, List.replicate_succ, List.replicate_zero, List.cons_append, List.nil_append, Nat.reduceAdd, Nat.reduceSub]
  refine sr <| m (as_ (.i rfl)) u2 <| e ?_
  refine sr <| m (mv (.t n0)) u3 <| k (bs T.s91 rfl rfl (.c (.t n3) rfl rfl rfl .n) u4) <| c (call (sp_impl_KeyedHash 149 [n] (by simp)) (.c (.i rfl) rfl (.c (.t n4) rfl .n))) u5 <| m (rem (by decide) (.t n5) (.i rfl)) u6 <| m (as_ (.t n6)) u2 <| e ?_
  refine rt (ret1 (.t n2 (.p rfl) .n) ?_)
  rfl

theorem sp_spec_KeyFingerprint (n : Int) : Spec Tryd.prog G0 59 [.int .i64 n] (fun r => r = .int .i64 (fpI n)) := by
  refine enter (l := [.tmp 2]) Tryd.func59 rfl Tryd.ntmps59 rfl T.en59 fun E => ?_
  simp only [List.length_cons, List.length_nil, List.replicate_succ, List.replicate_zero, List.cons_append, List.nil_append, Nat.reduceAdd, Nat.reduceSub]
  refine sr <| m (as_ (.i rfl)) u2 <| e ?_
  refine sr <| m (mv (.t n0)) u3 <| k (bs T.s91 rfl rfl (.c (.t n3) rfl rfl rfl .n) u4) <| c (call (sp_spec_KeyedHash 149 [n] (by simp)) (.c (.i rfl) rfl (.c (.t n4) rfl .n))) u5 <| m (rem (by decide) (.t n5) (.i rfl)) u6 <| m (as_ (.t n6)) u2 <| e ?_
  refine rt (ret1 (.t n2 (.p rfl) .n) ?_)
  rfl

theorem sp_impl_FormatLogEntries (l : List D.LogEntry) (hl : l.length ≤ 1048576) : Spec Tryd.prog G0 27 [.slice 6 (l.map D.LogEntry.V)] (fun r => r = .str (fmtLog l)) := by
  refine enter (l := [.tmp 2]) Tryd.func27 rfl Tryd.ntmps27 rfl T.en27 fun E => ?_
  simp only [List.length_cons, List.length_nil, List.replicate_succ, List.replicate_zero, List.cons_append, List.nil_append, Nat.reduceAdd, Nat.reduceSub]
  have hcl : l.length ≤ 1048576 := hl
  refine sr <| m (as_ (.s rfl)) u2 <| e ?_
  refine sr <| k (bo T.s107 rfl rfl .n s0 u7) <| m (as_ (.t n7)) u3 <| e ?_
  refine sq ?_
  refine sr <| m (mv (.t n0)) u8 <| m (lenm T.s65 (.t n8)) u9 <| m (mv (.i rfl)) u10 <| e ?_
  refine bk ?_
  refine lp (fun i : Nat => ⟨[.slice 6 (l.map D.LogEntry.V), .any, .any, .own 0, .any, .any, .any, .any, .slice 6 (l.map D.LogEntry.V), .int .i64 (l.length : Int), .int .i64 (i : Int), .any, .any, .any, .any, .any, .any, .any, .any, .any, .any, .any, .any, .any, .any, .any, .any, .any, .any, .any, .any, .any], [.row 9 1 (((l.take i).map leStr).map sV)]⟩) (fun i : Nat => i ≤ l.length) (fun i : Nat => l.length - i) (0) (by simp) (le [0] (by decide) (.c (.e rfl rfl) (.c .a (.c .a (.c (.w n0) (.c .a (.c .a (.c .a (.c .a (.c (.e rfl rfl) (.c (.e rfl rfl) (.c (.e rfl rfl) (.c .a (.c .a (.c .a (.c .a (.c .a (.c .a (.c .a (.c .a (.c .a (.c .a (.c .a (.c .a (.c .a (.c .a (.c .a (.c .a (.c .a (.c .a (.c .a (.c .a (.c .a .n)))))))))))))))))))))))))))))))) (.r n0 rfl .n)) ?_
  rintro i hJ
  try dsimp only at hJ ⊢
  refine sr <| m (lss (.t n10) (.t n9)) u11 <| e ?_
  refine sq ?_
  refine cnd n11 (fun h1 => ?_) (fun h1 => ?_)
  ·
    replace h1 := of_decide_eq_true h1
    refine skp ?_
    refine sq ?_
    refine bk ?_
    refine sr <| m (ixm T.s65 (Int.natCast_nonneg _) (gi (by omega)) (.t n8) (.t n10)) u12 <| m (lae T.a126 k6 (.t n12)) u13 <| k (al T.z126 s1 u5) <| k (sta T.a126 rfl rfl n1 (.z (.z (.z (.z (.z (.z .n)))))) q1 (.t n5) (.t n13)) <| e ?_
    refine sr <| m (as_ (.s rfl)) u6 <| e ?_
    refine sq ?_
    refine sr <| m (fab 1 rfl T.f126_1 (.t n5)) u14 <| m (ldb T.o3 n1 n1 (.t n14)) u15 <| m (eql (.t n15) (.i rfl)) u16 <| e ?_
    refine cnd n16 (fun h2 => ?_) (fun h2 => ?_)
    ·
      replace h2 := eq_of_beq h2
      refine rg <| m (as_ (.s rfl)) u6 <| e ?_
      refine rg <| m (mv (.t n3)) u17 <| m (mv (.t n6)) u18 <| m (fab 2 rfl T.f126_2 (.t n5)) u19 <| m (ldb T.o3 n1 n2 (.t n19)) u20 <| c (call (sp_impl_KeyFingerprint _) (.c (.t n20) rfl .n)) u21 <| c (call (sp_impl_FormatInt _) (.c (.t n21) rfl .n)) u22 <| m (sadd (sz_ok (Nat.le_refl _) (fmtInt_sz _) rfl) (.t n18) (.t n22)) u23 <| k (bs T.s107 rfl rfl (.c (.t n23) rfl rfl rfl .n) u24) <| dr u3 <| k (ap 17 T.s107 rfl n17 u17 n0 (.t n24) (one1 rfl) (by simp; omega) (by simp only [maxLen]; simp; omega) q0 rfl u25) <| m (as_ (.t n25)) u3 <| e ?_
      refine rg <| m (add (.t n10) (.i rfl)) u26 <| m (mv (.t n26)) u10 <| e ?_
      exact ⟨i + 1, (by omega), (by omega), le [0] (by decide) (.c (.e rfl rfl) (.c .a (.c .a (.c (.w n0) (.c .a (.c .a (.c .a (.c .a (.c (.e rfl rfl) (.c (.e rfl rfl) (.c (.e (wi (by omega)) rfl) (.c .a (.c .a (.c .a (.c .a (.c .a (.c .a (.c .a (.c .a (.c .a (.c .a (.c .a (.c .a (.c .a (.c .a (.c .a (.c .a (.c .a (.c .a (.c .a (.c .a (.c .a .n)))))))))))))))))))))))))))))))) (.r n0 (by first | (have hh : (l[i]'(by omega)).Kind = 1 := (by assumption); exact row_snoc (by omega) (leStr_t hh)) | (have hh : (l[i]'(by omega)).Kind ≠ 1 := (by assumption); exact row_snoc (by omega) (leStr_f hh))) .n)⟩
    ·
      replace h2 := ne_of_beq_false h2
      refine skp ?_
      refine rg <| m (mv (.t n3)) u17 <| m (mv (.t n6)) u18 <| m (fab 2 rfl T.f126_2 (.t n5)) u19 <| m (ldb T.o3 n1 n2 (.t n19)) u20 <| c (call (sp_impl_KeyFingerprint _) (.c (.t n20) rfl .n)) u21 <| c (call (sp_impl_FormatInt _) (.c (.t n21) rfl .n)) u22 <| m (sadd (sz_ok (Nat.le_refl _) (fmtInt_sz _) rfl) (.t n18) (.t n22)) u23 <| k (bs T.s107 rfl rfl (.c (.t n23) rfl rfl rfl .n) u24) <| dr u3 <| k (ap 17 T.s107 rfl n17 u17 n0 (.t n24) (one1 rfl) (by simp; omega) (by simp only [maxLen]; simp; omega) q0 rfl u25) <| m (as_ (.t n25)) u3 <| e ?_
      refine rg <| m (add (.t n10) (.i rfl)) u26 <| m (mv (.t n26)) u10 <| e ?_
      exact ⟨i + 1, (by omega), (by omega), le [0] (by decide) (.c (.e rfl rfl) (.c .a (.c .a (.c (.w n0) (.c .a (.c .a (.c .a (.c .a (.c (.e rfl rfl) (.c (.e rfl rfl) (.c (.e (wi (by omega)) rfl) (.c .a (.c .a (.c .a (.c .a (.c .a (.c .a (.c .a (.c .a (.c .a (.c .a (.c .a (.c .a (.c .a (.c .a (.c .a (.c .a (.c .a (.c .a (.c .a (.c .a (.c .a .n)))))))))))))))))))))))))))))))) (.r n0 (by first | (have hh : (l[i]'(by omega)).Kind = 1 := (by assumption); exact row_snoc (by omega) (leStr_t hh)) | (have hh : (l[i]'(by omega)).Kind ≠ 1 := (by assumption); exact row_snoc (by omega) (leStr_f hh))) .n)⟩
  ·
    replace h1 := of_decide_eq_false h1
    refine ex (x1 ?_)
    refine sq ?_
    refine sr <| m (mv (.t n3)) u27 <| m (leno T.s107 n0 (.t n27)) u28 <| m (eql (.t n28) (.i rfl)) u29 <| e ?_
    refine cnd n29 (fun h3 => ?_) (fun h3 => ?_)
    ·
      replace h3 := eq_of_beq h3
      simp only [List.length_map, List.length_take] at h3
      have hz : l.length = 0 := by omega
      refine sr <| m (as_ (.s rfl)) u2 <| e ?_
      refine rt (ret1 (.t n2 (.p rfl) .n) ?_)
      show V.str _ = V.str _
      rw [fmtLog, if_pos hz]
    ·
      replace h3 := ne_of_beq_false h3
      simp only [List.length_map, List.length_take] at h3
      have hz : l.length ≠ 0 := by omega
      have hlen3 : ((l.take i).map leStr).length = i := by rw [List.length_map, List.length_take]; omega
      refine skp ?_
      refine sr <| m (mv (.t n3)) u30 <| c (callm (sp_strings_Join ((l.take i).map leStr) SP (by intro hh; rw [hh] at hlen3; simp only [List.length_nil] at hlen3; omega) (by have := leAcc_sz l i hcl; unfold leAcc at this; omega) (by omega)) rfl (.c (.t n30) (.o n0) (.c (.s rfl) (.p rfl) .n))) u31 <| m (as_ (.t n31)) u2 <| e ?_
      refine rt (ret1 (.t n2 (.p rfl) .n) ?_)
      show V.str _ = V.str _
      rw [fmtLog, if_neg hz]
      exact congrArg (fun j => V.str (leAcc l j)) (show i = l.length by omega)

theorem sp_spec_FormatLogEntries (l : List D.LogEntry) (hl : l.length ≤ 1048576) : Spec Tryd.prog G0 25 [.slice 6 (l.map D.LogEntry.V)] (fun r => r = .str (fmtLog l)) := by
  refine enter (l := [.tmp 2]) Tryd.func25 rfl Tryd.ntmps25 rfl T.en25 fun E => ?_
  simp only [List.length_cons, List.length_nil, List.replicate_succ, List.replicate_zero, List.cons_append, List.nil_append, Nat.reduceAdd, Nat.reduceSub]
  have hcl : l.length ≤ 1048576 := hl
  refine sr <| m (as_ (.s rfl)) u2 <| e ?_
  refine sq ?_
  refine sr <| m (mv (.t n0)) u6 <| m (lenm T.s65 (.t n6)) u7 <| m (eql (.t n7) (.i rfl)) u8 <| e ?_
  refine cnd n8 (fun h1 => ?_) (fun h1 => ?_)
  ·
    replace h1 := eq_of_beq h1
    refine sr <| m (as_ (.s rfl)) u2 <| e ?_
    refine rt (ret1 (.t n2 (.p rfl) .n) ?_)
    show V.str _ = V.str _
    rw [fmtLog, if_pos (by omega)]
  ·
    replace h1 := ne_of_beq_false h1
    refine skp ?_
    refine sr <| m (as_ (.s rfl)) u3 <| e ?_
    refine sq ?_
    refine sr <| m (as_ (.i rfl)) u4 <| e ?_
    refine bk ?_
    refine lp (fun i : Nat => ⟨[.slice 6 (l.map D.LogEntry.V), .any, .any, .str (leAcc l i), .int .i64 (i : Int), .any, .any, .any, .any, .any, .any, .any, .any, .any, .any, .any, .any, .any, .any, .any, .any, .any, .any, .any, .any, .any, .any, .any, .any, .any, .any, .any, .any, .any, .any, .any, .any], []⟩) (fun i : Nat => i ≤ l.length) (fun i : Nat => l.length - i) (0) (by simp) (le [] (by decide) (.c (.e rfl rfl) (.c .a (.c .a (.c (.e rfl rfl) (.c (.e rfl rfl) (.c .a (.c .a (.c .a (.c .a (.c .a (.c .a (.c .a (.c .a (.c .a (.c .a (.c .a (.c .a (.c .a (.c .a (.c .a (.c .a (.c .a (.c .a (.c .a (.c .a (.c .a (.c .a (.c .a (.c .a (.c .a (.c .a (.c .a (.c .a (.c .a (.c .a (.c .a (.c .a .n))))))))))))))))))))))))))))))))))))) .n) ?_
    rintro i hJ
    try dsimp only at hJ ⊢
    have hacc := leAcc_sz l i hcl
    refine sq ?_
    refine sr <| m (mv (.t n4)) u9 <| m (mv (.t n0)) u10 <| m (lenm T.s65 (.t n10)) u11 <| m (lss (.t n9) (.t n11)) u12 <| e ?_
    refine cnd n12 (fun h2 => ?_) (fun h2 => ?_)
    ·
      replace h2 := of_decide_eq_true h2
      refine skp ?_
      refine sq ?_
      refine bk ?_
      refine sq ?_
      refine sr <| m (mv (.t n4)) u15 <| m (gtr (.t n15) (.i rfl)) u16 <| e ?_
      refine cnd n16 (fun h3 => ?_) (fun h3 => ?_)
      ·
        replace h3 := of_decide_eq_true h3
        refine rg <| m (mv (.t n3)) u17 <| m (sadd (sz_ok hacc (Nat.le_refl _) rfl) (.t n17) (.s rfl)) u18 <| m (as_ (.t n18)) u3 <| e ?_
        refine sr <| m (as_ (.s rfl)) u5 <| e ?_
        refine sq ?_
        refine sr <| m (mv (.t n0)) u19 <| m (mv (.t n4)) u20 <| m (ixm T.s65 (Int.natCast_nonneg _) (gi (by omega)) (.t n19) (.t n20)) u21 <| m (fae T.f126_1 d1 (.t n21)) u22 <| m (lde T.o3 n0 (.t n22)) u23 <| m (eql (.t n23) (.i rfl)) u24 <| e ?_
        refine cnd n24 (fun h4 => ?_) (fun h4 => ?_)
        ·
          replace h4 := eq_of_beq h4
          refine rg <| m (as_ (.s rfl)) u5 <| e ?_
          refine rg <| m (mv (.t n3)) u25 <| m (mv (.t n5)) u26 <| m (sadd (sz_ok (sz_add hacc (Nat.le_refl _)) (Nat.le_refl _) rfl) (.t n25) (.t n26)) u27 <| m (mv (.t n0)) u28 <| m (mv (.t n4)) u29 <| m (ixm T.s65 (Int.natCast_nonneg _) (gi (by omega)) (.t n28) (.t n29)) u30 <| m (fae T.f126_2 d2 (.t n30)) u31 <| m (lde T.o3 n0 (.t n31)) u32 <| c (call (sp_spec_KeyFingerprint _) (.c (.t n32) rfl .n)) u33 <| c (call (sp_spec_FormatInt _) (.c (.t n33) rfl .n)) u34 <| m (sadd (sz_ok (sz_add (sz_add hacc (Nat.le_refl _)) (Nat.le_refl _)) (fmtInt_sz _) rfl) (.t n27) (.t n34)) u35 <| m (as_ (.t n35)) u3 <| e ?_
          refine rg <| m (mv (.t n4)) u13 <| m (add (.t n13) (.i rfl)) u14 <| m (as_ (.t n14)) u4 <| e ?_
          exact ⟨i + 1, (by omega), (by omega), le [] (by decide) (.c (.e rfl rfl) (.c .a (.c .a (.c (.e (congrArg V.str (by first | (have h0 : (0 : Int) < i := (by assumption); have hh : (l[i]'(by omega)).Kind = 1 := (by assumption); exact leAcc_st h0 _ hh) | (have h0 : (0 : Int) < i := (by assumption); have hh : (l[i]'(by omega)).Kind ≠ 1 := (by assumption); exact leAcc_sf h0 _ hh) | (have h0 : ¬ (0 : Int) < i := (by assumption); have hh : (l[i]'(by omega)).Kind = 1 := (by assumption); exact leAcc_0t h0 _ hh) | (have h0 : ¬ (0 : Int) < i := (by assumption); have hh : (l[i]'(by omega)).Kind ≠ 1 := (by assumption); exact leAcc_0f h0 _ hh))) rfl) (.c (.e (wi (by omega)) rfl) (.c .a (.c .a (.c .a (.c .a (.c .a (.c .a (.c .a (.c .a (.c .a (.c .a (.c .a (.c .a (.c .a (.c .a (.c .a (.c .a (.c .a (.c .a (.c .a (.c .a (.c .a (.c .a (.c .a (.c .a (.c .a (.c .a (.c .a (.c .a (.c .a (.c .a (.c .a (.c .a .n))))))))))))))))))))))))))))))))))))) .n⟩
        ·
          replace h4 := ne_of_beq_false h4
          refine skp ?_
          refine rg <| m (mv (.t n3)) u25 <| m (mv (.t n5)) u26 <| m (sadd (sz_ok (sz_add hacc (Nat.le_refl _)) (Nat.le_refl _) rfl) (.t n25) (.t n26)) u27 <| m (mv (.t n0)) u28 <| m (mv (.t n4)) u29 <| m (ixm T.s65 (Int.natCast_nonneg _) (gi (by omega)) (.t n28) (.t n29)) u30 <| m (fae T.f126_2 d2 (.t n30)) u31 <| m (lde T.o3 n0 (.t n31)) u32 <| c (call (sp_spec_KeyFingerprint _) (.c (.t n32) rfl .n)) u33 <| c (call (sp_spec_FormatInt _) (.c (.t n33) rfl .n)) u34 <| m (sadd (sz_ok (sz_add (sz_add hacc (Nat.le_refl _)) (Nat.le_refl _)) (fmtInt_sz _) rfl) (.t n27) (.t n34)) u35 <| m (as_ (.t n35)) u3 <| e ?_
          refine rg <| m (mv (.t n4)) u13 <| m (add (.t n13) (.i rfl)) u14 <| m (as_ (.t n14)) u4 <| e ?_
          exact ⟨i + 1, (by omega), (by omega), le [] (by decide) (.c (.e rfl rfl) (.c .a (.c .a (.c (.e (congrArg V.str (by first | (have h0 : (0 : Int) < i := (by assumption); have hh : (l[i]'(by omega)).Kind = 1 := (by assumption); exact leAcc_st h0 _ hh) | (have h0 : (0 : Int) < i := (by assumption); have hh : (l[i]'(by omega)).Kind ≠ 1 := (by assumption); exact leAcc_sf h0 _ hh) | (have h0 : ¬ (0 : Int) < i := (by assumption); have hh : (l[i]'(by omega)).Kind = 1 := (by assumption); exact leAcc_0t h0 _ hh) | (have h0 : ¬ (0 : Int) < i := (by assumption); have hh : (l[i]'(by omega)).Kind ≠ 1 := (by assumption); exact leAcc_0f h0 _ hh))) rfl) (.c (.e (wi (by omega)) rfl) (.c .a (.c .a (.c .a (.c .a (.c .a (.c .a (.c .a (.c .a (.c .a (.c .a (.c .a (.c .a (.c .a (.c .a (.c .a (.c .a (.c .a (.c .a (.c .a (.c .a (.c .a (.c .a (.c .a (.c .a (.c .a (.c .a (.c .a (.c .a (.c .a (.c .a (.c .a (.c .a .n))))))))))))))))))))))))))))))))))))) .n⟩
      ·
        replace h3 := of_decide_eq_false h3
        refine skp ?_
        refine sr <| m (as_ (.s rfl)) u5 <| e ?_
        refine sq ?_
        refine sr <| m (mv (.t n0)) u19 <| m (mv (.t n4)) u20 <| m (ixm T.s65 (Int.natCast_nonneg _) (gi (by omega)) (.t n19) (.t n20)) u21 <| m (fae T.f126_1 d1 (.t n21)) u22 <| m (lde T.o3 n0 (.t n22)) u23 <| m (eql (.t n23) (.i rfl)) u24 <| e ?_
        refine cnd n24 (fun h5 => ?_) (fun h5 => ?_)
        ·
          replace h5 := eq_of_beq h5
          refine rg <| m (as_ (.s rfl)) u5 <| e ?_
          refine rg <| m (mv (.t n3)) u25 <| m (mv (.t n5)) u26 <| m (sadd (sz_ok hacc (Nat.le_refl _) rfl) (.t n25) (.t n26)) u27 <| m (mv (.t n0)) u28 <| m (mv (.t n4)) u29 <| m (ixm T.s65 (Int.natCast_nonneg _) (gi (by omega)) (.t n28) (.t n29)) u30 <| m (fae T.f126_2 d2 (.t n30)) u31 <| m (lde T.o3 n0 (.t n31)) u32 <| c (call (sp_spec_KeyFingerprint _) (.c (.t n32) rfl .n)) u33 <| c (call (sp_spec_FormatInt _) (.c (.t n33) rfl .n)) u34 <| m (sadd (sz_ok (sz_add hacc (Nat.le_refl _)) (fmtInt_sz _) rfl) (.t n27) (.t n34)) u35 <| m (as_ (.t n35)) u3 <| e ?_
          refine rg <| m (mv (.t n4)) u13 <| m (add (.t n13) (.i rfl)) u14 <| m (as_ (.t n14)) u4 <| e ?_
          exact ⟨i + 1, (by omega), (by omega), le [] (by decide) (.c (.e rfl rfl) (.c .a (.c .a (.c (.e (congrArg V.str (by first | (have h0 : (0 : Int) < i := (by assumption); have hh : (l[i]'(by omega)).Kind = 1 := (by assumption); exact leAcc_st h0 _ hh) | (have h0 : (0 : Int) < i := (by assumption); have hh : (l[i]'(by omega)).Kind ≠ 1 := (by assumption); exact leAcc_sf h0 _ hh) | (have h0 : ¬ (0 : Int) < i := (by assumption); have hh : (l[i]'(by omega)).Kind = 1 := (by assumption); exact leAcc_0t h0 _ hh) | (have h0 : ¬ (0 : Int) < i := (by assumption); have hh : (l[i]'(by omega)).Kind ≠ 1 := (by assumption); exact leAcc_0f h0 _ hh))) rfl) (.c (.e (wi (by omega)) rfl) (.c .a (.c .a (.c .a (.c .a (.c .a (.c .a (.c .a (.c .a (.c .a (.c .a (.c .a (.c .a (.c .a (.c .a (.c .a (.c .a (.c .a (.c .a (.c .a (.c .a (.c .a (.c .a (.c .a (.c .a (.c .a (.c .a (.c .a (.c .a (.c .a (.c .a (.c .a (.c .a .n))))))))))))))))))))))))))))))))))))) .n⟩
        ·
          replace h5 := ne_of_beq_false h5
          refine skp ?_
          refine rg <| m (mv (.t n3)) u25 <| m (mv (.t n5)) u26 <| m (sadd (sz_ok hacc (Nat.le_refl _) rfl) (.t n25) (.t n26)) u27 <| m (mv (.t n0)) u28 <| m (mv (.t n4)) u29 <| m (ixm T.s65 (Int.natCast_nonneg _) (gi (by omega)) (.t n28) (.t n29)) u30 <| m (fae T.f126_2 d2 (.t n30)) u31 <| m (lde T.o3 n0 (.t n31)) u32 <| c (call (sp_spec_KeyFingerprint _) (.c (.t n32) rfl .n)) u33 <| c (call (sp_spec_FormatInt _) (.c (.t n33) rfl .n)) u34 <| m (sadd (sz_ok (sz_add hacc (Nat.le_refl _)) (fmtInt_sz _) rfl) (.t n27) (.t n34)) u35 <| m (as_ (.t n35)) u3 <| e ?_
          refine rg <| m (mv (.t n4)) u13 <| m (add (.t n13) (.i rfl)) u14 <| m (as_ (.t n14)) u4 <| e ?_
          exact ⟨i + 1, (by omega), (by omega), le [] (by decide) (.c (.e rfl rfl) (.c .a (.c .a (.c (.e (congrArg V.str (by first | (have h0 : (0 : Int) < i := (by assumption); have hh : (l[i]'(by omega)).Kind = 1 := (by assumption); exact leAcc_st h0 _ hh) | (have h0 : (0 : Int) < i := (by assumption); have hh : (l[i]'(by omega)).Kind ≠ 1 := (by assumption); exact leAcc_sf h0 _ hh) | (have h0 : ¬ (0 : Int) < i := (by assumption); have hh : (l[i]'(by omega)).Kind = 1 := (by assumption); exact leAcc_0t h0 _ hh) | (have h0 : ¬ (0 : Int) < i := (by assumption); have hh : (l[i]'(by omega)).Kind ≠ 1 := (by assumption); exact leAcc_0f h0 _ hh))) rfl) (.c (.e (wi (by omega)) rfl) (.c .a (.c .a (.c .a (.c .a (.c .a (.c .a (.c .a (.c .a (.c .a (.c .a (.c .a (.c .a (.c .a (.c .a (.c .a (.c .a (.c .a (.c .a (.c .a (.c .a (.c .a (.c .a (.c .a (.c .a (.c .a (.c .a (.c .a (.c .a (.c .a (.c .a (.c .a (.c .a .n))))))))))))))))))))))))))))))))))))) .n⟩
    ·
      replace h2 := of_decide_eq_false h2
      refine ex (x1 ?_)
      refine sr <| m (mv (.t n3)) u36 <| m (as_ (.t n36)) u2 <| e ?_
      refine rt (ret1 (.t n2 (.p rfl) .n) ?_)
      show V.str _ = V.str _
      rw [fmtLog, if_neg (by omega)]
      exact congrArg (fun j => V.str (leAcc l j)) (show i = l.length by omega)

theorem sp_laws_FnExactFormatLogEntries (l : List D.LogEntry) : Spec Tryd.prog G0 6 [.slice 6 (l.map D.LogEntry.V)] (fun r => r = .bool true) := by
  refine enter (l := [.tmp 2]) Tryd.func6 rfl Tryd.ntmps6 rfl T.en6 fun E => ?_
  simp only [List.length_cons, List.length_nil, List.replicate_succ, List.replicate_zero, List.cons_append, List.nil_append, Nat.reduceAdd, Nat.reduceSub]
  refine sr <| m (as_ .b) u2 <| e ?_
  refine sr <| m (as_ (.i rfl)) u3 <| e ?_
  refine sr <| m (mv (.t n0)) u7 <| m (mv (.t n3)) u8 <| cI (call (sp_laws_szLogEntryS _ _ (by omega) (by first | omega | (simp only [IntKind.wrap_i64] at *; omega))) (.c (.t n7) rfl (.c (.t n8) rfl .n))) (fun _ => u9) (fun r1 hr1 => ?_)
  refine m (as_ (.t n9)) u3 <| e ?_
  refine sq ?_
  refine sr <| m (mv (.t n3)) u10 <| m (lss (.t n10) (.i rfl)) u11 <| e ?_
  refine cnd n11 (fun h2 => ?_) (fun h2 => ?_)
  ·
    replace h2 := of_decide_eq_true h2
    refine sr <| m (as_ .b) u2 <| e ?_
    refine rt (ret1 (.t n2 (.p rfl) .n) ?_)
    rfl
  ·
    replace h2 := of_decide_eq_false h2
    have hsz : l.length ≤ 1048576 := by
      have := hr1 (by omega)
      omega
    refine skp ?_
    refine sr <| m (mv (.t n0)) u12 <| c (call (sp_laws_toLogEntryS _ (by first | assumption | omega)) (.c (.t n12) rfl .n)) u13 <| c (call (sp_spec_FormatLogEntries _ (by first | assumption | omega)) (.c (.t n13) rfl .n)) u14 <| m (as_ (.t n14)) u4 <| e ?_
    refine sr <| m (mv (.t n0)) u15 <| c (call (sp_laws_toLogEntryS _ (by first | assumption | omega)) (.c (.t n15) rfl .n)) u16 <| m (as_ (.t n16)) u5 <| e ?_
    refine sr <| m (mv (.t n5)) u17 <| c (call (sp_impl_FormatLogEntries _ (by first | assumption | omega)) (.c (.t n17) rfl .n)) u18 <| m (as_ (.t n18)) u6 <| e ?_
    refine sq ?_
    refine sr <| m (mv (.t n6)) u19 <| m (mv (.t n4)) u20 <| m (snes (.t n19) (.t n20)) u21 <| e ?_
    refine cdf n21 ?_
    refine skp ?_
    refine sq ?_
    refine sr <| m (mv (.t n5)) u22 <| m (mv (.t n0)) u23 <| c (call (sp_laws_toLogEntryS _ (by first | assumption | omega)) (.c (.t n23) rfl .n)) u24 <| c (call (sp_laws_eqLogEntryS _) (.c (.t n22) rfl (.c (.t n24) rfl .n))) u25 <| m (not_ (.t n25)) u26 <| e ?_
    refine cdf n26 ?_
    refine skp ?_
    refine sr <| m (as_ .b) u2 <| e ?_
    refine rt (ret1 (.t n2 (.p rfl) .n) ?_)
    rfl
end Go.VK
