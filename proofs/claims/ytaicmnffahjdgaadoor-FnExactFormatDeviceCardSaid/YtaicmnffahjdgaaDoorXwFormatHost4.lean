/-
  Printed by wip/tools (own work of this part): walks over the value kit
-/
import Derived.Test.YtaicmnffahjdgaaDoorXwcore4
set_option linter.unusedVariables false
set_option linter.unusedSimpArgs false
set_option maxRecDepth 100000
set_option maxHeartbeats 4000000
namespace Go.VK
open Go.RowKit Go.Proofs
theorem sp_laws_szKeeperS (l : List D.Keeper) (left : Int) (h0 : 0 ≤ left) (h1 : left ≤ 1048576) : Spec Tryd.prog G0 46 [.slice 5 (l.map D.Keeper.V), .int .i64 left] (fun r => ∃ n : Int, r = .int .i64 n ∧ (0 ≤ n → (l.length : Int) + n ≤ left)) := by
  refine enter (l := [.tmp 4]) Tryd.func46 rfl Tryd.ntmps46 rfl T.en46 fun E => ?_
  simp only [List.length_cons, List.length_nil, List.replicate_succ, List.replicate_zero, List.cons_append, List.nil_append, Nat.reduceAdd, Nat.reduceSub]
  refine rngl n0 fun hlen => ?_
  simp only [List.length_map, maxLen] at hlen
  have hw : IntKind.i64.wrap (left - (l.length : Int)) = left - (l.length : Int) := by rw [IntKind.wrap_i64]; omega
  refine sr <| m (as_ (.i rfl)) u4 <| e ?_
  refine sr <| m (mv (.t n1)) u5 <| m (mv (.t n0)) u6 <| m (lenm T.s37 (.t n6)) u7 <| m (sub (.t n5) (.t n7)) u8 <| m (as_ (.t n8)) u1 <| e ?_
  refine sq ?_
  refine sr <| m (mv (.t n1)) u9 <| m (lss (.t n9) (.i rfl)) u10 <| e ?_
  refine cnd n10 (fun h1 => ?_) (fun h1 => ?_)
  ·
    replace h1 := of_decide_eq_true h1
    refine sr <| m (as_ (.i rfl)) u4 <| e ?_
    refine rt (ret1 (.t n4 (.p rfl) .n) ?_)
    refine ⟨_, rfl, fun hn => ?_⟩
    first | omega | (rw [hw]; omega)
  ·
    replace h1 := of_decide_eq_false h1
    refine skp ?_
    refine sr <| m (mv (.t n1)) u11 <| m (as_ (.t n11)) u4 <| e ?_
    refine rt (ret1 (.t n4 (.p rfl) .n) ?_)
    refine ⟨_, rfl, fun hn => ?_⟩
    first | omega | (rw [hw]; omega)

theorem sp_laws_szKeeperHost (x : D.KeeperHost) (left : Int) (h0 : 0 ≤ left) (h1 : left ≤ 1048576) : Spec Tryd.prog G0 14 [.agg (D.KeeperHost.V x), .int .i64 left] (fun r => ∃ n : Int, r = .int .i64 n ∧ (0 ≤ n → (x.sz : Int) + n ≤ left)) := by
  refine enter (l := [.tmp 4]) Tryd.func14 rfl Tryd.ntmps14 rfl T.en14 fun E => ?_
  simp only [List.length_cons, List.length_nil, List.replicate_succ, List.replicate_zero, List.cons_append, List.nil_append, Nat.reduceAdd, Nat.reduceSub]
  refine sr <| k (bx rfl s0 u2 (.t n0)) <| m (as_ (.i rfl)) u4 <| e ?_
  refine sr <| m (fab 5 rfl T.f39_1 (.t n2)) u5 <| m (ldb T.o37 n0 n5 (.t n5)) u6 <| m (mv (.t n1)) u7 <| cI (call (sp_laws_szKeeperS _ _ (by omega) (by first | omega | (simp only [IntKind.wrap_i64] at *; omega))) (.c (.t n6) rfl (.c (.t n7) rfl .n))) (fun _ => u8) (fun r1 hr1 => ?_)
  refine m (as_ (.t n8)) u1 <| e ?_
  refine sq ?_
  refine sr <| m (mv (.t n1)) u9 <| m (lss (.t n9) (.i rfl)) u10 <| e ?_
  refine cnd n10 (fun h2 => ?_) (fun h2 => ?_)
  ·
    replace h2 := of_decide_eq_true h2
    refine sr <| m (as_ (.i rfl)) u4 <| e ?_
    refine rt (ret1 (.t n4 (.p rfl) .n) ?_)
    refine ⟨_, rfl, fun hn => ?_⟩
    try simp only [D.Share.sz, D.Keeper.sz, D.KeeperHost.sz, D.Credential.sz, D.Account.sz, D.Challenge.sz, D.ChallengeBook.sz, D.Site.sz, D.Notice.sz, D.Mailbox.sz, D.LogEntry.sz, D.KeyStore.sz, D.Entry.sz, D.Bundle.sz, D.Device.sz] at *
    try simp only [IntKind.wrap_i64] at *
    omega
  ·
    replace h2 := of_decide_eq_false h2
    refine skp ?_
    refine sr <| m (mv (.t n1)) u11 <| m (as_ (.t n11)) u4 <| e ?_
    refine rt (ret1 (.t n4 (.p rfl) .n) ?_)
    refine ⟨_, rfl, fun hn => ?_⟩
    try simp only [D.Share.sz, D.Keeper.sz, D.KeeperHost.sz, D.Credential.sz, D.Account.sz, D.Challenge.sz, D.ChallengeBook.sz, D.Site.sz, D.Notice.sz, D.Mailbox.sz, D.LogEntry.sz, D.KeyStore.sz, D.Entry.sz, D.Bundle.sz, D.Device.sz] at *
    try simp only [IntKind.wrap_i64] at *
    omega

theorem sp_laws_toShare (x : D.Share) : Spec Tryd.prog G0 82 [.agg (D.Share.V x)] (fun r => r = .agg x.V) := by
  refine enter (l := [.cell 2 42]) Tryd.func82 rfl Tryd.ntmps82 rfl T.en82 fun E => ?_
  simp only [List.length_cons, List.length_nil, List.replicate_succ, List.replicate_zero, List.cons_append, List.nil_append, Nat.reduceAdd, Nat.reduceSub]
  refine sr <| k (bx rfl s0 u1 (.t n0)) <| k (al T.z42 s1 u2) <| e ?_
  refine sr <| k (al T.z42 s2 u3) <| e ?_
  refine sr <| m (fab 0 rfl T.f34_0 (.t n1)) u4 <| m (ldb T.o3 n0 n0 (.t n4)) u5 <| m (fab 0 rfl T.f42_0 (.t n3)) u6 <| k (st1 T.o3 rfl n2 u0 q2 (.t n6) (.t n5)) <| e ?_
  refine sr <| m (fab 1 rfl T.f34_1 (.t n1)) u7 <| m (ldb T.o3 n0 n1 (.t n7)) u8 <| m (fab 1 rfl T.f42_1 (.t n3)) u9 <| k (st1 T.o3 rfl n2 u1 q2 (.t n9) (.t n8)) <| e ?_
  refine sr <| m (lab T.a42 n2 d0 k2 (.t n3)) u10 <| k (sta T.a42 rfl rfl n1 (.z (.z .n)) q1 (.t n2) (.t n10)) <| e ?_
  refine rt (ret1 (.a n2 T.a42 n1 rfl (.c (.p rfl) (.c (.p rfl) .n)) .n) ?_)
  rfl

theorem sp_laws_toKeeper (x : D.Keeper) : Spec Tryd.prog G0 48 [.agg (D.Keeper.V x)] (fun r => r = .agg x.V) := by
  refine enter (l := [.cell 2 44]) Tryd.func48 rfl Tryd.ntmps48 rfl T.en48 fun E => ?_
  simp only [List.length_cons, List.length_nil, List.replicate_succ, List.replicate_zero, List.cons_append, List.nil_append, Nat.reduceAdd, Nat.reduceSub]
  refine sr <| k (bx rfl s0 u1 (.t n0)) <| k (al T.z44 s1 u2) <| e ?_
  refine sr <| k (al T.z44 s2 u3) <| e ?_
  refine sr <| m (fab 0 rfl T.f36_0 (.t n1)) u4 <| m (lab T.a34 n0 d0 k2 (.t n4)) u5 <| c (call (sp_laws_toShare _) (.c (.t n5) rfl .n)) u6 <| m (fab 0 rfl T.f44_0 (.t n3)) u7 <| k (sta T.a42 rfl rfl n2 (.z (.z .n)) q2 (.t n7) (.t n6)) <| e ?_
  refine sr <| m (fab 2 rfl T.f36_1 (.t n1)) u8 <| m (ldb T.o3 n0 n2 (.t n8)) u9 <| m (fab 2 rfl T.f44_1 (.t n3)) u10 <| k (st1 T.o3 rfl n2 u2 q2 (.t n10) (.t n9)) <| e ?_
  refine sr <| m (fab 3 rfl T.f36_2 (.t n1)) u11 <| m (ldb T.o3 n0 n3 (.t n11)) u12 <| m (fab 3 rfl T.f44_2 (.t n3)) u13 <| k (st1 T.o3 rfl n2 u3 q2 (.t n13) (.t n12)) <| e ?_
  refine sr <| m (fab 4 rfl T.f36_3 (.t n1)) u14 <| m (ldb T.o3 n0 n4 (.t n14)) u15 <| m (fab 4 rfl T.f44_3 (.t n3)) u16 <| k (st1 T.o3 rfl n2 u4 q2 (.t n16) (.t n15)) <| e ?_
  refine sr <| m (lab T.a44 n2 d0 k5 (.t n3)) u17 <| k (sta T.a44 rfl rfl n1 (.z (.z (.z (.z (.z .n))))) q1 (.t n2) (.t n17)) <| e ?_
  refine rt (ret1 (.a n2 T.a44 n1 rfl (.c (.p rfl) (.c (.p rfl) (.c (.p rfl) (.c (.p rfl) (.c (.p rfl) .n))))) .n) ?_)
  rfl

theorem sp_laws_toKeeperS (l : List D.Keeper) (hl : l.length ≤ 1048576) : Spec Tryd.prog G0 49 [.slice 5 (l.map D.Keeper.V)] (fun r => r = .slice 5 (l.map D.Keeper.V)) := by
  refine enter (l := [.tmp 2]) Tryd.func49 rfl Tryd.ntmps49 rfl T.en49 fun E => ?_
  simp only [List.length_cons, List.length_nil, List.replicate_succ, List.replicate_zero, List.cons_append, List.nil_append, Nat.reduceAdd, Nat.reduceSub]
  refine sr <| m (as_ .n) u2 <| e ?_
  refine sr <| m (mv (.t n0)) u5 <| m (lenm T.s37 (.t n5)) u6 <| k (mk_ T.s45 T.z44 (by omega) (by omega) s0 u7 (.t n6) (.t n6)) <| m (as_ (.t n7)) u3 <| e ?_
  refine sq ?_
  refine sr <| m (as_ (.i rfl)) u4 <| e ?_
  refine bk ?_
  refine lp (fun i : Nat => ⟨[.slice 5 (l.map D.Keeper.V), .any, .nil, .own 0, .int .i64 (i : Int), .any, .any, .own 0, .any, .any, .any, .any, .any, .any, .any, .any, .any, .any, .any, .any, .any, .any, .any], [.row 44 5 (pref D.Keeper.V l [.int .i64 0, .int .i64 0, .int .i64 0, .int .i64 0, .int .i64 0] i)]⟩) (fun i : Nat => i ≤ l.length) (fun i : Nat => l.length - i) (0) (by simp) (le [0] (by decide) (.c (.e rfl rfl) (.c .a (.c (.e rfl rfl) (.c (.w n0) (.c (.e rfl rfl) (.c .a (.c .a (.c (.w n0) (.c .a (.c .a (.c .a (.c .a (.c .a (.c .a (.c .a (.c .a (.c .a (.c .a (.c .a (.c .a (.c .a (.c .a (.c .a .n))))))))))))))))))))))) (.r n0 (pref_0 _ _ _).symm .n)) ?_
  rintro i hJ
  try dsimp only at hJ ⊢
  refine sq ?_
  refine sr <| m (mv (.t n4)) u8 <| m (mv (.t n0)) u9 <| m (lenm T.s37 (.t n9)) u10 <| m (lss (.t n8) (.t n10)) u11 <| e ?_
  refine cnd n11 (fun h1 => ?_) (fun h1 => ?_)
  ·
    replace h1 := of_decide_eq_true h1
    refine skp ?_
    refine sq ?_
    refine bk ?_
    refine rg <| m (mv (.t n3)) u14 <| m (mv (.t n4)) u15 <| m (mv (.t n0)) u16 <| m (mv (.t n4)) u17 <| m (ixm T.s37 (Int.natCast_nonneg _) (gi (by omega)) (.t n16) (.t n17)) u18 <| m (lae T.a36 k5 (.t n18)) u19 <| c (call (sp_laws_toKeeper _) (.c (.t n19) rfl .n)) u20 <| m (oix T.s45 n0 (Int.natCast_nonneg _) (by rw [Int.toNat_natCast, pref_len (by omega)]; omega) (.t n14) (.t n15)) u21 <| k (stoA rfl (by rw [Int.toNat_natCast, pref_len (by omega)]; omega) T.a44 rfl rfl rfl n0 q0 (.t n21) (.t n20)) <| e ?_
    refine rg <| m (mv (.t n4)) u12 <| m (add (.t n12) (.i rfl)) u13 <| m (as_ (.t n13)) u4 <| e ?_
    exact ⟨i + 1, (by omega), (by omega), le [0] (by decide) (.c (.e rfl rfl) (.c .a (.c (.e rfl rfl) (.c (.w n0) (.c (.e (wi (by omega)) rfl) (.c .a (.c .a (.c (.w n0) (.c .a (.c .a (.c .a (.c .a (.c .a (.c .a (.c .a (.c .a (.c .a (.c .a (.c .a (.c .a (.c .a (.c .a (.c .a .n))))))))))))))))))))))) (.r n0 (pref_set (by omega)) .n)⟩
  ·
    replace h1 := of_decide_eq_false h1
    refine ex (x1 ?_)
    refine sr <| m (mv (.t n3)) u22 <| m (as_ (.t n22)) u2 <| e ?_
    refine rt (ret1 (.t n2 (.o n0) .n) ?_)
    show V.slice _ _ = V.slice _ _
    rw [show i = l.length from by omega, pref_full]

theorem sp_laws_toKeeperHost (x : D.KeeperHost) (hl : x.sz ≤ 1048576) : Spec Tryd.prog G0 16 [.agg (D.KeeperHost.V x)] (fun r => r = .agg x.V) := by
  simp only [D.KeeperHost.sz] at hl
  refine enter (l := [.cell 2 47]) Tryd.func16 rfl Tryd.ntmps16 rfl T.en16 fun E => ?_
  simp only [List.length_cons, List.length_nil, List.replicate_succ, List.replicate_zero, List.cons_append, List.nil_append, Nat.reduceAdd, Nat.reduceSub]
  refine sr <| k (bx rfl s0 u1 (.t n0)) <| k (al T.z47 s1 u2) <| e ?_
  refine sr <| k (al T.z47 s2 u3) <| e ?_
  refine sr <| m (fab 0 rfl T.f39_0 (.t n1)) u4 <| m (lab T.a36 n0 d0 k5 (.t n4)) u5 <| c (call (sp_laws_toKeeper _) (.c (.t n5) rfl .n)) u6 <| m (fab 0 rfl T.f47_0 (.t n3)) u7 <| k (sta T.a44 rfl rfl n2 (.z (.z (.z (.z (.z .n))))) q2 (.t n7) (.t n6)) <| e ?_
  refine sr <| m (fab 5 rfl T.f39_1 (.t n1)) u8 <| m (ldb T.o37 n0 n5 (.t n8)) u9 <| c (call (sp_laws_toKeeperS _ (by first | assumption | omega)) (.c (.t n9) rfl .n)) u10 <| m (fab 5 rfl T.f47_1 (.t n3)) u11 <| k (st1 T.o45 rfl n2 u5 q2 (.t n11) (.t n10)) <| e ?_
  refine sr <| m (fab 6 rfl T.f39_2 (.t n1)) u12 <| m (ldb T.o3 n0 n6 (.t n12)) u13 <| m (fab 6 rfl T.f47_2 (.t n3)) u14 <| k (st1 T.o3 rfl n2 u6 q2 (.t n14) (.t n13)) <| e ?_
  refine sr <| m (lab T.a47 n2 d0 k7 (.t n3)) u15 <| k (sta T.a47 rfl rfl n1 (.z (.z (.z (.z (.z (.z (.z .n))))))) q1 (.t n2) (.t n15)) <| e ?_
  refine rt (ret1 (.a n2 T.a47 n1 rfl (.c (.p rfl) (.c (.p rfl) (.c (.p rfl) (.c (.p rfl) (.c (.p rfl) (.c (.p rfl) (.c (.p rfl) .n))))))) .n) ?_)
  rfl

theorem sp_laws_eqShare (x : D.Share) : Spec Tryd.prog G0 83 [.agg (D.Share.V x), .agg (D.Share.V x)] (fun r => r = .bool true) := by
  refine enter (l := [.tmp 4]) Tryd.func83 rfl Tryd.ntmps83 rfl T.en83 fun E => ?_
  simp only [List.length_cons, List.length_nil, List.replicate_succ, List.replicate_zero, List.cons_append, List.nil_append, Nat.reduceAdd, Nat.reduceSub]
  refine sr <| k (bx rfl s0 u2 (.t n0)) <| k (bx rfl s1 u3 (.t n1)) <| m (as_ .b) u4 <| e ?_
  refine sq ?_
  refine sr <| m (fab 0 rfl T.f42_0 (.t n2)) u5 <| m (ldb T.o3 n0 n0 (.t n5)) u6 <| m (fab 0 rfl T.f42_0 (.t n3)) u7 <| m (ldb T.o3 n1 n0 (.t n7)) u8 <| m (neqs (.t n6) (.t n8)) u9 <| e ?_
  refine cdf n9 ?_
  refine skp ?_
  refine sq ?_
  refine sr <| m (fab 1 rfl T.f42_1 (.t n2)) u10 <| m (ldb T.o3 n0 n1 (.t n10)) u11 <| m (fab 1 rfl T.f42_1 (.t n3)) u12 <| m (ldb T.o3 n1 n1 (.t n12)) u13 <| m (neqs (.t n11) (.t n13)) u14 <| e ?_
  refine cdf n14 ?_
  refine skp ?_
  refine sr <| m (as_ .b) u4 <| e ?_
  refine rt (ret1 (.t n4 (.p rfl) .n) ?_)
  rfl

theorem sp_laws_eqKeeper (x : D.Keeper) : Spec Tryd.prog G0 51 [.agg (D.Keeper.V x), .agg (D.Keeper.V x)] (fun r => r = .bool true) := by
  refine enter (l := [.tmp 4]) Tryd.func51 rfl Tryd.ntmps51 rfl T.en51 fun E => ?_
  simp only [List.length_cons, List.length_nil, List.replicate_succ, List.replicate_zero, List.cons_append, List.nil_append, Nat.reduceAdd, Nat.reduceSub]
  refine sr <| k (bx rfl s0 u2 (.t n0)) <| k (bx rfl s1 u3 (.t n1)) <| m (as_ .b) u4 <| e ?_
  refine sq ?_
  refine sr <| m (fab 0 rfl T.f44_0 (.t n2)) u5 <| m (lab T.a42 n0 d0 k2 (.t n5)) u6 <| m (fab 0 rfl T.f44_0 (.t n3)) u7 <| m (lab T.a42 n1 d0 k2 (.t n7)) u8 <| c (call (sp_laws_eqShare _) (.c (.t n6) rfl (.c (.t n8) rfl .n))) u9 <| m (not_ (.t n9)) u10 <| e ?_
  refine cdf n10 ?_
  refine skp ?_
  refine sq ?_
  refine sr <| m (fab 2 rfl T.f44_1 (.t n2)) u11 <| m (ldb T.o3 n0 n2 (.t n11)) u12 <| m (fab 2 rfl T.f44_1 (.t n3)) u13 <| m (ldb T.o3 n1 n2 (.t n13)) u14 <| m (neqs (.t n12) (.t n14)) u15 <| e ?_
  refine cdf n15 ?_
  refine skp ?_
  refine sq ?_
  refine sr <| m (fab 3 rfl T.f44_2 (.t n2)) u16 <| m (ldb T.o3 n0 n3 (.t n16)) u17 <| m (fab 3 rfl T.f44_2 (.t n3)) u18 <| m (ldb T.o3 n1 n3 (.t n18)) u19 <| m (neqs (.t n17) (.t n19)) u20 <| e ?_
  refine cdf n20 ?_
  refine skp ?_
  refine sq ?_
  refine sr <| m (fab 4 rfl T.f44_3 (.t n2)) u21 <| m (ldb T.o3 n0 n4 (.t n21)) u22 <| m (fab 4 rfl T.f44_3 (.t n3)) u23 <| m (ldb T.o3 n1 n4 (.t n23)) u24 <| m (neqs (.t n22) (.t n24)) u25 <| e ?_
  refine cdf n25 ?_
  refine skp ?_
  refine sr <| m (as_ .b) u4 <| e ?_
  refine rt (ret1 (.t n4 (.p rfl) .n) ?_)
  rfl

theorem sp_laws_eqKeeperS (l : List D.Keeper) : Spec Tryd.prog G0 52 [.slice 5 (l.map D.Keeper.V), .slice 5 (l.map D.Keeper.V)] (fun r => r = .bool true) := by
  refine enter (l := [.tmp 4]) Tryd.func52 rfl Tryd.ntmps52 rfl T.en52 fun E => ?_
  simp only [List.length_cons, List.length_nil, List.replicate_succ, List.replicate_zero, List.cons_append, List.nil_append, Nat.reduceAdd, Nat.reduceSub]
  refine rngl n0 fun hlen => ?_
  simp only [List.length_map, maxLen] at hlen
  refine sr <| m (as_ .b) u4 <| e ?_
  refine sq ?_
  refine sr <| m (mv (.t n0)) u6 <| m (lenm T.s45 (.t n6)) u7 <| m (mv (.t n1)) u8 <| m (lenm T.s45 (.t n8)) u9 <| m (neqs (.t n7) (.t n9)) u10 <| e ?_
  refine cdf n10 ?_
  refine skp ?_
  refine sq ?_
  refine sr <| m (as_ (.i rfl)) u5 <| e ?_
  refine bk ?_
  refine lp (fun i : Nat => ⟨[.slice 5 (l.map D.Keeper.V), .slice 5 (l.map D.Keeper.V), .any, .any, .any, .int .i64 (i : Int), .any, .any, .any, .any, .any, .any, .any, .any, .any, .any, .any, .any, .any, .any, .any, .any, .any, .any, .any, .any, .any], []⟩) (fun i : Nat => i ≤ l.length) (fun i : Nat => l.length - i) (0) (by simp) (le [] (by decide) (.c (.e rfl rfl) (.c (.e rfl rfl) (.c .a (.c .a (.c .a (.c (.e rfl rfl) (.c .a (.c .a (.c .a (.c .a (.c .a (.c .a (.c .a (.c .a (.c .a (.c .a (.c .a (.c .a (.c .a (.c .a (.c .a (.c .a (.c .a (.c .a (.c .a (.c .a (.c .a .n))))))))))))))))))))))))))) .n) ?_
  rintro i hJ
  try dsimp only at hJ ⊢
  refine sq ?_
  refine sr <| m (mv (.t n5)) u11 <| m (mv (.t n0)) u12 <| m (lenm T.s45 (.t n12)) u13 <| m (lss (.t n11) (.t n13)) u14 <| e ?_
  refine cnd n14 (fun h1 => ?_) (fun h1 => ?_)
  ·
    replace h1 := of_decide_eq_true h1
    refine skp ?_
    refine sq ?_
    refine bk ?_
    refine sd [(0, true), (1, true), (2, true), (3, true), (4, true), (5, true), (6, true), (7, true), (8, false), (9, true)] T.mix (by kernel_rfl) <| om n0 (mv (.t n0)) u17 <| om n1 (mv (.t n5)) u18 <| om n2 (ixm T.s45 (Int.natCast_nonneg _) (gi (by omega)) (.t n17) (.t n18)) u19 <| om n3 (lae T.a44 k5 (.t n19)) u20 <| om n4 (mv (.t n1)) u21 <| om n5 (mv (.t n5)) u22 <| om n6 (ixm T.s45 (Int.natCast_nonneg _) (gi (by omega)) (.t n21) (.t n22)) u23 <| om n7 (lae T.a44 k5 (.t n23)) u24 <| oc n8 (call (sp_laws_eqKeeper _) (.c (.t n20) rfl (.c (.t n24) rfl .n))) u25 <| om n9 (not_ (.t n25)) u26 <| oe ?_
    refine cdf n26 ?_
    refine skp ?_
    refine rg <| m (mv (.t n5)) u15 <| m (add (.t n15) (.i rfl)) u16 <| m (as_ (.t n16)) u5 <| e ?_
    exact ⟨i + 1, (by omega), (by omega), le [] (by decide) (.c (.e rfl rfl) (.c (.e rfl rfl) (.c .a (.c .a (.c .a (.c (.e (wi (by omega)) rfl) (.c .a (.c .a (.c .a (.c .a (.c .a (.c .a (.c .a (.c .a (.c .a (.c .a (.c .a (.c .a (.c .a (.c .a (.c .a (.c .a (.c .a (.c .a (.c .a (.c .a (.c .a .n))))))))))))))))))))))))))) .n⟩
  ·
    replace h1 := of_decide_eq_false h1
    refine ex (x1 ?_)
    refine sr <| m (as_ .b) u4 <| e ?_
    refine rt (ret1 (.t n4 (.p rfl) .n) ?_)
    rfl

theorem sp_laws_eqKeeperHost (x : D.KeeperHost) : Spec Tryd.prog G0 18 [.agg (D.KeeperHost.V x), .agg (D.KeeperHost.V x)] (fun r => r = .bool true) := by
  refine enter (l := [.tmp 4]) Tryd.func18 rfl Tryd.ntmps18 rfl T.en18 fun E => ?_
  simp only [List.length_cons, List.length_nil, List.replicate_succ, List.replicate_zero, List.cons_append, List.nil_append, Nat.reduceAdd, Nat.reduceSub]
  refine sr <| k (bx rfl s0 u2 (.t n0)) <| k (bx rfl s1 u3 (.t n1)) <| m (as_ .b) u4 <| e ?_
  refine sq ?_
  refine sr <| m (fab 0 rfl T.f47_0 (.t n2)) u5 <| m (lab T.a44 n0 d0 k5 (.t n5)) u6 <| m (fab 0 rfl T.f47_0 (.t n3)) u7 <| m (lab T.a44 n1 d0 k5 (.t n7)) u8 <| c (call (sp_laws_eqKeeper _) (.c (.t n6) rfl (.c (.t n8) rfl .n))) u9 <| m (not_ (.t n9)) u10 <| e ?_
  refine cdf n10 ?_
  refine skp ?_
  refine sq ?_
  refine sr <| m (fab 5 rfl T.f47_1 (.t n2)) u11 <| m (ldb T.o45 n0 n5 (.t n11)) u12 <| m (fab 5 rfl T.f47_1 (.t n3)) u13 <| m (ldb T.o45 n1 n5 (.t n13)) u14 <| c (call (sp_laws_eqKeeperS _) (.c (.t n12) rfl (.c (.t n14) rfl .n))) u15 <| m (not_ (.t n15)) u16 <| e ?_
  refine cdf n16 ?_
  refine skp ?_
  refine sq ?_
  refine sr <| m (fab 6 rfl T.f47_2 (.t n2)) u17 <| m (ldb T.o3 n0 n6 (.t n17)) u18 <| m (fab 6 rfl T.f47_2 (.t n3)) u19 <| m (ldb T.o3 n1 n6 (.t n19)) u20 <| m (neqs (.t n18) (.t n20)) u21 <| e ?_
  refine cdf n21 ?_
  refine skp ?_
  refine sr <| m (as_ .b) u4 <| e ?_
  refine rt (ret1 (.t n4 (.p rfl) .n) ?_)
  rfl

theorem sp_impl_progress (x : D.Keeper) : Spec Tryd.prog G0 50 [.agg x.V] (fun r => r = .int .i64 (pMark x)) := by
  refine enter (l := [.tmp 2]) Tryd.func50 rfl Tryd.ntmps50 rfl T.en50 fun E => ?_
  simp only [List.length_cons, List.length_nil, List.replicate_succ, List.replicate_zero, List.cons_append, List.nil_append, Nat.reduceAdd, Nat.reduceSub]
  refine sr <| k (bx rfl s0 u1 (.t n0)) <| m (as_ (.i rfl)) u2 <| e ?_
  refine sr <| m (fab 2 rfl T.f44_1 (.t n1)) u3 <| m (ldb T.o3 n0 n2 (.t n3)) u4 <| m (mul (.t n4) (.i rfl)) u5 <| m (fab 3 rfl T.f44_2 (.t n1)) u6 <| m (ldb T.o3 n0 n3 (.t n6)) u7 <| m (add (.t n5) (.t n7)) u8 <| m (as_ (.t n8)) u2 <| e ?_
  refine rt (ret1 (.t n2 (.p rfl) .n) ?_)
  rfl

theorem sp_spec_l24Mark (x : D.Keeper) : Spec Tryd.prog G0 47 [.agg x.V] (fun r => r = .int .i64 (pMark x)) := by
  refine enter (l := [.tmp 2]) Tryd.func47 rfl Tryd.ntmps47 rfl T.en47 fun E => ?_
  simp only [List.length_cons, List.length_nil, List.replicate_succ, List.replicate_zero, List.cons_append, List.nil_append, Nat.reduceAdd, Nat.reduceSub]
  refine sr <| k (bx rfl s0 u1 (.t n0)) <| m (as_ (.i rfl)) u2 <| e ?_
  refine sr <| m (fab 2 rfl T.f44_1 (.t n1)) u3 <| m (ldb T.o3 n0 n2 (.t n3)) u4 <| m (mul (.t n4) (.i rfl)) u5 <| m (fab 3 rfl T.f44_2 (.t n1)) u6 <| m (ldb T.o3 n0 n3 (.t n6)) u7 <| m (add (.t n5) (.t n7)) u8 <| m (as_ (.t n8)) u2 <| e ?_
  refine rt (ret1 (.t n2 (.p rfl) .n) ?_)
  rfl

theorem sp_impl_FormatHost (x : D.KeeperHost) : Spec Tryd.prog G0 17 [.agg x.V] (fun r => r = .str (fmtHost x)) := by
  refine enter (l := [.tmp 2]) Tryd.func17 rfl Tryd.ntmps17 rfl T.en17 fun E => ?_
  simp only [List.length_cons, List.length_nil, List.replicate_succ, List.replicate_zero, List.cons_append, List.nil_append, Nat.reduceAdd, Nat.reduceSub]
  refine sr <| k (bx rfl s0 u1 (.t n0)) <| m (as_ (.s rfl)) u2 <| e ?_
  refine sr <| m (fab 0 rfl T.f47_0 (.t n1)) u5 <| m (lab T.a44 n0 d0 k5 (.t n5)) u6 <| k (al T.z44 s1 u3) <| k (sta T.a44 rfl rfl n1 (.z (.z (.z (.z (.z .n))))) q1 (.t n3) (.t n6)) <| e ?_
  refine sd [(0, true), (1, true), (2, true), (5, true), (6, true), (10, true), (11, true), (15, true), (16, true), (3, false), (4, true), (7, false), (8, true), (9, true), (12, false), (13, true), (14, true), (17, false), (18, true), (19, true)] T.mix (by kernel_rfl) <| om n0 (fab 0 rfl T.f44_0 (.t n3)) u7 <| om n1 (fab 0 rfl T.f42_0 (.t n7)) u8 <| om n2 (ldb T.o3 n1 n0 (.t n8)) u9 <| om n5 (fab 2 rfl T.f44_1 (.t n3)) u12 <| om n6 (ldb T.o3 n1 n2 (.t n12)) u13 <| om n10 (fab 3 rfl T.f44_2 (.t n3)) u17 <| om n11 (ldb T.o3 n1 n3 (.t n17)) u18 <| om n15 (fab 4 rfl T.f44_3 (.t n3)) u22 <| om n16 (ldb T.o3 n1 n4 (.t n22)) u23 <| oc n3 (call (sp_impl_FormatInt _) (.c (.t n9) rfl .n)) u10 <| om n4 (sadd (sz_ok (fmtInt_sz _) (Nat.le_refl _) rfl) (.t n10) (.s rfl)) u11 <| oc n7 (call (sp_impl_FormatInt _) (.c (.t n13) rfl .n)) u14 <| om n8 (sadd (sz_ok (sz_add (fmtInt_sz _) (Nat.le_refl _)) (fmtInt_sz _) rfl) (.t n11) (.t n14)) u15 <| om n9 (sadd (sz_ok (sz_add (sz_add (fmtInt_sz _) (Nat.le_refl _)) (fmtInt_sz _)) (Nat.le_refl _) rfl) (.t n15) (.s rfl)) u16 <| oc n12 (call (sp_impl_FormatInt _) (.c (.t n18) rfl .n)) u19 <| om n13 (sadd (sz_ok (sz_add (sz_add (sz_add (fmtInt_sz _) (Nat.le_refl _)) (fmtInt_sz _)) (Nat.le_refl _)) (fmtInt_sz _) rfl) (.t n16) (.t n19)) u20 <| om n14 (sadd (sz_ok (sz_add (sz_add (sz_add (sz_add (fmtInt_sz _) (Nat.le_refl _)) (fmtInt_sz _)) (Nat.le_refl _)) (fmtInt_sz _)) (Nat.le_refl _) rfl) (.t n20) (.s rfl)) u21 <| oc n17 (call (sp_impl_FormatInt _) (.c (.t n23) rfl .n)) u24 <| om n18 (sadd (sz_ok (sz_add (sz_add (sz_add (sz_add (sz_add (fmtInt_sz _) (Nat.le_refl _)) (fmtInt_sz _)) (Nat.le_refl _)) (fmtInt_sz _)) (Nat.le_refl _)) (fmtInt_sz _) rfl) (.t n21) (.t n24)) u25 <| om n19 (as_ (.t n25)) u4 <| oe ?_
  refine sq ?_
  refine sd [(0, true), (2, true), (3, true), (1, false), (4, true)] T.mix (by kernel_rfl) <| om n0 (lab T.a44 n1 d0 k5 (.t n3)) u26 <| om n2 (fab 6 rfl T.f47_2 (.t n1)) u28 <| om n3 (ldb T.o3 n0 n6 (.t n28)) u29 <| oc n1 (call (sp_impl_progress _) (.c (.t n26) rfl .n)) u27 <| om n4 (lss (.t n27) (.t n29)) u30 <| oe ?_
  refine cnd n30 (fun h1 => ?_) (fun h1 => ?_)
  ·
    replace h1 := of_decide_eq_true h1
    refine sr <| m (mv (.t n4)) u31 <| m (sadd (sz_ok (sz_add (sz_add (sz_add (sz_add (sz_add (sz_add (fmtInt_sz _) (Nat.le_refl _)) (fmtInt_sz _)) (Nat.le_refl _)) (fmtInt_sz _)) (Nat.le_refl _)) (fmtInt_sz _)) (Nat.le_refl _) rfl) (.t n31) (.s rfl)) u32 <| m (as_ (.t n32)) u2 <| e ?_
    refine rt (ret1 (.t n2 (.p rfl) .n) ?_)
    show V.str _ = V.str _
    simp only [fmtHost]
    first | rw [if_pos h1] | rw [if_neg h1]
  ·
    replace h1 := of_decide_eq_false h1
    refine skp ?_
    refine sr <| m (mv (.t n4)) u33 <| m (as_ (.t n33)) u2 <| e ?_
    refine rt (ret1 (.t n2 (.p rfl) .n) ?_)
    show V.str _ = V.str _
    simp only [fmtHost]
    first | rw [if_pos h1] | rw [if_neg h1]

theorem sp_spec_FormatHost (x : D.KeeperHost) : Spec Tryd.prog G0 15 [.agg x.V] (fun r => r = .str (fmtHost x)) := by
  refine enter (l := [.tmp 2]) Tryd.func15 rfl Tryd.ntmps15 rfl T.en15 fun E => ?_
  simp only [List.length_cons, List.length_nil, List.replicate_succ, List.replicate_zero, List.cons_append, List.nil_append, Nat.reduceAdd, Nat.reduceSub]
  refine sr <| k (bx rfl s0 u1 (.t n0)) <| m (as_ (.s rfl)) u2 <| e ?_
  refine sr <| m (fab 0 rfl T.f47_0 (.t n1)) u5 <| m (lab T.a44 n0 d0 k5 (.t n5)) u6 <| k (al T.z44 s1 u3) <| k (sta T.a44 rfl rfl n1 (.z (.z (.z (.z (.z .n))))) q1 (.t n3) (.t n6)) <| e ?_
  refine sd [(0, true), (1, true), (2, true), (5, true), (6, true), (10, true), (11, true), (15, true), (16, true), (3, false), (4, true), (7, false), (8, true), (9, true), (12, false), (13, true), (14, true), (17, false), (18, true), (19, true)] T.mix (by kernel_rfl) <| om n0 (fab 0 rfl T.f44_0 (.t n3)) u7 <| om n1 (fab 0 rfl T.f42_0 (.t n7)) u8 <| om n2 (ldb T.o3 n1 n0 (.t n8)) u9 <| om n5 (fab 2 rfl T.f44_1 (.t n3)) u12 <| om n6 (ldb T.o3 n1 n2 (.t n12)) u13 <| om n10 (fab 3 rfl T.f44_2 (.t n3)) u17 <| om n11 (ldb T.o3 n1 n3 (.t n17)) u18 <| om n15 (fab 4 rfl T.f44_3 (.t n3)) u22 <| om n16 (ldb T.o3 n1 n4 (.t n22)) u23 <| oc n3 (call (sp_spec_FormatInt _) (.c (.t n9) rfl .n)) u10 <| om n4 (sadd (sz_ok (fmtInt_sz _) (Nat.le_refl _) rfl) (.t n10) (.s rfl)) u11 <| oc n7 (call (sp_spec_FormatInt _) (.c (.t n13) rfl .n)) u14 <| om n8 (sadd (sz_ok (sz_add (fmtInt_sz _) (Nat.le_refl _)) (fmtInt_sz _) rfl) (.t n11) (.t n14)) u15 <| om n9 (sadd (sz_ok (sz_add (sz_add (fmtInt_sz _) (Nat.le_refl _)) (fmtInt_sz _)) (Nat.le_refl _) rfl) (.t n15) (.s rfl)) u16 <| oc n12 (call (sp_spec_FormatInt _) (.c (.t n18) rfl .n)) u19 <| om n13 (sadd (sz_ok (sz_add (sz_add (sz_add (fmtInt_sz _) (Nat.le_refl _)) (fmtInt_sz _)) (Nat.le_refl _)) (fmtInt_sz _) rfl) (.t n16) (.t n19)) u20 <| om n14 (sadd (sz_ok (sz_add (sz_add (sz_add (sz_add (fmtInt_sz _) (Nat.le_refl _)) (fmtInt_sz _)) (Nat.le_refl _)) (fmtInt_sz _)) (Nat.le_refl _) rfl) (.t n20) (.s rfl)) u21 <| oc n17 (call (sp_spec_FormatInt _) (.c (.t n23) rfl .n)) u24 <| om n18 (sadd (sz_ok (sz_add (sz_add (sz_add (sz_add (sz_add (fmtInt_sz _) (Nat.le_refl _)) (fmtInt_sz _)) (Nat.le_refl _)) (fmtInt_sz _)) (Nat.le_refl _)) (fmtInt_sz _) rfl) (.t n21) (.t n24)) u25 <| om n19 (as_ (.t n25)) u4 <| oe ?_
  refine sq ?_
  refine sd [(0, true), (2, true), (3, true), (1, false), (4, true)] T.mix (by kernel_rfl) <| om n0 (lab T.a44 n1 d0 k5 (.t n3)) u26 <| om n2 (fab 6 rfl T.f47_2 (.t n1)) u28 <| om n3 (ldb T.o3 n0 n6 (.t n28)) u29 <| oc n1 (call (sp_spec_l24Mark _) (.c (.t n26) rfl .n)) u27 <| om n4 (lss (.t n27) (.t n29)) u30 <| oe ?_
  refine cnd n30 (fun h1 => ?_) (fun h1 => ?_)
  ·
    replace h1 := of_decide_eq_true h1
    refine sr <| m (mv (.t n4)) u31 <| m (sadd (sz_ok (sz_add (sz_add (sz_add (sz_add (sz_add (sz_add (fmtInt_sz _) (Nat.le_refl _)) (fmtInt_sz _)) (Nat.le_refl _)) (fmtInt_sz _)) (Nat.le_refl _)) (fmtInt_sz _)) (Nat.le_refl _) rfl) (.t n31) (.s rfl)) u32 <| m (as_ (.t n32)) u2 <| e ?_
    refine rt (ret1 (.t n2 (.p rfl) .n) ?_)
    show V.str _ = V.str _
    simp only [fmtHost]
    first | rw [if_pos h1] | rw [if_neg h1]
  ·
    replace h1 := of_decide_eq_false h1
    refine skp ?_
    refine sr <| m (mv (.t n4)) u33 <| m (as_ (.t n33)) u2 <| e ?_
    refine rt (ret1 (.t n2 (.p rfl) .n) ?_)
    show V.str _ = V.str _
    simp only [fmtHost]
    first | rw [if_pos h1] | rw [if_neg h1]

theorem sp_laws_FnExactFormatHost (x : D.KeeperHost) : Spec Tryd.prog G0 4 [.agg (D.KeeperHost.V x)] (fun r => r = .bool true) := by
  refine enter (l := [.tmp 2]) Tryd.func4 rfl Tryd.ntmps4 rfl T.en4 fun E => ?_
  simp only [List.length_cons, List.length_nil, List.replicate_succ, List.replicate_zero, List.cons_append, List.nil_append, Nat.reduceAdd, Nat.reduceSub]
  refine sr <| k (bx rfl s0 u1 (.t n0)) <| m (as_ .b) u2 <| e ?_
  refine sr <| m (as_ (.i rfl)) u3 <| e ?_
  refine sr <| m (lab T.a39 n0 d0 k7 (.t n1)) u7 <| m (mv (.t n3)) u8 <| cI (call (sp_laws_szKeeperHost _ _ (by omega) (by first | omega | (simp only [IntKind.wrap_i64] at *; omega))) (.c (.t n7) rfl (.c (.t n8) rfl .n))) (fun _ => u9) (fun r1 hr1 => ?_)
  refine m (as_ (.t n9)) u3 <| e ?_
  refine sq ?_
  refine sr <| m (mv (.t n3)) u10 <| m (lss (.t n10) (.i rfl)) u11 <| e ?_
  refine cnd n11 (fun h2 => ?_) (fun h2 => ?_)
  ·
    replace h2 := of_decide_eq_true h2
    refine sr <| m (as_ .b) u2 <| e ?_
    refine rt (ret1 (.t n2 (.p rfl) .n) ?_)
    rfl
  ·
    replace h2 := of_decide_eq_false h2
    have hsz : x.sz ≤ 1048576 := by
      have := hr1 (by omega)
      omega
    refine skp ?_
    refine sr <| m (lab T.a39 n0 d0 k7 (.t n1)) u12 <| c (call (sp_laws_toKeeperHost _ (by first | assumption | (simp only [D.Share.sz, D.Keeper.sz, D.KeeperHost.sz, D.Credential.sz, D.Account.sz, D.Challenge.sz, D.ChallengeBook.sz, D.Site.sz, D.Notice.sz, D.Mailbox.sz, D.LogEntry.sz, D.KeyStore.sz, D.Entry.sz, D.Bundle.sz, D.Device.sz] at *; omega))) (.c (.t n12) rfl .n)) u13 <| c (call (sp_spec_FormatHost _) (.c (.t n13) rfl .n)) u14 <| m (as_ (.t n14)) u4 <| e ?_
    refine sr <| m (lab T.a39 n0 d0 k7 (.t n1)) u15 <| c (call (sp_laws_toKeeperHost _ (by first | assumption | (simp only [D.Share.sz, D.Keeper.sz, D.KeeperHost.sz, D.Credential.sz, D.Account.sz, D.Challenge.sz, D.ChallengeBook.sz, D.Site.sz, D.Notice.sz, D.Mailbox.sz, D.LogEntry.sz, D.KeyStore.sz, D.Entry.sz, D.Bundle.sz, D.Device.sz] at *; omega))) (.c (.t n15) rfl .n)) u16 <| k (al T.z47 s1 u5) <| k (sta T.a47 rfl rfl n1 (.z (.z (.z (.z (.z (.z (.z .n))))))) q1 (.t n5) (.t n16)) <| e ?_
    refine sr <| m (lab T.a47 n1 d0 k7 (.t n5)) u17 <| c (call (sp_impl_FormatHost _) (.c (.t n17) rfl .n)) u18 <| m (as_ (.t n18)) u6 <| e ?_
    refine sq ?_
    refine sr <| m (mv (.t n6)) u19 <| m (mv (.t n4)) u20 <| m (snes (.t n19) (.t n20)) u21 <| e ?_
    refine cdf n21 ?_
    refine skp ?_
    refine sq ?_
    refine sd [(0, true), (1, true), (2, false), (3, false), (4, true)] T.mix (by kernel_rfl) <| om n0 (lab T.a47 n1 d0 k7 (.t n5)) u22 <| om n1 (lab T.a39 n0 d0 k7 (.t n1)) u23 <| oc n2 (call (sp_laws_toKeeperHost _ (by first | assumption | (simp only [D.Share.sz, D.Keeper.sz, D.KeeperHost.sz, D.Credential.sz, D.Account.sz, D.Challenge.sz, D.ChallengeBook.sz, D.Site.sz, D.Notice.sz, D.Mailbox.sz, D.LogEntry.sz, D.KeyStore.sz, D.Entry.sz, D.Bundle.sz, D.Device.sz] at *; omega))) (.c (.t n23) rfl .n)) u24 <| oc n3 (call (sp_laws_eqKeeperHost _) (.c (.t n22) rfl (.c (.t n24) rfl .n))) u25 <| om n4 (not_ (.t n25)) u26 <| oe ?_
    refine cdf n26 ?_
    refine skp ?_
    refine sr <| m (as_ .b) u2 <| e ?_
    refine rt (ret1 (.t n2 (.p rfl) .n) ?_)
    rfl
end Go.VK
