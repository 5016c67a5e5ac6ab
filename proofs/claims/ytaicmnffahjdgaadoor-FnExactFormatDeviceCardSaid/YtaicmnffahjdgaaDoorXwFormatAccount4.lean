/-
  Printed by wip/tools (own work of this part): walks over the value kit
-/
import Derived.Test.YtaicmnffahjdgaaDoorXwFormatHost4
set_option linter.unusedVariables false
set_option linter.unusedSimpArgs false
set_option maxRecDepth 100000
set_option maxHeartbeats 4000000
namespace Go.VK
open Go.RowKit Go.Proofs
theorem sp_laws_szCredentialS (l : List D.Credential) (left : Int) (h0 : 0 ≤ left) (h1 : left ≤ 1048576) : Spec Tryd.prog G0 39 [.slice 4 (l.map D.Credential.V), .int .i64 left] (fun r => ∃ n : Int, r = .int .i64 n ∧ (0 ≤ n → (l.length : Int) + n ≤ left)) := by
  refine enter (l := [.tmp 4]) Tryd.func39 rfl Tryd.ntmps39 rfl T.en39 fun E => ?_
  simp only [List.length_cons, List.length_nil, List.replicate_succ, List.replicate_zero, List.cons_append, List.nil_append, Nat.reduceAdd, Nat.reduceSub]
  refine rngl n0 fun hlen => ?_
  simp only [List.length_map, maxLen] at hlen
  have hw : IntKind.i64.wrap (left - (l.length : Int)) = left - (l.length : Int) := by rw [IntKind.wrap_i64]; omega
  refine sr <| m (as_ (.i rfl)) u4 <| e ?_
  refine sr <| m (mv (.t n1)) u5 <| m (mv (.t n0)) u6 <| m (lenm T.s22 (.t n6)) u7 <| m (sub (.t n5) (.t n7)) u8 <| m (as_ (.t n8)) u1 <| e ?_
  refine sq ?_
  refine sr <| m (mv (.t n1)) u9 <| m (lss (.t n9) (.i rfl)) u10 <| e ?_
  refine cnd n10 (fun h1 => ?_) (fun h1 => ?_)
  ·
    replace h1 := of_decide_eq_true h1
    refine sr <| m (as_ (.i rfl)) u4 <| e ?_
    refine rt (ret1 (.t n4 (.p rfl) .n) ?_)
    refine ⟨_, rfl, fun hn => ?_⟩
    first | omega | (rw [hw]; omega)
  ·
    replace h1 := of_decide_eq_false h1
    refine skp ?_
    refine sr <| m (mv (.t n1)) u11 <| m (as_ (.t n11)) u4 <| e ?_
    refine rt (ret1 (.t n4 (.p rfl) .n) ?_)
    refine ⟨_, rfl, fun hn => ?_⟩
    first | omega | (rw [hw]; omega)

theorem sp_laws_szAccount (x : D.Account) (left : Int) (h0 : 0 ≤ left) (h1 : left ≤ 1048576) : Spec Tryd.prog G0 9 [.agg (D.Account.V x), .int .i64 left] (fun r => ∃ n : Int, r = .int .i64 n ∧ (0 ≤ n → (x.sz : Int) + n ≤ left)) := by
  refine enter (l := [.tmp 4]) Tryd.func9 rfl Tryd.ntmps9 rfl T.en9 fun E => ?_
  simp only [List.length_cons, List.length_nil, List.replicate_succ, List.replicate_zero, List.cons_append, List.nil_append, Nat.reduceAdd, Nat.reduceSub]
  refine sr <| k (bx rfl s0 u2 (.t n0)) <| m (as_ (.i rfl)) u4 <| e ?_
  refine sr <| m (fab 2 rfl T.f24_2 (.t n2)) u5 <| m (ldb T.o22 n0 n2 (.t n5)) u6 <| m (mv (.t n1)) u7 <| cI (call (sp_laws_szCredentialS _ _ (by omega) (by first | omega | (simp only [IntKind.wrap_i64] at *; omega))) (.c (.t n6) rfl (.c (.t n7) rfl .n))) (fun _ => u8) (fun r1 hr1 => ?_)
  refine m (as_ (.t n8)) u1 <| e ?_
  refine sq ?_
  refine sr <| m (mv (.t n1)) u9 <| m (lss (.t n9) (.i rfl)) u10 <| e ?_
  refine cnd n10 (fun h2 => ?_) (fun h2 => ?_)
  ·
    replace h2 := of_decide_eq_true h2
    refine sr <| m (as_ (.i rfl)) u4 <| e ?_
    refine rt (ret1 (.t n4 (.p rfl) .n) ?_)
    refine ⟨_, rfl, fun hn => ?_⟩
    try simp only [D.Share.sz, D.Keeper.sz, D.KeeperHost.sz, D.Credential.sz, D.Account.sz, D.Challenge.sz, D.ChallengeBook.sz, D.Site.sz, D.Notice.sz, D.Mailbox.sz, D.LogEntry.sz, D.KeyStore.sz, D.Entry.sz, D.Bundle.sz, D.Device.sz] at *
    try simp only [IntKind.wrap_i64] at *
    omega
  ·
    replace h2 := of_decide_eq_false h2
    refine skp ?_
    refine sr <| m (mv (.t n1)) u11 <| m (as_ (.t n11)) u4 <| e ?_
    refine rt (ret1 (.t n4 (.p rfl) .n) ?_)
    refine ⟨_, rfl, fun hn => ?_⟩
    try simp only [D.Share.sz, D.Keeper.sz, D.KeeperHost.sz, D.Credential.sz, D.Account.sz, D.Challenge.sz, D.ChallengeBook.sz, D.Site.sz, D.Notice.sz, D.Mailbox.sz, D.LogEntry.sz, D.KeyStore.sz, D.Entry.sz, D.Bundle.sz, D.Device.sz] at *
    try simp only [IntKind.wrap_i64] at *
    omega

theorem sp_laws_toCredential (x : D.Credential) : Spec Tryd.prog G0 79 [.agg (D.Credential.V x)] (fun r => r = .agg x.V) := by
  refine enter (l := [.cell 2 110]) Tryd.func79 rfl Tryd.ntmps79 rfl T.en79 fun E => ?_
  simp only [List.length_cons, List.length_nil, List.replicate_succ, List.replicate_zero, List.cons_append, List.nil_append, Nat.reduceAdd, Nat.reduceSub]
  refine sr <| k (bx rfl s0 u1 (.t n0)) <| k (al T.z110 s1 u2) <| e ?_
  refine sr <| k (al T.z110 s2 u3) <| e ?_
  refine sr <| m (fab 0 rfl T.f148_0 (.t n1)) u4 <| m (ldb T.o3 n0 n0 (.t n4)) u5 <| m (fab 0 rfl T.f110_0 (.t n3)) u6 <| k (st1 T.o3 rfl n2 u0 q2 (.t n6) (.t n5)) <| e ?_
  refine sr <| m (fab 1 rfl T.f148_1 (.t n1)) u7 <| m (ldb T.o3 n0 n1 (.t n7)) u8 <| m (fab 1 rfl T.f110_1 (.t n3)) u9 <| k (st1 T.o3 rfl n2 u1 q2 (.t n9) (.t n8)) <| e ?_
  refine sr <| m (fab 2 rfl T.f148_2 (.t n1)) u10 <| m (ldb T.o3 n0 n2 (.t n10)) u11 <| m (fab 2 rfl T.f110_2 (.t n3)) u12 <| k (st1 T.o3 rfl n2 u2 q2 (.t n12) (.t n11)) <| e ?_
  refine sr <| m (fab 3 rfl T.f148_3 (.t n1)) u13 <| m (ldb T.o4 n0 n3 (.t n13)) u14 <| m (fab 3 rfl T.f110_3 (.t n3)) u15 <| k (st1 T.o4 rfl n2 u3 q2 (.t n15) (.t n14)) <| e ?_
  refine sr <| m (lab T.a110 n2 d0 k4 (.t n3)) u16 <| k (sta T.a110 rfl rfl n1 (.z (.z (.z (.z .n)))) q1 (.t n2) (.t n16)) <| e ?_
  refine rt (ret1 (.a n2 T.a110 n1 rfl (.c (.p rfl) (.c (.p rfl) (.c (.p rfl) (.c (.p rfl) .n)))) .n) ?_)
  rfl

theorem sp_laws_toCredentialS (l : List D.Credential) (hl : l.length ≤ 1048576) : Spec Tryd.prog G0 42 [.slice 4 (l.map D.Credential.V)] (fun r => r = .slice 4 (l.map D.Credential.V)) := by
  refine enter (l := [.tmp 2]) Tryd.func42 rfl Tryd.ntmps42 rfl T.en42 fun E => ?_
  simp only [List.length_cons, List.length_nil, List.replicate_succ, List.replicate_zero, List.cons_append, List.nil_append, Nat.reduceAdd, Nat.reduceSub]
  refine sr <| m (as_ .n) u2 <| e ?_
  refine sr <| m (mv (.t n0)) u5 <| m (lenm T.s22 (.t n5)) u6 <| k (mk_ T.s27 T.z110 (by omega) (by omega) s0 u7 (.t n6) (.t n6)) <| m (as_ (.t n7)) u3 <| e ?_
  refine sq ?_
  refine sr <| m (as_ (.i rfl)) u4 <| e ?_
  refine bk ?_
  refine lp (fun i : Nat => ⟨[.slice 4 (l.map D.Credential.V), .any, .nil, .own 0, .int .i64 (i : Int), .any, .any, .own 0, .any, .any, .any, .any, .any, .any, .any, .any, .any, .any, .any, .any, .any, .any, .any], [.row 110 4 (pref D.Credential.V l [.int .i64 0, .int .i64 0, .int .i64 0, .bool false] i)]⟩) (fun i : Nat => i ≤ l.length) (fun i : Nat => l.length - i) (0) (by simp) (le [0] (by decide) (.c (.e rfl rfl) (.c .a (.c (.e rfl rfl) (.c (.w n0) (.c (.e rfl rfl) (.c .a (.c .a (.c (.w n0) (.c .a (.c .a (.c .a (.c .a (.c .a (.c .a (.c .a (.c .a (.c .a (.c .a (.c .a (.c .a (.c .a (.c .a (.c .a .n))))))))))))))))))))))) (.r n0 (pref_0 _ _ _).symm .n)) ?_
  rintro i hJ
  try dsimp only at hJ ⊢
  refine sq ?_
  refine sr <| m (mv (.t n4)) u8 <| m (mv (.t n0)) u9 <| m (lenm T.s22 (.t n9)) u10 <| m (lss (.t n8) (.t n10)) u11 <| e ?_
  refine cnd n11 (fun h1 => ?_) (fun h1 => ?_)
  ·
    replace h1 := of_decide_eq_true h1
    refine skp ?_
    refine sq ?_
    refine bk ?_
    refine rg <| m (mv (.t n3)) u14 <| m (mv (.t n4)) u15 <| m (mv (.t n0)) u16 <| m (mv (.t n4)) u17 <| m (ixm T.s22 (Int.natCast_nonneg _) (gi (by omega)) (.t n16) (.t n17)) u18 <| m (lae T.a148 k4 (.t n18)) u19 <| c (call (sp_laws_toCredential _) (.c (.t n19) rfl .n)) u20 <| m (oix T.s27 n0 (Int.natCast_nonneg _) (by rw [Int.toNat_natCast, pref_len (by omega)]; omega) (.t n14) (.t n15)) u21 <| k (stoA rfl (by rw [Int.toNat_natCast, pref_len (by omega)]; omega) T.a110 rfl rfl rfl n0 q0 (.t n21) (.t n20)) <| e ?_
    refine rg <| m (mv (.t n4)) u12 <| m (add (.t n12) (.i rfl)) u13 <| m (as_ (.t n13)) u4 <| e ?_
    exact ⟨i + 1, (by omega), (by omega), le [0] (by decide) (.c (.e rfl rfl) (.c .a (.c (.e rfl rfl) (.c (.w n0) (.c (.e (wi (by omega)) rfl) (.c .a (.c .a (.c (.w n0) (.c .a (.c .a (.c .a (.c .a (.c .a (.c .a (.c .a (.c .a (.c .a (.c .a (.c .a (.c .a (.c .a (.c .a (.c .a .n))))))))))))))))))))))) (.r n0 (pref_set (by omega)) .n)⟩
  ·
    replace h1 := of_decide_eq_false h1
    refine ex (x1 ?_)
    refine sr <| m (mv (.t n3)) u22 <| m (as_ (.t n22)) u2 <| e ?_
    refine rt (ret1 (.t n2 (.o n0) .n) ?_)
    show V.slice _ _ = V.slice _ _
    rw [show i = l.length from by omega, pref_full]

theorem sp_laws_toAccount (x : D.Account) (hl : x.sz ≤ 1048576) : Spec Tryd.prog G0 11 [.agg (D.Account.V x)] (fun r => r = .agg x.V) := by
  simp only [D.Account.sz] at hl
  refine enter (l := [.cell 2 29]) Tryd.func11 rfl Tryd.ntmps11 rfl T.en11 fun E => ?_
  simp only [List.length_cons, List.length_nil, List.replicate_succ, List.replicate_zero, List.cons_append, List.nil_append, Nat.reduceAdd, Nat.reduceSub]
  refine sr <| k (bx rfl s0 u1 (.t n0)) <| k (al T.z29 s1 u2) <| e ?_
  refine sr <| k (al T.z29 s2 u3) <| e ?_
  refine sr <| m (fab 0 rfl T.f24_0 (.t n1)) u4 <| m (ldb T.o3 n0 n0 (.t n4)) u5 <| m (fab 0 rfl T.f29_0 (.t n3)) u6 <| k (st1 T.o3 rfl n2 u0 q2 (.t n6) (.t n5)) <| e ?_
  refine sr <| m (fab 1 rfl T.f24_1 (.t n1)) u7 <| m (ldb T.o3 n0 n1 (.t n7)) u8 <| m (fab 1 rfl T.f29_1 (.t n3)) u9 <| k (st1 T.o3 rfl n2 u1 q2 (.t n9) (.t n8)) <| e ?_
  refine sr <| m (fab 2 rfl T.f24_2 (.t n1)) u10 <| m (ldb T.o22 n0 n2 (.t n10)) u11 <| c (call (sp_laws_toCredentialS _ (by first | assumption | omega)) (.c (.t n11) rfl .n)) u12 <| m (fab 2 rfl T.f29_2 (.t n3)) u13 <| k (st1 T.o27 rfl n2 u2 q2 (.t n13) (.t n12)) <| e ?_
  refine sr <| m (lab T.a29 n2 d0 k3 (.t n3)) u14 <| k (sta T.a29 rfl rfl n1 (.z (.z (.z .n))) q1 (.t n2) (.t n14)) <| e ?_
  refine rt (ret1 (.a n2 T.a29 n1 rfl (.c (.p rfl) (.c (.p rfl) (.c (.p rfl) .n))) .n) ?_)
  rfl

theorem sp_laws_eqCredential (x : D.Credential) : Spec Tryd.prog G0 81 [.agg (D.Credential.V x), .agg (D.Credential.V x)] (fun r => r = .bool true) := by
  refine enter (l := [.tmp 4]) Tryd.func81 rfl Tryd.ntmps81 rfl T.en81 fun E => ?_
  simp only [List.length_cons, List.length_nil, List.replicate_succ, List.replicate_zero, List.cons_append, List.nil_append, Nat.reduceAdd, Nat.reduceSub]
  refine sr <| k (bx rfl s0 u2 (.t n0)) <| k (bx rfl s1 u3 (.t n1)) <| m (as_ .b) u4 <| e ?_
  refine sq ?_
  refine sr <| m (fab 0 rfl T.f110_0 (.t n2)) u5 <| m (ldb T.o3 n0 n0 (.t n5)) u6 <| m (fab 0 rfl T.f110_0 (.t n3)) u7 <| m (ldb T.o3 n1 n0 (.t n7)) u8 <| m (neqs (.t n6) (.t n8)) u9 <| e ?_
  refine cdf n9 ?_
  refine skp ?_
  refine sq ?_
  refine sr <| m (fab 1 rfl T.f110_1 (.t n2)) u10 <| m (ldb T.o3 n0 n1 (.t n10)) u11 <| m (fab 1 rfl T.f110_1 (.t n3)) u12 <| m (ldb T.o3 n1 n1 (.t n12)) u13 <| m (neqs (.t n11) (.t n13)) u14 <| e ?_
  refine cdf n14 ?_
  refine skp ?_
  refine sq ?_
  refine sr <| m (fab 2 rfl T.f110_2 (.t n2)) u15 <| m (ldb T.o3 n0 n2 (.t n15)) u16 <| m (fab 2 rfl T.f110_2 (.t n3)) u17 <| m (ldb T.o3 n1 n2 (.t n17)) u18 <| m (neqs (.t n16) (.t n18)) u19 <| e ?_
  refine cdf n19 ?_
  refine skp ?_
  refine sq ?_
  refine sr <| m (fab 3 rfl T.f110_3 (.t n2)) u20 <| m (ldb T.o4 n0 n3 (.t n20)) u21 <| m (fab 3 rfl T.f110_3 (.t n3)) u22 <| m (ldb T.o4 n1 n3 (.t n22)) u23 <| m (bnes Tryd.underlying4 (.t n21) (.t n23)) u24 <| e ?_
  refine cdf n24 ?_
  refine skp ?_
  refine sr <| m (as_ .b) u4 <| e ?_
  refine rt (ret1 (.t n4 (.p rfl) .n) ?_)
  rfl

theorem sp_laws_eqCredentialS (l : List D.Credential) : Spec Tryd.prog G0 45 [.slice 4 (l.map D.Credential.V), .slice 4 (l.map D.Credential.V)] (fun r => r = .bool true) := by
  refine enter (l := [.tmp 4]) Tryd.func45 rfl Tryd.ntmps45 rfl T.en45 fun E => ?_
  simp only [List.length_cons, List.length_nil, List.replicate_succ, List.replicate_zero, List.cons_append, List.nil_append, Nat.reduceAdd, Nat.reduceSub]
  refine rngl n0 fun hlen => ?_
  simp only [List.length_map, maxLen] at hlen
  refine sr <| m (as_ .b) u4 <| e ?_
  refine sq ?_
  refine sr <| m (mv (.t n0)) u6 <| m (lenm T.s27 (.t n6)) u7 <| m (mv (.t n1)) u8 <| m (lenm T.s27 (.t n8)) u9 <| m (neqs (.t n7) (.t n9)) u10 <| e ?_
  refine cdf n10 ?_
  refine skp ?_
  refine sq ?_
  refine sr <| m (as_ (.i rfl)) u5 <| e ?_
  refine bk ?_
  refine lp (fun i : Nat => ⟨[.slice 4 (l.map D.Credential.V), .slice 4 (l.map D.Credential.V), .any, .any, .any, .int .i64 (i : Int), .any, .any, .any, .any, .any, .any, .any, .any, .any, .any, .any, .any, .any, .any, .any, .any, .any, .any, .any, .any, .any], []⟩) (fun i : Nat => i ≤ l.length) (fun i : Nat => l.length - i) (0) (by simp) (le [] (by decide) (.c (.e rfl rfl) (.c (.e rfl rfl) (.c .a (.c .a (.c .a (.c (.e rfl rfl) (.c .a (.c .a (.c .a (.c .a (.c .a (.c .a (.c .a (.c .a (.c .a (.c .a (.c .a (.c .a (.c .a (.c .a (.c .a (.c .a (.c .a (.c .a (.c .a (.c .a (.c .a .n))))))))))))))))))))))))))) .n) ?_
  rintro i hJ
  try dsimp only at hJ ⊢
  refine sq ?_
  refine sr <| m (mv (.t n5)) u11 <| m (mv (.t n0)) u12 <| m (lenm T.s27 (.t n12)) u13 <| m (lss (.t n11) (.t n13)) u14 <| e ?_
  refine cnd n14 (fun h1 => ?_) (fun h1 => ?_)
  ·
    replace h1 := of_decide_eq_true h1
    refine skp ?_
    refine sq ?_
    refine bk ?_
    refine sd [(0, true), (1, true), (2, true), (3, true), (4, true), (5, true), (6, true), (7, true), (8, false), (9, true)] T.mix (by kernel_rfl) <| om n0 (mv (.t n0)) u17 <| om n1 (mv (.t n5)) u18 <| om n2 (ixm T.s27 (Int.natCast_nonneg _) (gi (by omega)) (.t n17) (.t n18)) u19 <| om n3 (lae T.a110 k4 (.t n19)) u20 <| om n4 (mv (.t n1)) u21 <| om n5 (mv (.t n5)) u22 <| om n6 (ixm T.s27 (Int.natCast_nonneg _) (gi (by omega)) (.t n21) (.t n22)) u23 <| om n7 (lae T.a110 k4 (.t n23)) u24 <| oc n8 (call (sp_laws_eqCredential _) (.c (.t n20) rfl (.c (.t n24) rfl .n))) u25 <| om n9 (not_ (.t n25)) u26 <| oe ?_
    refine cdf n26 ?_
    refine skp ?_
    refine rg <| m (mv (.t n5)) u15 <| m (add (.t n15) (.i rfl)) u16 <| m (as_ (.t n16)) u5 <| e ?_
    exact ⟨i + 1, (by omega), (by omega), le [] (by decide) (.c (.e rfl rfl) (.c (.e rfl rfl) (.c .a (.c .a (.c .a (.c (.e (wi (by omega)) rfl) (.c .a (.c .a (.c .a (.c .a (.c .a (.c .a (.c .a (.c .a (.c .a (.c .a (.c .a (.c .a (.c .a (.c .a (.c .a (.c .a (.c .a (.c .a (.c .a (.c .a (.c .a .n))))))))))))))))))))))))))) .n⟩
  ·
    replace h1 := of_decide_eq_false h1
    refine ex (x1 ?_)
    refine sr <| m (as_ .b) u4 <| e ?_
    refine rt (ret1 (.t n4 (.p rfl) .n) ?_)
    rfl

theorem sp_laws_eqAccount (x : D.Account) : Spec Tryd.prog G0 13 [.agg (D.Account.V x), .agg (D.Account.V x)] (fun r => r = .bool true) := by
  refine enter (l := [.tmp 4]) Tryd.func13 rfl Tryd.ntmps13 rfl T.en13 fun E => ?_
  simp only [List.length_cons, List.length_nil, List.replicate_succ, List.replicate_zero, List.cons_append, List.nil_append, Nat.reduceAdd, Nat.reduceSub]
  refine sr <| k (bx rfl s0 u2 (.t n0)) <| k (bx rfl s1 u3 (.t n1)) <| m (as_ .b) u4 <| e ?_
  refine sq ?_
  refine sr <| m (fab 0 rfl T.f29_0 (.t n2)) u5 <| m (ldb T.o3 n0 n0 (.t n5)) u6 <| m (fab 0 rfl T.f29_0 (.t n3)) u7 <| m (ldb T.o3 n1 n0 (.t n7)) u8 <| m (neqs (.t n6) (.t n8)) u9 <| e ?_
  refine cdf n9 ?_
  refine skp ?_
  refine sq ?_
  refine sr <| m (fab 1 rfl T.f29_1 (.t n2)) u10 <| m (ldb T.o3 n0 n1 (.t n10)) u11 <| m (fab 1 rfl T.f29_1 (.t n3)) u12 <| m (ldb T.o3 n1 n1 (.t n12)) u13 <| m (neqs (.t n11) (.t n13)) u14 <| e ?_
  refine cdf n14 ?_
  refine skp ?_
  refine sq ?_
  refine sr <| m (fab 2 rfl T.f29_2 (.t n2)) u15 <| m (ldb T.o27 n0 n2 (.t n15)) u16 <| m (fab 2 rfl T.f29_2 (.t n3)) u17 <| m (ldb T.o27 n1 n2 (.t n17)) u18 <| c (call (sp_laws_eqCredentialS _) (.c (.t n16) rfl (.c (.t n18) rfl .n))) u19 <| m (not_ (.t n19)) u20 <| e ?_
  refine cdf n20 ?_
  refine skp ?_
  refine sr <| m (as_ .b) u4 <| e ?_
  refine rt (ret1 (.t n4 (.p rfl) .n) ?_)
  rfl

theorem sp_impl_FormatAccount (x : D.Account) (hl : x.sz ≤ 1048576) : Spec Tryd.prog G0 12 [.agg x.V] (fun r => r = .str (fmtAccount x)) := by
  refine enter (l := [.tmp 2]) Tryd.func12 rfl Tryd.ntmps12 rfl T.en12 fun E => ?_
  simp only [List.length_cons, List.length_nil, List.replicate_succ, List.replicate_zero, List.cons_append, List.nil_append, Nat.reduceAdd, Nat.reduceSub]
  have hcl : x.Credentials.length ≤ 1048576 := hl
  refine sr <| k (bx rfl s0 u1 (.t n0)) <| m (as_ (.s rfl)) u2 <| e ?_
  refine sr <| m (as_ (.s rfl)) u3 <| e ?_
  refine sq ?_
  refine sr <| m (fab 1 rfl T.f29_1 (.t n1)) u7 <| m (ldb T.o3 n0 n1 (.t n7)) u8 <| c (call (sp_impl_InRange _ _ _) (.c (.t n8) rfl (.c (.i rfl) rfl (.c (.i rfl) rfl .n)))) u9 <| e ?_
  refine cnd n9 (fun h1 => ?_) (fun h1 => ?_)
  ·
    replace h1 := inR_t h1
    refine rg <| k (bs T.s107 rfl rfl (.c (.s rfl) rfl rfl rfl (.c (.s rfl) rfl rfl rfl (.c (.s rfl) rfl rfl rfl .n))) u10) <| m (fab 1 rfl T.f29_1 (.t n1)) u11 <| m (ldb T.o3 n0 n1 (.t n11)) u12 <| m (sub (.t n12) (.i rfl)) u13 <| m (ix T.s107 (by rw [wrap64_id (by omega) (by omega)]; omega) (acctM_1 h1) (.t n10) (.t n13)) u14 <| m (lde T.o9 n0 (.t n14)) u15 <| m (as_ (.t n15)) u3 <| e ?_
    refine sr <| m (fab 0 rfl T.f29_0 (.t n1)) u16 <| m (ldb T.o3 n0 n0 (.t n16)) u17 <| c (call (sp_impl_FormatInt _) (.c (.t n17) rfl .n)) u18 <| m (sadd (sz_ok (fmtInt_sz _) (Nat.le_refl _) rfl) (.t n18) (.s rfl)) u19 <| m (mv (.t n3)) u20 <| m (sadd (sz_ok (sz_add (fmtInt_sz _) (Nat.le_refl _)) (acctM_sz _) rfl) (.t n19) (.t n20)) u21 <| m (as_ (.t n21)) u4 <| e ?_
    refine sq ?_
    refine sr <| m (fab 2 rfl T.f29_2 (.t n1)) u22 <| m (ldb T.o27 n0 n2 (.t n22)) u23 <| m (lenm T.s27 (.t n23)) u24 <| m (mv (.i rfl)) u25 <| e ?_
    refine bk ?_
    refine lp (fun i : Nat => ⟨[.agg x.V, .box 0 0, .any, .any, .str (acctAcc x i), .any, .any, .box 0 1, .any, .any, .any, .box 0 1, .any, .any, .any, .any, .box 0 0, .any, .any, .any, .any, .any, .box 0 2, .slice 4 (x.Credentials.map D.Credential.V), .int .i64 (x.Credentials.length : Int), .int .i64 (i : Int), .any, .any, .any, .any, .any, .any, .any, .any, .any, .any, .any, .any, .any, .any, .any, .any, .any, .any, .any, .any], [.box 29 (x.V)]⟩) (fun i : Nat => i ≤ x.Credentials.length) (fun i : Nat => x.Credentials.length - i) (0) (by simp) (le [0] (by decide) (.c (.e rfl rfl) (.c (.b n0) (.c .a (.c .a (.c (.e (by first | rfl | (show V.str (fmtInt x.Id ++ ⟨#[32]⟩ ++ ⟨#[63]⟩) = V.str (fmtInt x.Id ++ ⟨#[32]⟩ ++ acctM x.Minimum); rw [acctM_0 h1])) rfl) (.c .a (.c .a (.c (.b n0) (.c .a (.c .a (.c .a (.c (.b n0) (.c .a (.c .a (.c .a (.c .a (.c (.b n0) (.c .a (.c .a (.c .a (.c .a (.c .a (.c (.b n0) (.c (.e rfl rfl) (.c (.e rfl rfl) (.c (.e rfl rfl) (.c .a (.c .a (.c .a (.c .a (.c .a (.c .a (.c .a (.c .a (.c .a (.c .a (.c .a (.c .a (.c .a (.c .a (.c .a (.c .a (.c .a (.c .a (.c .a (.c .a .n)))))))))))))))))))))))))))))))))))))))))))))) (.b n0 (.c (.e rfl rfl) (.c (.e rfl rfl) (.c (.e rfl rfl) .n))) .n)) ?_
    rintro i hJ
    try dsimp only at hJ ⊢
    have hacc := acctAcc_sz x i hcl
    refine sr <| m (lss (.t n25) (.t n24)) u26 <| e ?_
    refine sq ?_
    refine cnd n26 (fun h2 => ?_) (fun h2 => ?_)
    ·
      replace h2 := of_decide_eq_true h2
      refine skp ?_
      refine sq ?_
      refine bk ?_
      refine sr <| m (ixm T.s27 (Int.natCast_nonneg _) (gi (by omega)) (.t n23) (.t n25)) u27 <| m (lae T.a110 k4 (.t n27)) u28 <| k (al T.z110 s1 u6) <| k (sta T.a110 rfl rfl n1 (.z (.z (.z (.z .n)))) q1 (.t n6) (.t n28)) <| e ?_
      refine sd [(0, true), (1, true), (2, true), (3, true), (7, true), (8, true), (4, false), (5, true), (6, true), (9, false), (10, true), (11, true)] T.mix (by kernel_rfl) <| om n0 (mv (.t n4)) u29 <| om n1 (sadd (sz_ok hacc (Nat.le_refl _) rfl) (.t n29) (.s rfl)) u30 <| om n2 (fab 0 rfl T.f110_0 (.t n6)) u31 <| om n3 (ldb T.o3 n1 n0 (.t n31)) u32 <| om n7 (fab 2 rfl T.f110_2 (.t n6)) u36 <| om n8 (ldb T.o3 n1 n2 (.t n36)) u37 <| oc n4 (call (sp_impl_FormatInt _) (.c (.t n32) rfl .n)) u33 <| om n5 (sadd (sz_ok (sz_add hacc (Nat.le_refl _)) (fmtInt_sz _) rfl) (.t n30) (.t n33)) u34 <| om n6 (sadd (sz_ok (sz_add (sz_add hacc (Nat.le_refl _)) (fmtInt_sz _)) (Nat.le_refl _) rfl) (.t n34) (.s rfl)) u35 <| oc n9 (call (sp_impl_FormatInt _) (.c (.t n37) rfl .n)) u38 <| om n10 (sadd (sz_ok (sz_add (sz_add (sz_add hacc (Nat.le_refl _)) (fmtInt_sz _)) (Nat.le_refl _)) (fmtInt_sz _) rfl) (.t n35) (.t n38)) u39 <| om n11 (as_ (.t n39)) u4 <| oe ?_
      refine sr <| m (fab 3 rfl T.f110_3 (.t n6)) u40 <| m (ldb T.o4 n1 n3 (.t n40)) u41 <| e ?_
      refine cnd n41 (fun h3 => ?_) (fun h3 => ?_)
      ·
        refine rg <| m (mv (.t n4)) u42 <| m (sadd (sz_ok (sz_add (sz_add (sz_add (sz_add hacc (Nat.le_refl _)) (fmtInt_sz _)) (Nat.le_refl _)) (fmtInt_sz _)) (Nat.le_refl _) rfl) (.t n42) (.s rfl)) u43 <| m (as_ (.t n43)) u4 <| e ?_
        refine rg <| m (add (.t n25) (.i rfl)) u44 <| m (mv (.t n44)) u25 <| e ?_
        exact ⟨i + 1, (by omega), (by omega), le [0] (by decide) (.c (.e rfl rfl) (.c (.b n0) (.c .a (.c .a (.c (.e (congrArg V.str (by first | (have hh : (x.Credentials[i]'(by omega)).Cut = true := (by assumption); exact acctAcc_t hh) | (have hh : (x.Credentials[i]'(by omega)).Cut = false := (by assumption); exact acctAcc_f hh))) rfl) (.c .a (.c .a (.c (.b n0) (.c .a (.c .a (.c .a (.c (.b n0) (.c .a (.c .a (.c .a (.c .a (.c (.b n0) (.c .a (.c .a (.c .a (.c .a (.c .a (.c (.b n0) (.c (.e rfl rfl) (.c (.e rfl rfl) (.c (.e (wi (by omega)) rfl) (.c .a (.c .a (.c .a (.c .a (.c .a (.c .a (.c .a (.c .a (.c .a (.c .a (.c .a (.c .a (.c .a (.c .a (.c .a (.c .a (.c .a (.c .a (.c .a (.c .a .n)))))))))))))))))))))))))))))))))))))))))))))) (.b n0 (.c (.e rfl rfl) (.c (.e rfl rfl) (.c (.e rfl rfl) .n))) .n)⟩
      ·
        refine skp ?_
        refine rg <| m (add (.t n25) (.i rfl)) u44 <| m (mv (.t n44)) u25 <| e ?_
        exact ⟨i + 1, (by omega), (by omega), le [0] (by decide) (.c (.e rfl rfl) (.c (.b n0) (.c .a (.c .a (.c (.e (congrArg V.str (by first | (have hh : (x.Credentials[i]'(by omega)).Cut = true := (by assumption); exact acctAcc_t hh) | (have hh : (x.Credentials[i]'(by omega)).Cut = false := (by assumption); exact acctAcc_f hh))) rfl) (.c .a (.c .a (.c (.b n0) (.c .a (.c .a (.c .a (.c (.b n0) (.c .a (.c .a (.c .a (.c .a (.c (.b n0) (.c .a (.c .a (.c .a (.c .a (.c .a (.c (.b n0) (.c (.e rfl rfl) (.c (.e rfl rfl) (.c (.e (wi (by omega)) rfl) (.c .a (.c .a (.c .a (.c .a (.c .a (.c .a (.c .a (.c .a (.c .a (.c .a (.c .a (.c .a (.c .a (.c .a (.c .a (.c .a (.c .a (.c .a (.c .a (.c .a .n)))))))))))))))))))))))))))))))))))))))))))))) (.b n0 (.c (.e rfl rfl) (.c (.e rfl rfl) (.c (.e rfl rfl) .n))) .n)⟩
    ·
      replace h2 := of_decide_eq_false h2
      refine ex (x1 ?_)
      refine sr <| m (mv (.t n4)) u45 <| m (as_ (.t n45)) u2 <| e ?_
      refine rt (ret1 (.t n2 (.p rfl) .n) ?_)
      exact congrArg (fun j => V.str (acctAcc x j)) (show i = x.Credentials.length by omega)
  ·
    replace h1 := inR_f h1
    refine skp ?_
    refine sr <| m (fab 0 rfl T.f29_0 (.t n1)) u16 <| m (ldb T.o3 n0 n0 (.t n16)) u17 <| c (call (sp_impl_FormatInt _) (.c (.t n17) rfl .n)) u18 <| m (sadd (sz_ok (fmtInt_sz _) (Nat.le_refl _) rfl) (.t n18) (.s rfl)) u19 <| m (mv (.t n3)) u20 <| m (sadd (sz_ok (sz_add (fmtInt_sz _) (Nat.le_refl _)) (Nat.le_refl _) rfl) (.t n19) (.t n20)) u21 <| m (as_ (.t n21)) u4 <| e ?_
    refine sq ?_
    refine sr <| m (fab 2 rfl T.f29_2 (.t n1)) u22 <| m (ldb T.o27 n0 n2 (.t n22)) u23 <| m (lenm T.s27 (.t n23)) u24 <| m (mv (.i rfl)) u25 <| e ?_
    refine bk ?_
    refine lp (fun i : Nat => ⟨[.agg x.V, .box 0 0, .any, .any, .str (acctAcc x i), .any, .any, .box 0 1, .any, .any, .any, .any, .any, .any, .any, .any, .box 0 0, .any, .any, .any, .any, .any, .box 0 2, .slice 4 (x.Credentials.map D.Credential.V), .int .i64 (x.Credentials.length : Int), .int .i64 (i : Int), .any, .any, .any, .any, .any, .any, .any, .any, .any, .any, .any, .any, .any, .any, .any, .any, .any, .any, .any, .any], [.box 29 (x.V)]⟩) (fun i : Nat => i ≤ x.Credentials.length) (fun i : Nat => x.Credentials.length - i) (0) (by simp) (le [0] (by decide) (.c (.e rfl rfl) (.c (.b n0) (.c .a (.c .a (.c (.e (by first | rfl | (show V.str (fmtInt x.Id ++ ⟨#[32]⟩ ++ ⟨#[63]⟩) = V.str (fmtInt x.Id ++ ⟨#[32]⟩ ++ acctM x.Minimum); rw [acctM_0 h1])) rfl) (.c .a (.c .a (.c (.b n0) (.c .a (.c .a (.c .a (.c .a (.c .a (.c .a (.c .a (.c .a (.c (.b n0) (.c .a (.c .a (.c .a (.c .a (.c .a (.c (.b n0) (.c (.e rfl rfl) (.c (.e rfl rfl) (.c (.e rfl rfl) (.c .a (.c .a (.c .a (.c .a (.c .a (.c .a (.c .a (.c .a (.c .a (.c .a (.c .a (.c .a (.c .a (.c .a (.c .a (.c .a (.c .a (.c .a (.c .a (.c .a .n)))))))))))))))))))))))))))))))))))))))))))))) (.b n0 (.c (.e rfl rfl) (.c (.e rfl rfl) (.c (.e rfl rfl) .n))) .n)) ?_
    rintro i hJ
    try dsimp only at hJ ⊢
    have hacc := acctAcc_sz x i hcl
    refine sr <| m (lss (.t n25) (.t n24)) u26 <| e ?_
    refine sq ?_
    refine cnd n26 (fun h4 => ?_) (fun h4 => ?_)
    ·
      replace h4 := of_decide_eq_true h4
      refine skp ?_
      refine sq ?_
      refine bk ?_
      refine sr <| m (ixm T.s27 (Int.natCast_nonneg _) (gi (by omega)) (.t n23) (.t n25)) u27 <| m (lae T.a110 k4 (.t n27)) u28 <| k (al T.z110 s1 u6) <| k (sta T.a110 rfl rfl n1 (.z (.z (.z (.z .n)))) q1 (.t n6) (.t n28)) <| e ?_
      refine sd [(0, true), (1, true), (2, true), (3, true), (7, true), (8, true), (4, false), (5, true), (6, true), (9, false), (10, true), (11, true)] T.mix (by kernel_rfl) <| om n0 (mv (.t n4)) u29 <| om n1 (sadd (sz_ok hacc (Nat.le_refl _) rfl) (.t n29) (.s rfl)) u30 <| om n2 (fab 0 rfl T.f110_0 (.t n6)) u31 <| om n3 (ldb T.o3 n1 n0 (.t n31)) u32 <| om n7 (fab 2 rfl T.f110_2 (.t n6)) u36 <| om n8 (ldb T.o3 n1 n2 (.t n36)) u37 <| oc n4 (call (sp_impl_FormatInt _) (.c (.t n32) rfl .n)) u33 <| om n5 (sadd (sz_ok (sz_add hacc (Nat.le_refl _)) (fmtInt_sz _) rfl) (.t n30) (.t n33)) u34 <| om n6 (sadd (sz_ok (sz_add (sz_add hacc (Nat.le_refl _)) (fmtInt_sz _)) (Nat.le_refl _) rfl) (.t n34) (.s rfl)) u35 <| oc n9 (call (sp_impl_FormatInt _) (.c (.t n37) rfl .n)) u38 <| om n10 (sadd (sz_ok (sz_add (sz_add (sz_add hacc (Nat.le_refl _)) (fmtInt_sz _)) (Nat.le_refl _)) (fmtInt_sz _) rfl) (.t n35) (.t n38)) u39 <| om n11 (as_ (.t n39)) u4 <| oe ?_
      refine sr <| m (fab 3 rfl T.f110_3 (.t n6)) u40 <| m (ldb T.o4 n1 n3 (.t n40)) u41 <| e ?_
      refine cnd n41 (fun h5 => ?_) (fun h5 => ?_)
      ·
        refine rg <| m (mv (.t n4)) u42 <| m (sadd (sz_ok (sz_add (sz_add (sz_add (sz_add hacc (Nat.le_refl _)) (fmtInt_sz _)) (Nat.le_refl _)) (fmtInt_sz _)) (Nat.le_refl _) rfl) (.t n42) (.s rfl)) u43 <| m (as_ (.t n43)) u4 <| e ?_
        refine rg <| m (add (.t n25) (.i rfl)) u44 <| m (mv (.t n44)) u25 <| e ?_
        exact ⟨i + 1, (by omega), (by omega), le [0] (by decide) (.c (.e rfl rfl) (.c (.b n0) (.c .a (.c .a (.c (.e (congrArg V.str (by first | (have hh : (x.Credentials[i]'(by omega)).Cut = true := (by assumption); exact acctAcc_t hh) | (have hh : (x.Credentials[i]'(by omega)).Cut = false := (by assumption); exact acctAcc_f hh))) rfl) (.c .a (.c .a (.c (.b n0) (.c .a (.c .a (.c .a (.c .a (.c .a (.c .a (.c .a (.c .a (.c (.b n0) (.c .a (.c .a (.c .a (.c .a (.c .a (.c (.b n0) (.c (.e rfl rfl) (.c (.e rfl rfl) (.c (.e (wi (by omega)) rfl) (.c .a (.c .a (.c .a (.c .a (.c .a (.c .a (.c .a (.c .a (.c .a (.c .a (.c .a (.c .a (.c .a (.c .a (.c .a (.c .a (.c .a (.c .a (.c .a (.c .a .n)))))))))))))))))))))))))))))))))))))))))))))) (.b n0 (.c (.e rfl rfl) (.c (.e rfl rfl) (.c (.e rfl rfl) .n))) .n)⟩
      ·
        refine skp ?_
        refine rg <| m (add (.t n25) (.i rfl)) u44 <| m (mv (.t n44)) u25 <| e ?_
        exact ⟨i + 1, (by omega), (by omega), le [0] (by decide) (.c (.e rfl rfl) (.c (.b n0) (.c .a (.c .a (.c (.e (congrArg V.str (by first | (have hh : (x.Credentials[i]'(by omega)).Cut = true := (by assumption); exact acctAcc_t hh) | (have hh : (x.Credentials[i]'(by omega)).Cut = false := (by assumption); exact acctAcc_f hh))) rfl) (.c .a (.c .a (.c (.b n0) (.c .a (.c .a (.c .a (.c .a (.c .a (.c .a (.c .a (.c .a (.c (.b n0) (.c .a (.c .a (.c .a (.c .a (.c .a (.c (.b n0) (.c (.e rfl rfl) (.c (.e rfl rfl) (.c (.e (wi (by omega)) rfl) (.c .a (.c .a (.c .a (.c .a (.c .a (.c .a (.c .a (.c .a (.c .a (.c .a (.c .a (.c .a (.c .a (.c .a (.c .a (.c .a (.c .a (.c .a (.c .a (.c .a .n)))))))))))))))))))))))))))))))))))))))))))))) (.b n0 (.c (.e rfl rfl) (.c (.e rfl rfl) (.c (.e rfl rfl) .n))) .n)⟩
    ·
      replace h4 := of_decide_eq_false h4
      refine ex (x1 ?_)
      refine sr <| m (mv (.t n4)) u45 <| m (as_ (.t n45)) u2 <| e ?_
      refine rt (ret1 (.t n2 (.p rfl) .n) ?_)
      exact congrArg (fun j => V.str (acctAcc x j)) (show i = x.Credentials.length by omega)

theorem sp_spec_FormatAccount (x : D.Account) (hl : x.sz ≤ 1048576) : Spec Tryd.prog G0 10 [.agg x.V] (fun r => r = .str (fmtAccount x)) := by
  refine enter (l := [.tmp 2]) Tryd.func10 rfl Tryd.ntmps10 rfl T.en10 fun E => ?_
  simp only [List.length_cons, List.length_nil, List.replicate_succ, List.replicate_zero, List.cons_append, List.nil_append, Nat.reduceAdd, Nat.reduceSub]
  have hcl : x.Credentials.length ≤ 1048576 := hl
  refine sr <| k (bx rfl s0 u1 (.t n0)) <| m (as_ (.s rfl)) u2 <| e ?_
  refine sr <| m (as_ (.s rfl)) u3 <| e ?_
  refine sq ?_
  refine sr <| m (fab 1 rfl T.f29_1 (.t n1)) u6 <| m (ldb T.o3 n0 n1 (.t n6)) u7 <| c (call (sp_spec_l1In _ _ _) (.c (.t n7) rfl (.c (.i rfl) rfl (.c (.i rfl) rfl .n)))) u8 <| e ?_
  refine cnd n8 (fun h1 => ?_) (fun h1 => ?_)
  ·
    replace h1 := inR_t h1
    refine rg <| k (bs T.s107 rfl rfl (.c (.s rfl) rfl rfl rfl (.c (.s rfl) rfl rfl rfl (.c (.s rfl) rfl rfl rfl (.c (.s rfl) rfl rfl rfl .n)))) u9) <| m (fab 1 rfl T.f29_1 (.t n1)) u10 <| m (ldb T.o3 n0 n1 (.t n10)) u11 <| m (ix T.s107 (by omega) (acctM_2 h1) (.t n9) (.t n11)) u12 <| m (lde T.o9 n0 (.t n12)) u13 <| m (as_ (.t n13)) u3 <| e ?_
    refine sr <| m (fab 0 rfl T.f29_0 (.t n1)) u14 <| m (ldb T.o3 n0 n0 (.t n14)) u15 <| c (call (sp_spec_FormatInt _) (.c (.t n15) rfl .n)) u16 <| m (sadd (sz_ok (fmtInt_sz _) (Nat.le_refl _) rfl) (.t n16) (.s rfl)) u17 <| m (mv (.t n3)) u18 <| m (sadd (sz_ok (sz_add (fmtInt_sz _) (Nat.le_refl _)) (acctM_sz _) rfl) (.t n17) (.t n18)) u19 <| m (as_ (.t n19)) u4 <| e ?_
    refine sq ?_
    refine sr <| m (as_ (.i rfl)) u5 <| e ?_
    refine bk ?_
    refine lp (fun i : Nat => ⟨[.agg x.V, .box 0 0, .any, .any, .str (acctAcc x i), .int .i64 (i : Int), .box 0 1, .any, .any, .any, .box 0 1, .any, .any, .any, .box 0 0, .any, .any, .any, .any, .any, .any, .any, .any, .any, .any, .any, .any, .any, .any, .any, .any, .any, .any, .any, .any, .any, .any, .any, .any, .any, .any, .any, .any, .any, .any, .any, .any, .any, .any, .any, .any, .any, .any, .any, .any], [.box 29 (x.V)]⟩) (fun i : Nat => i ≤ x.Credentials.length) (fun i : Nat => x.Credentials.length - i) (0) (by simp) (le [0] (by decide) (.c (.e rfl rfl) (.c (.b n0) (.c .a (.c .a (.c (.e (by first | rfl | (show V.str (fmtInt x.Id ++ ⟨#[32]⟩ ++ ⟨#[63]⟩) = V.str (fmtInt x.Id ++ ⟨#[32]⟩ ++ acctM x.Minimum); rw [acctM_0 h1])) rfl) (.c (.e rfl rfl) (.c (.b n0) (.c .a (.c .a (.c .a (.c (.b n0) (.c .a (.c .a (.c .a (.c (.b n0) (.c .a (.c .a (.c .a (.c .a (.c .a (.c .a (.c .a (.c .a (.c .a (.c .a (.c .a (.c .a (.c .a (.c .a (.c .a (.c .a (.c .a (.c .a (.c .a (.c .a (.c .a (.c .a (.c .a (.c .a (.c .a (.c .a (.c .a (.c .a (.c .a (.c .a (.c .a (.c .a (.c .a (.c .a (.c .a (.c .a (.c .a (.c .a (.c .a (.c .a .n))))))))))))))))))))))))))))))))))))))))))))))))))))))) (.b n0 (.c (.e rfl rfl) (.c (.e rfl rfl) (.c (.e rfl rfl) .n))) .n)) ?_
    rintro i hJ
    try dsimp only at hJ ⊢
    have hacc := acctAcc_sz x i hcl
    refine sq ?_
    refine sr <| m (mv (.t n5)) u20 <| m (fab 2 rfl T.f29_2 (.t n1)) u21 <| m (ldb T.o27 n0 n2 (.t n21)) u22 <| m (lenm T.s27 (.t n22)) u23 <| m (lss (.t n20) (.t n23)) u24 <| e ?_
    refine cnd n24 (fun h2 => ?_) (fun h2 => ?_)
    ·
      replace h2 := of_decide_eq_true h2
      refine skp ?_
      refine sq ?_
      refine bk ?_
      refine sd [(0, true), (1, true), (2, true), (3, true), (4, true), (5, true), (6, true), (7, true), (11, true), (12, true), (13, true), (14, true), (15, true), (16, true), (8, false), (9, true), (10, true), (17, false), (18, true), (19, true)] T.mix (by kernel_rfl) <| om n0 (mv (.t n4)) u27 <| om n1 (sadd (sz_ok hacc (Nat.le_refl _) rfl) (.t n27) (.s rfl)) u28 <| om n2 (fab 2 rfl T.f29_2 (.t n1)) u29 <| om n3 (ldb T.o27 n0 n2 (.t n29)) u30 <| om n4 (mv (.t n5)) u31 <| om n5 (ixm T.s27 (Int.natCast_nonneg _) (gi (by omega)) (.t n30) (.t n31)) u32 <| om n6 (fae T.f110_0 d0 (.t n32)) u33 <| om n7 (lde T.o3 n0 (.t n33)) u34 <| om n11 (fab 2 rfl T.f29_2 (.t n1)) u38 <| om n12 (ldb T.o27 n0 n2 (.t n38)) u39 <| om n13 (mv (.t n5)) u40 <| om n14 (ixm T.s27 (Int.natCast_nonneg _) (gi (by omega)) (.t n39) (.t n40)) u41 <| om n15 (fae T.f110_2 d2 (.t n41)) u42 <| om n16 (lde T.o3 n0 (.t n42)) u43 <| oc n8 (call (sp_spec_FormatInt _) (.c (.t n34) rfl .n)) u35 <| om n9 (sadd (sz_ok (sz_add hacc (Nat.le_refl _)) (fmtInt_sz _) rfl) (.t n28) (.t n35)) u36 <| om n10 (sadd (sz_ok (sz_add (sz_add hacc (Nat.le_refl _)) (fmtInt_sz _)) (Nat.le_refl _) rfl) (.t n36) (.s rfl)) u37 <| oc n17 (call (sp_spec_FormatInt _) (.c (.t n43) rfl .n)) u44 <| om n18 (sadd (sz_ok (sz_add (sz_add (sz_add hacc (Nat.le_refl _)) (fmtInt_sz _)) (Nat.le_refl _)) (fmtInt_sz _) rfl) (.t n37) (.t n44)) u45 <| om n19 (as_ (.t n45)) u4 <| oe ?_
      refine sr <| m (fab 2 rfl T.f29_2 (.t n1)) u46 <| m (ldb T.o27 n0 n2 (.t n46)) u47 <| m (mv (.t n5)) u48 <| m (ixm T.s27 (Int.natCast_nonneg _) (gi (by omega)) (.t n47) (.t n48)) u49 <| m (fae T.f110_3 d3 (.t n49)) u50 <| m (lde T.o4 n0 (.t n50)) u51 <| e ?_
      refine cnd n51 (fun h3 => ?_) (fun h3 => ?_)
      ·
        refine rg <| m (mv (.t n4)) u52 <| m (sadd (sz_ok (sz_add (sz_add (sz_add (sz_add hacc (Nat.le_refl _)) (fmtInt_sz _)) (Nat.le_refl _)) (fmtInt_sz _)) (Nat.le_refl _) rfl) (.t n52) (.s rfl)) u53 <| m (as_ (.t n53)) u4 <| e ?_
        refine rg <| m (mv (.t n5)) u25 <| m (add (.t n25) (.i rfl)) u26 <| m (as_ (.t n26)) u5 <| e ?_
        exact ⟨i + 1, (by omega), (by omega), le [0] (by decide) (.c (.e rfl rfl) (.c (.b n0) (.c .a (.c .a (.c (.e (congrArg V.str (by first | (have hh : (x.Credentials[i]'(by omega)).Cut = true := (by assumption); exact acctAcc_t hh) | (have hh : (x.Credentials[i]'(by omega)).Cut = false := (by assumption); exact acctAcc_f hh))) rfl) (.c (.e (wi (by omega)) rfl) (.c (.b n0) (.c .a (.c .a (.c .a (.c (.b n0) (.c .a (.c .a (.c .a (.c (.b n0) (.c .a (.c .a (.c .a (.c .a (.c .a (.c .a (.c .a (.c .a (.c .a (.c .a (.c .a (.c .a (.c .a (.c .a (.c .a (.c .a (.c .a (.c .a (.c .a (.c .a (.c .a (.c .a (.c .a (.c .a (.c .a (.c .a (.c .a (.c .a (.c .a (.c .a (.c .a (.c .a (.c .a (.c .a (.c .a (.c .a (.c .a (.c .a (.c .a (.c .a .n))))))))))))))))))))))))))))))))))))))))))))))))))))))) (.b n0 (.c (.e rfl rfl) (.c (.e rfl rfl) (.c (.e rfl rfl) .n))) .n)⟩
      ·
        refine skp ?_
        refine rg <| m (mv (.t n5)) u25 <| m (add (.t n25) (.i rfl)) u26 <| m (as_ (.t n26)) u5 <| e ?_
        exact ⟨i + 1, (by omega), (by omega), le [0] (by decide) (.c (.e rfl rfl) (.c (.b n0) (.c .a (.c .a (.c (.e (congrArg V.str (by first | (have hh : (x.Credentials[i]'(by omega)).Cut = true := (by assumption); exact acctAcc_t hh) | (have hh : (x.Credentials[i]'(by omega)).Cut = false := (by assumption); exact acctAcc_f hh))) rfl) (.c (.e (wi (by omega)) rfl) (.c (.b n0) (.c .a (.c .a (.c .a (.c (.b n0) (.c .a (.c .a (.c .a (.c (.b n0) (.c .a (.c .a (.c .a (.c .a (.c .a (.c .a (.c .a (.c .a (.c .a (.c .a (.c .a (.c .a (.c .a (.c .a (.c .a (.c .a (.c .a (.c .a (.c .a (.c .a (.c .a (.c .a (.c .a (.c .a (.c .a (.c .a (.c .a (.c .a (.c .a (.c .a (.c .a (.c .a (.c .a (.c .a (.c .a (.c .a (.c .a (.c .a (.c .a (.c .a .n))))))))))))))))))))))))))))))))))))))))))))))))))))))) (.b n0 (.c (.e rfl rfl) (.c (.e rfl rfl) (.c (.e rfl rfl) .n))) .n)⟩
    ·
      replace h2 := of_decide_eq_false h2
      refine ex (x1 ?_)
      refine sr <| m (mv (.t n4)) u54 <| m (as_ (.t n54)) u2 <| e ?_
      refine rt (ret1 (.t n2 (.p rfl) .n) ?_)
      exact congrArg (fun j => V.str (acctAcc x j)) (show i = x.Credentials.length by omega)
  ·
    replace h1 := inR_f h1
    refine skp ?_
    refine sr <| m (fab 0 rfl T.f29_0 (.t n1)) u14 <| m (ldb T.o3 n0 n0 (.t n14)) u15 <| c (call (sp_spec_FormatInt _) (.c (.t n15) rfl .n)) u16 <| m (sadd (sz_ok (fmtInt_sz _) (Nat.le_refl _) rfl) (.t n16) (.s rfl)) u17 <| m (mv (.t n3)) u18 <| m (sadd (sz_ok (sz_add (fmtInt_sz _) (Nat.le_refl _)) (Nat.le_refl _) rfl) (.t n17) (.t n18)) u19 <| m (as_ (.t n19)) u4 <| e ?_
    refine sq ?_
    refine sr <| m (as_ (.i rfl)) u5 <| e ?_
    refine bk ?_
    refine lp (fun i : Nat => ⟨[.agg x.V, .box 0 0, .any, .any, .str (acctAcc x i), .int .i64 (i : Int), .box 0 1, .any, .any, .any, .any, .any, .any, .any, .box 0 0, .any, .any, .any, .any, .any, .any, .any, .any, .any, .any, .any, .any, .any, .any, .any, .any, .any, .any, .any, .any, .any, .any, .any, .any, .any, .any, .any, .any, .any, .any, .any, .any, .any, .any, .any, .any, .any, .any, .any, .any], [.box 29 (x.V)]⟩) (fun i : Nat => i ≤ x.Credentials.length) (fun i : Nat => x.Credentials.length - i) (0) (by simp) (le [0] (by decide) (.c (.e rfl rfl) (.c (.b n0) (.c .a (.c .a (.c (.e (by first | rfl | (show V.str (fmtInt x.Id ++ ⟨#[32]⟩ ++ ⟨#[63]⟩) = V.str (fmtInt x.Id ++ ⟨#[32]⟩ ++ acctM x.Minimum); rw [acctM_0 h1])) rfl) (.c (.e rfl rfl) (.c (.b n0) (.c .a (.c .a (.c .a (.c .a (.c .a (.c .a (.c .a (.c (.b n0) (.c .a (.c .a (.c .a (.c .a (.c .a (.c .a (.c .a (.c .a (.c .a (.c .a (.c .a (.c .a (.c .a (.c .a (.c .a (.c .a (.c .a (.c .a (.c .a (.c .a (.c .a (.c .a (.c .a (.c .a (.c .a (.c .a (.c .a (.c .a (.c .a (.c .a (.c .a (.c .a (.c .a (.c .a (.c .a (.c .a (.c .a (.c .a (.c .a (.c .a .n))))))))))))))))))))))))))))))))))))))))))))))))))))))) (.b n0 (.c (.e rfl rfl) (.c (.e rfl rfl) (.c (.e rfl rfl) .n))) .n)) ?_
    rintro i hJ
    try dsimp only at hJ ⊢
    have hacc := acctAcc_sz x i hcl
    refine sq ?_
    refine sr <| m (mv (.t n5)) u20 <| m (fab 2 rfl T.f29_2 (.t n1)) u21 <| m (ldb T.o27 n0 n2 (.t n21)) u22 <| m (lenm T.s27 (.t n22)) u23 <| m (lss (.t n20) (.t n23)) u24 <| e ?_
    refine cnd n24 (fun h4 => ?_) (fun h4 => ?_)
    ·
      replace h4 := of_decide_eq_true h4
      refine skp ?_
      refine sq ?_
      refine bk ?_
      refine sd [(0, true), (1, true), (2, true), (3, true), (4, true), (5, true), (6, true), (7, true), (11, true), (12, true), (13, true), (14, true), (15, true), (16, true), (8, false), (9, true), (10, true), (17, false), (18, true), (19, true)] T.mix (by kernel_rfl) <| om n0 (mv (.t n4)) u27 <| om n1 (sadd (sz_ok hacc (Nat.le_refl _) rfl) (.t n27) (.s rfl)) u28 <| om n2 (fab 2 rfl T.f29_2 (.t n1)) u29 <| om n3 (ldb T.o27 n0 n2 (.t n29)) u30 <| om n4 (mv (.t n5)) u31 <| om n5 (ixm T.s27 (Int.natCast_nonneg _) (gi (by omega)) (.t n30) (.t n31)) u32 <| om n6 (fae T.f110_0 d0 (.t n32)) u33 <| om n7 (lde T.o3 n0 (.t n33)) u34 <| om n11 (fab 2 rfl T.f29_2 (.t n1)) u38 <| om n12 (ldb T.o27 n0 n2 (.t n38)) u39 <| om n13 (mv (.t n5)) u40 <| om n14 (ixm T.s27 (Int.natCast_nonneg _) (gi (by omega)) (.t n39) (.t n40)) u41 <| om n15 (fae T.f110_2 d2 (.t n41)) u42 <| om n16 (lde T.o3 n0 (.t n42)) u43 <| oc n8 (call (sp_spec_FormatInt _) (.c (.t n34) rfl .n)) u35 <| om n9 (sadd (sz_ok (sz_add hacc (Nat.le_refl _)) (fmtInt_sz _) rfl) (.t n28) (.t n35)) u36 <| om n10 (sadd (sz_ok (sz_add (sz_add hacc (Nat.le_refl _)) (fmtInt_sz _)) (Nat.le_refl _) rfl) (.t n36) (.s rfl)) u37 <| oc n17 (call (sp_spec_FormatInt _) (.c (.t n43) rfl .n)) u44 <| om n18 (sadd (sz_ok (sz_add (sz_add (sz_add hacc (Nat.le_refl _)) (fmtInt_sz _)) (Nat.le_refl _)) (fmtInt_sz _) rfl) (.t n37) (.t n44)) u45 <| om n19 (as_ (.t n45)) u4 <| oe ?_
      refine sr <| m (fab 2 rfl T.f29_2 (.t n1)) u46 <| m (ldb T.o27 n0 n2 (.t n46)) u47 <| m (mv (.t n5)) u48 <| m (ixm T.s27 (Int.natCast_nonneg _) (gi (by omega)) (.t n47) (.t n48)) u49 <| m (fae T.f110_3 d3 (.t n49)) u50 <| m (lde T.o4 n0 (.t n50)) u51 <| e ?_
      refine cnd n51 (fun h5 => ?_) (fun h5 => ?_)
      ·
        refine rg <| m (mv (.t n4)) u52 <| m (sadd (sz_ok (sz_add (sz_add (sz_add (sz_add hacc (Nat.le_refl _)) (fmtInt_sz _)) (Nat.le_refl _)) (fmtInt_sz _)) (Nat.le_refl _) rfl) (.t n52) (.s rfl)) u53 <| m (as_ (.t n53)) u4 <| e ?_
        refine rg <| m (mv (.t n5)) u25 <| m (add (.t n25) (.i rfl)) u26 <| m (as_ (.t n26)) u5 <| e ?_
        exact ⟨i + 1, (by omega), (by omega), le [0] (by decide) (.c (.e rfl rfl) (.c (.b n0) (.c .a (.c .a (.c (.e (congrArg V.str (by first | (have hh : (x.Credentials[i]'(by omega)).Cut = true := (by assumption); exact acctAcc_t hh) | (have hh : (x.Credentials[i]'(by omega)).Cut = false := (by assumption); exact acctAcc_f hh))) rfl) (.c (.e (wi (by omega)) rfl) (.c (.b n0) (.c .a (.c .a (.c .a (.c .a (.c .a (.c .a (.c .a (.c (.b n0) (.c .a (.c .a (.c .a (.c .a (.c .a (.c .a (.c .a (.c .a (.c .a (.c .a (.c .a (.c .a (.c .a (.c .a (.c .a (.c .a (.c .a (.c .a (.c .a (.c .a (.c .a (.c .a (.c .a (.c .a (.c .a (.c .a (.c .a (.c .a (.c .a (.c .a (.c .a (.c .a (.c .a (.c .a (.c .a (.c .a (.c .a (.c .a (.c .a (.c .a .n))))))))))))))))))))))))))))))))))))))))))))))))))))))) (.b n0 (.c (.e rfl rfl) (.c (.e rfl rfl) (.c (.e rfl rfl) .n))) .n)⟩
      ·
        refine skp ?_
        refine rg <| m (mv (.t n5)) u25 <| m (add (.t n25) (.i rfl)) u26 <| m (as_ (.t n26)) u5 <| e ?_
        exact ⟨i + 1, (by omega), (by omega), le [0] (by decide) (.c (.e rfl rfl) (.c (.b n0) (.c .a (.c .a (.c (.e (congrArg V.str (by first | (have hh : (x.Credentials[i]'(by omega)).Cut = true := (by assumption); exact acctAcc_t hh) | (have hh : (x.Credentials[i]'(by omega)).Cut = false := (by assumption); exact acctAcc_f hh))) rfl) (.c (.e (wi (by omega)) rfl) (.c (.b n0) (.c .a (.c .a (.c .a (.c .a (.c .a (.c .a (.c .a (.c (.b n0) (.c .a (.c .a (.c .a (.c .a (.c .a (.c .a (.c .a (.c .a (.c .a (.c .a (.c .a (.c .a (.c .a (.c .a (.c .a (.c .a (.c .a (.c .a (.c .a (.c .a (.c .a (.c .a (.c .a (.c .a (.c .a (.c .a (.c .a (.c .a (.c .a (.c .a (.c .a (.c .a (.c .a (.c .a (.c .a (.c .a (.c .a (.c .a (.c .a (.c .a .n))))))))))))))))))))))))))))))))))))))))))))))))))))))) (.b n0 (.c (.e rfl rfl) (.c (.e rfl rfl) (.c (.e rfl rfl) .n))) .n)⟩
    ·
      replace h4 := of_decide_eq_false h4
      refine ex (x1 ?_)
      refine sr <| m (mv (.t n4)) u54 <| m (as_ (.t n54)) u2 <| e ?_
      refine rt (ret1 (.t n2 (.p rfl) .n) ?_)
      exact congrArg (fun j => V.str (acctAcc x j)) (show i = x.Credentials.length by omega)

theorem sp_laws_FnExactFormatAccount (x : D.Account) : Spec Tryd.prog G0 3 [.agg (D.Account.V x)] (fun r => r = .bool true) := by
  refine enter (l := [.tmp 2]) Tryd.func3 rfl Tryd.ntmps3 rfl T.en3 fun E => ?_
  simp only [List.length_cons, List.length_nil, List.replicate_succ, List.replicate_zero, List.cons_append, List.nil_append, Nat.reduceAdd, Nat.reduceSub]
  refine sr <| k (bx rfl s0 u1 (.t n0)) <| m (as_ .b) u2 <| e ?_
  refine sr <| m (as_ (.i rfl)) u3 <| e ?_
  refine sr <| m (lab T.a24 n0 d0 k3 (.t n1)) u7 <| m (mv (.t n3)) u8 <| cI (call (sp_laws_szAccount _ _ (by omega) (by first | omega | (simp only [IntKind.wrap_i64] at *; omega))) (.c (.t n7) rfl (.c (.t n8) rfl .n))) (fun _ => u9) (fun r1 hr1 => ?_)
  refine m (as_ (.t n9)) u3 <| e ?_
  refine sq ?_
  refine sr <| m (mv (.t n3)) u10 <| m (lss (.t n10) (.i rfl)) u11 <| e ?_
  refine cnd n11 (fun h2 => ?_) (fun h2 => ?_)
  ·
    replace h2 := of_decide_eq_true h2
    refine sr <| m (as_ .b) u2 <| e ?_
    refine rt (ret1 (.t n2 (.p rfl) .n) ?_)
    rfl
  ·
    replace h2 := of_decide_eq_false h2
    have hsz : x.sz ≤ 1048576 := by
      have := hr1 (by omega)
      omega
    refine skp ?_
    refine sr <| m (lab T.a24 n0 d0 k3 (.t n1)) u12 <| c (call (sp_laws_toAccount _ (by first | assumption | (simp only [D.Share.sz, D.Keeper.sz, D.KeeperHost.sz, D.Credential.sz, D.Account.sz, D.Challenge.sz, D.ChallengeBook.sz, D.Site.sz, D.Notice.sz, D.Mailbox.sz, D.LogEntry.sz, D.KeyStore.sz, D.Entry.sz, D.Bundle.sz, D.Device.sz] at *; omega))) (.c (.t n12) rfl .n)) u13 <| c (call (sp_spec_FormatAccount _ (by first | assumption | omega)) (.c (.t n13) rfl .n)) u14 <| m (as_ (.t n14)) u4 <| e ?_
    refine sr <| m (lab T.a24 n0 d0 k3 (.t n1)) u15 <| c (call (sp_laws_toAccount _ (by first | assumption | (simp only [D.Share.sz, D.Keeper.sz, D.KeeperHost.sz, D.Credential.sz, D.Account.sz, D.Challenge.sz, D.ChallengeBook.sz, D.Site.sz, D.Notice.sz, D.Mailbox.sz, D.LogEntry.sz, D.KeyStore.sz, D.Entry.sz, D.Bundle.sz, D.Device.sz] at *; omega))) (.c (.t n15) rfl .n)) u16 <| k (al T.z29 s1 u5) <| k (sta T.a29 rfl rfl n1 (.z (.z (.z .n))) q1 (.t n5) (.t n16)) <| e ?_
    refine sr <| m (lab T.a29 n1 d0 k3 (.t n5)) u17 <| c (call (sp_impl_FormatAccount _ (by first | assumption | omega)) (.c (.t n17) rfl .n)) u18 <| m (as_ (.t n18)) u6 <| e ?_
    refine sq ?_
    refine sr <| m (mv (.t n6)) u19 <| m (mv (.t n4)) u20 <| m (snes (.t n19) (.t n20)) u21 <| e ?_
    refine cdf n21 ?_
    refine skp ?_
    refine sq ?_
    refine sd [(0, true), (1, true), (2, false), (3, false), (4, true)] T.mix (by kernel_rfl) <| om n0 (lab T.a29 n1 d0 k3 (.t n5)) u22 <| om n1 (lab T.a24 n0 d0 k3 (.t n1)) u23 <| oc n2 (call (sp_laws_toAccount _ (by first | assumption | (simp only [D.Share.sz, D.Keeper.sz, D.KeeperHost.sz, D.Credential.sz, D.Account.sz, D.Challenge.sz, D.ChallengeBook.sz, D.Site.sz, D.Notice.sz, D.Mailbox.sz, D.LogEntry.sz, D.KeyStore.sz, D.Entry.sz, D.Bundle.sz, D.Device.sz] at *; omega))) (.c (.t n23) rfl .n)) u24 <| oc n3 (call (sp_laws_eqAccount _) (.c (.t n22) rfl (.c (.t n24) rfl .n))) u25 <| om n4 (not_ (.t n25)) u26 <| oe ?_
    refine cdf n26 ?_
    refine skp ?_
    refine sr <| m (as_ .b) u2 <| e ?_
    refine rt (ret1 (.t n2 (.p rfl) .n) ?_)
    rfl
end Go.VK
