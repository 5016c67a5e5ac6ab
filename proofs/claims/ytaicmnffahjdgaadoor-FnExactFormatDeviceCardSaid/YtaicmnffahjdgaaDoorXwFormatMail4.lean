/-
  Printed by wip/tools (own work of this part): walks over the value kit
-/
import Derived.Test.YtaicmnffahjdgaaDoorXwFormatSite4
set_option linter.unusedVariables false
set_option linter.unusedSimpArgs false
set_option maxRecDepth 100000
set_option maxHeartbeats 4000000
namespace Go.VK
open Go.RowKit Go.Proofs
theorem sp_laws_szNoticeS (l : List D.Notice) (left : Int) (h0 : 0 ≤ left) (h1 : left ≤ 1048576) : Spec Tryd.prog G0 53 [.slice 4 (l.map D.Notice.V), .int .i64 left] (fun r => ∃ n : Int, r = .int .i64 n ∧ (0 ≤ n → (l.length : Int) + n ≤ left)) := by
  refine enter (l := [.tmp 4]) Tryd.func53 rfl Tryd.ntmps53 rfl T.en53 fun E => ?_
  simp only [List.length_cons, List.length_nil, List.replicate_succ, List.replicate_zero, List.cons_append, List.nil_append, Nat.reduceAdd, Nat.reduceSub]
  refine rngl n0 fun hlen => ?_
  simp only [List.length_map, maxLen] at hlen
  have hw : IntKind.i64.wrap (left - (l.length : Int)) = left - (l.length : Int) := by rw [IntKind.wrap_i64]; omega
  refine sr <| m (as_ (.i rfl)) u4 <| e ?_
  refine sr <| m (mv (.t n1)) u5 <| m (mv (.t n0)) u6 <| m (lenm T.s51 (.t n6)) u7 <| m (sub (.t n5) (.t n7)) u8 <| m (as_ (.t n8)) u1 <| e ?_
  refine sq ?_
  refine sr <| m (mv (.t n1)) u9 <| m (lss (.t n9) (.i rfl)) u10 <| e ?_
  refine cnd n10 (fun h1 => ?_) (fun h1 => ?_)
  ·
    replace h1 := of_decide_eq_true h1
    refine sr <| m (as_ (.i rfl)) u4 <| e ?_
    refine rt (ret1 (.t n4 (.p rfl) .n) ?_)
    refine ⟨_, rfl, fun hn => ?_⟩
    first | omega | (rw [hw]; omega)
  ·
    replace h1 := of_decide_eq_false h1
    refine skp ?_
    refine sr <| m (mv (.t n1)) u11 <| m (as_ (.t n11)) u4 <| e ?_
    refine rt (ret1 (.t n4 (.p rfl) .n) ?_)
    refine ⟨_, rfl, fun hn => ?_⟩
    first | omega | (rw [hw]; omega)

theorem sp_laws_szMailbox (x : D.Mailbox) (left : Int) (h0 : 0 ≤ left) (h1 : left ≤ 1048576) : Spec Tryd.prog G0 19 [.agg (D.Mailbox.V x), .int .i64 left] (fun r => ∃ n : Int, r = .int .i64 n ∧ (0 ≤ n → (x.sz : Int) + n ≤ left)) := by
  refine enter (l := [.tmp 4]) Tryd.func19 rfl Tryd.ntmps19 rfl T.en19 fun E => ?_
  simp only [List.length_cons, List.length_nil, List.replicate_succ, List.replicate_zero, List.cons_append, List.nil_append, Nat.reduceAdd, Nat.reduceSub]
  refine sr <| k (bx rfl s0 u2 (.t n0)) <| m (as_ (.i rfl)) u4 <| e ?_
  refine sr <| m (fab 0 rfl T.f53_0 (.t n2)) u5 <| m (ldb T.o51 n0 n0 (.t n5)) u6 <| m (mv (.t n1)) u7 <| cI (call (sp_laws_szNoticeS _ _ (by omega) (by first | omega | (simp only [IntKind.wrap_i64] at *; omega))) (.c (.t n6) rfl (.c (.t n7) rfl .n))) (fun _ => u8) (fun r1 hr1 => ?_)
  refine m (as_ (.t n8)) u1 <| e ?_
  refine sq ?_
  refine sr <| m (mv (.t n1)) u9 <| m (lss (.t n9) (.i rfl)) u10 <| e ?_
  refine cnd n10 (fun h2 => ?_) (fun h2 => ?_)
  ·
    replace h2 := of_decide_eq_true h2
    refine sr <| m (as_ (.i rfl)) u4 <| e ?_
    refine rt (ret1 (.t n4 (.p rfl) .n) ?_)
    refine ⟨_, rfl, fun hn => ?_⟩
    try simp only [D.Share.sz, D.Keeper.sz, D.KeeperHost.sz, D.Credential.sz, D.Account.sz, D.Challenge.sz, D.ChallengeBook.sz, D.Site.sz, D.Notice.sz, D.Mailbox.sz, D.LogEntry.sz, D.KeyStore.sz, D.Entry.sz, D.Bundle.sz, D.Device.sz] at *
    try simp only [IntKind.wrap_i64] at *
    omega
  ·
    replace h2 := of_decide_eq_false h2
    refine skp ?_
    refine sr <| m (mv (.t n1)) u11 <| m (as_ (.t n11)) u4 <| e ?_
    refine rt (ret1 (.t n4 (.p rfl) .n) ?_)
    refine ⟨_, rfl, fun hn => ?_⟩
    try simp only [D.Share.sz, D.Keeper.sz, D.KeeperHost.sz, D.Credential.sz, D.Account.sz, D.Challenge.sz, D.ChallengeBook.sz, D.Site.sz, D.Notice.sz, D.Mailbox.sz, D.LogEntry.sz, D.KeyStore.sz, D.Entry.sz, D.Bundle.sz, D.Device.sz] at *
    try simp only [IntKind.wrap_i64] at *
    omega

theorem sp_laws_toNotice (x : D.Notice) : Spec Tryd.prog G0 84 [.agg (D.Notice.V x)] (fun r => r = .agg x.V) := by
  refine enter (l := [.cell 2 121]) Tryd.func84 rfl Tryd.ntmps84 rfl T.en84 fun E => ?_
  simp only [List.length_cons, List.length_nil, List.replicate_succ, List.replicate_zero, List.cons_append, List.nil_append, Nat.reduceAdd, Nat.reduceSub]
  refine sr <| k (bx rfl s0 u1 (.t n0)) <| k (al T.z121 s1 u2) <| e ?_
  refine sr <| k (al T.z121 s2 u3) <| e ?_
  refine sr <| m (fab 0 rfl T.f153_0 (.t n1)) u4 <| m (ldb T.o3 n0 n0 (.t n4)) u5 <| m (fab 0 rfl T.f121_0 (.t n3)) u6 <| k (st1 T.o3 rfl n2 u0 q2 (.t n6) (.t n5)) <| e ?_
  refine sr <| m (fab 1 rfl T.f153_1 (.t n1)) u7 <| m (ldb T.o3 n0 n1 (.t n7)) u8 <| m (fab 1 rfl T.f121_1 (.t n3)) u9 <| k (st1 T.o3 rfl n2 u1 q2 (.t n9) (.t n8)) <| e ?_
  refine sr <| m (fab 2 rfl T.f153_2 (.t n1)) u10 <| m (ldb T.o3 n0 n2 (.t n10)) u11 <| m (fab 2 rfl T.f121_2 (.t n3)) u12 <| k (st1 T.o3 rfl n2 u2 q2 (.t n12) (.t n11)) <| e ?_
  refine sr <| m (fab 3 rfl T.f153_3 (.t n1)) u13 <| m (ldb T.o4 n0 n3 (.t n13)) u14 <| m (fab 3 rfl T.f121_3 (.t n3)) u15 <| k (st1 T.o4 rfl n2 u3 q2 (.t n15) (.t n14)) <| e ?_
  refine sr <| m (lab T.a121 n2 d0 k4 (.t n3)) u16 <| k (sta T.a121 rfl rfl n1 (.z (.z (.z (.z .n)))) q1 (.t n2) (.t n16)) <| e ?_
  refine rt (ret1 (.a n2 T.a121 n1 rfl (.c (.p rfl) (.c (.p rfl) (.c (.p rfl) (.c (.p rfl) .n)))) .n) ?_)
  rfl

theorem sp_laws_toNoticeS (l : List D.Notice) (hl : l.length ≤ 1048576) : Spec Tryd.prog G0 55 [.slice 4 (l.map D.Notice.V)] (fun r => r = .slice 4 (l.map D.Notice.V)) := by
  refine enter (l := [.tmp 2]) Tryd.func55 rfl Tryd.ntmps55 rfl T.en55 fun E => ?_
  simp only [List.length_cons, List.length_nil, List.replicate_succ, List.replicate_zero, List.cons_append, List.nil_append, Nat.reduceAdd, Nat.reduceSub]
  refine sr <| m (as_ .n) u2 <| e ?_
  refine sr <| m (mv (.t n0)) u5 <| m (lenm T.s51 (.t n5)) u6 <| k (mk_ T.s56 T.z121 (by omega) (by omega) s0 u7 (.t n6) (.t n6)) <| m (as_ (.t n7)) u3 <| e ?_
  refine sq ?_
  refine sr <| m (as_ (.i rfl)) u4 <| e ?_
  refine bk ?_
  refine lp (fun i : Nat => ⟨[.slice 4 (l.map D.Notice.V), .any, .nil, .own 0, .int .i64 (i : Int), .any, .any, .own 0, .any, .any, .any, .any, .any, .any, .any, .any, .any, .any, .any, .any, .any, .any, .any], [.row 121 4 (pref D.Notice.V l [.int .i64 0, .int .i64 0, .int .i64 0, .bool false] i)]⟩) (fun i : Nat => i ≤ l.length) (fun i : Nat => l.length - i) (0) (by simp) (le [0] (by decide) (.c (.e rfl rfl) (.c .a (.c (.e rfl rfl) (.c (.w n0) (.c (.e rfl rfl) (.c .a (.c .a (.c (.w n0) (.c .a (.c .a (.c .a (.c .a (.c .a (.c .a (.c .a (.c .a (.c .a (.c .a (.c .a (.c .a (.c .a (.c .a (.c .a .n))))))))))))))))))))))) (.r n0 (pref_0 _ _ _).symm .n)) ?_
  rintro i hJ
  try dsimp only at hJ ⊢
  refine sq ?_
  refine sr <| m (mv (.t n4)) u8 <| m (mv (.t n0)) u9 <| m (lenm T.s51 (.t n9)) u10 <| m (lss (.t n8) (.t n10)) u11 <| e ?_
  refine cnd n11 (fun h1 => ?_) (fun h1 => ?_)
  ·
    replace h1 := of_decide_eq_true h1
    refine skp ?_
    refine sq ?_
    refine bk ?_
    refine rg <| m (mv (.t n3)) u14 <| m (mv (.t n4)) u15 <| m (mv (.t n0)) u16 <| m (mv (.t n4)) u17 <| m (ixm T.s51 (Int.natCast_nonneg _) (gi (by omega)) (.t n16) (.t n17)) u18 <| m (lae T.a153 k4 (.t n18)) u19 <| c (call (sp_laws_toNotice _) (.c (.t n19) rfl .n)) u20 <| m (oix T.s56 n0 (Int.natCast_nonneg _) (by rw [Int.toNat_natCast, pref_len (by omega)]; omega) (.t n14) (.t n15)) u21 <| k (stoA rfl (by rw [Int.toNat_natCast, pref_len (by omega)]; omega) T.a121 rfl rfl rfl n0 q0 (.t n21) (.t n20)) <| e ?_
    refine rg <| m (mv (.t n4)) u12 <| m (add (.t n12) (.i rfl)) u13 <| m (as_ (.t n13)) u4 <| e ?_
    exact ⟨i + 1, (by omega), (by omega), le [0] (by decide) (.c (.e rfl rfl) (.c .a (.c (.e rfl rfl) (.c (.w n0) (.c (.e (wi (by omega)) rfl) (.c .a (.c .a (.c (.w n0) (.c .a (.c .a (.c .a (.c .a (.c .a (.c .a (.c .a (.c .a (.c .a (.c .a (.c .a (.c .a (.c .a (.c .a (.c .a .n))))))))))))))))))))))) (.r n0 (pref_set (by omega)) .n)⟩
  ·
    replace h1 := of_decide_eq_false h1
    refine ex (x1 ?_)
    refine sr <| m (mv (.t n3)) u22 <| m (as_ (.t n22)) u2 <| e ?_
    refine rt (ret1 (.t n2 (.o n0) .n) ?_)
    show V.slice _ _ = V.slice _ _
    rw [show i = l.length from by omega, pref_full]

theorem sp_laws_toMailbox (x : D.Mailbox) (hl : x.sz ≤ 1048576) : Spec Tryd.prog G0 21 [.agg (D.Mailbox.V x)] (fun r => r = .agg x.V) := by
  simp only [D.Mailbox.sz] at hl
  refine enter (l := [.cell 2 58]) Tryd.func21 rfl Tryd.ntmps21 rfl T.en21 fun E => ?_
  simp only [List.length_cons, List.length_nil, List.replicate_succ, List.replicate_zero, List.cons_append, List.nil_append, Nat.reduceAdd, Nat.reduceSub]
  refine sr <| k (bx rfl s0 u1 (.t n0)) <| k (al T.z58 s1 u2) <| e ?_
  refine sr <| k (al T.z58 s2 u3) <| e ?_
  refine sr <| m (fab 0 rfl T.f53_0 (.t n1)) u4 <| m (ldb T.o51 n0 n0 (.t n4)) u5 <| c (call (sp_laws_toNoticeS _ (by first | assumption | omega)) (.c (.t n5) rfl .n)) u6 <| m (fab 0 rfl T.f58_0 (.t n3)) u7 <| k (st1 T.o56 rfl n2 u0 q2 (.t n7) (.t n6)) <| e ?_
  refine sr <| m (lab T.a58 n2 d0 k1 (.t n3)) u8 <| k (sta T.a58 rfl rfl n1 (.z .n) q1 (.t n2) (.t n8)) <| e ?_
  refine rt (ret1 (.a n2 T.a58 n1 rfl (.c (.p rfl) .n) .n) ?_)
  rfl

theorem sp_laws_eqNotice (x : D.Notice) : Spec Tryd.prog G0 88 [.agg (D.Notice.V x), .agg (D.Notice.V x)] (fun r => r = .bool true) := by
  refine enter (l := [.tmp 4]) Tryd.func88 rfl Tryd.ntmps88 rfl T.en88 fun E => ?_
  simp only [List.length_cons, List.length_nil, List.replicate_succ, List.replicate_zero, List.cons_append, List.nil_append, Nat.reduceAdd, Nat.reduceSub]
  refine sr <| k (bx rfl s0 u2 (.t n0)) <| k (bx rfl s1 u3 (.t n1)) <| m (as_ .b) u4 <| e ?_
  refine sq ?_
  refine sr <| m (fab 0 rfl T.f121_0 (.t n2)) u5 <| m (ldb T.o3 n0 n0 (.t n5)) u6 <| m (fab 0 rfl T.f121_0 (.t n3)) u7 <| m (ldb T.o3 n1 n0 (.t n7)) u8 <| m (neqs (.t n6) (.t n8)) u9 <| e ?_
  refine cdf n9 ?_
  refine skp ?_
  refine sq ?_
  refine sr <| m (fab 1 rfl T.f121_1 (.t n2)) u10 <| m (ldb T.o3 n0 n1 (.t n10)) u11 <| m (fab 1 rfl T.f121_1 (.t n3)) u12 <| m (ldb T.o3 n1 n1 (.t n12)) u13 <| m (neqs (.t n11) (.t n13)) u14 <| e ?_
  refine cdf n14 ?_
  refine skp ?_
  refine sq ?_
  refine sr <| m (fab 2 rfl T.f121_2 (.t n2)) u15 <| m (ldb T.o3 n0 n2 (.t n15)) u16 <| m (fab 2 rfl T.f121_2 (.t n3)) u17 <| m (ldb T.o3 n1 n2 (.t n17)) u18 <| m (neqs (.t n16) (.t n18)) u19 <| e ?_
  refine cdf n19 ?_
  refine skp ?_
  refine sq ?_
  refine sr <| m (fab 3 rfl T.f121_3 (.t n2)) u20 <| m (ldb T.o4 n0 n3 (.t n20)) u21 <| m (fab 3 rfl T.f121_3 (.t n3)) u22 <| m (ldb T.o4 n1 n3 (.t n22)) u23 <| m (bnes Tryd.underlying4 (.t n21) (.t n23)) u24 <| e ?_
  refine cdf n24 ?_
  refine skp ?_
  refine sr <| m (as_ .b) u4 <| e ?_
  refine rt (ret1 (.t n4 (.p rfl) .n) ?_)
  rfl

theorem sp_laws_eqNoticeS (l : List D.Notice) : Spec Tryd.prog G0 58 [.slice 4 (l.map D.Notice.V), .slice 4 (l.map D.Notice.V)] (fun r => r = .bool true) := by
  refine enter (l := [.tmp 4]) Tryd.func58 rfl Tryd.ntmps58 rfl T.en58 fun E => ?_
  simp only [List.length_cons, List.length_nil, List.replicate_succ, List.replicate_zero, List.cons_append, List.nil_append, Nat.reduceAdd, Nat.reduceSub]
  refine rngl n0 fun hlen => ?_
  simp only [List.length_map, maxLen] at hlen
  refine sr <| m (as_ .b) u4 <| e ?_
  refine sq ?_
  refine sr <| m (mv (.t n0)) u6 <| m (lenm T.s56 (.t n6)) u7 <| m (mv (.t n1)) u8 <| m (lenm T.s56 (.t n8)) u9 <| m (neqs (.t n7) (.t n9)) u10 <| e ?_
  refine cdf n10 ?_
  refine skp ?_
  refine sq ?_
  refine sr <| m (as_ (.i rfl)) u5 <| e ?_
  refine bk ?_
  refine lp (fun i : Nat => ⟨[.slice 4 (l.map D.Notice.V), .slice 4 (l.map D.Notice.V), .any, .any, .any, .int .i64 (i : Int), .any, .any, .any, .any, .any, .any, .any, .any, .any, .any, .any, .any, .any, .any, .any, .any, .any, .any, .any, .any, .any], []⟩) (fun i : Nat => i ≤ l.length) (fun i : Nat => l.length - i) (0) (by simp) (le [] (by decide) (.c (.e rfl rfl) (.c (.e rfl rfl) (.c .a (.c .a (.c .a (.c (.e rfl rfl) (.c .a (.c .a (.c .a (.c .a (.c .a (.c .a (.c .a (.c .a (.c .a (.c .a (.c .a (.c .a (.c .a (.c .a (.c .a (.c .a (.c .a (.c .a (.c .a (.c .a (.c .a .n))))))))))))))))))))))))))) .n) ?_
  rintro i hJ
  try dsimp only at hJ ⊢
  refine sq ?_
  refine sr <| m (mv (.t n5)) u11 <| m (mv (.t n0)) u12 <| m (lenm T.s56 (.t n12)) u13 <| m (lss (.t n11) (.t n13)) u14 <| e ?_
  refine cnd n14 (fun h1 => ?_) (fun h1 => ?_)
  ·
    replace h1 := of_decide_eq_true h1
    refine skp ?_
    refine sq ?_
    refine bk ?_
    refine sd [(0, true), (1, true), (2, true), (3, true), (4, true), (5, true), (6, true), (7, true), (8, false), (9, true)] T.mix (by kernel_rfl) <| om n0 (mv (.t n0)) u17 <| om n1 (mv (.t n5)) u18 <| om n2 (ixm T.s56 (Int.natCast_nonneg _) (gi (by omega)) (.t n17) (.t n18)) u19 <| om n3 (lae T.a121 k4 (.t n19)) u20 <| om n4 (mv (.t n1)) u21 <| om n5 (mv (.t n5)) u22 <| om n6 (ixm T.s56 (Int.natCast_nonneg _) (gi (by omega)) (.t n21) (.t n22)) u23 <| om n7 (lae T.a121 k4 (.t n23)) u24 <| oc n8 (call (sp_laws_eqNotice _) (.c (.t n20) rfl (.c (.t n24) rfl .n))) u25 <| om n9 (not_ (.t n25)) u26 <| oe ?_
    refine cdf n26 ?_
    refine skp ?_
    refine rg <| m (mv (.t n5)) u15 <| m (add (.t n15) (.i rfl)) u16 <| m (as_ (.t n16)) u5 <| e ?_
    exact ⟨i + 1, (by omega), (by omega), le [] (by decide) (.c (.e rfl rfl) (.c (.e rfl rfl) (.c .a (.c .a (.c .a (.c (.e (wi (by omega)) rfl) (.c .a (.c .a (.c .a (.c .a (.c .a (.c .a (.c .a (.c .a (.c .a (.c .a (.c .a (.c .a (.c .a (.c .a (.c .a (.c .a (.c .a (.c .a (.c .a (.c .a (.c .a .n))))))))))))))))))))))))))) .n⟩
  ·
    replace h1 := of_decide_eq_false h1
    refine ex (x1 ?_)
    refine sr <| m (as_ .b) u4 <| e ?_
    refine rt (ret1 (.t n4 (.p rfl) .n) ?_)
    rfl

theorem sp_laws_eqMailbox (x : D.Mailbox) : Spec Tryd.prog G0 23 [.agg (D.Mailbox.V x), .agg (D.Mailbox.V x)] (fun r => r = .bool true) := by
  refine enter (l := [.tmp 4]) Tryd.func23 rfl Tryd.ntmps23 rfl T.en23 fun E => ?_
  simp only [List.length_cons, List.length_nil, List.replicate_succ, List.replicate_zero, List.cons_append, List.nil_append, Nat.reduceAdd, Nat.reduceSub]
  refine sr <| k (bx rfl s0 u2 (.t n0)) <| k (bx rfl s1 u3 (.t n1)) <| m (as_ .b) u4 <| e ?_
  refine sq ?_
  refine sr <| m (fab 0 rfl T.f58_0 (.t n2)) u5 <| m (ldb T.o56 n0 n0 (.t n5)) u6 <| m (fab 0 rfl T.f58_0 (.t n3)) u7 <| m (ldb T.o56 n1 n0 (.t n7)) u8 <| c (call (sp_laws_eqNoticeS _) (.c (.t n6) rfl (.c (.t n8) rfl .n))) u9 <| m (not_ (.t n9)) u10 <| e ?_
  refine cdf n10 ?_
  refine skp ?_
  refine sr <| m (as_ .b) u4 <| e ?_
  refine rt (ret1 (.t n4 (.p rfl) .n) ?_)
  rfl

theorem sp_impl_NoticeName (n : Int) : Spec Tryd.prog G0 56 [.int .i64 n] (fun r => r = .str (ntName n)) := by
  refine enter (l := [.tmp 2]) Tryd.func56 rfl Tryd.ntmps56 rfl T.en56 fun E => ?_
  simp only [List.length_cons, List.length_nil, List.replicate_succ, List.replicate_zero, List.cons_append, List.nil_append, Nat.reduceAdd, Nat.reduceSub]
  refine sr <| m (as_ (.s rfl)) u2 <| e ?_
  refine sq ?_
  refine sr <| m (mv (.t n0)) u3 <| c (call (sp_impl_InRange _ _ _) (.c (.t n3) rfl (.c (.i rfl) rfl (.c (.i rfl) rfl .n)))) u4 <| m (not_ (.t n4)) u5 <| e ?_
  refine cnd n5 (fun h1 => ?_) (fun h1 => ?_)
  ·
    rw [Bool.not_eq_true'] at h1
    replace h1 := inR_f h1
    refine sr <| m (as_ (.s rfl)) u2 <| e ?_
    refine rt (ret1 (.t n2 (.p rfl) .n) ?_)
    show V.str _ = V.str _
    rw [ntName_0 h1]
  ·
    rw [Bool.not_eq_false'] at h1
    replace h1 := inR_t h1
    refine skp ?_
    refine sr <| k (bs T.s107 rfl rfl (.c (.s rfl) rfl rfl rfl (.c (.s rfl) rfl rfl rfl (.c (.s rfl) rfl rfl rfl (.c (.s rfl) rfl rfl rfl (.c (.s rfl) rfl rfl rfl .n))))) u6) <| m (mv (.t n0)) u7 <| m (sub (.t n7) (.i rfl)) u8 <| m (ix T.s107 (by rw [wrap64_id (by omega) (by omega)]; omega) (ntName_1 h1) (.t n6) (.t n8)) u9 <| m (lde T.o9 n0 (.t n9)) u10 <| m (as_ (.t n10)) u2 <| e ?_
    refine rt (ret1 (.t n2 (.p rfl) .n) ?_)
    rfl

theorem sp_spec_NoticeName (n : Int) : Spec Tryd.prog G0 54 [.int .i64 n] (fun r => r = .str (ntName n)) := by
  refine enter (l := [.tmp 2]) Tryd.func54 rfl Tryd.ntmps54 rfl T.en54 fun E => ?_
  simp only [List.length_cons, List.length_nil, List.replicate_succ, List.replicate_zero, List.cons_append, List.nil_append, Nat.reduceAdd, Nat.reduceSub]
  refine sr <| m (as_ (.s rfl)) u2 <| e ?_
  refine sq ?_
  refine sr <| m (mv (.t n0)) u3 <| c (call (sp_spec_l1In _ _ _) (.c (.t n3) rfl (.c (.i rfl) rfl (.c (.i rfl) rfl .n)))) u4 <| m (not_ (.t n4)) u5 <| e ?_
  refine cnd n5 (fun h1 => ?_) (fun h1 => ?_)
  ·
    rw [Bool.not_eq_true'] at h1
    replace h1 := inR_f h1
    refine sr <| m (as_ (.s rfl)) u2 <| e ?_
    refine rt (ret1 (.t n2 (.p rfl) .n) ?_)
    show V.str _ = V.str _
    rw [ntName_0 h1]
  ·
    rw [Bool.not_eq_false'] at h1
    replace h1 := inR_t h1
    refine skp ?_
    refine sr <| k (bs T.s107 rfl rfl (.c (.s rfl) rfl rfl rfl (.c (.s rfl) rfl rfl rfl (.c (.s rfl) rfl rfl rfl (.c (.s rfl) rfl rfl rfl (.c (.s rfl) rfl rfl rfl (.c (.s rfl) rfl rfl rfl .n)))))) u6) <| m (mv (.t n0)) u7 <| m (ix T.s107 (by omega) (ntName_2 h1) (.t n6) (.t n7)) u8 <| m (lde T.o9 n0 (.t n8)) u9 <| m (as_ (.t n9)) u2 <| e ?_
    refine rt (ret1 (.t n2 (.p rfl) .n) ?_)
    rfl

theorem sp_impl_FormatMail (x : D.Mailbox) (hl : x.sz ≤ 1048576) : Spec Tryd.prog G0 22 [.agg x.V] (fun r => r = .str (fmtMail x)) := by
  refine enter (l := [.tmp 2]) Tryd.func22 rfl Tryd.ntmps22 rfl T.en22 fun E => ?_
  simp only [List.length_cons, List.length_nil, List.replicate_succ, List.replicate_zero, List.cons_append, List.nil_append, Nat.reduceAdd, Nat.reduceSub]
  have hcl : x.Notices.length ≤ 1048576 := hl
  refine sr <| k (bx rfl s0 u1 (.t n0)) <| m (as_ (.s rfl)) u2 <| e ?_
  refine sr <| k (bo T.s107 rfl rfl .n s1 u7) <| m (as_ (.t n7)) u3 <| e ?_
  refine sq ?_
  refine sr <| m (fab 0 rfl T.f58_0 (.t n1)) u8 <| m (ldb T.o56 n0 n0 (.t n8)) u9 <| m (lenm T.s56 (.t n9)) u10 <| m (mv (.i rfl)) u11 <| e ?_
  refine bk ?_
  refine lp (fun i : Nat => ⟨[.agg x.V, .box 0 0, .any, .own 1, .any, .any, .any, .any, .box 0 0, .slice 4 (x.Notices.map D.Notice.V), .int .i64 (x.Notices.length : Int), .int .i64 (i : Int), .any, .any, .any, .any, .any, .any, .any, .any, .any, .any, .any, .any, .any, .any, .any, .any, .any, .any, .any, .any, .any, .any, .any, .any, .any, .any], [.box 58 (x.V), .row 9 1 (((x.Notices.take i).map ntStr).map sV)]⟩) (fun i : Nat => i ≤ x.Notices.length) (fun i : Nat => x.Notices.length - i) (0) (by simp) (le [0, 1] (by decide) (.c (.e rfl rfl) (.c (.b n0) (.c .a (.c (.w n1) (.c .a (.c .a (.c .a (.c .a (.c (.b n0) (.c (.e rfl rfl) (.c (.e rfl rfl) (.c (.e rfl rfl) (.c .a (.c .a (.c .a (.c .a (.c .a (.c .a (.c .a (.c .a (.c .a (.c .a (.c .a (.c .a (.c .a (.c .a (.c .a (.c .a (.c .a (.c .a (.c .a (.c .a (.c .a (.c .a (.c .a (.c .a (.c .a (.c .a .n)))))))))))))))))))))))))))))))))))))) (.b n0 (.c (.e rfl rfl) .n) (.r n1 rfl .n))) ?_
  rintro i hJ
  try dsimp only at hJ ⊢
  refine sr <| m (lss (.t n11) (.t n10)) u12 <| e ?_
  refine sq ?_
  refine cnd n12 (fun h1 => ?_) (fun h1 => ?_)
  ·
    replace h1 := of_decide_eq_true h1
    refine skp ?_
    refine sq ?_
    refine bk ?_
    refine sr <| m (ixm T.s56 (Int.natCast_nonneg _) (gi (by omega)) (.t n9) (.t n11)) u13 <| m (lae T.a121 k4 (.t n13)) u14 <| k (al T.z121 s2 u5) <| k (sta T.a121 rfl rfl n2 (.z (.z (.z (.z .n)))) q2 (.t n5) (.t n14)) <| e ?_
    refine sd [(0, true), (1, true), (4, true), (5, true), (2, false), (3, true), (6, false), (7, true), (8, true)] T.mix (by kernel_rfl) <| om n0 (fab 2 rfl T.f121_2 (.t n5)) u15 <| om n1 (ldb T.o3 n2 n2 (.t n15)) u16 <| om n4 (fab 0 rfl T.f121_0 (.t n5)) u19 <| om n5 (ldb T.o3 n2 n0 (.t n19)) u20 <| oc n2 (call (sp_impl_FormatInt _) (.c (.t n16) rfl .n)) u17 <| om n3 (sadd (sz_ok (fmtInt_sz _) (Nat.le_refl _) rfl) (.t n17) (.s rfl)) u18 <| oc n6 (call (sp_impl_NoticeName _) (.c (.t n20) rfl .n)) u21 <| om n7 (sadd (sz_ok (sz_add (fmtInt_sz _) (Nat.le_refl _)) (ntName_sz _) rfl) (.t n18) (.t n21)) u22 <| om n8 (as_ (.t n22)) u6 <| oe ?_
    refine sq ?_
    refine sr <| m (fab 3 rfl T.f121_3 (.t n5)) u23 <| m (ldb T.o4 n2 n3 (.t n23)) u24 <| m (not_ (.t n24)) u25 <| e ?_
    refine cnd n25 (fun h2 => ?_) (fun h2 => ?_)
    ·
      rw [Bool.not_eq_true'] at h2
      refine rg <| m (mv (.t n6)) u26 <| m (sadd (sz_ok (sz_add (sz_add (fmtInt_sz _) (Nat.le_refl _)) (ntName_sz _)) (Nat.le_refl _) rfl) (.t n26) (.s rfl)) u27 <| m (as_ (.t n27)) u6 <| e ?_
      refine rg <| m (mv (.t n3)) u28 <| m (mv (.t n6)) u29 <| k (bs T.s107 rfl rfl (.c (.t n29) rfl rfl rfl .n) u30) <| dr u3 <| k (ap 28 T.s107 rfl n28 u28 n1 (.t n30) (one1 rfl) (by simp; omega) (by simp only [maxLen]; simp; omega) q1 rfl u31) <| m (as_ (.t n31)) u3 <| e ?_
      refine rg <| m (add (.t n11) (.i rfl)) u32 <| m (mv (.t n32)) u11 <| e ?_
      exact ⟨i + 1, (by omega), (by omega), le [0, 1] (by decide) (.c (.e rfl rfl) (.c (.b n0) (.c .a (.c (.w n1) (.c .a (.c .a (.c .a (.c .a (.c (.b n0) (.c (.e rfl rfl) (.c (.e rfl rfl) (.c (.e (wi (by omega)) rfl) (.c .a (.c .a (.c .a (.c .a (.c .a (.c .a (.c .a (.c .a (.c .a (.c .a (.c .a (.c .a (.c .a (.c .a (.c .a (.c .a (.c .a (.c .a (.c .a (.c .a (.c .a (.c .a (.c .a (.c .a (.c .a (.c .a .n)))))))))))))))))))))))))))))))))))))) (.b n0 (.c (.e rfl rfl) .n) (.r n1 (by first | (have hh : (x.Notices[i]'(by omega)).Seen = true := (by assumption); exact row_snoc (by omega) (ntStr_t hh)) | (have hh : (x.Notices[i]'(by omega)).Seen = false := (by assumption); exact row_snoc (by omega) (ntStr_f hh))) .n))⟩
    ·
      rw [Bool.not_eq_false'] at h2
      refine skp ?_
      refine rg <| m (mv (.t n3)) u28 <| m (mv (.t n6)) u29 <| k (bs T.s107 rfl rfl (.c (.t n29) rfl rfl rfl .n) u30) <| dr u3 <| k (ap 28 T.s107 rfl n28 u28 n1 (.t n30) (one1 rfl) (by simp; omega) (by simp only [maxLen]; simp; omega) q1 rfl u31) <| m (as_ (.t n31)) u3 <| e ?_
      refine rg <| m (add (.t n11) (.i rfl)) u32 <| m (mv (.t n32)) u11 <| e ?_
      exact ⟨i + 1, (by omega), (by omega), le [0, 1] (by decide) (.c (.e rfl rfl) (.c (.b n0) (.c .a (.c (.w n1) (.c .a (.c .a (.c .a (.c .a (.c (.b n0) (.c (.e rfl rfl) (.c (.e rfl rfl) (.c (.e (wi (by omega)) rfl) (.c .a (.c .a (.c .a (.c .a (.c .a (.c .a (.c .a (.c .a (.c .a (.c .a (.c .a (.c .a (.c .a (.c .a (.c .a (.c .a (.c .a (.c .a (.c .a (.c .a (.c .a (.c .a (.c .a (.c .a (.c .a (.c .a .n)))))))))))))))))))))))))))))))))))))) (.b n0 (.c (.e rfl rfl) .n) (.r n1 (by first | (have hh : (x.Notices[i]'(by omega)).Seen = true := (by assumption); exact row_snoc (by omega) (ntStr_t hh)) | (have hh : (x.Notices[i]'(by omega)).Seen = false := (by assumption); exact row_snoc (by omega) (ntStr_f hh))) .n))⟩
  ·
    replace h1 := of_decide_eq_false h1
    refine ex (x1 ?_)
    refine sq ?_
    refine sr <| m (mv (.t n3)) u33 <| m (leno T.s107 n1 (.t n33)) u34 <| m (eql (.t n34) (.i rfl)) u35 <| e ?_
    refine cnd n35 (fun h3 => ?_) (fun h3 => ?_)
    ·
      replace h3 := eq_of_beq h3
      simp only [List.length_map, List.length_take] at h3
      have hz : x.Notices.length = 0 := by omega
      refine sr <| m (as_ (.s rfl)) u2 <| e ?_
      refine rt (ret1 (.t n2 (.p rfl) .n) ?_)
      show V.str _ = V.str _
      rw [fmtMail, if_pos hz]
    ·
      replace h3 := ne_of_beq_false h3
      simp only [List.length_map, List.length_take] at h3
      have hz : x.Notices.length ≠ 0 := by omega
      have hlen3 : ((x.Notices.take i).map ntStr).length = i := by rw [List.length_map, List.length_take]; omega
      refine skp ?_
      refine sr <| m (mv (.t n3)) u36 <| c (callm (sp_strings_Join ((x.Notices.take i).map ntStr) SP (by intro hh; rw [hh] at hlen3; simp only [List.length_nil] at hlen3; omega) (by have := ntAcc_sz x.Notices i hcl; unfold ntAcc at this; omega) (by omega)) rfl (.c (.t n36) (.o n1) (.c (.s rfl) (.p rfl) .n))) u37 <| m (as_ (.t n37)) u2 <| e ?_
      refine rt (ret1 (.t n2 (.p rfl) .n) ?_)
      show V.str _ = V.str _
      rw [fmtMail, if_neg hz]
      exact congrArg (fun j => V.str (ntAcc x.Notices j)) (show i = x.Notices.length by omega)

theorem sp_spec_FormatMail (x : D.Mailbox) (hl : x.sz ≤ 1048576) : Spec Tryd.prog G0 20 [.agg x.V] (fun r => r = .str (fmtMail x)) := by
  refine enter (l := [.tmp 2]) Tryd.func20 rfl Tryd.ntmps20 rfl T.en20 fun E => ?_
  simp only [List.length_cons, List.length_nil, List.replicate_succ, List.replicate_zero, List.cons_append, List.nil_append, Nat.reduceAdd, Nat.reduceSub]
  have hcl : x.Notices.length ≤ 1048576 := hl
  refine sr <| k (bx rfl s0 u1 (.t n0)) <| m (as_ (.s rfl)) u2 <| e ?_
  refine sq ?_
  refine sr <| m (fab 0 rfl T.f58_0 (.t n1)) u5 <| m (ldb T.o56 n0 n0 (.t n5)) u6 <| m (lenm T.s56 (.t n6)) u7 <| m (eql (.t n7) (.i rfl)) u8 <| e ?_
  refine cnd n8 (fun h1 => ?_) (fun h1 => ?_)
  ·
    replace h1 := eq_of_beq h1
    refine sr <| m (as_ (.s rfl)) u2 <| e ?_
    refine rt (ret1 (.t n2 (.p rfl) .n) ?_)
    show V.str _ = V.str _
    rw [fmtMail, if_pos (by omega)]
  ·
    replace h1 := ne_of_beq_false h1
    refine skp ?_
    refine sr <| m (as_ (.s rfl)) u3 <| e ?_
    refine sq ?_
    refine sr <| m (as_ (.i rfl)) u4 <| e ?_
    refine bk ?_
    refine lp (fun i : Nat => ⟨[.agg x.V, .box 0 0, .any, .str (ntAcc x.Notices i), .int .i64 (i : Int), .box 0 0, .any, .any, .any, .any, .any, .any, .any, .any, .any, .any, .any, .any, .any, .any, .any, .any, .any, .any, .any, .any, .any, .any, .any, .any, .any, .any, .any, .any, .any, .any, .any, .any, .any, .any, .any, .any, .any, .any, .any, .any, .any, .any], [.box 58 (x.V)]⟩) (fun i : Nat => i ≤ x.Notices.length) (fun i : Nat => x.Notices.length - i) (0) (by simp) (le [0] (by decide) (.c (.e rfl rfl) (.c (.b n0) (.c .a (.c (.e rfl rfl) (.c (.e rfl rfl) (.c (.b n0) (.c .a (.c .a (.c .a (.c .a (.c .a (.c .a (.c .a (.c .a (.c .a (.c .a (.c .a (.c .a (.c .a (.c .a (.c .a (.c .a (.c .a (.c .a (.c .a (.c .a (.c .a (.c .a (.c .a (.c .a (.c .a (.c .a (.c .a (.c .a (.c .a (.c .a (.c .a (.c .a (.c .a (.c .a (.c .a (.c .a (.c .a (.c .a (.c .a (.c .a (.c .a (.c .a .n)))))))))))))))))))))))))))))))))))))))))))))))) (.b n0 (.c (.e rfl rfl) .n) .n)) ?_
    rintro i hJ
    try dsimp only at hJ ⊢
    have hacc := ntAcc_sz x.Notices i hcl
    refine sq ?_
    refine sr <| m (mv (.t n4)) u9 <| m (fab 0 rfl T.f58_0 (.t n1)) u10 <| m (ldb T.o56 n0 n0 (.t n10)) u11 <| m (lenm T.s56 (.t n11)) u12 <| m (lss (.t n9) (.t n12)) u13 <| e ?_
    refine cnd n13 (fun h2 => ?_) (fun h2 => ?_)
    ·
      replace h2 := of_decide_eq_true h2
      refine skp ?_
      refine sq ?_
      refine bk ?_
      refine sq ?_
      refine sr <| m (mv (.t n4)) u16 <| m (gtr (.t n16) (.i rfl)) u17 <| e ?_
      refine cnd n17 (fun h3 => ?_) (fun h3 => ?_)
      ·
        replace h3 := of_decide_eq_true h3
        refine rg <| m (mv (.t n3)) u18 <| m (sadd (sz_ok hacc (Nat.le_refl _) rfl) (.t n18) (.s rfl)) u19 <| m (as_ (.t n19)) u3 <| e ?_
        refine sd [(0, true), (1, true), (2, true), (3, true), (4, true), (5, true), (6, true), (10, true), (11, true), (12, true), (13, true), (14, true), (15, true), (7, false), (8, true), (9, true), (16, false), (17, true), (18, true)] T.mix (by kernel_rfl) <| om n0 (mv (.t n3)) u20 <| om n1 (fab 0 rfl T.f58_0 (.t n1)) u21 <| om n2 (ldb T.o56 n0 n0 (.t n21)) u22 <| om n3 (mv (.t n4)) u23 <| om n4 (ixm T.s56 (Int.natCast_nonneg _) (gi (by omega)) (.t n22) (.t n23)) u24 <| om n5 (fae T.f121_2 d2 (.t n24)) u25 <| om n6 (lde T.o3 n0 (.t n25)) u26 <| om n10 (fab 0 rfl T.f58_0 (.t n1)) u30 <| om n11 (ldb T.o56 n0 n0 (.t n30)) u31 <| om n12 (mv (.t n4)) u32 <| om n13 (ixm T.s56 (Int.natCast_nonneg _) (gi (by omega)) (.t n31) (.t n32)) u33 <| om n14 (fae T.f121_0 d0 (.t n33)) u34 <| om n15 (lde T.o3 n0 (.t n34)) u35 <| oc n7 (call (sp_spec_FormatInt _) (.c (.t n26) rfl .n)) u27 <| om n8 (sadd (sz_ok (sz_add hacc (Nat.le_refl _)) (fmtInt_sz _) rfl) (.t n20) (.t n27)) u28 <| om n9 (sadd (sz_ok (sz_add (sz_add hacc (Nat.le_refl _)) (fmtInt_sz _)) (Nat.le_refl _) rfl) (.t n28) (.s rfl)) u29 <| oc n16 (call (sp_spec_NoticeName _) (.c (.t n35) rfl .n)) u36 <| om n17 (sadd (sz_ok (sz_add (sz_add (sz_add hacc (Nat.le_refl _)) (fmtInt_sz _)) (Nat.le_refl _)) (ntName_sz _) rfl) (.t n29) (.t n36)) u37 <| om n18 (as_ (.t n37)) u3 <| oe ?_
        refine sr <| m (fab 0 rfl T.f58_0 (.t n1)) u38 <| m (ldb T.o56 n0 n0 (.t n38)) u39 <| m (mv (.t n4)) u40 <| m (ixm T.s56 (Int.natCast_nonneg _) (gi (by omega)) (.t n39) (.t n40)) u41 <| m (fae T.f121_3 d3 (.t n41)) u42 <| m (lde T.o4 n0 (.t n42)) u43 <| m (not_ (.t n43)) u44 <| e ?_
        refine cnd n44 (fun h4 => ?_) (fun h4 => ?_)
        ·
          rw [Bool.not_eq_true'] at h4
          refine rg <| m (mv (.t n3)) u45 <| m (sadd (sz_ok (sz_add (sz_add (sz_add (sz_add hacc (Nat.le_refl _)) (fmtInt_sz _)) (Nat.le_refl _)) (ntName_sz _)) (Nat.le_refl _) rfl) (.t n45) (.s rfl)) u46 <| m (as_ (.t n46)) u3 <| e ?_
          refine rg <| m (mv (.t n4)) u14 <| m (add (.t n14) (.i rfl)) u15 <| m (as_ (.t n15)) u4 <| e ?_
          exact ⟨i + 1, (by omega), (by omega), le [0] (by decide) (.c (.e rfl rfl) (.c (.b n0) (.c .a (.c (.e (congrArg V.str (by first | (have h0 : (0 : Int) < i := (by assumption); have hh : (x.Notices[i]'(by omega)).Seen = true := (by assumption); exact ntAcc_st h0 _ hh) | (have h0 : (0 : Int) < i := (by assumption); have hh : (x.Notices[i]'(by omega)).Seen = false := (by assumption); exact ntAcc_sf h0 _ hh) | (have h0 : ¬ (0 : Int) < i := (by assumption); have hh : (x.Notices[i]'(by omega)).Seen = true := (by assumption); exact ntAcc_0t h0 _ hh) | (have h0 : ¬ (0 : Int) < i := (by assumption); have hh : (x.Notices[i]'(by omega)).Seen = false := (by assumption); exact ntAcc_0f h0 _ hh))) rfl) (.c (.e (wi (by omega)) rfl) (.c (.b n0) (.c .a (.c .a (.c .a (.c .a (.c .a (.c .a (.c .a (.c .a (.c .a (.c .a (.c .a (.c .a (.c .a (.c .a (.c .a (.c .a (.c .a (.c .a (.c .a (.c .a (.c .a (.c .a (.c .a (.c .a (.c .a (.c .a (.c .a (.c .a (.c .a (.c .a (.c .a (.c .a (.c .a (.c .a (.c .a (.c .a (.c .a (.c .a (.c .a (.c .a (.c .a (.c .a .n)))))))))))))))))))))))))))))))))))))))))))))))) (.b n0 (.c (.e rfl rfl) .n) .n)⟩
        ·
          rw [Bool.not_eq_false'] at h4
          refine skp ?_
          refine rg <| m (mv (.t n4)) u14 <| m (add (.t n14) (.i rfl)) u15 <| m (as_ (.t n15)) u4 <| e ?_
          exact ⟨i + 1, (by omega), (by omega), le [0] (by decide) (.c (.e rfl rfl) (.c (.b n0) (.c .a (.c (.e (congrArg V.str (by first | (have h0 : (0 : Int) < i := (by assumption); have hh : (x.Notices[i]'(by omega)).Seen = true := (by assumption); exact ntAcc_st h0 _ hh) | (have h0 : (0 : Int) < i := (by assumption); have hh : (x.Notices[i]'(by omega)).Seen = false := (by assumption); exact ntAcc_sf h0 _ hh) | (have h0 : ¬ (0 : Int) < i := (by assumption); have hh : (x.Notices[i]'(by omega)).Seen = true := (by assumption); exact ntAcc_0t h0 _ hh) | (have h0 : ¬ (0 : Int) < i := (by assumption); have hh : (x.Notices[i]'(by omega)).Seen = false := (by assumption); exact ntAcc_0f h0 _ hh))) rfl) (.c (.e (wi (by omega)) rfl) (.c (.b n0) (.c .a (.c .a (.c .a (.c .a (.c .a (.c .a (.c .a (.c .a (.c .a (.c .a (.c .a (.c .a (.c .a (.c .a (.c .a (.c .a (.c .a (.c .a (.c .a (.c .a (.c .a (.c .a (.c .a (.c .a (.c .a (.c .a (.c .a (.c .a (.c .a (.c .a (.c .a (.c .a (.c .a (.c .a (.c .a (.c .a (.c .a (.c .a (.c .a (.c .a (.c .a (.c .a .n)))))))))))))))))))))))))))))))))))))))))))))))) (.b n0 (.c (.e rfl rfl) .n) .n)⟩
      ·
        replace h3 := of_decide_eq_false h3
        refine skp ?_
        refine sd [(0, true), (1, true), (2, true), (3, true), (4, true), (5, true), (6, true), (10, true), (11, true), (12, true), (13, true), (14, true), (15, true), (7, false), (8, true), (9, true), (16, false), (17, true), (18, true)] T.mix (by kernel_rfl) <| om n0 (mv (.t n3)) u20 <| om n1 (fab 0 rfl T.f58_0 (.t n1)) u21 <| om n2 (ldb T.o56 n0 n0 (.t n21)) u22 <| om n3 (mv (.t n4)) u23 <| om n4 (ixm T.s56 (Int.natCast_nonneg _) (gi (by omega)) (.t n22) (.t n23)) u24 <| om n5 (fae T.f121_2 d2 (.t n24)) u25 <| om n6 (lde T.o3 n0 (.t n25)) u26 <| om n10 (fab 0 rfl T.f58_0 (.t n1)) u30 <| om n11 (ldb T.o56 n0 n0 (.t n30)) u31 <| om n12 (mv (.t n4)) u32 <| om n13 (ixm T.s56 (Int.natCast_nonneg _) (gi (by omega)) (.t n31) (.t n32)) u33 <| om n14 (fae T.f121_0 d0 (.t n33)) u34 <| om n15 (lde T.o3 n0 (.t n34)) u35 <| oc n7 (call (sp_spec_FormatInt _) (.c (.t n26) rfl .n)) u27 <| om n8 (sadd (sz_ok hacc (fmtInt_sz _) rfl) (.t n20) (.t n27)) u28 <| om n9 (sadd (sz_ok (sz_add hacc (fmtInt_sz _)) (Nat.le_refl _) rfl) (.t n28) (.s rfl)) u29 <| oc n16 (call (sp_spec_NoticeName _) (.c (.t n35) rfl .n)) u36 <| om n17 (sadd (sz_ok (sz_add (sz_add hacc (fmtInt_sz _)) (Nat.le_refl _)) (ntName_sz _) rfl) (.t n29) (.t n36)) u37 <| om n18 (as_ (.t n37)) u3 <| oe ?_
        refine sr <| m (fab 0 rfl T.f58_0 (.t n1)) u38 <| m (ldb T.o56 n0 n0 (.t n38)) u39 <| m (mv (.t n4)) u40 <| m (ixm T.s56 (Int.natCast_nonneg _) (gi (by omega)) (.t n39) (.t n40)) u41 <| m (fae T.f121_3 d3 (.t n41)) u42 <| m (lde T.o4 n0 (.t n42)) u43 <| m (not_ (.t n43)) u44 <| e ?_
        refine cnd n44 (fun h5 => ?_) (fun h5 => ?_)
        ·
          rw [Bool.not_eq_true'] at h5
          refine rg <| m (mv (.t n3)) u45 <| m (sadd (sz_ok (sz_add (sz_add (sz_add hacc (fmtInt_sz _)) (Nat.le_refl _)) (ntName_sz _)) (Nat.le_refl _) rfl) (.t n45) (.s rfl)) u46 <| m (as_ (.t n46)) u3 <| e ?_
          refine rg <| m (mv (.t n4)) u14 <| m (add (.t n14) (.i rfl)) u15 <| m (as_ (.t n15)) u4 <| e ?_
          exact ⟨i + 1, (by omega), (by omega), le [0] (by decide) (.c (.e rfl rfl) (.c (.b n0) (.c .a (.c (.e (congrArg V.str (by first | (have h0 : (0 : Int) < i := (by assumption); have hh : (x.Notices[i]'(by omega)).Seen = true := (by assumption); exact ntAcc_st h0 _ hh) | (have h0 : (0 : Int) < i := (by assumption); have hh : (x.Notices[i]'(by omega)).Seen = false := (by assumption); exact ntAcc_sf h0 _ hh) | (have h0 : ¬ (0 : Int) < i := (by assumption); have hh : (x.Notices[i]'(by omega)).Seen = true := (by assumption); exact ntAcc_0t h0 _ hh) | (have h0 : ¬ (0 : Int) < i := (by assumption); have hh : (x.Notices[i]'(by omega)).Seen = false := (by assumption); exact ntAcc_0f h0 _ hh))) rfl) (.c (.e (wi (by omega)) rfl) (.c (.b n0) (.c .a (.c .a (.c .a (.c .a (.c .a (.c .a (.c .a (.c .a (.c .a (.c .a (.c .a (.c .a (.c .a (.c .a (.c .a (.c .a (.c .a (.c .a (.c .a (.c .a (.c .a (.c .a (.c .a (.c .a (.c .a (.c .a (.c .a (.c .a (.c .a (.c .a (.c .a (.c .a (.c .a (.c .a (.c .a (.c .a (.c .a (.c .a (.c .a (.c .a (.c .a (.c .a .n)))))))))))))))))))))))))))))))))))))))))))))))) (.b n0 (.c (.e rfl rfl) .n) .n)⟩
        ·
          rw [Bool.not_eq_false'] at h5
          refine skp ?_
          refine rg <| m (mv (.t n4)) u14 <| m (add (.t n14) (.i rfl)) u15 <| m (as_ (.t n15)) u4 <| e ?_
          exact ⟨i + 1, (by omega), (by omega), le [0] (by decide) (.c (.e rfl rfl) (.c (.b n0) (.c .a (.c (.e (congrArg V.str (by first | (have h0 : (0 : Int) < i := (by assumption); have hh : (x.Notices[i]'(by omega)).Seen = true := (by assumption); exact ntAcc_st h0 _ hh) | (have h0 : (0 : Int) < i := (by assumption); have hh : (x.Notices[i]'(by omega)).Seen = false := (by assumption); exact ntAcc_sf h0 _ hh) | (have h0 : ¬ (0 : Int) < i := (by assumption); have hh : (x.Notices[i]'(by omega)).Seen = true := (by assumption); exact ntAcc_0t h0 _ hh) | (have h0 : ¬ (0 : Int) < i := (by assumption); have hh : (x.Notices[i]'(by omega)).Seen = false := (by assumption); exact ntAcc_0f h0 _ hh))) rfl) (.c (.e (wi (by omega)) rfl) (.c (.b n0) (.c .a (.c .a (.c .a (.c .a (.c .a (.c .a (.c .a (.c .a (.c .a (.c .a (.c .a (.c .a (.c .a (.c .a (.c .a (.c .a (.c .a (.c .a (.c .a (.c .a (.c .a (.c .a (.c .a (.c .a (.c .a (.c .a (.c .a (.c .a (.c .a (.c .a (.c .a (.c .a (.c .a (.c .a (.c .a (.c .a (.c .a (.c .a (.c .a (.c .a (.c .a (.c .a .n)))))))))))))))))))))))))))))))))))))))))))))))) (.b n0 (.c (.e rfl rfl) .n) .n)⟩
    ·
      replace h2 := of_decide_eq_false h2
      refine ex (x1 ?_)
      refine sr <| m (mv (.t n3)) u47 <| m (as_ (.t n47)) u2 <| e ?_
      refine rt (ret1 (.t n2 (.p rfl) .n) ?_)
      show V.str _ = V.str _
      rw [fmtMail, if_neg (by omega)]
      exact congrArg (fun j => V.str (ntAcc x.Notices j)) (show i = x.Notices.length by omega)

theorem sp_laws_FnExactFormatMail (x : D.Mailbox) : Spec Tryd.prog G0 5 [.agg (D.Mailbox.V x)] (fun r => r = .bool true) := by
  refine enter (l := [.tmp 2]) Tryd.func5 rfl Tryd.ntmps5 rfl T.en5 fun E => ?_
  simp only [List.length_cons, List.length_nil, List.replicate_succ, List.replicate_zero, List.cons_append, List.nil_append, Nat.reduceAdd, Nat.reduceSub]
  refine sr <| k (bx rfl s0 u1 (.t n0)) <| m (as_ .b) u2 <| e ?_
  refine sr <| m (as_ (.i rfl)) u3 <| e ?_
  refine sr <| m (lab T.a53 n0 d0 k1 (.t n1)) u7 <| m (mv (.t n3)) u8 <| cI (call (sp_laws_szMailbox _ _ (by omega) (by first | omega | (simp only [IntKind.wrap_i64] at *; omega))) (.c (.t n7) rfl (.c (.t n8) rfl .n))) (fun _ => u9) (fun r1 hr1 => ?_)
  refine m (as_ (.t n9)) u3 <| e ?_
  refine sq ?_
  refine sr <| m (mv (.t n3)) u10 <| m (lss (.t n10) (.i rfl)) u11 <| e ?_
  refine cnd n11 (fun h2 => ?_) (fun h2 => ?_)
  ·
    replace h2 := of_decide_eq_true h2
    refine sr <| m (as_ .b) u2 <| e ?_
    refine rt (ret1 (.t n2 (.p rfl) .n) ?_)
    rfl
  ·
    replace h2 := of_decide_eq_false h2
    have hsz : x.sz ≤ 1048576 := by
      have := hr1 (by omega)
      omega
    refine skp ?_
    refine sr <| m (lab T.a53 n0 d0 k1 (.t n1)) u12 <| c (call (sp_laws_toMailbox _ (by first | assumption | (simp only [D.Share.sz, D.Keeper.sz, D.KeeperHost.sz, D.Credential.sz, D.Account.sz, D.Challenge.sz, D.ChallengeBook.sz, D.Site.sz, D.Notice.sz, D.Mailbox.sz, D.LogEntry.sz, D.KeyStore.sz, D.Entry.sz, D.Bundle.sz, D.Device.sz] at *; omega))) (.c (.t n12) rfl .n)) u13 <| c (call (sp_spec_FormatMail _ (by first | assumption | omega)) (.c (.t n13) rfl .n)) u14 <| m (as_ (.t n14)) u4 <| e ?_
    refine sr <| m (lab T.a53 n0 d0 k1 (.t n1)) u15 <| c (call (sp_laws_toMailbox _ (by first | assumption | (simp only [D.Share.sz, D.Keeper.sz, D.KeeperHost.sz, D.Credential.sz, D.Account.sz, D.Challenge.sz, D.ChallengeBook.sz, D.Site.sz, D.Notice.sz, D.Mailbox.sz, D.LogEntry.sz, D.KeyStore.sz, D.Entry.sz, D.Bundle.sz, D.Device.sz] at *; omega))) (.c (.t n15) rfl .n)) u16 <| k (al T.z58 s1 u5) <| k (sta T.a58 rfl rfl n1 (.z .n) q1 (.t n5) (.t n16)) <| e ?_
    refine sr <| m (lab T.a58 n1 d0 k1 (.t n5)) u17 <| c (call (sp_impl_FormatMail _ (by first | assumption | omega)) (.c (.t n17) rfl .n)) u18 <| m (as_ (.t n18)) u6 <| e ?_
    refine sq ?_
    refine sr <| m (mv (.t n6)) u19 <| m (mv (.t n4)) u20 <| m (snes (.t n19) (.t n20)) u21 <| e ?_
    refine cdf n21 ?_
    refine skp ?_
    refine sq ?_
    refine sd [(0, true), (1, true), (2, false), (3, false), (4, true)] T.mix (by kernel_rfl) <| om n0 (lab T.a58 n1 d0 k1 (.t n5)) u22 <| om n1 (lab T.a53 n0 d0 k1 (.t n1)) u23 <| oc n2 (call (sp_laws_toMailbox _ (by first | assumption | (simp only [D.Share.sz, D.Keeper.sz, D.KeeperHost.sz, D.Credential.sz, D.Account.sz, D.Challenge.sz, D.ChallengeBook.sz, D.Site.sz, D.Notice.sz, D.Mailbox.sz, D.LogEntry.sz, D.KeyStore.sz, D.Entry.sz, D.Bundle.sz, D.Device.sz] at *; omega))) (.c (.t n23) rfl .n)) u24 <| oc n3 (call (sp_laws_eqMailbox _) (.c (.t n22) rfl (.c (.t n24) rfl .n))) u25 <| om n4 (not_ (.t n25)) u26 <| oe ?_
    refine cdf n26 ?_
    refine skp ?_
    refine sr <| m (as_ .b) u2 <| e ?_
    refine rt (ret1 (.t n2 (.p rfl) .n) ?_)
    rfl
end Go.VK
