/-
  Printed by wip/tools (own work of this part): walks over the value kit
-/
import Derived.Test.YtaicmnffahjdgaaDoorXwFormatLogEntries4
set_option linter.unusedVariables false
set_option linter.unusedSimpArgs false
set_option maxRecDepth 100000
set_option maxHeartbeats 4000000
namespace Go.VK
open Go.RowKit Go.Proofs
theorem sp_laws_szEntryS (l : List D.Entry) (left : Int) (h0 : 0 ≤ left) (h1 : left ≤ 1048576) : Spec Tryd.prog G0 91 [.slice 4 (l.map D.Entry.V), .int .i64 left] (fun r => ∃ n : Int, r = .int .i64 n ∧ (0 ≤ n → (l.length : Int) + n ≤ left)) := by
  refine enter (l := [.tmp 4]) Tryd.func91 rfl Tryd.ntmps91 rfl T.en91 fun E => ?_
  simp only [List.length_cons, List.length_nil, List.replicate_succ, List.replicate_zero, List.cons_append, List.nil_append, Nat.reduceAdd, Nat.reduceSub]
  refine rngl n0 fun hlen => ?_
  simp only [List.length_map, maxLen] at hlen
  have hw : IntKind.i64.wrap (left - (l.length : Int)) = left - (l.length : Int) := by rw [IntKind.wrap_i64]; omega
  refine sr <| m (as_ (.i rfl)) u4 <| e ?_
  refine sr <| m (mv (.t n1)) u5 <| m (mv (.t n0)) u6 <| m (lenm T.s71 (.t n6)) u7 <| m (sub (.t n5) (.t n7)) u8 <| m (as_ (.t n8)) u1 <| e ?_
  refine sq ?_
  refine sr <| m (mv (.t n1)) u9 <| m (lss (.t n9) (.i rfl)) u10 <| e ?_
  refine cnd n10 (fun h1 => ?_) (fun h1 => ?_)
  ·
    replace h1 := of_decide_eq_true h1
    refine sr <| m (as_ (.i rfl)) u4 <| e ?_
    refine rt (ret1 (.t n4 (.p rfl) .n) ?_)
    refine ⟨_, rfl, fun hn => ?_⟩
    first | omega | (rw [hw]; omega)
  ·
    replace h1 := of_decide_eq_false h1
    refine skp ?_
    refine sr <| m (mv (.t n1)) u11 <| m (as_ (.t n11)) u4 <| e ?_
    refine rt (ret1 (.t n4 (.p rfl) .n) ?_)
    refine ⟨_, rfl, fun hn => ?_⟩
    first | omega | (rw [hw]; omega)

theorem sp_laws_szBundle (x : D.Bundle) (left : Int) (h0 : 0 ≤ left) (h1 : left ≤ 1048576) : Spec Tryd.prog G0 63 [.agg (D.Bundle.V x), .int .i64 left] (fun r => ∃ n : Int, r = .int .i64 n ∧ (0 ≤ n → (x.sz : Int) + n ≤ left)) := by
  refine enter (l := [.tmp 4]) Tryd.func63 rfl Tryd.ntmps63 rfl T.en63 fun E => ?_
  simp only [List.length_cons, List.length_nil, List.replicate_succ, List.replicate_zero, List.cons_append, List.nil_append, Nat.reduceAdd, Nat.reduceSub]
  refine sr <| k (bx rfl s0 u2 (.t n0)) <| m (as_ (.i rfl)) u4 <| e ?_
  refine sr <| m (fab 0 rfl T.f73_0 (.t n2)) u5 <| m (ldb T.o71 n0 n0 (.t n5)) u6 <| m (mv (.t n1)) u7 <| cI (call (sp_laws_szEntryS _ _ (by omega) (by first | omega | (simp only [IntKind.wrap_i64] at *; omega))) (.c (.t n6) rfl (.c (.t n7) rfl .n))) (fun _ => u8) (fun r1 hr1 => ?_)
  refine m (as_ (.t n8)) u1 <| e ?_
  refine sq ?_
  refine sr <| m (mv (.t n1)) u9 <| m (lss (.t n9) (.i rfl)) u10 <| e ?_
  refine cnd n10 (fun h2 => ?_) (fun h2 => ?_)
  ·
    replace h2 := of_decide_eq_true h2
    refine sr <| m (as_ (.i rfl)) u4 <| e ?_
    refine rt (ret1 (.t n4 (.p rfl) .n) ?_)
    refine ⟨_, rfl, fun hn => ?_⟩
    try simp only [D.Share.sz, D.Keeper.sz, D.KeeperHost.sz, D.Credential.sz, D.Account.sz, D.Challenge.sz, D.ChallengeBook.sz, D.Site.sz, D.Notice.sz, D.Mailbox.sz, D.LogEntry.sz, D.KeyStore.sz, D.Entry.sz, D.Bundle.sz, D.Device.sz] at *
    try simp only [IntKind.wrap_i64] at *
    omega
  ·
    replace h2 := of_decide_eq_false h2
    refine skp ?_
    refine sr <| m (mv (.t n1)) u11 <| m (as_ (.t n11)) u4 <| e ?_
    refine rt (ret1 (.t n4 (.p rfl) .n) ?_)
    refine ⟨_, rfl, fun hn => ?_⟩
    try simp only [D.Share.sz, D.Keeper.sz, D.KeeperHost.sz, D.Credential.sz, D.Account.sz, D.Challenge.sz, D.ChallengeBook.sz, D.Site.sz, D.Notice.sz, D.Mailbox.sz, D.LogEntry.sz, D.KeyStore.sz, D.Entry.sz, D.Bundle.sz, D.Device.sz] at *
    try simp only [IntKind.wrap_i64] at *
    omega

theorem sp_laws_szDevice (x : D.Device) (left : Int) (h0 : 0 ≤ left) (h1 : left ≤ 1048576) : Spec Tryd.prog G0 29 [.agg (D.Device.V x), .int .i64 left] (fun r => ∃ n : Int, r = .int .i64 n ∧ (0 ≤ n → (x.sz : Int) + n ≤ left)) := by
  refine enter (l := [.tmp 4]) Tryd.func29 rfl Tryd.ntmps29 rfl T.en29 fun E => ?_
  simp only [List.length_cons, List.length_nil, List.replicate_succ, List.replicate_zero, List.cons_append, List.nil_append, Nat.reduceAdd, Nat.reduceSub]
  refine sr <| k (bx rfl s0 u2 (.t n0)) <| m (as_ (.i rfl)) u4 <| e ?_
  refine sr <| m (fab 4 rfl T.f75_1 (.t n2)) u5 <| m (ldb T.o62 n0 n4 (.t n5)) u6 <| m (mv (.t n1)) u7 <| cI (call (sp_laws_szLogEntryS _ _ (by omega) (by first | omega | (simp only [IntKind.wrap_i64] at *; omega))) (.c (.t n6) rfl (.c (.t n7) rfl .n))) (fun _ => u8) (fun r1 hr1 => ?_)
  refine m (as_ (.t n8)) u1 <| e ?_
  refine sq ?_
  refine sr <| m (mv (.t n1)) u9 <| m (lss (.t n9) (.i rfl)) u10 <| e ?_
  refine cnd n10 (fun h2 => ?_) (fun h2 => ?_)
  ·
    replace h2 := of_decide_eq_true h2
    refine sr <| m (as_ (.i rfl)) u4 <| e ?_
    refine rt (ret1 (.t n4 (.p rfl) .n) ?_)
    refine ⟨_, rfl, fun hn => ?_⟩
    try simp only [D.Share.sz, D.Keeper.sz, D.KeeperHost.sz, D.Credential.sz, D.Account.sz, D.Challenge.sz, D.ChallengeBook.sz, D.Site.sz, D.Notice.sz, D.Mailbox.sz, D.LogEntry.sz, D.KeyStore.sz, D.Entry.sz, D.Bundle.sz, D.Device.sz] at *
    try simp only [IntKind.wrap_i64] at *
    omega
  ·
    replace h2 := of_decide_eq_false h2
    refine skp ?_
    refine sr <| m (fab 8 rfl T.f75_5 (.t n2)) u11 <| m (lab T.a73 n0 d8 k1 (.t n11)) u12 <| m (mv (.t n1)) u13 <| cI (call (sp_laws_szBundle _ _ (by omega) (by first | omega | (simp only [IntKind.wrap_i64] at *; omega))) (.c (.t n12) rfl (.c (.t n13) rfl .n))) (fun _ => u14) (fun r3 hr3 => ?_)
    refine m (as_ (.t n14)) u1 <| e ?_
    refine sq ?_
    refine sr <| m (mv (.t n1)) u15 <| m (lss (.t n15) (.i rfl)) u16 <| e ?_
    refine cnd n16 (fun h4 => ?_) (fun h4 => ?_)
    ·
      replace h4 := of_decide_eq_true h4
      refine sr <| m (as_ (.i rfl)) u4 <| e ?_
      refine rt (ret1 (.t n4 (.p rfl) .n) ?_)
      refine ⟨_, rfl, fun hn => ?_⟩
      try simp only [D.Share.sz, D.Keeper.sz, D.KeeperHost.sz, D.Credential.sz, D.Account.sz, D.Challenge.sz, D.ChallengeBook.sz, D.Site.sz, D.Notice.sz, D.Mailbox.sz, D.LogEntry.sz, D.KeyStore.sz, D.Entry.sz, D.Bundle.sz, D.Device.sz] at *
      try simp only [IntKind.wrap_i64] at *
      omega
    ·
      replace h4 := of_decide_eq_false h4
      refine skp ?_
      refine sr <| m (mv (.t n1)) u17 <| m (as_ (.t n17)) u4 <| e ?_
      refine rt (ret1 (.t n4 (.p rfl) .n) ?_)
      refine ⟨_, rfl, fun hn => ?_⟩
      try simp only [D.Share.sz, D.Keeper.sz, D.KeeperHost.sz, D.Credential.sz, D.Account.sz, D.Challenge.sz, D.ChallengeBook.sz, D.Site.sz, D.Notice.sz, D.Mailbox.sz, D.LogEntry.sz, D.KeyStore.sz, D.Entry.sz, D.Bundle.sz, D.Device.sz] at *
      try simp only [IntKind.wrap_i64] at *
      omega

theorem sp_laws_toKeyStore (x : D.KeyStore) : Spec Tryd.prog G0 65 [.agg (D.KeyStore.V x)] (fun r => r = .agg x.V) := by
  refine enter (l := [.cell 2 78]) Tryd.func65 rfl Tryd.ntmps65 rfl T.en65 fun E => ?_
  simp only [List.length_cons, List.length_nil, List.replicate_succ, List.replicate_zero, List.cons_append, List.nil_append, Nat.reduceAdd, Nat.reduceSub]
  refine sr <| k (bx rfl s0 u1 (.t n0)) <| k (al T.z78 s1 u2) <| e ?_
  refine sr <| k (al T.z78 s2 u3) <| e ?_
  refine sr <| m (fab 0 rfl T.f70_0 (.t n1)) u4 <| m (ldb T.o3 n0 n0 (.t n4)) u5 <| m (fab 0 rfl T.f78_0 (.t n3)) u6 <| k (st1 T.o3 rfl n2 u0 q2 (.t n6) (.t n5)) <| e ?_
  refine sr <| m (fab 1 rfl T.f70_1 (.t n1)) u7 <| m (ldb T.o3 n0 n1 (.t n7)) u8 <| m (fab 1 rfl T.f78_1 (.t n3)) u9 <| k (st1 T.o3 rfl n2 u1 q2 (.t n9) (.t n8)) <| e ?_
  refine sr <| m (fab 2 rfl T.f70_2 (.t n1)) u10 <| m (ldb T.o3 n0 n2 (.t n10)) u11 <| m (fab 2 rfl T.f78_2 (.t n3)) u12 <| k (st1 T.o3 rfl n2 u2 q2 (.t n12) (.t n11)) <| e ?_
  refine sr <| m (fab 3 rfl T.f70_3 (.t n1)) u13 <| m (ldb T.o3 n0 n3 (.t n13)) u14 <| m (fab 3 rfl T.f78_3 (.t n3)) u15 <| k (st1 T.o3 rfl n2 u3 q2 (.t n15) (.t n14)) <| e ?_
  refine sr <| m (lab T.a78 n2 d0 k4 (.t n3)) u16 <| k (sta T.a78 rfl rfl n1 (.z (.z (.z (.z .n)))) q1 (.t n2) (.t n16)) <| e ?_
  refine rt (ret1 (.a n2 T.a78 n1 rfl (.c (.p rfl) (.c (.p rfl) (.c (.p rfl) (.c (.p rfl) .n)))) .n) ?_)
  rfl

theorem sp_laws_toEntry (x : D.Entry) : Spec Tryd.prog G0 103 [.agg (D.Entry.V x)] (fun r => r = .agg x.V) := by
  refine enter (l := [.cell 2 167]) Tryd.func103 rfl Tryd.ntmps103 rfl T.en103 fun E => ?_
  simp only [List.length_cons, List.length_nil, List.replicate_succ, List.replicate_zero, List.cons_append, List.nil_append, Nat.reduceAdd, Nat.reduceSub]
  refine sr <| k (bx rfl s0 u1 (.t n0)) <| k (al T.z167 s1 u2) <| e ?_
  refine sr <| k (al T.z167 s2 u3) <| e ?_
  refine sr <| m (fab 0 rfl T.f177_0 (.t n1)) u4 <| m (ldb T.o3 n0 n0 (.t n4)) u5 <| m (fab 0 rfl T.f167_0 (.t n3)) u6 <| k (st1 T.o3 rfl n2 u0 q2 (.t n6) (.t n5)) <| e ?_
  refine sr <| m (fab 1 rfl T.f177_1 (.t n1)) u7 <| m (ldb T.o3 n0 n1 (.t n7)) u8 <| m (fab 1 rfl T.f167_1 (.t n3)) u9 <| k (st1 T.o3 rfl n2 u1 q2 (.t n9) (.t n8)) <| e ?_
  refine sr <| m (fab 2 rfl T.f177_2 (.t n1)) u10 <| m (ldb T.o3 n0 n2 (.t n10)) u11 <| m (fab 2 rfl T.f167_2 (.t n3)) u12 <| k (st1 T.o3 rfl n2 u2 q2 (.t n12) (.t n11)) <| e ?_
  refine sr <| m (fab 3 rfl T.f177_3 (.t n1)) u13 <| m (ldb T.o4 n0 n3 (.t n13)) u14 <| m (fab 3 rfl T.f167_3 (.t n3)) u15 <| k (st1 T.o4 rfl n2 u3 q2 (.t n15) (.t n14)) <| e ?_
  refine sr <| m (lab T.a167 n2 d0 k4 (.t n3)) u16 <| k (sta T.a167 rfl rfl n1 (.z (.z (.z (.z .n)))) q1 (.t n2) (.t n16)) <| e ?_
  refine rt (ret1 (.a n2 T.a167 n1 rfl (.c (.p rfl) (.c (.p rfl) (.c (.p rfl) (.c (.p rfl) .n)))) .n) ?_)
  rfl

theorem sp_laws_toEntryS (l : List D.Entry) (hl : l.length ≤ 1048576) : Spec Tryd.prog G0 92 [.slice 4 (l.map D.Entry.V)] (fun r => r = .slice 4 (l.map D.Entry.V)) := by
  refine enter (l := [.tmp 2]) Tryd.func92 rfl Tryd.ntmps92 rfl T.en92 fun E => ?_
  simp only [List.length_cons, List.length_nil, List.replicate_succ, List.replicate_zero, List.cons_append, List.nil_append, Nat.reduceAdd, Nat.reduceSub]
  refine sr <| m (as_ .n) u2 <| e ?_
  refine sr <| m (mv (.t n0)) u5 <| m (lenm T.s71 (.t n5)) u6 <| k (mk_ T.s79 T.z167 (by omega) (by omega) s0 u7 (.t n6) (.t n6)) <| m (as_ (.t n7)) u3 <| e ?_
  refine sq ?_
  refine sr <| m (as_ (.i rfl)) u4 <| e ?_
  refine bk ?_
  refine lp (fun i : Nat => ⟨[.slice 4 (l.map D.Entry.V), .any, .nil, .own 0, .int .i64 (i : Int), .any, .any, .own 0, .any, .any, .any, .any, .any, .any, .any, .any, .any, .any, .any, .any, .any, .any, .any], [.row 167 4 (pref D.Entry.V l [.int .i64 0, .int .i64 0, .int .i64 0, .bool false] i)]⟩) (fun i : Nat => i ≤ l.length) (fun i : Nat => l.length - i) (0) (by simp) (le [0] (by decide) (.c (.e rfl rfl) (.c .a (.c (.e rfl rfl) (.c (.w n0) (.c (.e rfl rfl) (.c .a (.c .a (.c (.w n0) (.c .a (.c .a (.c .a (.c .a (.c .a (.c .a (.c .a (.c .a (.c .a (.c .a (.c .a (.c .a (.c .a (.c .a (.c .a .n))))))))))))))))))))))) (.r n0 (pref_0 _ _ _).symm .n)) ?_
  rintro i hJ
  try dsimp only at hJ ⊢
  refine sq ?_
  refine sr <| m (mv (.t n4)) u8 <| m (mv (.t n0)) u9 <| m (lenm T.s71 (.t n9)) u10 <| m (lss (.t n8) (.t n10)) u11 <| e ?_
  refine cnd n11 (fun h1 => ?_) (fun h1 => ?_)
  ·
    replace h1 := of_decide_eq_true h1
    refine skp ?_
    refine sq ?_
    refine bk ?_
    refine rg <| m (mv (.t n3)) u14 <| m (mv (.t n4)) u15 <| m (mv (.t n0)) u16 <| m (mv (.t n4)) u17 <| m (ixm T.s71 (Int.natCast_nonneg _) (gi (by omega)) (.t n16) (.t n17)) u18 <| m (lae T.a177 k4 (.t n18)) u19 <| c (call (sp_laws_toEntry _) (.c (.t n19) rfl .n)) u20 <| m (oix T.s79 n0 (Int.natCast_nonneg _) (by rw [Int.toNat_natCast, pref_len (by omega)]; omega) (.t n14) (.t n15)) u21 <| k (stoA rfl (by rw [Int.toNat_natCast, pref_len (by omega)]; omega) T.a167 rfl rfl rfl n0 q0 (.t n21) (.t n20)) <| e ?_
    refine rg <| m (mv (.t n4)) u12 <| m (add (.t n12) (.i rfl)) u13 <| m (as_ (.t n13)) u4 <| e ?_
    exact ⟨i + 1, (by omega), (by omega), le [0] (by decide) (.c (.e rfl rfl) (.c .a (.c (.e rfl rfl) (.c (.w n0) (.c (.e (wi (by omega)) rfl) (.c .a (.c .a (.c (.w n0) (.c .a (.c .a (.c .a (.c .a (.c .a (.c .a (.c .a (.c .a (.c .a (.c .a (.c .a (.c .a (.c .a (.c .a (.c .a .n))))))))))))))))))))))) (.r n0 (pref_set (by omega)) .n)⟩
  ·
    replace h1 := of_decide_eq_false h1
    refine ex (x1 ?_)
    refine sr <| m (mv (.t n3)) u22 <| m (as_ (.t n22)) u2 <| e ?_
    refine rt (ret1 (.t n2 (.o n0) .n) ?_)
    show V.slice _ _ = V.slice _ _
    rw [show i = l.length from by omega, pref_full]

theorem sp_laws_toBundle (x : D.Bundle) (hl : x.sz ≤ 1048576) : Spec Tryd.prog G0 66 [.agg (D.Bundle.V x)] (fun r => r = .agg x.V) := by
  simp only [D.Bundle.sz] at hl
  refine enter (l := [.cell 2 81]) Tryd.func66 rfl Tryd.ntmps66 rfl T.en66 fun E => ?_
  simp only [List.length_cons, List.length_nil, List.replicate_succ, List.replicate_zero, List.cons_append, List.nil_append, Nat.reduceAdd, Nat.reduceSub]
  refine sr <| k (bx rfl s0 u1 (.t n0)) <| k (al T.z81 s1 u2) <| e ?_
  refine sr <| k (al T.z81 s2 u3) <| e ?_
  refine sr <| m (fab 0 rfl T.f73_0 (.t n1)) u4 <| m (ldb T.o71 n0 n0 (.t n4)) u5 <| c (call (sp_laws_toEntryS _ (by first | assumption | omega)) (.c (.t n5) rfl .n)) u6 <| m (fab 0 rfl T.f81_0 (.t n3)) u7 <| k (st1 T.o79 rfl n2 u0 q2 (.t n7) (.t n6)) <| e ?_
  refine sr <| m (lab T.a81 n2 d0 k1 (.t n3)) u8 <| k (sta T.a81 rfl rfl n1 (.z .n) q1 (.t n2) (.t n8)) <| e ?_
  refine rt (ret1 (.a n2 T.a81 n1 rfl (.c (.p rfl) .n) .n) ?_)
  rfl

theorem sp_laws_toDevice (x : D.Device) (hl : x.sz ≤ 1048576) : Spec Tryd.prog G0 31 [.agg (D.Device.V x)] (fun r => r = .agg x.V) := by
  simp only [D.Device.sz] at hl
  refine enter (l := [.cell 2 83]) Tryd.func31 rfl Tryd.ntmps31 rfl T.en31 fun E => ?_
  simp only [List.length_cons, List.length_nil, List.replicate_succ, List.replicate_zero, List.cons_append, List.nil_append, Nat.reduceAdd, Nat.reduceSub]
  refine sr <| k (bx rfl s0 u1 (.t n0)) <| k (al T.z83 s1 u2) <| e ?_
  refine sr <| k (al T.z83 s2 u3) <| e ?_
  refine sr <| m (fab 0 rfl T.f75_0 (.t n1)) u4 <| m (lab T.a70 n0 d0 k4 (.t n4)) u5 <| c (call (sp_laws_toKeyStore _) (.c (.t n5) rfl .n)) u6 <| m (fab 0 rfl T.f83_0 (.t n3)) u7 <| k (sta T.a78 rfl rfl n2 (.z (.z (.z (.z .n)))) q2 (.t n7) (.t n6)) <| e ?_
  refine sr <| m (fab 4 rfl T.f75_1 (.t n1)) u8 <| m (ldb T.o62 n0 n4 (.t n8)) u9 <| c (call (sp_laws_toLogEntryS _ (by first | assumption | omega)) (.c (.t n9) rfl .n)) u10 <| m (fab 4 rfl T.f83_1 (.t n3)) u11 <| k (st1 T.o65 rfl n2 u4 q2 (.t n11) (.t n10)) <| e ?_
  refine sr <| m (fab 5 rfl T.f75_2 (.t n1)) u12 <| m (ldb T.o3 n0 n5 (.t n12)) u13 <| m (fab 5 rfl T.f83_2 (.t n3)) u14 <| k (st1 T.o3 rfl n2 u5 q2 (.t n14) (.t n13)) <| e ?_
  refine sr <| m (fab 6 rfl T.f75_3 (.t n1)) u15 <| m (ldb T.o3 n0 n6 (.t n15)) u16 <| m (fab 6 rfl T.f83_3 (.t n3)) u17 <| k (st1 T.o3 rfl n2 u6 q2 (.t n17) (.t n16)) <| e ?_
  refine sr <| m (fab 7 rfl T.f75_4 (.t n1)) u18 <| m (ldb T.o3 n0 n7 (.t n18)) u19 <| m (fab 7 rfl T.f83_4 (.t n3)) u20 <| k (st1 T.o3 rfl n2 u7 q2 (.t n20) (.t n19)) <| e ?_
  refine sr <| m (fab 8 rfl T.f75_5 (.t n1)) u21 <| m (lab T.a73 n0 d8 k1 (.t n21)) u22 <| c (call (sp_laws_toBundle _ (by first | assumption | (simp only [D.Share.sz, D.Keeper.sz, D.KeeperHost.sz, D.Credential.sz, D.Account.sz, D.Challenge.sz, D.ChallengeBook.sz, D.Site.sz, D.Notice.sz, D.Mailbox.sz, D.LogEntry.sz, D.KeyStore.sz, D.Entry.sz, D.Bundle.sz, D.Device.sz] at *; omega))) (.c (.t n22) rfl .n)) u23 <| m (fab 8 rfl T.f83_5 (.t n3)) u24 <| k (sta T.a81 rfl rfl n2 (.s (.s (.s (.s (.s (.s (.s (.s (.z .n))))))))) q2 (.t n24) (.t n23)) <| e ?_
  refine sr <| m (lab T.a83 n2 d0 k9 (.t n3)) u25 <| k (sta T.a83 rfl rfl n1 (.z (.z (.z (.z (.z (.z (.z (.z (.z .n))))))))) q1 (.t n2) (.t n25)) <| e ?_
  refine rt (ret1 (.a n2 T.a83 n1 rfl (.c (.p rfl) (.c (.p rfl) (.c (.p rfl) (.c (.p rfl) (.c (.p rfl) (.c (.p rfl) (.c (.p rfl) (.c (.p rfl) (.c (.p rfl) .n))))))))) .n) ?_)
  rfl

theorem sp_laws_eqKeyStore (x : D.KeyStore) : Spec Tryd.prog G0 68 [.agg (D.KeyStore.V x), .agg (D.KeyStore.V x)] (fun r => r = .bool true) := by
  refine enter (l := [.tmp 4]) Tryd.func68 rfl Tryd.ntmps68 rfl T.en68 fun E => ?_
  simp only [List.length_cons, List.length_nil, List.replicate_succ, List.replicate_zero, List.cons_append, List.nil_append, Nat.reduceAdd, Nat.reduceSub]
  refine sr <| k (bx rfl s0 u2 (.t n0)) <| k (bx rfl s1 u3 (.t n1)) <| m (as_ .b) u4 <| e ?_
  refine sq ?_
  refine sr <| m (fab 0 rfl T.f78_0 (.t n2)) u5 <| m (ldb T.o3 n0 n0 (.t n5)) u6 <| m (fab 0 rfl T.f78_0 (.t n3)) u7 <| m (ldb T.o3 n1 n0 (.t n7)) u8 <| m (neqs (.t n6) (.t n8)) u9 <| e ?_
  refine cdf n9 ?_
  refine skp ?_
  refine sq ?_
  refine sr <| m (fab 1 rfl T.f78_1 (.t n2)) u10 <| m (ldb T.o3 n0 n1 (.t n10)) u11 <| m (fab 1 rfl T.f78_1 (.t n3)) u12 <| m (ldb T.o3 n1 n1 (.t n12)) u13 <| m (neqs (.t n11) (.t n13)) u14 <| e ?_
  refine cdf n14 ?_
  refine skp ?_
  refine sq ?_
  refine sr <| m (fab 2 rfl T.f78_2 (.t n2)) u15 <| m (ldb T.o3 n0 n2 (.t n15)) u16 <| m (fab 2 rfl T.f78_2 (.t n3)) u17 <| m (ldb T.o3 n1 n2 (.t n17)) u18 <| m (neqs (.t n16) (.t n18)) u19 <| e ?_
  refine cdf n19 ?_
  refine skp ?_
  refine sq ?_
  refine sr <| m (fab 3 rfl T.f78_3 (.t n2)) u20 <| m (ldb T.o3 n0 n3 (.t n20)) u21 <| m (fab 3 rfl T.f78_3 (.t n3)) u22 <| m (ldb T.o3 n1 n3 (.t n22)) u23 <| m (neqs (.t n21) (.t n23)) u24 <| e ?_
  refine cdf n24 ?_
  refine skp ?_
  refine sr <| m (as_ .b) u4 <| e ?_
  refine rt (ret1 (.t n4 (.p rfl) .n) ?_)
  rfl

theorem sp_laws_eqEntry (x : D.Entry) : Spec Tryd.prog G0 104 [.agg (D.Entry.V x), .agg (D.Entry.V x)] (fun r => r = .bool true) := by
  refine enter (l := [.tmp 4]) Tryd.func104 rfl Tryd.ntmps104 rfl T.en104 fun E => ?_
  simp only [List.length_cons, List.length_nil, List.replicate_succ, List.replicate_zero, List.cons_append, List.nil_append, Nat.reduceAdd, Nat.reduceSub]
  refine sr <| k (bx rfl s0 u2 (.t n0)) <| k (bx rfl s1 u3 (.t n1)) <| m (as_ .b) u4 <| e ?_
  refine sq ?_
  refine sr <| m (fab 0 rfl T.f167_0 (.t n2)) u5 <| m (ldb T.o3 n0 n0 (.t n5)) u6 <| m (fab 0 rfl T.f167_0 (.t n3)) u7 <| m (ldb T.o3 n1 n0 (.t n7)) u8 <| m (neqs (.t n6) (.t n8)) u9 <| e ?_
  refine cdf n9 ?_
  refine skp ?_
  refine sq ?_
  refine sr <| m (fab 1 rfl T.f167_1 (.t n2)) u10 <| m (ldb T.o3 n0 n1 (.t n10)) u11 <| m (fab 1 rfl T.f167_1 (.t n3)) u12 <| m (ldb T.o3 n1 n1 (.t n12)) u13 <| m (neqs (.t n11) (.t n13)) u14 <| e ?_
  refine cdf n14 ?_
  refine skp ?_
  refine sq ?_
  refine sr <| m (fab 2 rfl T.f167_2 (.t n2)) u15 <| m (ldb T.o3 n0 n2 (.t n15)) u16 <| m (fab 2 rfl T.f167_2 (.t n3)) u17 <| m (ldb T.o3 n1 n2 (.t n17)) u18 <| m (neqs (.t n16) (.t n18)) u19 <| e ?_
  refine cdf n19 ?_
  refine skp ?_
  refine sq ?_
  refine sr <| m (fab 3 rfl T.f167_3 (.t n2)) u20 <| m (ldb T.o4 n0 n3 (.t n20)) u21 <| m (fab 3 rfl T.f167_3 (.t n3)) u22 <| m (ldb T.o4 n1 n3 (.t n22)) u23 <| m (bnes Tryd.underlying4 (.t n21) (.t n23)) u24 <| e ?_
  refine cdf n24 ?_
  refine skp ?_
  refine sr <| m (as_ .b) u4 <| e ?_
  refine rt (ret1 (.t n4 (.p rfl) .n) ?_)
  rfl

theorem sp_laws_eqEntryS (l : List D.Entry) : Spec Tryd.prog G0 93 [.slice 4 (l.map D.Entry.V), .slice 4 (l.map D.Entry.V)] (fun r => r = .bool true) := by
  refine enter (l := [.tmp 4]) Tryd.func93 rfl Tryd.ntmps93 rfl T.en93 fun E => ?_
  simp only [List.length_cons, List.length_nil, List.replicate_succ, List.replicate_zero, List.cons_append, List.nil_append, Nat.reduceAdd, Nat.reduceSub]
  refine rngl n0 fun hlen => ?_
  simp only [List.length_map, maxLen] at hlen
  refine sr <| m (as_ .b) u4 <| e ?_
  refine sq ?_
  refine sr <| m (mv (.t n0)) u6 <| m (lenm T.s79 (.t n6)) u7 <| m (mv (.t n1)) u8 <| m (lenm T.s79 (.t n8)) u9 <| m (neqs (.t n7) (.t n9)) u10 <| e ?_
  refine cdf n10 ?_
  refine skp ?_
  refine sq ?_
  refine sr <| m (as_ (.i rfl)) u5 <| e ?_
  refine bk ?_
  refine lp (fun i : Nat => ⟨[.slice 4 (l.map D.Entry.V), .slice 4 (l.map D.Entry.V), .any, .any, .any, .int .i64 (i : Int), .any, .any, .any, .any, .any, .any, .any, .any, .any, .any, .any, .any, .any, .any, .any, .any, .any, .any, .any, .any, .any], []⟩) (fun i : Nat => i ≤ l.length) (fun i : Nat => l.length - i) (0) (by simp) (le [] (by decide) (.c (.e rfl rfl) (.c (.e rfl rfl) (.c .a (.c .a (.c .a (.c (.e rfl rfl) (.c .a (.c .a (.c .a (.c .a (.c .a (.c .a (.c .a (.c .a (.c .a (.c .a (.c .a (.c .a (.c .a (.c .a (.c .a (.c .a (.c .a (.c .a (.c .a (.c .a (.c .a .n))))))))))))))))))))))))))) .n) ?_
  rintro i hJ
  try dsimp only at hJ ⊢
  refine sq ?_
  refine sr <| m (mv (.t n5)) u11 <| m (mv (.t n0)) u12 <| m (lenm T.s79 (.t n12)) u13 <| m (lss (.t n11) (.t n13)) u14 <| e ?_
  refine cnd n14 (fun h1 => ?_) (fun h1 => ?_)
  ·
    replace h1 := of_decide_eq_true h1
    refine skp ?_
    refine sq ?_
    refine bk ?_
    refine sd [(0, true), (1, true), (2, true), (3, true), (4, true), (5, true), (6, true), (7, true), (8, false), (9, true)] T.mix (by kernel_rfl) <| om n0 (mv (.t n0)) u17 <| om n1 (mv (.t n5)) u18 <| om n2 (ixm T.s79 (Int.natCast_nonneg _) (gi (by omega)) (.t n17) (.t n18)) u19 <| om n3 (lae T.a167 k4 (.t n19)) u20 <| om n4 (mv (.t n1)) u21 <| om n5 (mv (.t n5)) u22 <| om n6 (ixm T.s79 (Int.natCast_nonneg _) (gi (by omega)) (.t n21) (.t n22)) u23 <| om n7 (lae T.a167 k4 (.t n23)) u24 <| oc n8 (call (sp_laws_eqEntry _) (.c (.t n20) rfl (.c (.t n24) rfl .n))) u25 <| om n9 (not_ (.t n25)) u26 <| oe ?_
    refine cdf n26 ?_
    refine skp ?_
    refine rg <| m (mv (.t n5)) u15 <| m (add (.t n15) (.i rfl)) u16 <| m (as_ (.t n16)) u5 <| e ?_
    exact ⟨i + 1, (by omega), (by omega), le [] (by decide) (.c (.e rfl rfl) (.c (.e rfl rfl) (.c .a (.c .a (.c .a (.c (.e (wi (by omega)) rfl) (.c .a (.c .a (.c .a (.c .a (.c .a (.c .a (.c .a (.c .a (.c .a (.c .a (.c .a (.c .a (.c .a (.c .a (.c .a (.c .a (.c .a (.c .a (.c .a (.c .a (.c .a .n))))))))))))))))))))))))))) .n⟩
  ·
    replace h1 := of_decide_eq_false h1
    refine ex (x1 ?_)
    refine sr <| m (as_ .b) u4 <| e ?_
    refine rt (ret1 (.t n4 (.p rfl) .n) ?_)
    rfl

theorem sp_laws_eqBundle (x : D.Bundle) : Spec Tryd.prog G0 69 [.agg (D.Bundle.V x), .agg (D.Bundle.V x)] (fun r => r = .bool true) := by
  refine enter (l := [.tmp 4]) Tryd.func69 rfl Tryd.ntmps69 rfl T.en69 fun E => ?_
  simp only [List.length_cons, List.length_nil, List.replicate_succ, List.replicate_zero, List.cons_append, List.nil_append, Nat.reduceAdd, Nat.reduceSub]
  refine sr <| k (bx rfl s0 u2 (.t n0)) <| k (bx rfl s1 u3 (.t n1)) <| m (as_ .b) u4 <| e ?_
  refine sq ?_
  refine sr <| m (fab 0 rfl T.f81_0 (.t n2)) u5 <| m (ldb T.o79 n0 n0 (.t n5)) u6 <| m (fab 0 rfl T.f81_0 (.t n3)) u7 <| m (ldb T.o79 n1 n0 (.t n7)) u8 <| c (call (sp_laws_eqEntryS _) (.c (.t n6) rfl (.c (.t n8) rfl .n))) u9 <| m (not_ (.t n9)) u10 <| e ?_
  refine cdf n10 ?_
  refine skp ?_
  refine sr <| m (as_ .b) u4 <| e ?_
  refine rt (ret1 (.t n4 (.p rfl) .n) ?_)
  rfl

theorem sp_laws_eqDevice (x : D.Device) : Spec Tryd.prog G0 33 [.agg (D.Device.V x), .agg (D.Device.V x)] (fun r => r = .bool true) := by
  refine enter (l := [.tmp 4]) Tryd.func33 rfl Tryd.ntmps33 rfl T.en33 fun E => ?_
  simp only [List.length_cons, List.length_nil, List.replicate_succ, List.replicate_zero, List.cons_append, List.nil_append, Nat.reduceAdd, Nat.reduceSub]
  refine sr <| k (bx rfl s0 u2 (.t n0)) <| k (bx rfl s1 u3 (.t n1)) <| m (as_ .b) u4 <| e ?_
  refine sq ?_
  refine sr <| m (fab 0 rfl T.f83_0 (.t n2)) u5 <| m (lab T.a78 n0 d0 k4 (.t n5)) u6 <| m (fab 0 rfl T.f83_0 (.t n3)) u7 <| m (lab T.a78 n1 d0 k4 (.t n7)) u8 <| c (call (sp_laws_eqKeyStore _) (.c (.t n6) rfl (.c (.t n8) rfl .n))) u9 <| m (not_ (.t n9)) u10 <| e ?_
  refine cdf n10 ?_
  refine skp ?_
  refine sq ?_
  refine sr <| m (fab 4 rfl T.f83_1 (.t n2)) u11 <| m (ldb T.o65 n0 n4 (.t n11)) u12 <| m (fab 4 rfl T.f83_1 (.t n3)) u13 <| m (ldb T.o65 n1 n4 (.t n13)) u14 <| c (call (sp_laws_eqLogEntryS _) (.c (.t n12) rfl (.c (.t n14) rfl .n))) u15 <| m (not_ (.t n15)) u16 <| e ?_
  refine cdf n16 ?_
  refine skp ?_
  refine sq ?_
  refine sr <| m (fab 5 rfl T.f83_2 (.t n2)) u17 <| m (ldb T.o3 n0 n5 (.t n17)) u18 <| m (fab 5 rfl T.f83_2 (.t n3)) u19 <| m (ldb T.o3 n1 n5 (.t n19)) u20 <| m (neqs (.t n18) (.t n20)) u21 <| e ?_
  refine cdf n21 ?_
  refine skp ?_
  refine sq ?_
  refine sr <| m (fab 6 rfl T.f83_3 (.t n2)) u22 <| m (ldb T.o3 n0 n6 (.t n22)) u23 <| m (fab 6 rfl T.f83_3 (.t n3)) u24 <| m (ldb T.o3 n1 n6 (.t n24)) u25 <| m (neqs (.t n23) (.t n25)) u26 <| e ?_
  refine cdf n26 ?_
  refine skp ?_
  refine sq ?_
  refine sr <| m (fab 7 rfl T.f83_4 (.t n2)) u27 <| m (ldb T.o3 n0 n7 (.t n27)) u28 <| m (fab 7 rfl T.f83_4 (.t n3)) u29 <| m (ldb T.o3 n1 n7 (.t n29)) u30 <| m (neqs (.t n28) (.t n30)) u31 <| e ?_
  refine cdf n31 ?_
  refine skp ?_
  refine sq ?_
  refine sr <| m (fab 8 rfl T.f83_5 (.t n2)) u32 <| m (lab T.a81 n0 d8 k1 (.t n32)) u33 <| m (fab 8 rfl T.f83_5 (.t n3)) u34 <| m (lab T.a81 n1 d8 k1 (.t n34)) u35 <| c (call (sp_laws_eqBundle _) (.c (.t n33) rfl (.c (.t n35) rfl .n))) u36 <| m (not_ (.t n36)) u37 <| e ?_
  refine cdf n37 ?_
  refine skp ?_
  refine sr <| m (as_ .b) u4 <| e ?_
  refine rt (ret1 (.t n4 (.p rfl) .n) ?_)
  rfl

theorem sp_impl_ActiveEntries (b : D.Bundle) (hl : b.Entries.length ≤ 1048576) : Spec Tryd.prog G0 67 [.agg b.V] (fun r => r = .slice 4 ((b.Entries.filter actE).map D.Entry.V)) := by
  refine enter (l := [.tmp 2]) Tryd.func67 rfl Tryd.ntmps67 rfl T.en67 fun E => ?_
  simp only [List.length_cons, List.length_nil, List.replicate_succ, List.replicate_zero, List.cons_append, List.nil_append, Nat.reduceAdd, Nat.reduceSub]
  have hcl : b.Entries.length ≤ 1048576 := hl
  refine sr <| k (bx rfl s0 u1 (.t n0)) <| m (as_ .n) u2 <| e ?_
  refine sr <| k (bo T.s79 rfl rfl .n s1 u6) <| m (as_ (.t n6)) u3 <| e ?_
  refine sq ?_
  refine sr <| m (fab 0 rfl T.f81_0 (.t n1)) u7 <| m (ldb T.o79 n0 n0 (.t n7)) u8 <| m (lenm T.s79 (.t n8)) u9 <| m (mv (.i rfl)) u10 <| e ?_
  refine bk ?_
  refine lp (fun i : Nat => ⟨[.agg b.V, .box 0 0, .nil, .own 1, .any, .any, .any, .box 0 0, .slice 4 (b.Entries.map D.Entry.V), .int .i64 (b.Entries.length : Int), .int .i64 (i : Int), .any, .any, .any, .any, .any, .any, .any, .any, .any, .any, .any, .any], [.box 81 (b.V), .row 167 4 (((b.Entries.take i).filter actE).map D.Entry.V)]⟩) (fun i : Nat => i ≤ b.Entries.length) (fun i : Nat => b.Entries.length - i) (0) (by simp) (le [0, 1] (by decide) (.c (.e rfl rfl) (.c (.b n0) (.c (.e rfl rfl) (.c (.w n1) (.c .a (.c .a (.c .a (.c (.b n0) (.c (.e rfl rfl) (.c (.e rfl rfl) (.c (.e rfl rfl) (.c .a (.c .a (.c .a (.c .a (.c .a (.c .a (.c .a (.c .a (.c .a (.c .a (.c .a (.c .a .n))))))))))))))))))))))) (.b n0 (.c (.e rfl rfl) .n) (.r n1 rfl .n))) ?_
  rintro i hJ
  try dsimp only at hJ ⊢
  refine sr <| m (lss (.t n10) (.t n9)) u11 <| e ?_
  refine sq ?_
  refine cnd n11 (fun h1 => ?_) (fun h1 => ?_)
  ·
    replace h1 := of_decide_eq_true h1
    refine skp ?_
    refine sq ?_
    refine bk ?_
    refine sr <| m (ixm T.s79 (Int.natCast_nonneg _) (gi (by omega)) (.t n8) (.t n10)) u12 <| m (lae T.a167 k4 (.t n12)) u13 <| k (al T.z167 s2 u5) <| k (sta T.a167 rfl rfl n2 (.z (.z (.z (.z .n)))) q2 (.t n5) (.t n13)) <| e ?_
    refine sr <| m (fab 3 rfl T.f167_3 (.t n5)) u14 <| m (ldb T.o4 n2 n3 (.t n14)) u15 <| m (not_ (.t n15)) u16 <| e ?_
    refine cnd n16 (fun h2 => ?_) (fun h2 => ?_)
    ·
      rw [Bool.not_eq_true'] at h2
      refine rg <| m (mv (.t n3)) u17 <| m (lab T.a167 n2 d0 k4 (.t n5)) u18 <| k (bs T.s79 rfl rfl (.c (.t n18) rfl rfl rfl .n) u19) <| dr u3 <| k (ap 17 T.s79 rfl n17 u17 n1 (.t n19) (one1 rfl) (by have := filter_len (p := actE) (l := b.Entries) (i := i); simp only [List.length_map, List.length_singleton]; omega) (by have := filter_len (p := actE) (l := b.Entries) (i := i); simp only [maxLen, List.length_map, List.length_singleton]; omega) q1 rfl u20) <| m (as_ (.t n20)) u3 <| e ?_
      refine rg <| m (add (.t n10) (.i rfl)) u21 <| m (mv (.t n21)) u10 <| e ?_
      exact ⟨i + 1, (by omega), (by omega), le [0, 1] (by decide) (.c (.e rfl rfl) (.c (.b n0) (.c (.e rfl rfl) (.c (.w n1) (.c .a (.c .a (.c .a (.c (.b n0) (.c (.e rfl rfl) (.c (.e rfl rfl) (.c (.e (wi (by omega)) rfl) (.c .a (.c .a (.c .a (.c .a (.c .a (.c .a (.c .a (.c .a (.c .a (.c .a (.c .a (.c .a .n))))))))))))))))))))))) (.b n0 (.c (.e rfl rfl) .n) (.r n1 (by first | (have hh : (b.Entries[i]'(by omega)).Deleted = false := (by assumption); exact filter_snoc (by omega) (by simp [actE, hh])) | (have hh : (b.Entries[i]'(by omega)).Deleted = true := (by assumption); exact filter_skip (by omega) (by simp [actE, hh]))) .n))⟩
    ·
      rw [Bool.not_eq_false'] at h2
      refine skp ?_
      refine rg <| m (add (.t n10) (.i rfl)) u21 <| m (mv (.t n21)) u10 <| e ?_
      exact ⟨i + 1, (by omega), (by omega), le [0, 1] (by decide) (.c (.e rfl rfl) (.c (.b n0) (.c (.e rfl rfl) (.c (.w n1) (.c .a (.c .a (.c .a (.c (.b n0) (.c (.e rfl rfl) (.c (.e rfl rfl) (.c (.e (wi (by omega)) rfl) (.c .a (.c .a (.c .a (.c .a (.c .a (.c .a (.c .a (.c .a (.c .a (.c .a (.c .a (.c .a .n))))))))))))))))))))))) (.b n0 (.c (.e rfl rfl) .n) (.r n1 (by first | (have hh : (b.Entries[i]'(by omega)).Deleted = false := (by assumption); exact filter_snoc (by omega) (by simp [actE, hh])) | (have hh : (b.Entries[i]'(by omega)).Deleted = true := (by assumption); exact filter_skip (by omega) (by simp [actE, hh]))) .n))⟩
  ·
    replace h1 := of_decide_eq_false h1
    refine ex (x1 ?_)
    refine sr <| m (mv (.t n3)) u22 <| m (as_ (.t n22)) u2 <| e ?_
    refine rt (ret1 (.t n2 (.o n1) .n) ?_)
    exact congrArg (fun z => V.slice 4 ((z.filter actE).map D.Entry.V)) (show b.Entries.take i = b.Entries from List.take_of_length_le (by omega))

theorem sp_spec_ActiveEntries (b : D.Bundle) (hl : b.Entries.length ≤ 1048576) : Spec Tryd.prog G0 64 [.agg b.V] (fun r => r = .slice 4 ((b.Entries.filter actE).map D.Entry.V)) := by
  refine enter (l := [.tmp 2]) Tryd.func64 rfl Tryd.ntmps64 rfl T.en64 fun E => ?_
  simp only [List.length_cons, List.length_nil, List.replicate_succ, List.replicate_zero, List.cons_append, List.nil_append, Nat.reduceAdd, Nat.reduceSub]
  have hcl : b.Entries.length ≤ 1048576 := hl
  refine sr <| k (bx rfl s0 u1 (.t n0)) <| m (as_ .n) u2 <| e ?_
  refine sr <| k (bo T.s79 rfl rfl .n s1 u5) <| m (as_ (.t n5)) u3 <| e ?_
  refine sq ?_
  refine sr <| m (as_ (.i rfl)) u4 <| e ?_
  refine bk ?_
  refine lp (fun i : Nat => ⟨[.agg b.V, .box 0 0, .nil, .own 1, .int .i64 (i : Int), .any, .any, .any, .any, .any, .any, .any, .any, .any, .any, .any, .any, .any, .any, .any, .any, .any, .any, .any, .any, .any, .any, .any, .any], [.box 81 (b.V), .row 167 4 (((b.Entries.take i).filter actE).map D.Entry.V)]⟩) (fun i : Nat => i ≤ b.Entries.length) (fun i : Nat => b.Entries.length - i) (0) (by simp) (le [0, 1] (by decide) (.c (.e rfl rfl) (.c (.b n0) (.c (.e rfl rfl) (.c (.w n1) (.c (.e rfl rfl) (.c .a (.c .a (.c .a (.c .a (.c .a (.c .a (.c .a (.c .a (.c .a (.c .a (.c .a (.c .a (.c .a (.c .a (.c .a (.c .a (.c .a (.c .a (.c .a (.c .a (.c .a (.c .a (.c .a (.c .a .n))))))))))))))))))))))))))))) (.b n0 (.c (.e rfl rfl) .n) (.r n1 rfl .n))) ?_
  rintro i hJ
  try dsimp only at hJ ⊢
  refine sq ?_
  refine sr <| m (mv (.t n4)) u6 <| m (fab 0 rfl T.f81_0 (.t n1)) u7 <| m (ldb T.o79 n0 n0 (.t n7)) u8 <| m (lenm T.s79 (.t n8)) u9 <| m (lss (.t n6) (.t n9)) u10 <| e ?_
  refine cnd n10 (fun h1 => ?_) (fun h1 => ?_)
  ·
    replace h1 := of_decide_eq_true h1
    refine skp ?_
    refine sq ?_
    refine bk ?_
    refine sr <| m (fab 0 rfl T.f81_0 (.t n1)) u13 <| m (ldb T.o79 n0 n0 (.t n13)) u14 <| m (mv (.t n4)) u15 <| m (ixm T.s79 (Int.natCast_nonneg _) (gi (by omega)) (.t n14) (.t n15)) u16 <| m (fae T.f167_3 d3 (.t n16)) u17 <| m (lde T.o4 n0 (.t n17)) u18 <| m (not_ (.t n18)) u19 <| e ?_
    refine cnd n19 (fun h2 => ?_) (fun h2 => ?_)
    ·
      rw [Bool.not_eq_true'] at h2
      refine rg <| m (mv (.t n3)) u20 <| m (fab 0 rfl T.f81_0 (.t n1)) u21 <| m (ldb T.o79 n0 n0 (.t n21)) u22 <| m (mv (.t n4)) u23 <| m (ixm T.s79 (Int.natCast_nonneg _) (gi (by omega)) (.t n22) (.t n23)) u24 <| m (lae T.a167 k4 (.t n24)) u25 <| k (bs T.s79 rfl rfl (.c (.t n25) rfl rfl rfl .n) u26) <| dr u3 <| k (ap 20 T.s79 rfl n20 u20 n1 (.t n26) (one1 rfl) (by have := filter_len (p := actE) (l := b.Entries) (i := i); simp only [List.length_map, List.length_singleton]; omega) (by have := filter_len (p := actE) (l := b.Entries) (i := i); simp only [maxLen, List.length_map, List.length_singleton]; omega) q1 rfl u27) <| m (as_ (.t n27)) u3 <| e ?_
      refine rg <| m (mv (.t n4)) u11 <| m (add (.t n11) (.i rfl)) u12 <| m (as_ (.t n12)) u4 <| e ?_
      exact ⟨i + 1, (by omega), (by omega), le [0, 1] (by decide) (.c (.e rfl rfl) (.c (.b n0) (.c (.e rfl rfl) (.c (.w n1) (.c (.e (wi (by omega)) rfl) (.c .a (.c .a (.c .a (.c .a (.c .a (.c .a (.c .a (.c .a (.c .a (.c .a (.c .a (.c .a (.c .a (.c .a (.c .a (.c .a (.c .a (.c .a (.c .a (.c .a (.c .a (.c .a (.c .a (.c .a .n))))))))))))))))))))))))))))) (.b n0 (.c (.e rfl rfl) .n) (.r n1 (by first | (have hh : (b.Entries[i]'(by omega)).Deleted = false := (by assumption); exact filter_snoc (by omega) (by simp [actE, hh])) | (have hh : (b.Entries[i]'(by omega)).Deleted = true := (by assumption); exact filter_skip (by omega) (by simp [actE, hh]))) .n))⟩
    ·
      rw [Bool.not_eq_false'] at h2
      refine skp ?_
      refine rg <| m (mv (.t n4)) u11 <| m (add (.t n11) (.i rfl)) u12 <| m (as_ (.t n12)) u4 <| e ?_
      exact ⟨i + 1, (by omega), (by omega), le [0, 1] (by decide) (.c (.e rfl rfl) (.c (.b n0) (.c (.e rfl rfl) (.c (.w n1) (.c (.e (wi (by omega)) rfl) (.c .a (.c .a (.c .a (.c .a (.c .a (.c .a (.c .a (.c .a (.c .a (.c .a (.c .a (.c .a (.c .a (.c .a (.c .a (.c .a (.c .a (.c .a (.c .a (.c .a (.c .a (.c .a (.c .a (.c .a .n))))))))))))))))))))))))))))) (.b n0 (.c (.e rfl rfl) .n) (.r n1 (by first | (have hh : (b.Entries[i]'(by omega)).Deleted = false := (by assumption); exact filter_snoc (by omega) (by simp [actE, hh])) | (have hh : (b.Entries[i]'(by omega)).Deleted = true := (by assumption); exact filter_skip (by omega) (by simp [actE, hh]))) .n))⟩
  ·
    replace h1 := of_decide_eq_false h1
    refine ex (x1 ?_)
    refine sr <| m (mv (.t n3)) u28 <| m (as_ (.t n28)) u2 <| e ?_
    refine rt (ret1 (.t n2 (.o n1) .n) ?_)
    exact congrArg (fun z => V.slice 4 ((z.filter actE).map D.Entry.V)) (show b.Entries.take i = b.Entries from List.take_of_length_le (by omega))

theorem sp_impl_FormatDevice (x : D.Device) (hl : x.sz ≤ 1048576) : Spec Tryd.prog G0 32 [.agg x.V] (fun r => r = .str (fmtDev x)) := by
  refine enter (l := [.tmp 2]) Tryd.func32 rfl Tryd.ntmps32 rfl T.en32 fun E => ?_
  simp only [List.length_cons, List.length_nil, List.replicate_succ, List.replicate_zero, List.cons_append, List.nil_append, Nat.reduceAdd, Nat.reduceSub]
  have hcl : x.Bundle.Entries.length ≤ 1048576 := by unfold D.Device.sz at hl; omega
  refine sr <| k (bx rfl s0 u1 (.t n0)) <| m (as_ (.s rfl)) u2 <| e ?_
  refine sd [(0, true), (1, true), (2, true), (5, true), (6, true), (10, true), (11, true), (15, true), (16, true), (22, true), (23, true), (24, true), (25, true), (3, false), (4, true), (7, false), (8, true), (9, true), (12, false), (13, true), (14, true), (17, false), (18, true), (19, false), (20, true), (21, true), (26, false), (27, true), (28, true)] T.mix (by kernel_rfl) <| om n0 (fab 0 rfl T.f83_0 (.t n1)) u3 <| om n1 (fab 1 rfl T.f78_1 (.t n3)) u4 <| om n2 (ldb T.o3 n0 n1 (.t n4)) u5 <| om n5 (fab 6 rfl T.f83_3 (.t n1)) u8 <| om n6 (ldb T.o3 n0 n6 (.t n8)) u9 <| om n10 (fab 7 rfl T.f83_4 (.t n1)) u13 <| om n11 (ldb T.o3 n0 n7 (.t n13)) u14 <| om n15 (fab 8 rfl T.f83_5 (.t n1)) u18 <| om n16 (lab T.a81 n0 d8 k1 (.t n18)) u19 <| om n22 (fab 8 rfl T.f83_5 (.t n1)) u25 <| om n23 (fab 8 rfl T.f81_0 (.t n25)) u26 <| om n24 (ldb T.o79 n0 n8 (.t n26)) u27 <| om n25 (lenm T.s79 (.t n27)) u28 <| oc n3 (call (sp_impl_FormatInt _) (.c (.t n5) rfl .n)) u6 <| om n4 (sadd (sz_ok (fmtInt_sz _) (Nat.le_refl _) rfl) (.t n6) (.s rfl)) u7 <| oc n7 (call (sp_impl_FormatInt _) (.c (.t n9) rfl .n)) u10 <| om n8 (sadd (sz_ok (sz_add (fmtInt_sz _) (Nat.le_refl _)) (fmtInt_sz _) rfl) (.t n7) (.t n10)) u11 <| om n9 (sadd (sz_ok (sz_add (sz_add (fmtInt_sz _) (Nat.le_refl _)) (fmtInt_sz _)) (Nat.le_refl _) rfl) (.t n11) (.s rfl)) u12 <| oc n12 (call (sp_impl_FormatInt _) (.c (.t n14) rfl .n)) u15 <| om n13 (sadd (sz_ok (sz_add (sz_add (sz_add (fmtInt_sz _) (Nat.le_refl _)) (fmtInt_sz _)) (Nat.le_refl _)) (fmtInt_sz _) rfl) (.t n12) (.t n15)) u16 <| om n14 (sadd (sz_ok (sz_add (sz_add (sz_add (sz_add (fmtInt_sz _) (Nat.le_refl _)) (fmtInt_sz _)) (Nat.le_refl _)) (fmtInt_sz _)) (Nat.le_refl _) rfl) (.t n16) (.s rfl)) u17 <| oc n17 (call (sp_impl_ActiveEntries x.Bundle hcl) (.c (.t n19) rfl .n)) u20 <| om n18 (lenm T.s79 (.t n20)) u21 <| oc n19 (call (sp_impl_FormatInt _) (.c (.t n21) rfl .n)) u22 <| om n20 (sadd (sz_ok (sz_add (sz_add (sz_add (sz_add (sz_add (fmtInt_sz _) (Nat.le_refl _)) (fmtInt_sz _)) (Nat.le_refl _)) (fmtInt_sz _)) (Nat.le_refl _)) (fmtInt_sz _) rfl) (.t n17) (.t n22)) u23 <| om n21 (sadd (sz_ok (sz_add (sz_add (sz_add (sz_add (sz_add (sz_add (fmtInt_sz _) (Nat.le_refl _)) (fmtInt_sz _)) (Nat.le_refl _)) (fmtInt_sz _)) (Nat.le_refl _)) (fmtInt_sz _)) (Nat.le_refl _) rfl) (.t n23) (.s rfl)) u24 <| oc n26 (call (sp_impl_FormatInt _) (.c (.t n28) rfl .n)) u29 <| om n27 (sadd (sz_ok (sz_add (sz_add (sz_add (sz_add (sz_add (sz_add (sz_add (fmtInt_sz _) (Nat.le_refl _)) (fmtInt_sz _)) (Nat.le_refl _)) (fmtInt_sz _)) (Nat.le_refl _)) (fmtInt_sz _)) (Nat.le_refl _)) (fmtInt_sz _) rfl) (.t n24) (.t n29)) u30 <| om n28 (as_ (.t n30)) u2 <| oe ?_
  refine rt (ret1 (.t n2 (.p rfl) .n) ?_)
  rfl

theorem sp_spec_FormatDevice (x : D.Device) (hl : x.sz ≤ 1048576) : Spec Tryd.prog G0 30 [.agg x.V] (fun r => r = .str (fmtDev x)) := by
  refine enter (l := [.tmp 2]) Tryd.func30 rfl Tryd.ntmps30 rfl T.en30 fun E => ?_
  simp only [List.length_cons, List.length_nil, List.replicate_succ, List.replicate_zero, List.cons_append, List.nil_append, Nat.reduceAdd, Nat.reduceSub]
  have hcl : x.Bundle.Entries.length ≤ 1048576 := by unfold D.Device.sz at hl; omega
  refine sr <| k (bx rfl s0 u1 (.t n0)) <| m (as_ (.s rfl)) u2 <| e ?_
  refine sd [(0, true), (1, true), (2, true), (5, true), (6, true), (10, true), (11, true), (15, true), (16, true), (22, true), (23, true), (24, true), (25, true), (3, false), (4, true), (7, false), (8, true), (9, true), (12, false), (13, true), (14, true), (17, false), (18, true), (19, false), (20, true), (21, true), (26, false), (27, true), (28, true)] T.mix (by kernel_rfl) <| om n0 (fab 0 rfl T.f83_0 (.t n1)) u3 <| om n1 (fab 1 rfl T.f78_1 (.t n3)) u4 <| om n2 (ldb T.o3 n0 n1 (.t n4)) u5 <| om n5 (fab 6 rfl T.f83_3 (.t n1)) u8 <| om n6 (ldb T.o3 n0 n6 (.t n8)) u9 <| om n10 (fab 7 rfl T.f83_4 (.t n1)) u13 <| om n11 (ldb T.o3 n0 n7 (.t n13)) u14 <| om n15 (fab 8 rfl T.f83_5 (.t n1)) u18 <| om n16 (lab T.a81 n0 d8 k1 (.t n18)) u19 <| om n22 (fab 8 rfl T.f83_5 (.t n1)) u25 <| om n23 (fab 8 rfl T.f81_0 (.t n25)) u26 <| om n24 (ldb T.o79 n0 n8 (.t n26)) u27 <| om n25 (lenm T.s79 (.t n27)) u28 <| oc n3 (call (sp_spec_FormatInt _) (.c (.t n5) rfl .n)) u6 <| om n4 (sadd (sz_ok (fmtInt_sz _) (Nat.le_refl _) rfl) (.t n6) (.s rfl)) u7 <| oc n7 (call (sp_spec_FormatInt _) (.c (.t n9) rfl .n)) u10 <| om n8 (sadd (sz_ok (sz_add (fmtInt_sz _) (Nat.le_refl _)) (fmtInt_sz _) rfl) (.t n7) (.t n10)) u11 <| om n9 (sadd (sz_ok (sz_add (sz_add (fmtInt_sz _) (Nat.le_refl _)) (fmtInt_sz _)) (Nat.le_refl _) rfl) (.t n11) (.s rfl)) u12 <| oc n12 (call (sp_spec_FormatInt _) (.c (.t n14) rfl .n)) u15 <| om n13 (sadd (sz_ok (sz_add (sz_add (sz_add (fmtInt_sz _) (Nat.le_refl _)) (fmtInt_sz _)) (Nat.le_refl _)) (fmtInt_sz _) rfl) (.t n12) (.t n15)) u16 <| om n14 (sadd (sz_ok (sz_add (sz_add (sz_add (sz_add (fmtInt_sz _) (Nat.le_refl _)) (fmtInt_sz _)) (Nat.le_refl _)) (fmtInt_sz _)) (Nat.le_refl _) rfl) (.t n16) (.s rfl)) u17 <| oc n17 (call (sp_spec_ActiveEntries x.Bundle hcl) (.c (.t n19) rfl .n)) u20 <| om n18 (lenm T.s79 (.t n20)) u21 <| oc n19 (call (sp_spec_FormatInt _) (.c (.t n21) rfl .n)) u22 <| om n20 (sadd (sz_ok (sz_add (sz_add (sz_add (sz_add (sz_add (fmtInt_sz _) (Nat.le_refl _)) (fmtInt_sz _)) (Nat.le_refl _)) (fmtInt_sz _)) (Nat.le_refl _)) (fmtInt_sz _) rfl) (.t n17) (.t n22)) u23 <| om n21 (sadd (sz_ok (sz_add (sz_add (sz_add (sz_add (sz_add (sz_add (fmtInt_sz _) (Nat.le_refl _)) (fmtInt_sz _)) (Nat.le_refl _)) (fmtInt_sz _)) (Nat.le_refl _)) (fmtInt_sz _)) (Nat.le_refl _) rfl) (.t n23) (.s rfl)) u24 <| oc n26 (call (sp_spec_FormatInt _) (.c (.t n28) rfl .n)) u29 <| om n27 (sadd (sz_ok (sz_add (sz_add (sz_add (sz_add (sz_add (sz_add (sz_add (fmtInt_sz _) (Nat.le_refl _)) (fmtInt_sz _)) (Nat.le_refl _)) (fmtInt_sz _)) (Nat.le_refl _)) (fmtInt_sz _)) (Nat.le_refl _)) (fmtInt_sz _) rfl) (.t n24) (.t n29)) u30 <| om n28 (as_ (.t n30)) u2 <| oe ?_
  refine rt (ret1 (.t n2 (.p rfl) .n) ?_)
  rfl

theorem sp_laws_FnExactFormatDevice (x : D.Device) : Spec Tryd.prog G0 7 [.agg (D.Device.V x)] (fun r => r = .bool true) := by
  refine enter (l := [.tmp 2]) Tryd.func7 rfl Tryd.ntmps7 rfl T.en7 fun E => ?_
  simp only [List.length_cons, List.length_nil, List.replicate_succ, List.replicate_zero, List.cons_append, List.nil_append, Nat.reduceAdd, Nat.reduceSub]
  refine sr <| k (bx rfl s0 u1 (.t n0)) <| m (as_ .b) u2 <| e ?_
  refine sr <| m (as_ (.i rfl)) u3 <| e ?_
  refine sr <| m (lab T.a75 n0 d0 k9 (.t n1)) u7 <| m (mv (.t n3)) u8 <| cI (call (sp_laws_szDevice _ _ (by omega) (by first | omega | (simp only [IntKind.wrap_i64] at *; omega))) (.c (.t n7) rfl (.c (.t n8) rfl .n))) (fun _ => u9) (fun r1 hr1 => ?_)
  refine m (as_ (.t n9)) u3 <| e ?_
  refine sq ?_
  refine sr <| m (mv (.t n3)) u10 <| m (lss (.t n10) (.i rfl)) u11 <| e ?_
  refine cnd n11 (fun h2 => ?_) (fun h2 => ?_)
  ·
    replace h2 := of_decide_eq_true h2
    refine sr <| m (as_ .b) u2 <| e ?_
    refine rt (ret1 (.t n2 (.p rfl) .n) ?_)
    rfl
  ·
    replace h2 := of_decide_eq_false h2
    have hsz : x.sz ≤ 1048576 := by
      have := hr1 (by omega)
      omega
    refine skp ?_
    refine sr <| m (lab T.a75 n0 d0 k9 (.t n1)) u12 <| c (call (sp_laws_toDevice _ (by first | assumption | (simp only [D.Share.sz, D.Keeper.sz, D.KeeperHost.sz, D.Credential.sz, D.Account.sz, D.Challenge.sz, D.ChallengeBook.sz, D.Site.sz, D.Notice.sz, D.Mailbox.sz, D.LogEntry.sz, D.KeyStore.sz, D.Entry.sz, D.Bundle.sz, D.Device.sz] at *; omega))) (.c (.t n12) rfl .n)) u13 <| c (call (sp_spec_FormatDevice _ (by first | assumption | omega)) (.c (.t n13) rfl .n)) u14 <| m (as_ (.t n14)) u4 <| e ?_
    refine sr <| m (lab T.a75 n0 d0 k9 (.t n1)) u15 <| c (call (sp_laws_toDevice _ (by first | assumption | (simp only [D.Share.sz, D.Keeper.sz, D.KeeperHost.sz, D.Credential.sz, D.Account.sz, D.Challenge.sz, D.ChallengeBook.sz, D.Site.sz, D.Notice.sz, D.Mailbox.sz, D.LogEntry.sz, D.KeyStore.sz, D.Entry.sz, D.Bundle.sz, D.Device.sz] at *; omega))) (.c (.t n15) rfl .n)) u16 <| k (al T.z83 s1 u5) <| k (sta T.a83 rfl rfl n1 (.z (.z (.z (.z (.z (.z (.z (.z (.z .n))))))))) q1 (.t n5) (.t n16)) <| e ?_
    refine sr <| m (lab T.a83 n1 d0 k9 (.t n5)) u17 <| c (call (sp_impl_FormatDevice _ (by first | assumption | omega)) (.c (.t n17) rfl .n)) u18 <| m (as_ (.t n18)) u6 <| e ?_
    refine sq ?_
    refine sr <| m (mv (.t n6)) u19 <| m (mv (.t n4)) u20 <| m (snes (.t n19) (.t n20)) u21 <| e ?_
    refine cdf n21 ?_
    refine skp ?_
    refine sq ?_
    refine sd [(0, true), (1, true), (2, false), (3, false), (4, true)] T.mix (by kernel_rfl) <| om n0 (lab T.a83 n1 d0 k9 (.t n5)) u22 <| om n1 (lab T.a75 n0 d0 k9 (.t n1)) u23 <| oc n2 (call (sp_laws_toDevice _ (by first | assumption | (simp only [D.Share.sz, D.Keeper.sz, D.KeeperHost.sz, D.Credential.sz, D.Account.sz, D.Challenge.sz, D.ChallengeBook.sz, D.Site.sz, D.Notice.sz, D.Mailbox.sz, D.LogEntry.sz, D.KeyStore.sz, D.Entry.sz, D.Bundle.sz, D.Device.sz] at *; omega))) (.c (.t n23) rfl .n)) u24 <| oc n3 (call (sp_laws_eqDevice _) (.c (.t n22) rfl (.c (.t n24) rfl .n))) u25 <| om n4 (not_ (.t n25)) u26 <| oe ?_
    refine cdf n26 ?_
    refine skp ?_
    refine sr <| m (as_ .b) u2 <| e ?_
    refine rt (ret1 (.t n2 (.p rfl) .n) ?_)
    rfl
end Go.VK
