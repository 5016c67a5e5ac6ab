/-
  Printed by wip/tools (own work of this part): walks over the value kit
-/
import Derived.Test.YtaicmnffahjdgaaDoorXwFormatAccount4
set_option linter.unusedVariables false
set_option linter.unusedSimpArgs false
set_option maxRecDepth 100000
set_option maxHeartbeats 4000000
namespace Go.VK
open Go.RowKit Go.Proofs
theorem sp_laws_szAccountS (l : List D.Account) (left : Int) (h0 : 0 ≤ left) (h1 : left ≤ 1048576) : Spec Tryd.prog G0 70 [.slice 3 (l.map D.Account.V), .int .i64 left] (fun r => ∃ n : Int, r = .int .i64 n ∧ (0 ≤ n → ((l.length + (l.map D.Account.sz).sum : Nat) : Int) + n ≤ left)) := by
  refine enter (l := [.tmp 4]) Tryd.func70 rfl Tryd.ntmps70 rfl T.en70 fun E => ?_
  simp only [List.length_cons, List.length_nil, List.replicate_succ, List.replicate_zero, List.cons_append, List.nil_append, Nat.reduceAdd, Nat.reduceSub]
  refine rngl n0 fun hlen => ?_
  simp only [List.length_map, maxLen] at hlen
  have hw : IntKind.i64.wrap (left - (l.length : Int)) = left - (l.length : Int) := by rw [IntKind.wrap_i64]; omega
  refine sr <| m (as_ (.i rfl)) u4 <| e ?_
  refine sr <| m (mv (.t n1)) u6 <| m (mv (.t n0)) u7 <| m (lenm T.s87 (.t n7)) u8 <| m (sub (.t n6) (.t n8)) u9 <| m (as_ (.t n9)) u1 <| e ?_
  refine sq ?_
  refine sr <| m (mv (.t n1)) u10 <| m (lss (.t n10) (.i rfl)) u11 <| e ?_
  refine cnd n11 (fun h1 => ?_) (fun h1 => ?_)
  ·
    replace h1 := of_decide_eq_true h1
    refine sr <| m (as_ (.i rfl)) u4 <| e ?_
    refine rt (ret1 (.t n4 (.p rfl) .n) ?_)
    exact ⟨-1, rfl, fun hn => by omega⟩
  ·
    replace h1 := of_decide_eq_false h1
    refine skp ?_
    refine sq ?_
    refine sr <| m (as_ (.i rfl)) u5 <| e ?_
    refine bk ?_
    refine lp (fun x0 : Nat × Int => ⟨[.slice 3 (l.map D.Account.V), .int .i64 x0.2, .any, .any, .any, .int .i64 (x0.1 : Int), .any, .any, .any, .any, .any, .any, .any, .any, .any, .any, .any, .any, .any, .any, .any, .any, .any, .any, .any, .any, .any], []⟩) (fun x0 : Nat × Int => x0.1 ≤ l.length ∧ 0 ≤ x0.2 ∧ (l.length : Int) + (((l.take x0.1).map D.Account.sz).sum : Nat) + x0.2 ≤ left) (fun x0 : Nat × Int => l.length - x0.1) ((0, IntKind.i64.wrap (left - (l.length : Int)))) (by rw [hw] at h1 ⊢; simp; omega) (le [] (by decide) (.c (.e rfl rfl) (.c (.e rfl rfl) (.c .a (.c .a (.c .a (.c (.e rfl rfl) (.c .a (.c .a (.c .a (.c .a (.c .a (.c .a (.c .a (.c .a (.c .a (.c .a (.c .a (.c .a (.c .a (.c .a (.c .a (.c .a (.c .a (.c .a (.c .a (.c .a (.c .a .n))))))))))))))))))))))))))) .n) ?_
    rintro ⟨i, mm⟩ hJ
    try dsimp only at hJ ⊢
    refine sq ?_
    refine sr <| m (mv (.t n5)) u12 <| m (mv (.t n0)) u13 <| m (lenm T.s87 (.t n13)) u14 <| m (lss (.t n12) (.t n14)) u15 <| e ?_
    refine cnd n15 (fun h2 => ?_) (fun h2 => ?_)
    ·
      replace h2 := of_decide_eq_true h2
      refine skp ?_
      refine sq ?_
      refine bk ?_
      refine sr <| m (mv (.t n0)) u18 <| m (mv (.t n5)) u19 <| m (ixm T.s87 (Int.natCast_nonneg _) (gi (by omega)) (.t n18) (.t n19)) u20 <| m (lae T.a24 k3 (.t n20)) u21 <| m (mv (.t n1)) u22 <| cI (call (sp_laws_szAccount _ _ (by omega) (by first | omega | (simp only [IntKind.wrap_i64] at *; omega))) (.c (.t n21) rfl (.c (.t n22) rfl .n))) (fun _ => u23) (fun r3 hr3 => ?_)
      refine m (as_ (.t n23)) u1 <| e ?_
      refine sr <| m (mv (.t n1)) u24 <| m (lss (.t n24) (.i rfl)) u25 <| e ?_
      refine cnd n25 (fun h4 => ?_) (fun h4 => ?_)
      ·
        replace h4 := of_decide_eq_true h4
        refine sr <| m (as_ (.i rfl)) u4 <| e ?_
        refine rt (ret1 (.t n4 (.p rfl) .n) ?_)
        exact ⟨-1, rfl, fun hn => by omega⟩
      ·
        replace h4 := of_decide_eq_false h4
        refine skp ?_
        refine rg <| m (mv (.t n5)) u16 <| m (add (.t n16) (.i rfl)) u17 <| m (as_ (.t n17)) u5 <| e ?_
        exact ⟨(i + 1, r3), ⟨by omega, by omega, by rw [take_sum D.Account.sz l i (by omega)]; have := hr3 (by omega); omega⟩, (by omega), le [] (by decide) (.c (.e rfl rfl) (.c (.e rfl rfl) (.c .a (.c .a (.c .a (.c (.e (wi (by omega)) rfl) (.c .a (.c .a (.c .a (.c .a (.c .a (.c .a (.c .a (.c .a (.c .a (.c .a (.c .a (.c .a (.c .a (.c .a (.c .a (.c .a (.c .a (.c .a (.c .a (.c .a (.c .a .n))))))))))))))))))))))))))) .n⟩
    ·
      replace h2 := of_decide_eq_false h2
      refine ex (x1 ?_)
      refine sr <| m (mv (.t n1)) u26 <| m (as_ (.t n26)) u4 <| e ?_
      refine rt (ret1 (.t n4 (.p rfl) .n) ?_)
      refine ⟨_, rfl, fun hn => ?_⟩
      rw [show i = l.length from by omega, List.take_length] at hJ
      omega

theorem sp_laws_szChallengeS (l : List D.Challenge) (left : Int) (h0 : 0 ≤ left) (h1 : left ≤ 1048576) : Spec Tryd.prog G0 94 [.slice 3 (l.map D.Challenge.V), .int .i64 left] (fun r => ∃ n : Int, r = .int .i64 n ∧ (0 ≤ n → (l.length : Int) + n ≤ left)) := by
  refine enter (l := [.tmp 4]) Tryd.func94 rfl Tryd.ntmps94 rfl T.en94 fun E => ?_
  simp only [List.length_cons, List.length_nil, List.replicate_succ, List.replicate_zero, List.cons_append, List.nil_append, Nat.reduceAdd, Nat.reduceSub]
  refine rngl n0 fun hlen => ?_
  simp only [List.length_map, maxLen] at hlen
  have hw : IntKind.i64.wrap (left - (l.length : Int)) = left - (l.length : Int) := by rw [IntKind.wrap_i64]; omega
  refine sr <| m (as_ (.i rfl)) u4 <| e ?_
  refine sr <| m (mv (.t n1)) u5 <| m (mv (.t n0)) u6 <| m (lenm T.s88 (.t n6)) u7 <| m (sub (.t n5) (.t n7)) u8 <| m (as_ (.t n8)) u1 <| e ?_
  refine sq ?_
  refine sr <| m (mv (.t n1)) u9 <| m (lss (.t n9) (.i rfl)) u10 <| e ?_
  refine cnd n10 (fun h1 => ?_) (fun h1 => ?_)
  ·
    replace h1 := of_decide_eq_true h1
    refine sr <| m (as_ (.i rfl)) u4 <| e ?_
    refine rt (ret1 (.t n4 (.p rfl) .n) ?_)
    refine ⟨_, rfl, fun hn => ?_⟩
    first | omega | (rw [hw]; omega)
  ·
    replace h1 := of_decide_eq_false h1
    refine skp ?_
    refine sr <| m (mv (.t n1)) u11 <| m (as_ (.t n11)) u4 <| e ?_
    refine rt (ret1 (.t n4 (.p rfl) .n) ?_)
    refine ⟨_, rfl, fun hn => ?_⟩
    first | omega | (rw [hw]; omega)

theorem sp_laws_szChallengeBook (x : D.ChallengeBook) (left : Int) (h0 : 0 ≤ left) (h1 : left ≤ 1048576) : Spec Tryd.prog G0 71 [.agg (D.ChallengeBook.V x), .int .i64 left] (fun r => ∃ n : Int, r = .int .i64 n ∧ (0 ≤ n → (x.sz : Int) + n ≤ left)) := by
  refine enter (l := [.tmp 4]) Tryd.func71 rfl Tryd.ntmps71 rfl T.en71 fun E => ?_
  simp only [List.length_cons, List.length_nil, List.replicate_succ, List.replicate_zero, List.cons_append, List.nil_append, Nat.reduceAdd, Nat.reduceSub]
  refine sr <| k (bx rfl s0 u2 (.t n0)) <| m (as_ (.i rfl)) u4 <| e ?_
  refine sr <| m (fab 2 rfl T.f90_2 (.t n2)) u5 <| m (ldb T.o88 n0 n2 (.t n5)) u6 <| m (mv (.t n1)) u7 <| cI (call (sp_laws_szChallengeS _ _ (by omega) (by first | omega | (simp only [IntKind.wrap_i64] at *; omega))) (.c (.t n6) rfl (.c (.t n7) rfl .n))) (fun _ => u8) (fun r1 hr1 => ?_)
  refine m (as_ (.t n8)) u1 <| e ?_
  refine sq ?_
  refine sr <| m (mv (.t n1)) u9 <| m (lss (.t n9) (.i rfl)) u10 <| e ?_
  refine cnd n10 (fun h2 => ?_) (fun h2 => ?_)
  ·
    replace h2 := of_decide_eq_true h2
    refine sr <| m (as_ (.i rfl)) u4 <| e ?_
    refine rt (ret1 (.t n4 (.p rfl) .n) ?_)
    refine ⟨_, rfl, fun hn => ?_⟩
    try simp only [D.Share.sz, D.Keeper.sz, D.KeeperHost.sz, D.Credential.sz, D.Account.sz, D.Challenge.sz, D.ChallengeBook.sz, D.Site.sz, D.Notice.sz, D.Mailbox.sz, D.LogEntry.sz, D.KeyStore.sz, D.Entry.sz, D.Bundle.sz, D.Device.sz] at *
    try simp only [IntKind.wrap_i64] at *
    omega
  ·
    replace h2 := of_decide_eq_false h2
    refine skp ?_
    refine sr <| m (mv (.t n1)) u11 <| m (as_ (.t n11)) u4 <| e ?_
    refine rt (ret1 (.t n4 (.p rfl) .n) ?_)
    refine ⟨_, rfl, fun hn => ?_⟩
    try simp only [D.Share.sz, D.Keeper.sz, D.KeeperHost.sz, D.Credential.sz, D.Account.sz, D.Challenge.sz, D.ChallengeBook.sz, D.Site.sz, D.Notice.sz, D.Mailbox.sz, D.LogEntry.sz, D.KeyStore.sz, D.Entry.sz, D.Bundle.sz, D.Device.sz] at *
    try simp only [IntKind.wrap_i64] at *
    omega

theorem sp_laws_szIntS (l : List Int) (left : Int) (h0 : 0 ≤ left) (h1 : left ≤ 1048576) : Spec Tryd.prog G0 72 [.slice 1 (l.map iV), .int .i64 left] (fun r => ∃ n : Int, r = .int .i64 n ∧ (0 ≤ n → (l.length : Int) + n ≤ left)) := by
  refine enter (l := [.tmp 4]) Tryd.func72 rfl Tryd.ntmps72 rfl T.en72 fun E => ?_
  simp only [List.length_cons, List.length_nil, List.replicate_succ, List.replicate_zero, List.cons_append, List.nil_append, Nat.reduceAdd, Nat.reduceSub]
  refine rngl n0 fun hlen => ?_
  simp only [List.length_map, maxLen] at hlen
  have hw : IntKind.i64.wrap (left - (l.length : Int)) = left - (l.length : Int) := by rw [IntKind.wrap_i64]; omega
  refine sr <| m (as_ (.i rfl)) u4 <| e ?_
  refine sr <| m (mv (.t n1)) u5 <| m (mv (.t n0)) u6 <| m (lenm T.s91 (.t n6)) u7 <| m (sub (.t n5) (.t n7)) u8 <| m (as_ (.t n8)) u1 <| e ?_
  refine sq ?_
  refine sr <| m (mv (.t n1)) u9 <| m (lss (.t n9) (.i rfl)) u10 <| e ?_
  refine cnd n10 (fun h1 => ?_) (fun h1 => ?_)
  ·
    replace h1 := of_decide_eq_true h1
    refine sr <| m (as_ (.i rfl)) u4 <| e ?_
    refine rt (ret1 (.t n4 (.p rfl) .n) ?_)
    refine ⟨_, rfl, fun hn => ?_⟩
    first | omega | (rw [hw]; omega)
  ·
    replace h1 := of_decide_eq_false h1
    refine skp ?_
    refine sr <| m (mv (.t n1)) u11 <| m (as_ (.t n11)) u4 <| e ?_
    refine rt (ret1 (.t n4 (.p rfl) .n) ?_)
    refine ⟨_, rfl, fun hn => ?_⟩
    first | omega | (rw [hw]; omega)

theorem sp_laws_szSite (x : D.Site) (left : Int) (h0 : 0 ≤ left) (h1 : left ≤ 1048576) : Spec Tryd.prog G0 34 [.agg (D.Site.V x), .int .i64 left] (fun r => ∃ n : Int, r = .int .i64 n ∧ (0 ≤ n → (x.sz : Int) + n ≤ left)) := by
  refine enter (l := [.tmp 4]) Tryd.func34 rfl Tryd.ntmps34 rfl T.en34 fun E => ?_
  simp only [List.length_cons, List.length_nil, List.replicate_succ, List.replicate_zero, List.cons_append, List.nil_append, Nat.reduceAdd, Nat.reduceSub]
  refine sr <| k (bx rfl s0 u2 (.t n0)) <| m (as_ (.i rfl)) u4 <| e ?_
  refine sr <| m (mv (.t n1)) u5 <| m (fab 0 rfl T.f93_0 (.t n2)) u6 <| m (ldb T.o9 n0 n0 (.t n6)) u7 <| m (lenS Tryd.underlying9 (.t n7)) u8 <| m (sub (.t n5) (.t n8)) u9 <| m (as_ (.t n9)) u1 <| e ?_
  refine rngs n7 fun hs7 => ?_
  simp only [maxLen] at hs7
  refine sq ?_
  refine sr <| m (mv (.t n1)) u10 <| m (lss (.t n10) (.i rfl)) u11 <| e ?_
  refine cnd n11 (fun h1 => ?_) (fun h1 => ?_)
  ·
    replace h1 := of_decide_eq_true h1
    refine sr <| m (as_ (.i rfl)) u4 <| e ?_
    refine rt (ret1 (.t n4 (.p rfl) .n) ?_)
    refine ⟨_, rfl, fun hn => ?_⟩
    try simp only [D.Share.sz, D.Keeper.sz, D.KeeperHost.sz, D.Credential.sz, D.Account.sz, D.Challenge.sz, D.ChallengeBook.sz, D.Site.sz, D.Notice.sz, D.Mailbox.sz, D.LogEntry.sz, D.KeyStore.sz, D.Entry.sz, D.Bundle.sz, D.Device.sz] at *
    try simp only [IntKind.wrap_i64] at *
    omega
  ·
    replace h1 := of_decide_eq_false h1
    refine skp ?_
    refine sr <| m (fab 1 rfl T.f93_1 (.t n2)) u12 <| m (ldb T.o87 n0 n1 (.t n12)) u13 <| m (mv (.t n1)) u14 <| cI (call (sp_laws_szAccountS _ _ (by omega) (by first | omega | (simp only [IntKind.wrap_i64] at *; omega))) (.c (.t n13) rfl (.c (.t n14) rfl .n))) (fun _ => u15) (fun r2 hr2 => ?_)
    refine m (as_ (.t n15)) u1 <| e ?_
    refine sq ?_
    refine sr <| m (mv (.t n1)) u16 <| m (lss (.t n16) (.i rfl)) u17 <| e ?_
    refine cnd n17 (fun h3 => ?_) (fun h3 => ?_)
    ·
      replace h3 := of_decide_eq_true h3
      refine sr <| m (as_ (.i rfl)) u4 <| e ?_
      refine rt (ret1 (.t n4 (.p rfl) .n) ?_)
      refine ⟨_, rfl, fun hn => ?_⟩
      try simp only [D.Share.sz, D.Keeper.sz, D.KeeperHost.sz, D.Credential.sz, D.Account.sz, D.Challenge.sz, D.ChallengeBook.sz, D.Site.sz, D.Notice.sz, D.Mailbox.sz, D.LogEntry.sz, D.KeyStore.sz, D.Entry.sz, D.Bundle.sz, D.Device.sz] at *
      try simp only [IntKind.wrap_i64] at *
      omega
    ·
      replace h3 := of_decide_eq_false h3
      refine skp ?_
      refine sr <| m (fab 2 rfl T.f93_2 (.t n2)) u18 <| m (lab T.a90 n0 d2 k3 (.t n18)) u19 <| m (mv (.t n1)) u20 <| cI (call (sp_laws_szChallengeBook _ _ (by omega) (by first | omega | (simp only [IntKind.wrap_i64] at *; omega))) (.c (.t n19) rfl (.c (.t n20) rfl .n))) (fun _ => u21) (fun r4 hr4 => ?_)
      refine m (as_ (.t n21)) u1 <| e ?_
      refine sq ?_
      refine sr <| m (mv (.t n1)) u22 <| m (lss (.t n22) (.i rfl)) u23 <| e ?_
      refine cnd n23 (fun h5 => ?_) (fun h5 => ?_)
      ·
        replace h5 := of_decide_eq_true h5
        refine sr <| m (as_ (.i rfl)) u4 <| e ?_
        refine rt (ret1 (.t n4 (.p rfl) .n) ?_)
        refine ⟨_, rfl, fun hn => ?_⟩
        try simp only [D.Share.sz, D.Keeper.sz, D.KeeperHost.sz, D.Credential.sz, D.Account.sz, D.Challenge.sz, D.ChallengeBook.sz, D.Site.sz, D.Notice.sz, D.Mailbox.sz, D.LogEntry.sz, D.KeyStore.sz, D.Entry.sz, D.Bundle.sz, D.Device.sz] at *
        try simp only [IntKind.wrap_i64] at *
        omega
      ·
        replace h5 := of_decide_eq_false h5
        refine skp ?_
        refine sr <| m (fab 5 rfl T.f93_3 (.t n2)) u24 <| m (ldb T.o91 n0 n5 (.t n24)) u25 <| m (mv (.t n1)) u26 <| cI (call (sp_laws_szIntS _ _ (by omega) (by first | omega | (simp only [IntKind.wrap_i64] at *; omega))) (.c (.t n25) rfl (.c (.t n26) rfl .n))) (fun _ => u27) (fun r6 hr6 => ?_)
        refine m (as_ (.t n27)) u1 <| e ?_
        refine sq ?_
        refine sr <| m (mv (.t n1)) u28 <| m (lss (.t n28) (.i rfl)) u29 <| e ?_
        refine cnd n29 (fun h7 => ?_) (fun h7 => ?_)
        ·
          replace h7 := of_decide_eq_true h7
          refine sr <| m (as_ (.i rfl)) u4 <| e ?_
          refine rt (ret1 (.t n4 (.p rfl) .n) ?_)
          refine ⟨_, rfl, fun hn => ?_⟩
          try simp only [D.Share.sz, D.Keeper.sz, D.KeeperHost.sz, D.Credential.sz, D.Account.sz, D.Challenge.sz, D.ChallengeBook.sz, D.Site.sz, D.Notice.sz, D.Mailbox.sz, D.LogEntry.sz, D.KeyStore.sz, D.Entry.sz, D.Bundle.sz, D.Device.sz] at *
          try simp only [IntKind.wrap_i64] at *
          omega
        ·
          replace h7 := of_decide_eq_false h7
          refine skp ?_
          refine sr <| m (mv (.t n1)) u30 <| m (as_ (.t n30)) u4 <| e ?_
          refine rt (ret1 (.t n4 (.p rfl) .n) ?_)
          refine ⟨_, rfl, fun hn => ?_⟩
          try simp only [D.Share.sz, D.Keeper.sz, D.KeeperHost.sz, D.Credential.sz, D.Account.sz, D.Challenge.sz, D.ChallengeBook.sz, D.Site.sz, D.Notice.sz, D.Mailbox.sz, D.LogEntry.sz, D.KeyStore.sz, D.Entry.sz, D.Bundle.sz, D.Device.sz] at *
          try simp only [IntKind.wrap_i64] at *
          omega

theorem sp_laws_toAccountS (l : List D.Account) (hl : l.length + (l.map D.Account.sz).sum ≤ 1048576) : Spec Tryd.prog G0 73 [.slice 3 (l.map D.Account.V)] (fun r => r = .slice 3 (l.map D.Account.V)) := by
  have hmem : ∀ (j : Nat) (h : j < l.length), (l[j]'h).sz ≤ (l.map D.Account.sz).sum := fun j h => sum_mem D.Account.sz l _ (List.getElem_mem h)
  refine enter (l := [.tmp 2]) Tryd.func73 rfl Tryd.ntmps73 rfl T.en73 fun E => ?_
  simp only [List.length_cons, List.length_nil, List.replicate_succ, List.replicate_zero, List.cons_append, List.nil_append, Nat.reduceAdd, Nat.reduceSub]
  refine sr <| m (as_ .n) u2 <| e ?_
  refine sr <| m (mv (.t n0)) u5 <| m (lenm T.s87 (.t n5)) u6 <| k (mk_ T.s96 T.z29 (by omega) (by omega) s0 u7 (.t n6) (.t n6)) <| m (as_ (.t n7)) u3 <| e ?_
  refine sq ?_
  refine sr <| m (as_ (.i rfl)) u4 <| e ?_
  refine bk ?_
  refine lp (fun i : Nat => ⟨[.slice 3 (l.map D.Account.V), .any, .nil, .own 0, .int .i64 (i : Int), .any, .any, .own 0, .any, .any, .any, .any, .any, .any, .any, .any, .any, .any, .any, .any, .any, .any, .any], [.row 29 3 (pref D.Account.V l [.int .i64 0, .int .i64 0, .nil] i)]⟩) (fun i : Nat => i ≤ l.length) (fun i : Nat => l.length - i) (0) (by simp) (le [0] (by decide) (.c (.e rfl rfl) (.c .a (.c (.e rfl rfl) (.c (.w n0) (.c (.e rfl rfl) (.c .a (.c .a (.c (.w n0) (.c .a (.c .a (.c .a (.c .a (.c .a (.c .a (.c .a (.c .a (.c .a (.c .a (.c .a (.c .a (.c .a (.c .a (.c .a .n))))))))))))))))))))))) (.r n0 (pref_0 _ _ _).symm .n)) ?_
  rintro i hJ
  try dsimp only at hJ ⊢
  refine sq ?_
  refine sr <| m (mv (.t n4)) u8 <| m (mv (.t n0)) u9 <| m (lenm T.s87 (.t n9)) u10 <| m (lss (.t n8) (.t n10)) u11 <| e ?_
  refine cnd n11 (fun h1 => ?_) (fun h1 => ?_)
  ·
    replace h1 := of_decide_eq_true h1
    refine skp ?_
    refine sq ?_
    refine bk ?_
    refine rg <| m (mv (.t n3)) u14 <| m (mv (.t n4)) u15 <| m (mv (.t n0)) u16 <| m (mv (.t n4)) u17 <| m (ixm T.s87 (Int.natCast_nonneg _) (gi (by omega)) (.t n16) (.t n17)) u18 <| m (lae T.a24 k3 (.t n18)) u19 <| c (call (sp_laws_toAccount _ (by have := hmem i (by omega); omega)) (.c (.t n19) rfl .n)) u20 <| m (oix T.s96 n0 (Int.natCast_nonneg _) (by rw [Int.toNat_natCast, pref_len (by omega)]; omega) (.t n14) (.t n15)) u21 <| k (stoA rfl (by rw [Int.toNat_natCast, pref_len (by omega)]; omega) T.a29 rfl rfl rfl n0 q0 (.t n21) (.t n20)) <| e ?_
    refine rg <| m (mv (.t n4)) u12 <| m (add (.t n12) (.i rfl)) u13 <| m (as_ (.t n13)) u4 <| e ?_
    exact ⟨i + 1, (by omega), (by omega), le [0] (by decide) (.c (.e rfl rfl) (.c .a (.c (.e rfl rfl) (.c (.w n0) (.c (.e (wi (by omega)) rfl) (.c .a (.c .a (.c (.w n0) (.c .a (.c .a (.c .a (.c .a (.c .a (.c .a (.c .a (.c .a (.c .a (.c .a (.c .a (.c .a (.c .a (.c .a (.c .a .n))))))))))))))))))))))) (.r n0 (pref_set (by omega)) .n)⟩
  ·
    replace h1 := of_decide_eq_false h1
    refine ex (x1 ?_)
    refine sr <| m (mv (.t n3)) u22 <| m (as_ (.t n22)) u2 <| e ?_
    refine rt (ret1 (.t n2 (.o n0) .n) ?_)
    show V.slice _ _ = V.slice _ _
    rw [show i = l.length from by omega, pref_full]

theorem sp_laws_toChallenge (x : D.Challenge) : Spec Tryd.prog G0 105 [.agg (D.Challenge.V x)] (fun r => r = .agg x.V) := by
  refine enter (l := [.cell 2 180]) Tryd.func105 rfl Tryd.ntmps105 rfl T.en105 fun E => ?_
  simp only [List.length_cons, List.length_nil, List.replicate_succ, List.replicate_zero, List.cons_append, List.nil_append, Nat.reduceAdd, Nat.reduceSub]
  refine sr <| k (bx rfl s0 u1 (.t n0)) <| k (al T.z180 s1 u2) <| e ?_
  refine sr <| k (al T.z180 s2 u3) <| e ?_
  refine sr <| m (fab 0 rfl T.f182_0 (.t n1)) u4 <| m (ldb T.o3 n0 n0 (.t n4)) u5 <| m (fab 0 rfl T.f180_0 (.t n3)) u6 <| k (st1 T.o3 rfl n2 u0 q2 (.t n6) (.t n5)) <| e ?_
  refine sr <| m (fab 1 rfl T.f182_1 (.t n1)) u7 <| m (ldb T.o3 n0 n1 (.t n7)) u8 <| m (fab 1 rfl T.f180_1 (.t n3)) u9 <| k (st1 T.o3 rfl n2 u1 q2 (.t n9) (.t n8)) <| e ?_
  refine sr <| m (fab 2 rfl T.f182_2 (.t n1)) u10 <| m (ldb T.o3 n0 n2 (.t n10)) u11 <| m (fab 2 rfl T.f180_2 (.t n3)) u12 <| k (st1 T.o3 rfl n2 u2 q2 (.t n12) (.t n11)) <| e ?_
  refine sr <| m (lab T.a180 n2 d0 k3 (.t n3)) u13 <| k (sta T.a180 rfl rfl n1 (.z (.z (.z .n))) q1 (.t n2) (.t n13)) <| e ?_
  refine rt (ret1 (.a n2 T.a180 n1 rfl (.c (.p rfl) (.c (.p rfl) (.c (.p rfl) .n))) .n) ?_)
  rfl

theorem sp_laws_toChallengeS (l : List D.Challenge) (hl : l.length ≤ 1048576) : Spec Tryd.prog G0 95 [.slice 3 (l.map D.Challenge.V)] (fun r => r = .slice 3 (l.map D.Challenge.V)) := by
  refine enter (l := [.tmp 2]) Tryd.func95 rfl Tryd.ntmps95 rfl T.en95 fun E => ?_
  simp only [List.length_cons, List.length_nil, List.replicate_succ, List.replicate_zero, List.cons_append, List.nil_append, Nat.reduceAdd, Nat.reduceSub]
  refine sr <| m (as_ .n) u2 <| e ?_
  refine sr <| m (mv (.t n0)) u5 <| m (lenm T.s88 (.t n5)) u6 <| k (mk_ T.s97 T.z180 (by omega) (by omega) s0 u7 (.t n6) (.t n6)) <| m (as_ (.t n7)) u3 <| e ?_
  refine sq ?_
  refine sr <| m (as_ (.i rfl)) u4 <| e ?_
  refine bk ?_
  refine lp (fun i : Nat => ⟨[.slice 3 (l.map D.Challenge.V), .any, .nil, .own 0, .int .i64 (i : Int), .any, .any, .own 0, .any, .any, .any, .any, .any, .any, .any, .any, .any, .any, .any, .any, .any, .any, .any], [.row 180 3 (pref D.Challenge.V l [.int .i64 0, .int .i64 0, .int .i64 0] i)]⟩) (fun i : Nat => i ≤ l.length) (fun i : Nat => l.length - i) (0) (by simp) (le [0] (by decide) (.c (.e rfl rfl) (.c .a (.c (.e rfl rfl) (.c (.w n0) (.c (.e rfl rfl) (.c .a (.c .a (.c (.w n0) (.c .a (.c .a (.c .a (.c .a (.c .a (.c .a (.c .a (.c .a (.c .a (.c .a (.c .a (.c .a (.c .a (.c .a (.c .a .n))))))))))))))))))))))) (.r n0 (pref_0 _ _ _).symm .n)) ?_
  rintro i hJ
  try dsimp only at hJ ⊢
  refine sq ?_
  refine sr <| m (mv (.t n4)) u8 <| m (mv (.t n0)) u9 <| m (lenm T.s88 (.t n9)) u10 <| m (lss (.t n8) (.t n10)) u11 <| e ?_
  refine cnd n11 (fun h1 => ?_) (fun h1 => ?_)
  ·
    replace h1 := of_decide_eq_true h1
    refine skp ?_
    refine sq ?_
    refine bk ?_
    refine rg <| m (mv (.t n3)) u14 <| m (mv (.t n4)) u15 <| m (mv (.t n0)) u16 <| m (mv (.t n4)) u17 <| m (ixm T.s88 (Int.natCast_nonneg _) (gi (by omega)) (.t n16) (.t n17)) u18 <| m (lae T.a182 k3 (.t n18)) u19 <| c (call (sp_laws_toChallenge _) (.c (.t n19) rfl .n)) u20 <| m (oix T.s97 n0 (Int.natCast_nonneg _) (by rw [Int.toNat_natCast, pref_len (by omega)]; omega) (.t n14) (.t n15)) u21 <| k (stoA rfl (by rw [Int.toNat_natCast, pref_len (by omega)]; omega) T.a180 rfl rfl rfl n0 q0 (.t n21) (.t n20)) <| e ?_
    refine rg <| m (mv (.t n4)) u12 <| m (add (.t n12) (.i rfl)) u13 <| m (as_ (.t n13)) u4 <| e ?_
    exact ⟨i + 1, (by omega), (by omega), le [0] (by decide) (.c (.e rfl rfl) (.c .a (.c (.e rfl rfl) (.c (.w n0) (.c (.e (wi (by omega)) rfl) (.c .a (.c .a (.c (.w n0) (.c .a (.c .a (.c .a (.c .a (.c .a (.c .a (.c .a (.c .a (.c .a (.c .a (.c .a (.c .a (.c .a (.c .a (.c .a .n))))))))))))))))))))))) (.r n0 (pref_set (by omega)) .n)⟩
  ·
    replace h1 := of_decide_eq_false h1
    refine ex (x1 ?_)
    refine sr <| m (mv (.t n3)) u22 <| m (as_ (.t n22)) u2 <| e ?_
    refine rt (ret1 (.t n2 (.o n0) .n) ?_)
    show V.slice _ _ = V.slice _ _
    rw [show i = l.length from by omega, pref_full]

theorem sp_laws_toChallengeBook (x : D.ChallengeBook) (hl : x.sz ≤ 1048576) : Spec Tryd.prog G0 74 [.agg (D.ChallengeBook.V x)] (fun r => r = .agg x.V) := by
  simp only [D.ChallengeBook.sz] at hl
  refine enter (l := [.cell 2 99]) Tryd.func74 rfl Tryd.ntmps74 rfl T.en74 fun E => ?_
  simp only [List.length_cons, List.length_nil, List.replicate_succ, List.replicate_zero, List.cons_append, List.nil_append, Nat.reduceAdd, Nat.reduceSub]
  refine sr <| k (bx rfl s0 u1 (.t n0)) <| k (al T.z99 s1 u2) <| e ?_
  refine sr <| k (al T.z99 s2 u3) <| e ?_
  refine sr <| m (fab 0 rfl T.f90_0 (.t n1)) u4 <| m (ldb T.o3 n0 n0 (.t n4)) u5 <| m (fab 0 rfl T.f99_0 (.t n3)) u6 <| k (st1 T.o3 rfl n2 u0 q2 (.t n6) (.t n5)) <| e ?_
  refine sr <| m (fab 1 rfl T.f90_1 (.t n1)) u7 <| m (ldb T.o3 n0 n1 (.t n7)) u8 <| m (fab 1 rfl T.f99_1 (.t n3)) u9 <| k (st1 T.o3 rfl n2 u1 q2 (.t n9) (.t n8)) <| e ?_
  refine sr <| m (fab 2 rfl T.f90_2 (.t n1)) u10 <| m (ldb T.o88 n0 n2 (.t n10)) u11 <| c (call (sp_laws_toChallengeS _ (by first | assumption | omega)) (.c (.t n11) rfl .n)) u12 <| m (fab 2 rfl T.f99_2 (.t n3)) u13 <| k (st1 T.o97 rfl n2 u2 q2 (.t n13) (.t n12)) <| e ?_
  refine sr <| m (lab T.a99 n2 d0 k3 (.t n3)) u14 <| k (sta T.a99 rfl rfl n1 (.z (.z (.z .n))) q1 (.t n2) (.t n14)) <| e ?_
  refine rt (ret1 (.a n2 T.a99 n1 rfl (.c (.p rfl) (.c (.p rfl) (.c (.p rfl) .n))) .n) ?_)
  rfl

theorem sp_laws_toIntS (l : List Int) (hl : l.length ≤ 1048576) : Spec Tryd.prog G0 75 [.slice 1 (l.map iV)] (fun r => r = .slice 1 (l.map iV)) := by
  refine enter (l := [.tmp 2]) Tryd.func75 rfl Tryd.ntmps75 rfl T.en75 fun E => ?_
  simp only [List.length_cons, List.length_nil, List.replicate_succ, List.replicate_zero, List.cons_append, List.nil_append, Nat.reduceAdd, Nat.reduceSub]
  refine sr <| m (as_ .n) u2 <| e ?_
  refine sr <| m (mv (.t n0)) u5 <| m (lenm T.s91 (.t n5)) u6 <| k (mk_ T.s91 T.z3 (by omega) (by omega) s0 u7 (.t n6) (.t n6)) <| m (as_ (.t n7)) u3 <| e ?_
  refine sq ?_
  refine sr <| m (as_ (.i rfl)) u4 <| e ?_
  refine bk ?_
  refine lp (fun i : Nat => ⟨[.slice 1 (l.map iV), .any, .nil, .own 0, .int .i64 (i : Int), .any, .any, .own 0, .any, .any, .any, .any, .any, .any, .any, .any, .any, .any, .any, .any, .any, .any], [.row 3 1 (pref iV l [.int .i64 0] i)]⟩) (fun i : Nat => i ≤ l.length) (fun i : Nat => l.length - i) (0) (by simp) (le [0] (by decide) (.c (.e rfl rfl) (.c .a (.c (.e rfl rfl) (.c (.w n0) (.c (.e rfl rfl) (.c .a (.c .a (.c (.w n0) (.c .a (.c .a (.c .a (.c .a (.c .a (.c .a (.c .a (.c .a (.c .a (.c .a (.c .a (.c .a (.c .a (.c .a .n)))))))))))))))))))))) (.r n0 (pref_0 _ _ _).symm .n)) ?_
  rintro i hJ
  try dsimp only at hJ ⊢
  refine sq ?_
  refine sr <| m (mv (.t n4)) u8 <| m (mv (.t n0)) u9 <| m (lenm T.s91 (.t n9)) u10 <| m (lss (.t n8) (.t n10)) u11 <| e ?_
  refine cnd n11 (fun h1 => ?_) (fun h1 => ?_)
  ·
    replace h1 := of_decide_eq_true h1
    refine skp ?_
    refine sq ?_
    refine bk ?_
    refine rg <| m (mv (.t n3)) u14 <| m (mv (.t n4)) u15 <| m (mv (.t n0)) u16 <| m (mv (.t n4)) u17 <| m (ixm T.s91 (Int.natCast_nonneg _) (gi (by omega)) (.t n16) (.t n17)) u18 <| m (lde T.o3 n0 (.t n18)) u19 <| m (oix T.s91 n0 (Int.natCast_nonneg _) (by rw [Int.toNat_natCast, pref_len (by omega)]; omega) (.t n14) (.t n15)) u20 <| k (stoO rfl (by rw [Int.toNat_natCast, pref_len (by omega)]; omega) T.o3 rfl rfl rfl n0 q0 (.t n20) (.t n19)) <| e ?_
    refine rg <| m (mv (.t n4)) u12 <| m (add (.t n12) (.i rfl)) u13 <| m (as_ (.t n13)) u4 <| e ?_
    exact ⟨i + 1, (by omega), (by omega), le [0] (by decide) (.c (.e rfl rfl) (.c .a (.c (.e rfl rfl) (.c (.w n0) (.c (.e (wi (by omega)) rfl) (.c .a (.c .a (.c (.w n0) (.c .a (.c .a (.c .a (.c .a (.c .a (.c .a (.c .a (.c .a (.c .a (.c .a (.c .a (.c .a (.c .a (.c .a .n)))))))))))))))))))))) (.r n0 (pref_set (by omega)) .n)⟩
  ·
    replace h1 := of_decide_eq_false h1
    refine ex (x1 ?_)
    refine sr <| m (mv (.t n3)) u21 <| m (as_ (.t n21)) u2 <| e ?_
    refine rt (ret1 (.t n2 (.o n0) .n) ?_)
    show V.slice _ _ = V.slice _ _
    rw [show i = l.length from by omega, pref_full]

theorem sp_laws_toSite (x : D.Site) (hl : x.sz ≤ 1048576) : Spec Tryd.prog G0 36 [.agg (D.Site.V x)] (fun r => r = .agg x.V) := by
  simp only [D.Site.sz] at hl
  refine enter (l := [.cell 2 101]) Tryd.func36 rfl Tryd.ntmps36 rfl T.en36 fun E => ?_
  simp only [List.length_cons, List.length_nil, List.replicate_succ, List.replicate_zero, List.cons_append, List.nil_append, Nat.reduceAdd, Nat.reduceSub]
  refine sr <| k (bx rfl s0 u1 (.t n0)) <| k (al T.z101 s1 u2) <| e ?_
  refine sr <| k (al T.z101 s2 u3) <| e ?_
  refine sr <| m (fab 0 rfl T.f93_0 (.t n1)) u4 <| m (ldb T.o9 n0 n0 (.t n4)) u5 <| m (fab 0 rfl T.f101_0 (.t n3)) u6 <| k (st1 T.o9 rfl n2 u0 q2 (.t n6) (.t n5)) <| e ?_
  refine sr <| m (fab 1 rfl T.f93_1 (.t n1)) u7 <| m (ldb T.o87 n0 n1 (.t n7)) u8 <| c (call (sp_laws_toAccountS _ (by first | assumption | omega)) (.c (.t n8) rfl .n)) u9 <| m (fab 1 rfl T.f101_1 (.t n3)) u10 <| k (st1 T.o96 rfl n2 u1 q2 (.t n10) (.t n9)) <| e ?_
  refine sr <| m (fab 2 rfl T.f93_2 (.t n1)) u11 <| m (lab T.a90 n0 d2 k3 (.t n11)) u12 <| c (call (sp_laws_toChallengeBook _ (by first | assumption | (simp only [D.Share.sz, D.Keeper.sz, D.KeeperHost.sz, D.Credential.sz, D.Account.sz, D.Challenge.sz, D.ChallengeBook.sz, D.Site.sz, D.Notice.sz, D.Mailbox.sz, D.LogEntry.sz, D.KeyStore.sz, D.Entry.sz, D.Bundle.sz, D.Device.sz] at *; omega))) (.c (.t n12) rfl .n)) u13 <| m (fab 2 rfl T.f101_2 (.t n3)) u14 <| k (sta T.a99 rfl rfl n2 (.s (.s (.z (.z (.z .n))))) q2 (.t n14) (.t n13)) <| e ?_
  refine sr <| m (fab 5 rfl T.f93_3 (.t n1)) u15 <| m (ldb T.o91 n0 n5 (.t n15)) u16 <| c (call (sp_laws_toIntS _ (by first | assumption | omega)) (.c (.t n16) rfl .n)) u17 <| m (fab 5 rfl T.f101_3 (.t n3)) u18 <| k (st1 T.o91 rfl n2 u5 q2 (.t n18) (.t n17)) <| e ?_
  refine sr <| m (lab T.a101 n2 d0 k6 (.t n3)) u19 <| k (sta T.a101 rfl rfl n1 (.z (.z (.z (.z (.z (.z .n)))))) q1 (.t n2) (.t n19)) <| e ?_
  refine rt (ret1 (.a n2 T.a101 n1 rfl (.c (.p rfl) (.c (.p rfl) (.c (.p rfl) (.c (.p rfl) (.c (.p rfl) (.c (.p rfl) .n)))))) .n) ?_)
  rfl

theorem sp_laws_eqAccountS (l : List D.Account) : Spec Tryd.prog G0 76 [.slice 3 (l.map D.Account.V), .slice 3 (l.map D.Account.V)] (fun r => r = .bool true) := by
  refine enter (l := [.tmp 4]) Tryd.func76 rfl Tryd.ntmps76 rfl T.en76 fun E => ?_
  simp only [List.length_cons, List.length_nil, List.replicate_succ, List.replicate_zero, List.cons_append, List.nil_append, Nat.reduceAdd, Nat.reduceSub]
  refine rngl n0 fun hlen => ?_
  simp only [List.length_map, maxLen] at hlen
  refine sr <| m (as_ .b) u4 <| e ?_
  refine sq ?_
  refine sr <| m (mv (.t n0)) u6 <| m (lenm T.s96 (.t n6)) u7 <| m (mv (.t n1)) u8 <| m (lenm T.s96 (.t n8)) u9 <| m (neqs (.t n7) (.t n9)) u10 <| e ?_
  refine cdf n10 ?_
  refine skp ?_
  refine sq ?_
  refine sr <| m (as_ (.i rfl)) u5 <| e ?_
  refine bk ?_
  refine lp (fun i : Nat => ⟨[.slice 3 (l.map D.Account.V), .slice 3 (l.map D.Account.V), .any, .any, .any, .int .i64 (i : Int), .any, .any, .any, .any, .any, .any, .any, .any, .any, .any, .any, .any, .any, .any, .any, .any, .any, .any, .any, .any, .any], []⟩) (fun i : Nat => i ≤ l.length) (fun i : Nat => l.length - i) (0) (by simp) (le [] (by decide) (.c (.e rfl rfl) (.c (.e rfl rfl) (.c .a (.c .a (.c .a (.c (.e rfl rfl) (.c .a (.c .a (.c .a (.c .a (.c .a (.c .a (.c .a (.c .a (.c .a (.c .a (.c .a (.c .a (.c .a (.c .a (.c .a (.c .a (.c .a (.c .a (.c .a (.c .a (.c .a .n))))))))))))))))))))))))))) .n) ?_
  rintro i hJ
  try dsimp only at hJ ⊢
  refine sq ?_
  refine sr <| m (mv (.t n5)) u11 <| m (mv (.t n0)) u12 <| m (lenm T.s96 (.t n12)) u13 <| m (lss (.t n11) (.t n13)) u14 <| e ?_
  refine cnd n14 (fun h1 => ?_) (fun h1 => ?_)
  ·
    replace h1 := of_decide_eq_true h1
    refine skp ?_
    refine sq ?_
    refine bk ?_
    refine sd [(0, true), (1, true), (2, true), (3, true), (4, true), (5, true), (6, true), (7, true), (8, false), (9, true)] T.mix (by kernel_rfl) <| om n0 (mv (.t n0)) u17 <| om n1 (mv (.t n5)) u18 <| om n2 (ixm T.s96 (Int.natCast_nonneg _) (gi (by omega)) (.t n17) (.t n18)) u19 <| om n3 (lae T.a29 k3 (.t n19)) u20 <| om n4 (mv (.t n1)) u21 <| om n5 (mv (.t n5)) u22 <| om n6 (ixm T.s96 (Int.natCast_nonneg _) (gi (by omega)) (.t n21) (.t n22)) u23 <| om n7 (lae T.a29 k3 (.t n23)) u24 <| oc n8 (call (sp_laws_eqAccount _) (.c (.t n20) rfl (.c (.t n24) rfl .n))) u25 <| om n9 (not_ (.t n25)) u26 <| oe ?_
    refine cdf n26 ?_
    refine skp ?_
    refine rg <| m (mv (.t n5)) u15 <| m (add (.t n15) (.i rfl)) u16 <| m (as_ (.t n16)) u5 <| e ?_
    exact ⟨i + 1, (by omega), (by omega), le [] (by decide) (.c (.e rfl rfl) (.c (.e rfl rfl) (.c .a (.c .a (.c .a (.c (.e (wi (by omega)) rfl) (.c .a (.c .a (.c .a (.c .a (.c .a (.c .a (.c .a (.c .a (.c .a (.c .a (.c .a (.c .a (.c .a (.c .a (.c .a (.c .a (.c .a (.c .a (.c .a (.c .a (.c .a .n))))))))))))))))))))))))))) .n⟩
  ·
    replace h1 := of_decide_eq_false h1
    refine ex (x1 ?_)
    refine sr <| m (as_ .b) u4 <| e ?_
    refine rt (ret1 (.t n4 (.p rfl) .n) ?_)
    rfl

theorem sp_laws_eqChallenge (x : D.Challenge) : Spec Tryd.prog G0 106 [.agg (D.Challenge.V x), .agg (D.Challenge.V x)] (fun r => r = .bool true) := by
  refine enter (l := [.tmp 4]) Tryd.func106 rfl Tryd.ntmps106 rfl T.en106 fun E => ?_
  simp only [List.length_cons, List.length_nil, List.replicate_succ, List.replicate_zero, List.cons_append, List.nil_append, Nat.reduceAdd, Nat.reduceSub]
  refine sr <| k (bx rfl s0 u2 (.t n0)) <| k (bx rfl s1 u3 (.t n1)) <| m (as_ .b) u4 <| e ?_
  refine sq ?_
  refine sr <| m (fab 0 rfl T.f180_0 (.t n2)) u5 <| m (ldb T.o3 n0 n0 (.t n5)) u6 <| m (fab 0 rfl T.f180_0 (.t n3)) u7 <| m (ldb T.o3 n1 n0 (.t n7)) u8 <| m (neqs (.t n6) (.t n8)) u9 <| e ?_
  refine cdf n9 ?_
  refine skp ?_
  refine sq ?_
  refine sr <| m (fab 1 rfl T.f180_1 (.t n2)) u10 <| m (ldb T.o3 n0 n1 (.t n10)) u11 <| m (fab 1 rfl T.f180_1 (.t n3)) u12 <| m (ldb T.o3 n1 n1 (.t n12)) u13 <| m (neqs (.t n11) (.t n13)) u14 <| e ?_
  refine cdf n14 ?_
  refine skp ?_
  refine sq ?_
  refine sr <| m (fab 2 rfl T.f180_2 (.t n2)) u15 <| m (ldb T.o3 n0 n2 (.t n15)) u16 <| m (fab 2 rfl T.f180_2 (.t n3)) u17 <| m (ldb T.o3 n1 n2 (.t n17)) u18 <| m (neqs (.t n16) (.t n18)) u19 <| e ?_
  refine cdf n19 ?_
  refine skp ?_
  refine sr <| m (as_ .b) u4 <| e ?_
  refine rt (ret1 (.t n4 (.p rfl) .n) ?_)
  rfl

theorem sp_laws_eqChallengeS (l : List D.Challenge) : Spec Tryd.prog G0 96 [.slice 3 (l.map D.Challenge.V), .slice 3 (l.map D.Challenge.V)] (fun r => r = .bool true) := by
  refine enter (l := [.tmp 4]) Tryd.func96 rfl Tryd.ntmps96 rfl T.en96 fun E => ?_
  simp only [List.length_cons, List.length_nil, List.replicate_succ, List.replicate_zero, List.cons_append, List.nil_append, Nat.reduceAdd, Nat.reduceSub]
  refine rngl n0 fun hlen => ?_
  simp only [List.length_map, maxLen] at hlen
  refine sr <| m (as_ .b) u4 <| e ?_
  refine sq ?_
  refine sr <| m (mv (.t n0)) u6 <| m (lenm T.s97 (.t n6)) u7 <| m (mv (.t n1)) u8 <| m (lenm T.s97 (.t n8)) u9 <| m (neqs (.t n7) (.t n9)) u10 <| e ?_
  refine cdf n10 ?_
  refine skp ?_
  refine sq ?_
  refine sr <| m (as_ (.i rfl)) u5 <| e ?_
  refine bk ?_
  refine lp (fun i : Nat => ⟨[.slice 3 (l.map D.Challenge.V), .slice 3 (l.map D.Challenge.V), .any, .any, .any, .int .i64 (i : Int), .any, .any, .any, .any, .any, .any, .any, .any, .any, .any, .any, .any, .any, .any, .any, .any, .any, .any, .any, .any, .any], []⟩) (fun i : Nat => i ≤ l.length) (fun i : Nat => l.length - i) (0) (by simp) (le [] (by decide) (.c (.e rfl rfl) (.c (.e rfl rfl) (.c .a (.c .a (.c .a (.c (.e rfl rfl) (.c .a (.c .a (.c .a (.c .a (.c .a (.c .a (.c .a (.c .a (.c .a (.c .a (.c .a (.c .a (.c .a (.c .a (.c .a (.c .a (.c .a (.c .a (.c .a (.c .a (.c .a .n))))))))))))))))))))))))))) .n) ?_
  rintro i hJ
  try dsimp only at hJ ⊢
  refine sq ?_
  refine sr <| m (mv (.t n5)) u11 <| m (mv (.t n0)) u12 <| m (lenm T.s97 (.t n12)) u13 <| m (lss (.t n11) (.t n13)) u14 <| e ?_
  refine cnd n14 (fun h1 => ?_) (fun h1 => ?_)
  ·
    replace h1 := of_decide_eq_true h1
    refine skp ?_
    refine sq ?_
    refine bk ?_
    refine sd [(0, true), (1, true), (2, true), (3, true), (4, true), (5, true), (6, true), (7, true), (8, false), (9, true)] T.mix (by kernel_rfl) <| om n0 (mv (.t n0)) u17 <| om n1 (mv (.t n5)) u18 <| om n2 (ixm T.s97 (Int.natCast_nonneg _) (gi (by omega)) (.t n17) (.t n18)) u19 <| om n3 (lae T.a180 k3 (.t n19)) u20 <| om n4 (mv (.t n1)) u21 <| om n5 (mv (.t n5)) u22 <| om n6 (ixm T.s97 (Int.natCast_nonneg _) (gi (by omega)) (.t n21) (.t n22)) u23 <| om n7 (lae T.a180 k3 (.t n23)) u24 <| oc n8 (call (sp_laws_eqChallenge _) (.c (.t n20) rfl (.c (.t n24) rfl .n))) u25 <| om n9 (not_ (.t n25)) u26 <| oe ?_
    refine cdf n26 ?_
    refine skp ?_
    refine rg <| m (mv (.t n5)) u15 <| m (add (.t n15) (.i rfl)) u16 <| m (as_ (.t n16)) u5 <| e ?_
    exact ⟨i + 1, (by omega), (by omega), le [] (by decide) (.c (.e rfl rfl) (.c (.e rfl rfl) (.c .a (.c .a (.c .a (.c (.e (wi (by omega)) rfl) (.c .a (.c .a (.c .a (.c .a (.c .a (.c .a (.c .a (.c .a (.c .a (.c .a (.c .a (.c .a (.c .a (.c .a (.c .a (.c .a (.c .a (.c .a (.c .a (.c .a (.c .a .n))))))))))))))))))))))))))) .n⟩
  ·
    replace h1 := of_decide_eq_false h1
    refine ex (x1 ?_)
    refine sr <| m (as_ .b) u4 <| e ?_
    refine rt (ret1 (.t n4 (.p rfl) .n) ?_)
    rfl

theorem sp_laws_eqChallengeBook (x : D.ChallengeBook) : Spec Tryd.prog G0 77 [.agg (D.ChallengeBook.V x), .agg (D.ChallengeBook.V x)] (fun r => r = .bool true) := by
  refine enter (l := [.tmp 4]) Tryd.func77 rfl Tryd.ntmps77 rfl T.en77 fun E => ?_
  simp only [List.length_cons, List.length_nil, List.replicate_succ, List.replicate_zero, List.cons_append, List.nil_append, Nat.reduceAdd, Nat.reduceSub]
  refine sr <| k (bx rfl s0 u2 (.t n0)) <| k (bx rfl s1 u3 (.t n1)) <| m (as_ .b) u4 <| e ?_
  refine sq ?_
  refine sr <| m (fab 0 rfl T.f99_0 (.t n2)) u5 <| m (ldb T.o3 n0 n0 (.t n5)) u6 <| m (fab 0 rfl T.f99_0 (.t n3)) u7 <| m (ldb T.o3 n1 n0 (.t n7)) u8 <| m (neqs (.t n6) (.t n8)) u9 <| e ?_
  refine cdf n9 ?_
  refine skp ?_
  refine sq ?_
  refine sr <| m (fab 1 rfl T.f99_1 (.t n2)) u10 <| m (ldb T.o3 n0 n1 (.t n10)) u11 <| m (fab 1 rfl T.f99_1 (.t n3)) u12 <| m (ldb T.o3 n1 n1 (.t n12)) u13 <| m (neqs (.t n11) (.t n13)) u14 <| e ?_
  refine cdf n14 ?_
  refine skp ?_
  refine sq ?_
  refine sr <| m (fab 2 rfl T.f99_2 (.t n2)) u15 <| m (ldb T.o97 n0 n2 (.t n15)) u16 <| m (fab 2 rfl T.f99_2 (.t n3)) u17 <| m (ldb T.o97 n1 n2 (.t n17)) u18 <| c (call (sp_laws_eqChallengeS _) (.c (.t n16) rfl (.c (.t n18) rfl .n))) u19 <| m (not_ (.t n19)) u20 <| e ?_
  refine cdf n20 ?_
  refine skp ?_
  refine sr <| m (as_ .b) u4 <| e ?_
  refine rt (ret1 (.t n4 (.p rfl) .n) ?_)
  rfl

theorem sp_laws_eqIntS (l : List Int) : Spec Tryd.prog G0 78 [.slice 1 (l.map iV), .slice 1 (l.map iV)] (fun r => r = .bool true) := by
  refine enter (l := [.tmp 4]) Tryd.func78 rfl Tryd.ntmps78 rfl T.en78 fun E => ?_
  simp only [List.length_cons, List.length_nil, List.replicate_succ, List.replicate_zero, List.cons_append, List.nil_append, Nat.reduceAdd, Nat.reduceSub]
  refine rngl n0 fun hlen => ?_
  simp only [List.length_map, maxLen] at hlen
  refine sr <| m (as_ .b) u4 <| e ?_
  refine sq ?_
  refine sr <| m (mv (.t n0)) u6 <| m (lenm T.s91 (.t n6)) u7 <| m (mv (.t n1)) u8 <| m (lenm T.s91 (.t n8)) u9 <| m (neqs (.t n7) (.t n9)) u10 <| e ?_
  refine cdf n10 ?_
  refine skp ?_
  refine sq ?_
  refine sr <| m (as_ (.i rfl)) u5 <| e ?_
  refine bk ?_
  refine lp (fun i : Nat => ⟨[.slice 1 (l.map iV), .slice 1 (l.map iV), .any, .any, .any, .int .i64 (i : Int), .any, .any, .any, .any, .any, .any, .any, .any, .any, .any, .any, .any, .any, .any, .any, .any, .any, .any, .any, .any], []⟩) (fun i : Nat => i ≤ l.length) (fun i : Nat => l.length - i) (0) (by simp) (le [] (by decide) (.c (.e rfl rfl) (.c (.e rfl rfl) (.c .a (.c .a (.c .a (.c (.e rfl rfl) (.c .a (.c .a (.c .a (.c .a (.c .a (.c .a (.c .a (.c .a (.c .a (.c .a (.c .a (.c .a (.c .a (.c .a (.c .a (.c .a (.c .a (.c .a (.c .a (.c .a .n)))))))))))))))))))))))))) .n) ?_
  rintro i hJ
  try dsimp only at hJ ⊢
  refine sq ?_
  refine sr <| m (mv (.t n5)) u11 <| m (mv (.t n0)) u12 <| m (lenm T.s91 (.t n12)) u13 <| m (lss (.t n11) (.t n13)) u14 <| e ?_
  refine cnd n14 (fun h1 => ?_) (fun h1 => ?_)
  ·
    replace h1 := of_decide_eq_true h1
    refine skp ?_
    refine sq ?_
    refine bk ?_
    refine sd [(0, true), (1, true), (2, true), (3, true), (4, true), (5, true), (6, true), (7, true), (8, true)] T.mix (by kernel_rfl) <| om n0 (mv (.t n0)) u17 <| om n1 (mv (.t n5)) u18 <| om n2 (ixm T.s91 (Int.natCast_nonneg _) (gi (by omega)) (.t n17) (.t n18)) u19 <| om n3 (lde T.o3 n0 (.t n19)) u20 <| om n4 (mv (.t n1)) u21 <| om n5 (mv (.t n5)) u22 <| om n6 (ixm T.s91 (Int.natCast_nonneg _) (gi (by omega)) (.t n21) (.t n22)) u23 <| om n7 (lde T.o3 n0 (.t n23)) u24 <| om n8 (neqs (.t n20) (.t n24)) u25 <| oe ?_
    refine cdf n25 ?_
    refine skp ?_
    refine rg <| m (mv (.t n5)) u15 <| m (add (.t n15) (.i rfl)) u16 <| m (as_ (.t n16)) u5 <| e ?_
    exact ⟨i + 1, (by omega), (by omega), le [] (by decide) (.c (.e rfl rfl) (.c (.e rfl rfl) (.c .a (.c .a (.c .a (.c (.e (wi (by omega)) rfl) (.c .a (.c .a (.c .a (.c .a (.c .a (.c .a (.c .a (.c .a (.c .a (.c .a (.c .a (.c .a (.c .a (.c .a (.c .a (.c .a (.c .a (.c .a (.c .a (.c .a .n)))))))))))))))))))))))))) .n⟩
  ·
    replace h1 := of_decide_eq_false h1
    refine ex (x1 ?_)
    refine sr <| m (as_ .b) u4 <| e ?_
    refine rt (ret1 (.t n4 (.p rfl) .n) ?_)
    rfl

theorem sp_laws_eqSite (x : D.Site) : Spec Tryd.prog G0 38 [.agg (D.Site.V x), .agg (D.Site.V x)] (fun r => r = .bool true) := by
  refine enter (l := [.tmp 4]) Tryd.func38 rfl Tryd.ntmps38 rfl T.en38 fun E => ?_
  simp only [List.length_cons, List.length_nil, List.replicate_succ, List.replicate_zero, List.cons_append, List.nil_append, Nat.reduceAdd, Nat.reduceSub]
  refine sr <| k (bx rfl s0 u2 (.t n0)) <| k (bx rfl s1 u3 (.t n1)) <| m (as_ .b) u4 <| e ?_
  refine sq ?_
  refine sr <| m (fab 0 rfl T.f101_0 (.t n2)) u5 <| m (ldb T.o9 n0 n0 (.t n5)) u6 <| m (fab 0 rfl T.f101_0 (.t n3)) u7 <| m (ldb T.o9 n1 n0 (.t n7)) u8 <| m (snes (.t n6) (.t n8)) u9 <| e ?_
  refine cdf n9 ?_
  refine skp ?_
  refine sq ?_
  refine sr <| m (fab 1 rfl T.f101_1 (.t n2)) u10 <| m (ldb T.o96 n0 n1 (.t n10)) u11 <| m (fab 1 rfl T.f101_1 (.t n3)) u12 <| m (ldb T.o96 n1 n1 (.t n12)) u13 <| c (call (sp_laws_eqAccountS _) (.c (.t n11) rfl (.c (.t n13) rfl .n))) u14 <| m (not_ (.t n14)) u15 <| e ?_
  refine cdf n15 ?_
  refine skp ?_
  refine sq ?_
  refine sr <| m (fab 2 rfl T.f101_2 (.t n2)) u16 <| m (lab T.a99 n0 d2 k3 (.t n16)) u17 <| m (fab 2 rfl T.f101_2 (.t n3)) u18 <| m (lab T.a99 n1 d2 k3 (.t n18)) u19 <| c (call (sp_laws_eqChallengeBook _) (.c (.t n17) rfl (.c (.t n19) rfl .n))) u20 <| m (not_ (.t n20)) u21 <| e ?_
  refine cdf n21 ?_
  refine skp ?_
  refine sq ?_
  refine sr <| m (fab 5 rfl T.f101_3 (.t n2)) u22 <| m (ldb T.o91 n0 n5 (.t n22)) u23 <| m (fab 5 rfl T.f101_3 (.t n3)) u24 <| m (ldb T.o91 n1 n5 (.t n24)) u25 <| c (call (sp_laws_eqIntS _) (.c (.t n23) rfl (.c (.t n25) rfl .n))) u26 <| m (not_ (.t n26)) u27 <| e ?_
  refine cdf n27 ?_
  refine skp ?_
  refine sr <| m (as_ .b) u4 <| e ?_
  refine rt (ret1 (.t n4 (.p rfl) .n) ?_)
  rfl

theorem sp_impl_FormatSite (x : D.Site) (hl : x.sz ≤ 1048576) : Spec Tryd.prog G0 37 [.agg x.V] (fun r => r = .str (fmtSite x)) := by
  refine enter (l := [.tmp 2]) Tryd.func37 rfl Tryd.ntmps37 rfl T.en37 fun E => ?_
  simp only [List.length_cons, List.length_nil, List.replicate_succ, List.replicate_zero, List.cons_append, List.nil_append, Nat.reduceAdd, Nat.reduceSub]
  have hnm : x.Name.size ≤ 1048576 := by unfold D.Site.sz at hl; omega
  refine sr <| k (bx rfl s0 u1 (.t n0)) <| m (as_ (.s rfl)) u2 <| e ?_
  refine sd [(0, true), (1, true), (2, true), (3, true), (4, true), (5, true), (9, true), (10, true), (11, true), (12, true), (6, false), (7, true), (8, true), (13, false), (14, true), (15, true)] T.mix (by kernel_rfl) <| om n0 (fab 0 rfl T.f101_0 (.t n1)) u3 <| om n1 (ldb T.o9 n0 n0 (.t n3)) u4 <| om n2 (sadd (sz_ok hnm (Nat.le_refl _) rfl) (.t n4) (.s rfl)) u5 <| om n3 (fab 5 rfl T.f101_3 (.t n1)) u6 <| om n4 (ldb T.o91 n0 n5 (.t n6)) u7 <| om n5 (lenm T.s91 (.t n7)) u8 <| om n9 (fab 2 rfl T.f101_2 (.t n1)) u12 <| om n10 (fab 4 rfl T.f99_2 (.t n12)) u13 <| om n11 (ldb T.o97 n0 n4 (.t n13)) u14 <| om n12 (lenm T.s97 (.t n14)) u15 <| oc n6 (call (sp_impl_FormatInt _) (.c (.t n8) rfl .n)) u9 <| om n7 (sadd (sz_ok (sz_add hnm (Nat.le_refl _)) (fmtInt_sz _) rfl) (.t n5) (.t n9)) u10 <| om n8 (sadd (sz_ok (sz_add (sz_add hnm (Nat.le_refl _)) (fmtInt_sz _)) (Nat.le_refl _) rfl) (.t n10) (.s rfl)) u11 <| oc n13 (call (sp_impl_FormatInt _) (.c (.t n15) rfl .n)) u16 <| om n14 (sadd (sz_ok (sz_add (sz_add (sz_add hnm (Nat.le_refl _)) (fmtInt_sz _)) (Nat.le_refl _)) (fmtInt_sz _) rfl) (.t n11) (.t n16)) u17 <| om n15 (as_ (.t n17)) u2 <| oe ?_
  refine rt (ret1 (.t n2 (.p rfl) .n) ?_)
  rfl

theorem sp_spec_FormatSite (x : D.Site) (hl : x.sz ≤ 1048576) : Spec Tryd.prog G0 35 [.agg x.V] (fun r => r = .str (fmtSite x)) := by
  refine enter (l := [.tmp 2]) Tryd.func35 rfl Tryd.ntmps35 rfl T.en35 fun E => ?_
  simp only [List.length_cons, List.length_nil, List.replicate_succ, List.replicate_zero, List.cons_append, List.nil_append, Nat.reduceAdd, Nat.reduceSub]
  have hnm : x.Name.size ≤ 1048576 := by unfold D.Site.sz at hl; omega
  refine sr <| k (bx rfl s0 u1 (.t n0)) <| m (as_ (.s rfl)) u2 <| e ?_
  refine sd [(0, true), (1, true), (2, true), (3, true), (4, true), (5, true), (9, true), (10, true), (11, true), (12, true), (6, false), (7, true), (8, true), (13, false), (14, true), (15, true)] T.mix (by kernel_rfl) <| om n0 (fab 0 rfl T.f101_0 (.t n1)) u3 <| om n1 (ldb T.o9 n0 n0 (.t n3)) u4 <| om n2 (sadd (sz_ok hnm (Nat.le_refl _) rfl) (.t n4) (.s rfl)) u5 <| om n3 (fab 5 rfl T.f101_3 (.t n1)) u6 <| om n4 (ldb T.o91 n0 n5 (.t n6)) u7 <| om n5 (lenm T.s91 (.t n7)) u8 <| om n9 (fab 2 rfl T.f101_2 (.t n1)) u12 <| om n10 (fab 4 rfl T.f99_2 (.t n12)) u13 <| om n11 (ldb T.o97 n0 n4 (.t n13)) u14 <| om n12 (lenm T.s97 (.t n14)) u15 <| oc n6 (call (sp_spec_FormatInt _) (.c (.t n8) rfl .n)) u9 <| om n7 (sadd (sz_ok (sz_add hnm (Nat.le_refl _)) (fmtInt_sz _) rfl) (.t n5) (.t n9)) u10 <| om n8 (sadd (sz_ok (sz_add (sz_add hnm (Nat.le_refl _)) (fmtInt_sz _)) (Nat.le_refl _) rfl) (.t n10) (.s rfl)) u11 <| oc n13 (call (sp_spec_FormatInt _) (.c (.t n15) rfl .n)) u16 <| om n14 (sadd (sz_ok (sz_add (sz_add (sz_add hnm (Nat.le_refl _)) (fmtInt_sz _)) (Nat.le_refl _)) (fmtInt_sz _) rfl) (.t n11) (.t n16)) u17 <| om n15 (as_ (.t n17)) u2 <| oe ?_
  refine rt (ret1 (.t n2 (.p rfl) .n) ?_)
  rfl

theorem sp_laws_FnExactFormatSite (x : D.Site) : Spec Tryd.prog G0 8 [.agg (D.Site.V x)] (fun r => r = .bool true) := by
  refine enter (l := [.tmp 2]) Tryd.func8 rfl Tryd.ntmps8 rfl T.en8 fun E => ?_
  simp only [List.length_cons, List.length_nil, List.replicate_succ, List.replicate_zero, List.cons_append, List.nil_append, Nat.reduceAdd, Nat.reduceSub]
  refine sr <| k (bx rfl s0 u1 (.t n0)) <| m (as_ .b) u2 <| e ?_
  refine sr <| m (as_ (.i rfl)) u3 <| e ?_
  refine sr <| m (lab T.a93 n0 d0 k6 (.t n1)) u7 <| m (mv (.t n3)) u8 <| cI (call (sp_laws_szSite _ _ (by omega) (by first | omega | (simp only [IntKind.wrap_i64] at *; omega))) (.c (.t n7) rfl (.c (.t n8) rfl .n))) (fun _ => u9) (fun r1 hr1 => ?_)
  refine m (as_ (.t n9)) u3 <| e ?_
  refine sq ?_
  refine sr <| m (mv (.t n3)) u10 <| m (lss (.t n10) (.i rfl)) u11 <| e ?_
  refine cnd n11 (fun h2 => ?_) (fun h2 => ?_)
  ·
    replace h2 := of_decide_eq_true h2
    refine sr <| m (as_ .b) u2 <| e ?_
    refine rt (ret1 (.t n2 (.p rfl) .n) ?_)
    rfl
  ·
    replace h2 := of_decide_eq_false h2
    have hsz : x.sz ≤ 1048576 := by
      have := hr1 (by omega)
      omega
    refine skp ?_
    refine sr <| m (lab T.a93 n0 d0 k6 (.t n1)) u12 <| c (call (sp_laws_toSite _ (by first | assumption | (simp only [D.Share.sz, D.Keeper.sz, D.KeeperHost.sz, D.Credential.sz, D.Account.sz, D.Challenge.sz, D.ChallengeBook.sz, D.Site.sz, D.Notice.sz, D.Mailbox.sz, D.LogEntry.sz, D.KeyStore.sz, D.Entry.sz, D.Bundle.sz, D.Device.sz] at *; omega))) (.c (.t n12) rfl .n)) u13 <| c (call (sp_spec_FormatSite _ (by first | assumption | omega)) (.c (.t n13) rfl .n)) u14 <| m (as_ (.t n14)) u4 <| e ?_
    refine sr <| m (lab T.a93 n0 d0 k6 (.t n1)) u15 <| c (call (sp_laws_toSite _ (by first | assumption | (simp only [D.Share.sz, D.Keeper.sz, D.KeeperHost.sz, D.Credential.sz, D.Account.sz, D.Challenge.sz, D.ChallengeBook.sz, D.Site.sz, D.Notice.sz, D.Mailbox.sz, D.LogEntry.sz, D.KeyStore.sz, D.Entry.sz, D.Bundle.sz, D.Device.sz] at *; omega))) (.c (.t n15) rfl .n)) u16 <| k (al T.z101 s1 u5) <| k (sta T.a101 rfl rfl n1 (.z (.z (.z (.z (.z (.z .n)))))) q1 (.t n5) (.t n16)) <| e ?_
    refine sr <| m (lab T.a101 n1 d0 k6 (.t n5)) u17 <| c (call (sp_impl_FormatSite _ (by first | assumption | omega)) (.c (.t n17) rfl .n)) u18 <| m (as_ (.t n18)) u6 <| e ?_
    refine sq ?_
    refine sr <| m (mv (.t n6)) u19 <| m (mv (.t n4)) u20 <| m (snes (.t n19) (.t n20)) u21 <| e ?_
    refine cdf n21 ?_
    refine skp ?_
    refine sq ?_
    refine sd [(0, true), (1, true), (2, false), (3, false), (4, true)] T.mix (by kernel_rfl) <| om n0 (lab T.a101 n1 d0 k6 (.t n5)) u22 <| om n1 (lab T.a93 n0 d0 k6 (.t n1)) u23 <| oc n2 (call (sp_laws_toSite _ (by first | assumption | (simp only [D.Share.sz, D.Keeper.sz, D.KeeperHost.sz, D.Credential.sz, D.Account.sz, D.Challenge.sz, D.ChallengeBook.sz, D.Site.sz, D.Notice.sz, D.Mailbox.sz, D.LogEntry.sz, D.KeyStore.sz, D.Entry.sz, D.Bundle.sz, D.Device.sz] at *; omega))) (.c (.t n23) rfl .n)) u24 <| oc n3 (call (sp_laws_eqSite _) (.c (.t n22) rfl (.c (.t n24) rfl .n))) u25 <| om n4 (not_ (.t n25)) u26 <| oe ?_
    refine cdf n26 ?_
    refine skp ?_
    refine sr <| m (as_ .b) u2 <| e ?_
    refine rt (ret1 (.t n2 (.p rfl) .n) ?_)
    rfl
end Go.VK
