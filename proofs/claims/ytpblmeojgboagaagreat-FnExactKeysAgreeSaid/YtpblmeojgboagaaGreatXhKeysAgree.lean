/-
  Printed by wip/tools (own work of this part): models of functions, walks over the value kit, and proofs.
-/
import Derived.Test.YtpblmeojgboagaaGreatXkKeysAgree1
set_option linter.unusedVariables false
set_option linter.unusedSimpArgs false
set_option maxRecDepth 100000
set_option maxHeartbeats 4000000
namespace Go.VK
open Go.RowKit Go.Proofs
theorem T.hd3 : HasData Tryz.prog 3 Int iV := hd_int Tryz.underlying3
theorem T.hd130 : HasData Tryz.prog 130 D.KeyStore D.KeyStore.V := hd_struct (t := 130) Tryz.underlying130 (by kernel_rfl) (hf_cons (k := 1) T.hd3 rfl (by kernel_rfl) (hf_cons (k := 1) T.hd3 rfl (by kernel_rfl) (hf_cons (k := 1) T.hd3 rfl (by kernel_rfl) (hf_cons (k := 1) T.hd3 rfl (by kernel_rfl) hf_nil)))) (fun p => ⟨p.1, p.2.1, p.2.2.1, p.2.2.2.1⟩) (fun p => rfl)
theorem T.hd192 : HasData Tryz.prog 192 D.LogEntry D.LogEntry.V := hd_struct (t := 192) Tryz.underlying192 (by kernel_rfl) (hf_cons (k := 1) T.hd3 rfl (by kernel_rfl) (hf_cons (k := 1) T.hd3 rfl (by kernel_rfl) (hf_cons (k := 1) T.hd3 rfl (by kernel_rfl) (hf_cons (k := 1) T.hd3 rfl (by kernel_rfl) (hf_cons (k := 1) T.hd3 rfl (by kernel_rfl) (hf_cons (k := 1) T.hd3 rfl (by kernel_rfl) hf_nil)))))) (fun p => ⟨p.1, p.2.1, p.2.2.1, p.2.2.2.1, p.2.2.2.2.1, p.2.2.2.2.2.1⟩) (fun p => rfl)
theorem T.hd24 : HasData Tryz.prog 24 (List D.LogEntry) (fun l => [.slice 6 (l.map D.LogEntry.V)]) := hd_slice Tryz.underlying24 (by kernel_rfl) (by decide) (fun _ => rfl) T.hd192
theorem T.hd4 : HasData Tryz.prog 4 Bool bV := hd_bool Tryz.underlying4
theorem T.hd248 : HasData Tryz.prog 248 D.Entry D.Entry.V := hd_struct (t := 248) Tryz.underlying248 (by kernel_rfl) (hf_cons (k := 1) T.hd3 rfl (by kernel_rfl) (hf_cons (k := 1) T.hd3 rfl (by kernel_rfl) (hf_cons (k := 1) T.hd3 rfl (by kernel_rfl) (hf_cons (k := 1) T.hd4 rfl (by kernel_rfl) hf_nil)))) (fun p => ⟨p.1, p.2.1, p.2.2.1, p.2.2.2.1⟩) (fun p => rfl)
theorem T.hd131 : HasData Tryz.prog 131 (List D.Entry) (fun l => [.slice 4 (l.map D.Entry.V)]) := hd_slice Tryz.underlying131 (by kernel_rfl) (by decide) (fun _ => rfl) T.hd248
theorem T.hd133 : HasData Tryz.prog 133 D.Bundle D.Bundle.V := hd_struct (t := 133) Tryz.underlying133 (by kernel_rfl) (hf_cons (k := 1) T.hd131 rfl (by kernel_rfl) hf_nil) (fun p => ⟨p.1⟩) (fun p => rfl)
theorem T.hd135 : HasData Tryz.prog 135 D.Device D.Device.V := hd_struct (t := 135) Tryz.underlying135 (by kernel_rfl) (hf_cons (k := 4) T.hd130 rfl (by kernel_rfl) (hf_cons (k := 1) T.hd24 rfl (by kernel_rfl) (hf_cons (k := 1) T.hd3 rfl (by kernel_rfl) (hf_cons (k := 1) T.hd3 rfl (by kernel_rfl) (hf_cons (k := 1) T.hd3 rfl (by kernel_rfl) (hf_cons (k := 1) T.hd133 rfl (by kernel_rfl) hf_nil)))))) (fun p => ⟨p.1, p.2.1, p.2.2.1, p.2.2.2.1, p.2.2.2.2.1, p.2.2.2.2.2.1⟩) (fun p => rfl)
theorem T.hd22 : HasData Tryz.prog 22 (List D.Device) (fun l => [.slice 9 (l.map D.Device.V)]) := hd_slice Tryz.underlying22 (by kernel_rfl) (by decide) (fun _ => rfl) T.hd135
theorem T.hd23 : HasData Tryz.prog 23 (List Bool) (fun l => [.slice 1 (l.map bV)]) := hd_slice Tryz.underlying23 (by kernel_rfl) (by decide) (fun _ => rfl) T.hd4
theorem T.hd5 : HasData Tryz.prog 5 Int y8 := hd_u8 Tryz.underlying5
theorem T.hd174 : HasData Tryz.prog 174 (List Int) (fun l => [.slice 1 (l.map y8)]) := hd_slice Tryz.underlying174 (by kernel_rfl) (by decide) (fun _ => rfl) T.hd5
theorem T.hd225 : HasData Tryz.prog 225 D.Box D.Box.V := hd_struct (t := 225) Tryz.underlying225 (by kernel_rfl) (hf_cons (k := 1) T.hd3 rfl (by kernel_rfl) (hf_cons (k := 1) T.hd3 rfl (by kernel_rfl) (hf_cons (k := 1) T.hd174 rfl (by kernel_rfl) (hf_cons (k := 1) T.hd3 rfl (by kernel_rfl) hf_nil)))) (fun p => ⟨p.1, p.2.1, p.2.2.1, p.2.2.2.1⟩) (fun p => rfl)
theorem T.hd25 : HasData Tryz.prog 25 (List D.Box) (fun l => [.slice 4 (l.map D.Box.V)]) := hd_slice Tryz.underlying25 (by kernel_rfl) (by decide) (fun _ => rfl) T.hd225
theorem T.hd27 : HasData Tryz.prog 27 D.EpochBoxes D.EpochBoxes.V := hd_struct (t := 27) Tryz.underlying27 (by kernel_rfl) (hf_cons (k := 1) T.hd3 rfl (by kernel_rfl) (hf_cons (k := 1) T.hd25 rfl (by kernel_rfl) hf_nil)) (fun p => ⟨p.1, p.2.1⟩) (fun p => rfl)
theorem T.hd184 : HasData Tryz.prog 184 D.SealedBundle D.SealedBundle.V := hd_struct (t := 184) Tryz.underlying184 (by kernel_rfl) (hf_cons (k := 1) T.hd3 rfl (by kernel_rfl) (hf_cons (k := 1) T.hd3 rfl (by kernel_rfl) (hf_cons (k := 1) T.hd174 rfl (by kernel_rfl) (hf_cons (k := 1) T.hd3 rfl (by kernel_rfl) hf_nil)))) (fun p => ⟨p.1, p.2.1, p.2.2.1, p.2.2.2.1⟩) (fun p => rfl)
theorem T.hd28 : HasData Tryz.prog 28 (List D.SealedBundle) (fun l => [.slice 4 (l.map D.SealedBundle.V)]) := hd_slice Tryz.underlying28 (by kernel_rfl) (by decide) (fun _ => rfl) T.hd184
theorem T.hd30 : HasData Tryz.prog 30 D.Cloud D.Cloud.V := hd_struct (t := 30) Tryz.underlying30 (by kernel_rfl) (hf_cons (k := 1) T.hd24 rfl (by kernel_rfl) (hf_cons (k := 2) T.hd27 rfl (by kernel_rfl) (hf_cons (k := 1) T.hd28 rfl (by kernel_rfl) hf_nil))) (fun p => ⟨p.1, p.2.1, p.2.2.1⟩) (fun p => rfl)
theorem T.hd9 : HasData Tryz.prog 9 ByteArray sV := hd_str Tryz.underlying9
theorem T.hd258 : HasData Tryz.prog 258 D.Credential D.Credential.V := hd_struct (t := 258) Tryz.underlying258 (by kernel_rfl) (hf_cons (k := 1) T.hd3 rfl (by kernel_rfl) (hf_cons (k := 1) T.hd3 rfl (by kernel_rfl) (hf_cons (k := 1) T.hd3 rfl (by kernel_rfl) (hf_cons (k := 1) T.hd4 rfl (by kernel_rfl) hf_nil)))) (fun p => ⟨p.1, p.2.1, p.2.2.1, p.2.2.2.1⟩) (fun p => rfl)
theorem T.hd228 : HasData Tryz.prog 228 (List D.Credential) (fun l => [.slice 4 (l.map D.Credential.V)]) := hd_slice Tryz.underlying228 (by kernel_rfl) (by decide) (fun _ => rfl) T.hd258
theorem T.hd230 : HasData Tryz.prog 230 D.Account D.Account.V := hd_struct (t := 230) Tryz.underlying230 (by kernel_rfl) (hf_cons (k := 1) T.hd3 rfl (by kernel_rfl) (hf_cons (k := 1) T.hd3 rfl (by kernel_rfl) (hf_cons (k := 1) T.hd228 rfl (by kernel_rfl) hf_nil))) (fun p => ⟨p.1, p.2.1, p.2.2.1⟩) (fun p => rfl)
theorem T.hd140 : HasData Tryz.prog 140 (List D.Account) (fun l => [.slice 3 (l.map D.Account.V)]) := hd_slice Tryz.underlying140 (by kernel_rfl) (by decide) (fun _ => rfl) T.hd230
theorem T.hd253 : HasData Tryz.prog 253 D.Challenge D.Challenge.V := hd_struct (t := 253) Tryz.underlying253 (by kernel_rfl) (hf_cons (k := 1) T.hd3 rfl (by kernel_rfl) (hf_cons (k := 1) T.hd3 rfl (by kernel_rfl) (hf_cons (k := 1) T.hd3 rfl (by kernel_rfl) hf_nil))) (fun p => ⟨p.1, p.2.1, p.2.2.1⟩) (fun p => rfl)
theorem T.hd141 : HasData Tryz.prog 141 (List D.Challenge) (fun l => [.slice 3 (l.map D.Challenge.V)]) := hd_slice Tryz.underlying141 (by kernel_rfl) (by decide) (fun _ => rfl) T.hd253
theorem T.hd143 : HasData Tryz.prog 143 D.ChallengeBook D.ChallengeBook.V := hd_struct (t := 143) Tryz.underlying143 (by kernel_rfl) (hf_cons (k := 1) T.hd3 rfl (by kernel_rfl) (hf_cons (k := 1) T.hd3 rfl (by kernel_rfl) (hf_cons (k := 1) T.hd141 rfl (by kernel_rfl) hf_nil))) (fun p => ⟨p.1, p.2.1, p.2.2.1⟩) (fun p => rfl)
theorem T.hd95 : HasData Tryz.prog 95 (List Int) (fun l => [.slice 1 (l.map iV)]) := hd_slice Tryz.underlying95 (by kernel_rfl) (by decide) (fun _ => rfl) T.hd3
theorem T.hd145 : HasData Tryz.prog 145 D.Site D.Site.V := hd_struct (t := 145) Tryz.underlying145 (by kernel_rfl) (hf_cons (k := 1) T.hd9 rfl (by kernel_rfl) (hf_cons (k := 1) T.hd140 rfl (by kernel_rfl) (hf_cons (k := 3) T.hd143 rfl (by kernel_rfl) (hf_cons (k := 1) T.hd95 rfl (by kernel_rfl) hf_nil)))) (fun p => ⟨p.1, p.2.1, p.2.2.1, p.2.2.2.1⟩) (fun p => rfl)
theorem T.hd31 : HasData Tryz.prog 31 (List D.Site) (fun l => [.slice 6 (l.map D.Site.V)]) := hd_slice Tryz.underlying31 (by kernel_rfl) (by decide) (fun _ => rfl) T.hd145
theorem T.hd33 : HasData Tryz.prog 33 D.Vault D.Vault.V := hd_struct (t := 33) Tryz.underlying33 (by kernel_rfl) (hf_cons (k := 1) T.hd3 rfl (by kernel_rfl) (hf_cons (k := 1) T.hd3 rfl (by kernel_rfl) (hf_cons (k := 1) T.hd3 rfl (by kernel_rfl) (hf_cons (k := 1) T.hd3 rfl (by kernel_rfl) hf_nil)))) (fun p => ⟨p.1, p.2.1, p.2.2.1, p.2.2.2.1⟩) (fun p => rfl)
theorem T.hd147 : HasData Tryz.prog 147 D.Share D.Share.V := hd_struct (t := 147) Tryz.underlying147 (by kernel_rfl) (hf_cons (k := 1) T.hd3 rfl (by kernel_rfl) (hf_cons (k := 1) T.hd3 rfl (by kernel_rfl) hf_nil)) (fun p => ⟨p.1, p.2.1⟩) (fun p => rfl)
theorem T.hd149 : HasData Tryz.prog 149 D.Keeper D.Keeper.V := hd_struct (t := 149) Tryz.underlying149 (by kernel_rfl) (hf_cons (k := 2) T.hd147 rfl (by kernel_rfl) (hf_cons (k := 1) T.hd3 rfl (by kernel_rfl) (hf_cons (k := 1) T.hd3 rfl (by kernel_rfl) (hf_cons (k := 1) T.hd3 rfl (by kernel_rfl) hf_nil)))) (fun p => ⟨p.1, p.2.1, p.2.2.1, p.2.2.2.1⟩) (fun p => rfl)
theorem T.hd150 : HasData Tryz.prog 150 (List D.Keeper) (fun l => [.slice 5 (l.map D.Keeper.V)]) := hd_slice Tryz.underlying150 (by kernel_rfl) (by decide) (fun _ => rfl) T.hd149
theorem T.hd152 : HasData Tryz.prog 152 D.KeeperHost D.KeeperHost.V := hd_struct (t := 152) Tryz.underlying152 (by kernel_rfl) (hf_cons (k := 5) T.hd149 rfl (by kernel_rfl) (hf_cons (k := 1) T.hd150 rfl (by kernel_rfl) (hf_cons (k := 1) T.hd3 rfl (by kernel_rfl) hf_nil))) (fun p => ⟨p.1, p.2.1, p.2.2.1⟩) (fun p => rfl)
theorem T.hd34 : HasData Tryz.prog 34 (List D.KeeperHost) (fun l => [.slice 7 (l.map D.KeeperHost.V)]) := hd_slice Tryz.underlying34 (by kernel_rfl) (by decide) (fun _ => rfl) T.hd152
theorem T.hd204 : HasData Tryz.prog 204 D.Notice D.Notice.V := hd_struct (t := 204) Tryz.underlying204 (by kernel_rfl) (hf_cons (k := 1) T.hd3 rfl (by kernel_rfl) (hf_cons (k := 1) T.hd3 rfl (by kernel_rfl) (hf_cons (k := 1) T.hd3 rfl (by kernel_rfl) (hf_cons (k := 1) T.hd4 rfl (by kernel_rfl) hf_nil)))) (fun p => ⟨p.1, p.2.1, p.2.2.1, p.2.2.2.1⟩) (fun p => rfl)
theorem T.hd35 : HasData Tryz.prog 35 (List D.Notice) (fun l => [.slice 4 (l.map D.Notice.V)]) := hd_slice Tryz.underlying35 (by kernel_rfl) (by decide) (fun _ => rfl) T.hd204
theorem T.hd37 : HasData Tryz.prog 37 D.Mailbox D.Mailbox.V := hd_struct (t := 37) Tryz.underlying37 (by kernel_rfl) (hf_cons (k := 1) T.hd35 rfl (by kernel_rfl) hf_nil) (fun p => ⟨p.1⟩) (fun p => rfl)
theorem T.hd39 : HasData Tryz.prog 39 D.World D.World.V := hd_struct (t := 39) Tryz.underlying39 (by kernel_rfl) (hf_cons (k := 1) T.hd3 rfl (by kernel_rfl) (hf_cons (k := 1) T.hd3 rfl (by kernel_rfl) (hf_cons (k := 1) T.hd22 rfl (by kernel_rfl) (hf_cons (k := 1) T.hd23 rfl (by kernel_rfl) (hf_cons (k := 4) T.hd30 rfl (by kernel_rfl) (hf_cons (k := 1) T.hd31 rfl (by kernel_rfl) (hf_cons (k := 4) T.hd33 rfl (by kernel_rfl) (hf_cons (k := 1) T.hd34 rfl (by kernel_rfl) (hf_cons (k := 1) T.hd3 rfl (by kernel_rfl) (hf_cons (k := 1) T.hd37 rfl (by kernel_rfl) hf_nil)))))))))) (fun p => ⟨p.1, p.2.1, p.2.2.1, p.2.2.2.1, p.2.2.2.2.1, p.2.2.2.2.2.1, p.2.2.2.2.2.2.1, p.2.2.2.2.2.2.2.1, p.2.2.2.2.2.2.2.2.1, p.2.2.2.2.2.2.2.2.2.1⟩) (fun p => rfl)
theorem sp_laws_szLogEntryS (l : List D.LogEntry) (left : Int) (h0 : 0 ≤ left) (h1 : left ≤ 1048576) : Spec Tryz.prog G0 76 [.slice 6 (l.map D.LogEntry.V), .int .i64 left] (fun r => ∃ n : Int, r = .int .i64 n ∧ (0 ≤ n → (l.length : Int) + n ≤ left)) := by
  refine enter (l := [.tmp 4]) Tryz.func76 rfl Tryz.ntmps76 rfl T.en76 fun E => ?_
  simp only [List.length_cons, List.length_nil, List.replicate_succ, List.replicate_zero, List.cons_append, List.nil_append, Nat.reduceAdd, Nat.reduceSub]
  refine rngl n0 fun hlen => ?_
  simp only [List.length_map, maxLen] at hlen
  have hw : IntKind.i64.wrap (left - (l.length : Int)) = left - (l.length : Int) := by rw [IntKind.wrap_i64]; omega
  refine sr <| m (as_ (.i rfl)) u4 <| e ?_
  refine sr <| m (mv (.t n1)) u5 <| m (mv (.t n0)) u6 <| m (lenm T.s24 (.t n6)) u7 <| m (sub (.t n5) (.t n7)) u8 <| m (as_ (.t n8)) u1 <| e ?_
  refine sq ?_
  refine sr <| m (mv (.t n1)) u9 <| m (lss (.t n9) (.i rfl)) u10 <| e ?_
  refine cnd n10 (fun h1 => ?_) (fun h1 => ?_)
  ·
    replace h1 := of_decide_eq_true h1
    refine sr <| m (as_ (.i rfl)) u4 <| e ?_
    refine rt (ret1 (.t n4 (.p rfl) .n) ?_)
    refine ⟨_, rfl, fun hn => ?_⟩
    first | omega | (rw [hw]; omega)
  ·
    replace h1 := of_decide_eq_false h1
    refine skp ?_
    refine sr <| m (mv (.t n1)) u11 <| m (as_ (.t n11)) u4 <| e ?_
    refine rt (ret1 (.t n4 (.p rfl) .n) ?_)
    refine ⟨_, rfl, fun hn => ?_⟩
    first | omega | (rw [hw]; omega)

theorem sp_laws_szEntryS (l : List D.Entry) (left : Int) (h0 : 0 ≤ left) (h1 : left ≤ 1048576) : Spec Tryz.prog G0 154 [.slice 4 (l.map D.Entry.V), .int .i64 left] (fun r => ∃ n : Int, r = .int .i64 n ∧ (0 ≤ n → (l.length : Int) + n ≤ left)) := by
  refine enter (l := [.tmp 4]) Tryz.func154 rfl Tryz.ntmps154 rfl T.en154 fun E => ?_
  simp only [List.length_cons, List.length_nil, List.replicate_succ, List.replicate_zero, List.cons_append, List.nil_append, Nat.reduceAdd, Nat.reduceSub]
  refine rngl n0 fun hlen => ?_
  simp only [List.length_map, maxLen] at hlen
  have hw : IntKind.i64.wrap (left - (l.length : Int)) = left - (l.length : Int) := by rw [IntKind.wrap_i64]; omega
  refine sr <| m (as_ (.i rfl)) u4 <| e ?_
  refine sr <| m (mv (.t n1)) u5 <| m (mv (.t n0)) u6 <| m (lenm T.s131 (.t n6)) u7 <| m (sub (.t n5) (.t n7)) u8 <| m (as_ (.t n8)) u1 <| e ?_
  refine sq ?_
  refine sr <| m (mv (.t n1)) u9 <| m (lss (.t n9) (.i rfl)) u10 <| e ?_
  refine cnd n10 (fun h1 => ?_) (fun h1 => ?_)
  ·
    replace h1 := of_decide_eq_true h1
    refine sr <| m (as_ (.i rfl)) u4 <| e ?_
    refine rt (ret1 (.t n4 (.p rfl) .n) ?_)
    refine ⟨_, rfl, fun hn => ?_⟩
    first | omega | (rw [hw]; omega)
  ·
    replace h1 := of_decide_eq_false h1
    refine skp ?_
    refine sr <| m (mv (.t n1)) u11 <| m (as_ (.t n11)) u4 <| e ?_
    refine rt (ret1 (.t n4 (.p rfl) .n) ?_)
    refine ⟨_, rfl, fun hn => ?_⟩
    first | omega | (rw [hw]; omega)

theorem sp_laws_szBundle (x : D.Bundle) (left : Int) (h0 : 0 ≤ left) (h1 : left ≤ 1048576) : Spec Tryz.prog G0 116 [.agg (D.Bundle.V x), .int .i64 left] (fun r => ∃ n : Int, r = .int .i64 n ∧ (0 ≤ n → (x.sz : Int) + n ≤ left)) := by
  refine enter (l := [.tmp 4]) Tryz.func116 rfl Tryz.ntmps116 rfl T.en116 fun E => ?_
  simp only [List.length_cons, List.length_nil, List.replicate_succ, List.replicate_zero, List.cons_append, List.nil_append, Nat.reduceAdd, Nat.reduceSub]
  refine sr <| k (bx rfl s0 u2 (.t n0)) <| m (as_ (.i rfl)) u4 <| e ?_
  refine sr <| m (fab 0 rfl T.f133_0 (.t n2)) u5 <| m (ldb T.o131 n0 n0 (.t n5)) u6 <| m (mv (.t n1)) u7 <| cI (call (sp_laws_szEntryS _ _ (by omega) (by first | omega | (simp only [IntKind.wrap_i64] at *; omega))) (.c (.t n6) rfl (.c (.t n7) rfl .n))) (fun _ => u8) (fun r1 hr1 => ?_)
  refine m (as_ (.t n8)) u1 <| e ?_
  refine sq ?_
  refine sr <| m (mv (.t n1)) u9 <| m (lss (.t n9) (.i rfl)) u10 <| e ?_
  refine cnd n10 (fun h2 => ?_) (fun h2 => ?_)
  ·
    replace h2 := of_decide_eq_true h2
    refine sr <| m (as_ (.i rfl)) u4 <| e ?_
    refine rt (ret1 (.t n4 (.p rfl) .n) ?_)
    refine ⟨_, rfl, fun hn => ?_⟩
    try simp only [D.Box.sz, D.EpochBoxes.sz, D.LogEntry.sz, D.SealedBundle.sz, D.Cloud.sz, D.Vault.sz, D.Notice.sz, D.Mailbox.sz, D.KeyStore.sz, D.Entry.sz, D.Bundle.sz, D.Device.sz, D.Credential.sz, D.Account.sz, D.Challenge.sz, D.ChallengeBook.sz, D.Site.sz, D.Share.sz, D.Keeper.sz, D.KeeperHost.sz, D.World.sz] at *
    try simp only [IntKind.wrap_i64] at *
    omega
  ·
    replace h2 := of_decide_eq_false h2
    refine skp ?_
    refine sr <| m (mv (.t n1)) u11 <| m (as_ (.t n11)) u4 <| e ?_
    refine rt (ret1 (.t n4 (.p rfl) .n) ?_)
    refine ⟨_, rfl, fun hn => ?_⟩
    try simp only [D.Box.sz, D.EpochBoxes.sz, D.LogEntry.sz, D.SealedBundle.sz, D.Cloud.sz, D.Vault.sz, D.Notice.sz, D.Mailbox.sz, D.KeyStore.sz, D.Entry.sz, D.Bundle.sz, D.Device.sz, D.Credential.sz, D.Account.sz, D.Challenge.sz, D.ChallengeBook.sz, D.Site.sz, D.Share.sz, D.Keeper.sz, D.KeeperHost.sz, D.World.sz] at *
    try simp only [IntKind.wrap_i64] at *
    omega

theorem sp_laws_szDevice (x : D.Device) (left : Int) (h0 : 0 ≤ left) (h1 : left ≤ 1048576) : Spec Tryz.prog G0 75 [.agg (D.Device.V x), .int .i64 left] (fun r => ∃ n : Int, r = .int .i64 n ∧ (0 ≤ n → (x.sz : Int) + n ≤ left)) := by
  refine enter (l := [.tmp 4]) Tryz.func75 rfl Tryz.ntmps75 rfl T.en75 fun E => ?_
  simp only [List.length_cons, List.length_nil, List.replicate_succ, List.replicate_zero, List.cons_append, List.nil_append, Nat.reduceAdd, Nat.reduceSub]
  refine sr <| k (bx rfl s0 u2 (.t n0)) <| m (as_ (.i rfl)) u4 <| e ?_
  refine sr <| m (fab 4 rfl T.f135_1 (.t n2)) u5 <| m (ldb T.o24 n0 n4 (.t n5)) u6 <| m (mv (.t n1)) u7 <| cI (call (sp_laws_szLogEntryS _ _ (by omega) (by first | omega | (simp only [IntKind.wrap_i64] at *; omega))) (.c (.t n6) rfl (.c (.t n7) rfl .n))) (fun _ => u8) (fun r1 hr1 => ?_)
  refine m (as_ (.t n8)) u1 <| e ?_
  refine sq ?_
  refine sr <| m (mv (.t n1)) u9 <| m (lss (.t n9) (.i rfl)) u10 <| e ?_
  refine cnd n10 (fun h2 => ?_) (fun h2 => ?_)
  ·
    replace h2 := of_decide_eq_true h2
    refine sr <| m (as_ (.i rfl)) u4 <| e ?_
    refine rt (ret1 (.t n4 (.p rfl) .n) ?_)
    refine ⟨_, rfl, fun hn => ?_⟩
    try simp only [D.Box.sz, D.EpochBoxes.sz, D.LogEntry.sz, D.SealedBundle.sz, D.Cloud.sz, D.Vault.sz, D.Notice.sz, D.Mailbox.sz, D.KeyStore.sz, D.Entry.sz, D.Bundle.sz, D.Device.sz, D.Credential.sz, D.Account.sz, D.Challenge.sz, D.ChallengeBook.sz, D.Site.sz, D.Share.sz, D.Keeper.sz, D.KeeperHost.sz, D.World.sz] at *
    try simp only [IntKind.wrap_i64] at *
    omega
  ·
    replace h2 := of_decide_eq_false h2
    refine skp ?_
    refine sr <| m (fab 8 rfl T.f135_5 (.t n2)) u11 <| m (lab T.a133 n0 d8 k1 (.t n11)) u12 <| m (mv (.t n1)) u13 <| cI (call (sp_laws_szBundle _ _ (by omega) (by first | omega | (simp only [IntKind.wrap_i64] at *; omega))) (.c (.t n12) rfl (.c (.t n13) rfl .n))) (fun _ => u14) (fun r3 hr3 => ?_)
    refine m (as_ (.t n14)) u1 <| e ?_
    refine sq ?_
    refine sr <| m (mv (.t n1)) u15 <| m (lss (.t n15) (.i rfl)) u16 <| e ?_
    refine cnd n16 (fun h4 => ?_) (fun h4 => ?_)
    ·
      replace h4 := of_decide_eq_true h4
      refine sr <| m (as_ (.i rfl)) u4 <| e ?_
      refine rt (ret1 (.t n4 (.p rfl) .n) ?_)
      refine ⟨_, rfl, fun hn => ?_⟩
      try simp only [D.Box.sz, D.EpochBoxes.sz, D.LogEntry.sz, D.SealedBundle.sz, D.Cloud.sz, D.Vault.sz, D.Notice.sz, D.Mailbox.sz, D.KeyStore.sz, D.Entry.sz, D.Bundle.sz, D.Device.sz, D.Credential.sz, D.Account.sz, D.Challenge.sz, D.ChallengeBook.sz, D.Site.sz, D.Share.sz, D.Keeper.sz, D.KeeperHost.sz, D.World.sz] at *
      try simp only [IntKind.wrap_i64] at *
      omega
    ·
      replace h4 := of_decide_eq_false h4
      refine skp ?_
      refine sr <| m (mv (.t n1)) u17 <| m (as_ (.t n17)) u4 <| e ?_
      refine rt (ret1 (.t n4 (.p rfl) .n) ?_)
      refine ⟨_, rfl, fun hn => ?_⟩
      try simp only [D.Box.sz, D.EpochBoxes.sz, D.LogEntry.sz, D.SealedBundle.sz, D.Cloud.sz, D.Vault.sz, D.Notice.sz, D.Mailbox.sz, D.KeyStore.sz, D.Entry.sz, D.Bundle.sz, D.Device.sz, D.Credential.sz, D.Account.sz, D.Challenge.sz, D.ChallengeBook.sz, D.Site.sz, D.Share.sz, D.Keeper.sz, D.KeeperHost.sz, D.World.sz] at *
      try simp only [IntKind.wrap_i64] at *
      omega

theorem sp_laws_szDeviceS (l : List D.Device) (left : Int) (h0 : 0 ≤ left) (h1 : left ≤ 1048576) : Spec Tryz.prog G0 30 [.slice 9 (l.map D.Device.V), .int .i64 left] (fun r => ∃ n : Int, r = .int .i64 n ∧ (0 ≤ n → ((l.length + (l.map D.Device.sz).sum : Nat) : Int) + n ≤ left)) := by
  refine enter (l := [.tmp 4]) Tryz.func30 rfl Tryz.ntmps30 rfl T.en30 fun E => ?_
  simp only [List.length_cons, List.length_nil, List.replicate_succ, List.replicate_zero, List.cons_append, List.nil_append, Nat.reduceAdd, Nat.reduceSub]
  refine rngl n0 fun hlen => ?_
  simp only [List.length_map, maxLen] at hlen
  have hw : IntKind.i64.wrap (left - (l.length : Int)) = left - (l.length : Int) := by rw [IntKind.wrap_i64]; omega
  refine sr <| m (as_ (.i rfl)) u4 <| e ?_
  refine sr <| m (mv (.t n1)) u6 <| m (mv (.t n0)) u7 <| m (lenm T.s22 (.t n7)) u8 <| m (sub (.t n6) (.t n8)) u9 <| m (as_ (.t n9)) u1 <| e ?_
  refine sq ?_
  refine sr <| m (mv (.t n1)) u10 <| m (lss (.t n10) (.i rfl)) u11 <| e ?_
  refine cnd n11 (fun h1 => ?_) (fun h1 => ?_)
  ·
    replace h1 := of_decide_eq_true h1
    refine sr <| m (as_ (.i rfl)) u4 <| e ?_
    refine rt (ret1 (.t n4 (.p rfl) .n) ?_)
    exact ⟨-1, rfl, fun hn => by omega⟩
  ·
    replace h1 := of_decide_eq_false h1
    refine skp ?_
    refine sq ?_
    refine sr <| m (as_ (.i rfl)) u5 <| e ?_
    refine bk ?_
    refine lp (fun x0 : Nat × Int => ⟨[.slice 9 (l.map D.Device.V), .int .i64 x0.2, .any, .any, .any, .int .i64 (x0.1 : Int), .any, .any, .any, .any, .any, .any, .any, .any, .any, .any, .any, .any, .any, .any, .any, .any, .any, .any, .any, .any, .any], []⟩) (fun x0 : Nat × Int => x0.1 ≤ l.length ∧ 0 ≤ x0.2 ∧ (l.length : Int) + (((l.take x0.1).map D.Device.sz).sum : Nat) + x0.2 ≤ left) (fun x0 : Nat × Int => l.length - x0.1) ((0, IntKind.i64.wrap (left - (l.length : Int)))) (by rw [hw] at h1 ⊢; simp; omega) (le [] (by decide) (.c (.e rfl rfl) (.c (.e rfl rfl) (.c .a (.c .a (.c .a (.c (.e rfl rfl) (.c .a (.c .a (.c .a (.c .a (.c .a (.c .a (.c .a (.c .a (.c .a (.c .a (.c .a (.c .a (.c .a (.c .a (.c .a (.c .a (.c .a (.c .a (.c .a (.c .a (.c .a .n))))))))))))))))))))))))))) .n) ?_
    rintro ⟨i, mm⟩ hJ
    try dsimp only at hJ ⊢
    refine sq ?_
    refine sr <| m (mv (.t n5)) u12 <| m (mv (.t n0)) u13 <| m (lenm T.s22 (.t n13)) u14 <| m (lss (.t n12) (.t n14)) u15 <| e ?_
    refine cnd n15 (fun h2 => ?_) (fun h2 => ?_)
    ·
      replace h2 := of_decide_eq_true h2
      refine skp ?_
      refine sq ?_
      refine bk ?_
      refine sr <| m (mv (.t n0)) u18 <| m (mv (.t n5)) u19 <| m (ixm T.s22 (Int.natCast_nonneg _) (gi (by omega)) (.t n18) (.t n19)) u20 <| m (lae T.a135 k9 (.t n20)) u21 <| m (mv (.t n1)) u22 <| cI (call (sp_laws_szDevice _ _ (by omega) (by first | omega | (simp only [IntKind.wrap_i64] at *; omega))) (.c (.t n21) rfl (.c (.t n22) rfl .n))) (fun _ => u23) (fun r3 hr3 => ?_)
      refine m (as_ (.t n23)) u1 <| e ?_
      refine sr <| m (mv (.t n1)) u24 <| m (lss (.t n24) (.i rfl)) u25 <| e ?_
      refine cnd n25 (fun h4 => ?_) (fun h4 => ?_)
      ·
        replace h4 := of_decide_eq_true h4
        refine sr <| m (as_ (.i rfl)) u4 <| e ?_
        refine rt (ret1 (.t n4 (.p rfl) .n) ?_)
        exact ⟨-1, rfl, fun hn => by omega⟩
      ·
        replace h4 := of_decide_eq_false h4
        refine skp ?_
        refine rg <| m (mv (.t n5)) u16 <| m (add (.t n16) (.i rfl)) u17 <| m (as_ (.t n17)) u5 <| e ?_
        exact ⟨(i + 1, r3), ⟨by omega, by omega, by rw [take_sum D.Device.sz l i (by omega)]; have := hr3 (by omega); omega⟩, (by omega), le [] (by decide) (.c (.e rfl rfl) (.c (.e rfl rfl) (.c .a (.c .a (.c .a (.c (.e (wi (by omega)) rfl) (.c .a (.c .a (.c .a (.c .a (.c .a (.c .a (.c .a (.c .a (.c .a (.c .a (.c .a (.c .a (.c .a (.c .a (.c .a (.c .a (.c .a (.c .a (.c .a (.c .a (.c .a .n))))))))))))))))))))))))))) .n⟩
    ·
      replace h2 := of_decide_eq_false h2
      refine ex (x1 ?_)
      refine sr <| m (mv (.t n1)) u26 <| m (as_ (.t n26)) u4 <| e ?_
      refine rt (ret1 (.t n4 (.p rfl) .n) ?_)
      refine ⟨_, rfl, fun hn => ?_⟩
      rw [show i = l.length from by omega, List.take_length] at hJ
      omega

theorem sp_laws_szBoolS (l : List Bool) (left : Int) (h0 : 0 ≤ left) (h1 : left ≤ 1048576) : Spec Tryz.prog G0 31 [.slice 1 (l.map bV), .int .i64 left] (fun r => ∃ n : Int, r = .int .i64 n ∧ (0 ≤ n → (l.length : Int) + n ≤ left)) := by
  refine enter (l := [.tmp 4]) Tryz.func31 rfl Tryz.ntmps31 rfl T.en31 fun E => ?_
  simp only [List.length_cons, List.length_nil, List.replicate_succ, List.replicate_zero, List.cons_append, List.nil_append, Nat.reduceAdd, Nat.reduceSub]
  refine rngl n0 fun hlen => ?_
  simp only [List.length_map, maxLen] at hlen
  have hw : IntKind.i64.wrap (left - (l.length : Int)) = left - (l.length : Int) := by rw [IntKind.wrap_i64]; omega
  refine sr <| m (as_ (.i rfl)) u4 <| e ?_
  refine sr <| m (mv (.t n1)) u5 <| m (mv (.t n0)) u6 <| m (lenm T.s23 (.t n6)) u7 <| m (sub (.t n5) (.t n7)) u8 <| m (as_ (.t n8)) u1 <| e ?_
  refine sq ?_
  refine sr <| m (mv (.t n1)) u9 <| m (lss (.t n9) (.i rfl)) u10 <| e ?_
  refine cnd n10 (fun h1 => ?_) (fun h1 => ?_)
  ·
    replace h1 := of_decide_eq_true h1
    refine sr <| m (as_ (.i rfl)) u4 <| e ?_
    refine rt (ret1 (.t n4 (.p rfl) .n) ?_)
    refine ⟨_, rfl, fun hn => ?_⟩
    first | omega | (rw [hw]; omega)
  ·
    replace h1 := of_decide_eq_false h1
    refine skp ?_
    refine sr <| m (mv (.t n1)) u11 <| m (as_ (.t n11)) u4 <| e ?_
    refine rt (ret1 (.t n4 (.p rfl) .n) ?_)
    refine ⟨_, rfl, fun hn => ?_⟩
    first | omega | (rw [hw]; omega)

theorem sp_laws_szByteS (l : List Int) (left : Int) (h0 : 0 ≤ left) (h1 : left ≤ 1048576) : Spec Tryz.prog G0 156 [.slice 1 (l.map y8), .int .i64 left] (fun r => ∃ n : Int, r = .int .i64 n ∧ (0 ≤ n → (l.length : Int) + n ≤ left)) := by
  refine enter (l := [.tmp 4]) Tryz.func156 rfl Tryz.ntmps156 rfl T.en156 fun E => ?_
  simp only [List.length_cons, List.length_nil, List.replicate_succ, List.replicate_zero, List.cons_append, List.nil_append, Nat.reduceAdd, Nat.reduceSub]
  refine rngl n0 fun hlen => ?_
  simp only [List.length_map, maxLen] at hlen
  have hw : IntKind.i64.wrap (left - (l.length : Int)) = left - (l.length : Int) := by rw [IntKind.wrap_i64]; omega
  refine sr <| m (as_ (.i rfl)) u4 <| e ?_
  refine sr <| m (mv (.t n1)) u5 <| m (mv (.t n0)) u6 <| m (lenm T.s174 (.t n6)) u7 <| m (sub (.t n5) (.t n7)) u8 <| m (as_ (.t n8)) u1 <| e ?_
  refine sq ?_
  refine sr <| m (mv (.t n1)) u9 <| m (lss (.t n9) (.i rfl)) u10 <| e ?_
  refine cnd n10 (fun h1 => ?_) (fun h1 => ?_)
  ·
    replace h1 := of_decide_eq_true h1
    refine sr <| m (as_ (.i rfl)) u4 <| e ?_
    refine rt (ret1 (.t n4 (.p rfl) .n) ?_)
    refine ⟨_, rfl, fun hn => ?_⟩
    first | omega | (rw [hw]; omega)
  ·
    replace h1 := of_decide_eq_false h1
    refine skp ?_
    refine sr <| m (mv (.t n1)) u11 <| m (as_ (.t n11)) u4 <| e ?_
    refine rt (ret1 (.t n4 (.p rfl) .n) ?_)
    refine ⟨_, rfl, fun hn => ?_⟩
    first | omega | (rw [hw]; omega)

theorem sp_laws_szBox (x : D.Box) (left : Int) (h0 : 0 ≤ left) (h1 : left ≤ 1048576) : Spec Tryz.prog G0 155 [.agg (D.Box.V x), .int .i64 left] (fun r => ∃ n : Int, r = .int .i64 n ∧ (0 ≤ n → (x.sz : Int) + n ≤ left)) := by
  refine enter (l := [.tmp 4]) Tryz.func155 rfl Tryz.ntmps155 rfl T.en155 fun E => ?_
  simp only [List.length_cons, List.length_nil, List.replicate_succ, List.replicate_zero, List.cons_append, List.nil_append, Nat.reduceAdd, Nat.reduceSub]
  refine sr <| k (bx rfl s0 u2 (.t n0)) <| m (as_ (.i rfl)) u4 <| e ?_
  refine sr <| m (fab 2 rfl T.f225_2 (.t n2)) u5 <| m (ldb T.o174 n0 n2 (.t n5)) u6 <| m (mv (.t n1)) u7 <| cI (call (sp_laws_szByteS _ _ (by omega) (by first | omega | (simp only [IntKind.wrap_i64] at *; omega))) (.c (.t n6) rfl (.c (.t n7) rfl .n))) (fun _ => u8) (fun r1 hr1 => ?_)
  refine m (as_ (.t n8)) u1 <| e ?_
  refine sq ?_
  refine sr <| m (mv (.t n1)) u9 <| m (lss (.t n9) (.i rfl)) u10 <| e ?_
  refine cnd n10 (fun h2 => ?_) (fun h2 => ?_)
  ·
    replace h2 := of_decide_eq_true h2
    refine sr <| m (as_ (.i rfl)) u4 <| e ?_
    refine rt (ret1 (.t n4 (.p rfl) .n) ?_)
    refine ⟨_, rfl, fun hn => ?_⟩
    try simp only [D.Box.sz, D.EpochBoxes.sz, D.LogEntry.sz, D.SealedBundle.sz, D.Cloud.sz, D.Vault.sz, D.Notice.sz, D.Mailbox.sz, D.KeyStore.sz, D.Entry.sz, D.Bundle.sz, D.Device.sz, D.Credential.sz, D.Account.sz, D.Challenge.sz, D.ChallengeBook.sz, D.Site.sz, D.Share.sz, D.Keeper.sz, D.KeeperHost.sz, D.World.sz] at *
    try simp only [IntKind.wrap_i64] at *
    omega
  ·
    replace h2 := of_decide_eq_false h2
    refine skp ?_
    refine sr <| m (mv (.t n1)) u11 <| m (as_ (.t n11)) u4 <| e ?_
    refine rt (ret1 (.t n4 (.p rfl) .n) ?_)
    refine ⟨_, rfl, fun hn => ?_⟩
    try simp only [D.Box.sz, D.EpochBoxes.sz, D.LogEntry.sz, D.SealedBundle.sz, D.Cloud.sz, D.Vault.sz, D.Notice.sz, D.Mailbox.sz, D.KeyStore.sz, D.Entry.sz, D.Bundle.sz, D.Device.sz, D.Credential.sz, D.Account.sz, D.Challenge.sz, D.ChallengeBook.sz, D.Site.sz, D.Share.sz, D.Keeper.sz, D.KeeperHost.sz, D.World.sz] at *
    try simp only [IntKind.wrap_i64] at *
    omega

theorem sp_laws_szBoxS (l : List D.Box) (left : Int) (h0 : 0 ≤ left) (h1 : left ≤ 1048576) : Spec Tryz.prog G0 117 [.slice 4 (l.map D.Box.V), .int .i64 left] (fun r => ∃ n : Int, r = .int .i64 n ∧ (0 ≤ n → ((l.length + (l.map D.Box.sz).sum : Nat) : Int) + n ≤ left)) := by
  refine enter (l := [.tmp 4]) Tryz.func117 rfl Tryz.ntmps117 rfl T.en117 fun E => ?_
  simp only [List.length_cons, List.length_nil, List.replicate_succ, List.replicate_zero, List.cons_append, List.nil_append, Nat.reduceAdd, Nat.reduceSub]
  refine rngl n0 fun hlen => ?_
  simp only [List.length_map, maxLen] at hlen
  have hw : IntKind.i64.wrap (left - (l.length : Int)) = left - (l.length : Int) := by rw [IntKind.wrap_i64]; omega
  refine sr <| m (as_ (.i rfl)) u4 <| e ?_
  refine sr <| m (mv (.t n1)) u6 <| m (mv (.t n0)) u7 <| m (lenm T.s25 (.t n7)) u8 <| m (sub (.t n6) (.t n8)) u9 <| m (as_ (.t n9)) u1 <| e ?_
  refine sq ?_
  refine sr <| m (mv (.t n1)) u10 <| m (lss (.t n10) (.i rfl)) u11 <| e ?_
  refine cnd n11 (fun h1 => ?_) (fun h1 => ?_)
  ·
    replace h1 := of_decide_eq_true h1
    refine sr <| m (as_ (.i rfl)) u4 <| e ?_
    refine rt (ret1 (.t n4 (.p rfl) .n) ?_)
    exact ⟨-1, rfl, fun hn => by omega⟩
  ·
    replace h1 := of_decide_eq_false h1
    refine skp ?_
    refine sq ?_
    refine sr <| m (as_ (.i rfl)) u5 <| e ?_
    refine bk ?_
    refine lp (fun x0 : Nat × Int => ⟨[.slice 4 (l.map D.Box.V), .int .i64 x0.2, .any, .any, .any, .int .i64 (x0.1 : Int), .any, .any, .any, .any, .any, .any, .any, .any, .any, .any, .any, .any, .any, .any, .any, .any, .any, .any, .any, .any, .any], []⟩) (fun x0 : Nat × Int => x0.1 ≤ l.length ∧ 0 ≤ x0.2 ∧ (l.length : Int) + (((l.take x0.1).map D.Box.sz).sum : Nat) + x0.2 ≤ left) (fun x0 : Nat × Int => l.length - x0.1) ((0, IntKind.i64.wrap (left - (l.length : Int)))) (by rw [hw] at h1 ⊢; simp; omega) (le [] (by decide) (.c (.e rfl rfl) (.c (.e rfl rfl) (.c .a (.c .a (.c .a (.c (.e rfl rfl) (.c .a (.c .a (.c .a (.c .a (.c .a (.c .a (.c .a (.c .a (.c .a (.c .a (.c .a (.c .a (.c .a (.c .a (.c .a (.c .a (.c .a (.c .a (.c .a (.c .a (.c .a .n))))))))))))))))))))))))))) .n) ?_
    rintro ⟨i, mm⟩ hJ
    try dsimp only at hJ ⊢
    refine sq ?_
    refine sr <| m (mv (.t n5)) u12 <| m (mv (.t n0)) u13 <| m (lenm T.s25 (.t n13)) u14 <| m (lss (.t n12) (.t n14)) u15 <| e ?_
    refine cnd n15 (fun h2 => ?_) (fun h2 => ?_)
    ·
      replace h2 := of_decide_eq_true h2
      refine skp ?_
      refine sq ?_
      refine bk ?_
      refine sr <| m (mv (.t n0)) u18 <| m (mv (.t n5)) u19 <| m (ixm T.s25 (Int.natCast_nonneg _) (gi (by omega)) (.t n18) (.t n19)) u20 <| m (lae T.a225 k4 (.t n20)) u21 <| m (mv (.t n1)) u22 <| cI (call (sp_laws_szBox _ _ (by omega) (by first | omega | (simp only [IntKind.wrap_i64] at *; omega))) (.c (.t n21) rfl (.c (.t n22) rfl .n))) (fun _ => u23) (fun r3 hr3 => ?_)
      refine m (as_ (.t n23)) u1 <| e ?_
      refine sr <| m (mv (.t n1)) u24 <| m (lss (.t n24) (.i rfl)) u25 <| e ?_
      refine cnd n25 (fun h4 => ?_) (fun h4 => ?_)
      ·
        replace h4 := of_decide_eq_true h4
        refine sr <| m (as_ (.i rfl)) u4 <| e ?_
        refine rt (ret1 (.t n4 (.p rfl) .n) ?_)
        exact ⟨-1, rfl, fun hn => by omega⟩
      ·
        replace h4 := of_decide_eq_false h4
        refine skp ?_
        refine rg <| m (mv (.t n5)) u16 <| m (add (.t n16) (.i rfl)) u17 <| m (as_ (.t n17)) u5 <| e ?_
        exact ⟨(i + 1, r3), ⟨by omega, by omega, by rw [take_sum D.Box.sz l i (by omega)]; have := hr3 (by omega); omega⟩, (by omega), le [] (by decide) (.c (.e rfl rfl) (.c (.e rfl rfl) (.c .a (.c .a (.c .a (.c (.e (wi (by omega)) rfl) (.c .a (.c .a (.c .a (.c .a (.c .a (.c .a (.c .a (.c .a (.c .a (.c .a (.c .a (.c .a (.c .a (.c .a (.c .a (.c .a (.c .a (.c .a (.c .a (.c .a (.c .a .n))))))))))))))))))))))))))) .n⟩
    ·
      replace h2 := of_decide_eq_false h2
      refine ex (x1 ?_)
      refine sr <| m (mv (.t n1)) u26 <| m (as_ (.t n26)) u4 <| e ?_
      refine rt (ret1 (.t n4 (.p rfl) .n) ?_)
      refine ⟨_, rfl, fun hn => ?_⟩
      rw [show i = l.length from by omega, List.take_length] at hJ
      omega

theorem sp_laws_szEpochBoxes (x : D.EpochBoxes) (left : Int) (h0 : 0 ≤ left) (h1 : left ≤ 1048576) : Spec Tryz.prog G0 77 [.agg (D.EpochBoxes.V x), .int .i64 left] (fun r => ∃ n : Int, r = .int .i64 n ∧ (0 ≤ n → (x.sz : Int) + n ≤ left)) := by
  refine enter (l := [.tmp 4]) Tryz.func77 rfl Tryz.ntmps77 rfl T.en77 fun E => ?_
  simp only [List.length_cons, List.length_nil, List.replicate_succ, List.replicate_zero, List.cons_append, List.nil_append, Nat.reduceAdd, Nat.reduceSub]
  refine sr <| k (bx rfl s0 u2 (.t n0)) <| m (as_ (.i rfl)) u4 <| e ?_
  refine sr <| m (fab 1 rfl T.f27_1 (.t n2)) u5 <| m (ldb T.o25 n0 n1 (.t n5)) u6 <| m (mv (.t n1)) u7 <| cI (call (sp_laws_szBoxS _ _ (by omega) (by first | omega | (simp only [IntKind.wrap_i64] at *; omega))) (.c (.t n6) rfl (.c (.t n7) rfl .n))) (fun _ => u8) (fun r1 hr1 => ?_)
  refine m (as_ (.t n8)) u1 <| e ?_
  refine sq ?_
  refine sr <| m (mv (.t n1)) u9 <| m (lss (.t n9) (.i rfl)) u10 <| e ?_
  refine cnd n10 (fun h2 => ?_) (fun h2 => ?_)
  ·
    replace h2 := of_decide_eq_true h2
    refine sr <| m (as_ (.i rfl)) u4 <| e ?_
    refine rt (ret1 (.t n4 (.p rfl) .n) ?_)
    refine ⟨_, rfl, fun hn => ?_⟩
    try simp only [D.Box.sz, D.EpochBoxes.sz, D.LogEntry.sz, D.SealedBundle.sz, D.Cloud.sz, D.Vault.sz, D.Notice.sz, D.Mailbox.sz, D.KeyStore.sz, D.Entry.sz, D.Bundle.sz, D.Device.sz, D.Credential.sz, D.Account.sz, D.Challenge.sz, D.ChallengeBook.sz, D.Site.sz, D.Share.sz, D.Keeper.sz, D.KeeperHost.sz, D.World.sz] at *
    try simp only [IntKind.wrap_i64] at *
    omega
  ·
    replace h2 := of_decide_eq_false h2
    refine skp ?_
    refine sr <| m (mv (.t n1)) u11 <| m (as_ (.t n11)) u4 <| e ?_
    refine rt (ret1 (.t n4 (.p rfl) .n) ?_)
    refine ⟨_, rfl, fun hn => ?_⟩
    try simp only [D.Box.sz, D.EpochBoxes.sz, D.LogEntry.sz, D.SealedBundle.sz, D.Cloud.sz, D.Vault.sz, D.Notice.sz, D.Mailbox.sz, D.KeyStore.sz, D.Entry.sz, D.Bundle.sz, D.Device.sz, D.Credential.sz, D.Account.sz, D.Challenge.sz, D.ChallengeBook.sz, D.Site.sz, D.Share.sz, D.Keeper.sz, D.KeeperHost.sz, D.World.sz] at *
    try simp only [IntKind.wrap_i64] at *
    omega

theorem sp_laws_szSealedBundle (x : D.SealedBundle) (left : Int) (h0 : 0 ≤ left) (h1 : left ≤ 1048576) : Spec Tryz.prog G0 118 [.agg (D.SealedBundle.V x), .int .i64 left] (fun r => ∃ n : Int, r = .int .i64 n ∧ (0 ≤ n → (x.sz : Int) + n ≤ left)) := by
  refine enter (l := [.tmp 4]) Tryz.func118 rfl Tryz.ntmps118 rfl T.en118 fun E => ?_
  simp only [List.length_cons, List.length_nil, List.replicate_succ, List.replicate_zero, List.cons_append, List.nil_append, Nat.reduceAdd, Nat.reduceSub]
  refine sr <| k (bx rfl s0 u2 (.t n0)) <| m (as_ (.i rfl)) u4 <| e ?_
  refine sr <| m (fab 2 rfl T.f184_2 (.t n2)) u5 <| m (ldb T.o174 n0 n2 (.t n5)) u6 <| m (mv (.t n1)) u7 <| cI (call (sp_laws_szByteS _ _ (by omega) (by first | omega | (simp only [IntKind.wrap_i64] at *; omega))) (.c (.t n6) rfl (.c (.t n7) rfl .n))) (fun _ => u8) (fun r1 hr1 => ?_)
  refine m (as_ (.t n8)) u1 <| e ?_
  refine sq ?_
  refine sr <| m (mv (.t n1)) u9 <| m (lss (.t n9) (.i rfl)) u10 <| e ?_
  refine cnd n10 (fun h2 => ?_) (fun h2 => ?_)
  ·
    replace h2 := of_decide_eq_true h2
    refine sr <| m (as_ (.i rfl)) u4 <| e ?_
    refine rt (ret1 (.t n4 (.p rfl) .n) ?_)
    refine ⟨_, rfl, fun hn => ?_⟩
    try simp only [D.Box.sz, D.EpochBoxes.sz, D.LogEntry.sz, D.SealedBundle.sz, D.Cloud.sz, D.Vault.sz, D.Notice.sz, D.Mailbox.sz, D.KeyStore.sz, D.Entry.sz, D.Bundle.sz, D.Device.sz, D.Credential.sz, D.Account.sz, D.Challenge.sz, D.ChallengeBook.sz, D.Site.sz, D.Share.sz, D.Keeper.sz, D.KeeperHost.sz, D.World.sz] at *
    try simp only [IntKind.wrap_i64] at *
    omega
  ·
    replace h2 := of_decide_eq_false h2
    refine skp ?_
    refine sr <| m (mv (.t n1)) u11 <| m (as_ (.t n11)) u4 <| e ?_
    refine rt (ret1 (.t n4 (.p rfl) .n) ?_)
    refine ⟨_, rfl, fun hn => ?_⟩
    try simp only [D.Box.sz, D.EpochBoxes.sz, D.LogEntry.sz, D.SealedBundle.sz, D.Cloud.sz, D.Vault.sz, D.Notice.sz, D.Mailbox.sz, D.KeyStore.sz, D.Entry.sz, D.Bundle.sz, D.Device.sz, D.Credential.sz, D.Account.sz, D.Challenge.sz, D.ChallengeBook.sz, D.Site.sz, D.Share.sz, D.Keeper.sz, D.KeeperHost.sz, D.World.sz] at *
    try simp only [IntKind.wrap_i64] at *
    omega

theorem sp_laws_szSealedBundleS (l : List D.SealedBundle) (left : Int) (h0 : 0 ≤ left) (h1 : left ≤ 1048576) : Spec Tryz.prog G0 78 [.slice 4 (l.map D.SealedBundle.V), .int .i64 left] (fun r => ∃ n : Int, r = .int .i64 n ∧ (0 ≤ n → ((l.length + (l.map D.SealedBundle.sz).sum : Nat) : Int) + n ≤ left)) := by
  refine enter (l := [.tmp 4]) Tryz.func78 rfl Tryz.ntmps78 rfl T.en78 fun E => ?_
  simp only [List.length_cons, List.length_nil, List.replicate_succ, List.replicate_zero, List.cons_append, List.nil_append, Nat.reduceAdd, Nat.reduceSub]
  refine rngl n0 fun hlen => ?_
  simp only [List.length_map, maxLen] at hlen
  have hw : IntKind.i64.wrap (left - (l.length : Int)) = left - (l.length : Int) := by rw [IntKind.wrap_i64]; omega
  refine sr <| m (as_ (.i rfl)) u4 <| e ?_
  refine sr <| m (mv (.t n1)) u6 <| m (mv (.t n0)) u7 <| m (lenm T.s28 (.t n7)) u8 <| m (sub (.t n6) (.t n8)) u9 <| m (as_ (.t n9)) u1 <| e ?_
  refine sq ?_
  refine sr <| m (mv (.t n1)) u10 <| m (lss (.t n10) (.i rfl)) u11 <| e ?_
  refine cnd n11 (fun h1 => ?_) (fun h1 => ?_)
  ·
    replace h1 := of_decide_eq_true h1
    refine sr <| m (as_ (.i rfl)) u4 <| e ?_
    refine rt (ret1 (.t n4 (.p rfl) .n) ?_)
    exact ⟨-1, rfl, fun hn => by omega⟩
  ·
    replace h1 := of_decide_eq_false h1
    refine skp ?_
    refine sq ?_
    refine sr <| m (as_ (.i rfl)) u5 <| e ?_
    refine bk ?_
    refine lp (fun x0 : Nat × Int => ⟨[.slice 4 (l.map D.SealedBundle.V), .int .i64 x0.2, .any, .any, .any, .int .i64 (x0.1 : Int), .any, .any, .any, .any, .any, .any, .any, .any, .any, .any, .any, .any, .any, .any, .any, .any, .any, .any, .any, .any, .any], []⟩) (fun x0 : Nat × Int => x0.1 ≤ l.length ∧ 0 ≤ x0.2 ∧ (l.length : Int) + (((l.take x0.1).map D.SealedBundle.sz).sum : Nat) + x0.2 ≤ left) (fun x0 : Nat × Int => l.length - x0.1) ((0, IntKind.i64.wrap (left - (l.length : Int)))) (by rw [hw] at h1 ⊢; simp; omega) (le [] (by decide) (.c (.e rfl rfl) (.c (.e rfl rfl) (.c .a (.c .a (.c .a (.c (.e rfl rfl) (.c .a (.c .a (.c .a (.c .a (.c .a (.c .a (.c .a (.c .a (.c .a (.c .a (.c .a (.c .a (.c .a (.c .a (.c .a (.c .a (.c .a (.c .a (.c .a (.c .a (.c .a .n))))))))))))))))))))))))))) .n) ?_
    rintro ⟨i, mm⟩ hJ
    try dsimp only at hJ ⊢
    refine sq ?_
    refine sr <| m (mv (.t n5)) u12 <| m (mv (.t n0)) u13 <| m (lenm T.s28 (.t n13)) u14 <| m (lss (.t n12) (.t n14)) u15 <| e ?_
    refine cnd n15 (fun h2 => ?_) (fun h2 => ?_)
    ·
      replace h2 := of_decide_eq_true h2
      refine skp ?_
      refine sq ?_
      refine bk ?_
      refine sr <| m (mv (.t n0)) u18 <| m (mv (.t n5)) u19 <| m (ixm T.s28 (Int.natCast_nonneg _) (gi (by omega)) (.t n18) (.t n19)) u20 <| m (lae T.a184 k4 (.t n20)) u21 <| m (mv (.t n1)) u22 <| cI (call (sp_laws_szSealedBundle _ _ (by omega) (by first | omega | (simp only [IntKind.wrap_i64] at *; omega))) (.c (.t n21) rfl (.c (.t n22) rfl .n))) (fun _ => u23) (fun r3 hr3 => ?_)
      refine m (as_ (.t n23)) u1 <| e ?_
      refine sr <| m (mv (.t n1)) u24 <| m (lss (.t n24) (.i rfl)) u25 <| e ?_
      refine cnd n25 (fun h4 => ?_) (fun h4 => ?_)
      ·
        replace h4 := of_decide_eq_true h4
        refine sr <| m (as_ (.i rfl)) u4 <| e ?_
        refine rt (ret1 (.t n4 (.p rfl) .n) ?_)
        exact ⟨-1, rfl, fun hn => by omega⟩
      ·
        replace h4 := of_decide_eq_false h4
        refine skp ?_
        refine rg <| m (mv (.t n5)) u16 <| m (add (.t n16) (.i rfl)) u17 <| m (as_ (.t n17)) u5 <| e ?_
        exact ⟨(i + 1, r3), ⟨by omega, by omega, by rw [take_sum D.SealedBundle.sz l i (by omega)]; have := hr3 (by omega); omega⟩, (by omega), le [] (by decide) (.c (.e rfl rfl) (.c (.e rfl rfl) (.c .a (.c .a (.c .a (.c (.e (wi (by omega)) rfl) (.c .a (.c .a (.c .a (.c .a (.c .a (.c .a (.c .a (.c .a (.c .a (.c .a (.c .a (.c .a (.c .a (.c .a (.c .a (.c .a (.c .a (.c .a (.c .a (.c .a (.c .a .n))))))))))))))))))))))))))) .n⟩
    ·
      replace h2 := of_decide_eq_false h2
      refine ex (x1 ?_)
      refine sr <| m (mv (.t n1)) u26 <| m (as_ (.t n26)) u4 <| e ?_
      refine rt (ret1 (.t n4 (.p rfl) .n) ?_)
      refine ⟨_, rfl, fun hn => ?_⟩
      rw [show i = l.length from by omega, List.take_length] at hJ
      omega

theorem sp_laws_szCloud (x : D.Cloud) (left : Int) (h0 : 0 ≤ left) (h1 : left ≤ 1048576) : Spec Tryz.prog G0 32 [.agg (D.Cloud.V x), .int .i64 left] (fun r => ∃ n : Int, r = .int .i64 n ∧ (0 ≤ n → (x.sz : Int) + n ≤ left)) := by
  refine enter (l := [.tmp 4]) Tryz.func32 rfl Tryz.ntmps32 rfl T.en32 fun E => ?_
  simp only [List.length_cons, List.length_nil, List.replicate_succ, List.replicate_zero, List.cons_append, List.nil_append, Nat.reduceAdd, Nat.reduceSub]
  refine sr <| k (bx rfl s0 u2 (.t n0)) <| m (as_ (.i rfl)) u4 <| e ?_
  refine sr <| m (fab 0 rfl T.f30_0 (.t n2)) u5 <| m (ldb T.o24 n0 n0 (.t n5)) u6 <| m (mv (.t n1)) u7 <| cI (call (sp_laws_szLogEntryS _ _ (by omega) (by first | omega | (simp only [IntKind.wrap_i64] at *; omega))) (.c (.t n6) rfl (.c (.t n7) rfl .n))) (fun _ => u8) (fun r1 hr1 => ?_)
  refine m (as_ (.t n8)) u1 <| e ?_
  refine sq ?_
  refine sr <| m (mv (.t n1)) u9 <| m (lss (.t n9) (.i rfl)) u10 <| e ?_
  refine cnd n10 (fun h2 => ?_) (fun h2 => ?_)
  ·
    replace h2 := of_decide_eq_true h2
    refine sr <| m (as_ (.i rfl)) u4 <| e ?_
    refine rt (ret1 (.t n4 (.p rfl) .n) ?_)
    refine ⟨_, rfl, fun hn => ?_⟩
    try simp only [D.Box.sz, D.EpochBoxes.sz, D.LogEntry.sz, D.SealedBundle.sz, D.Cloud.sz, D.Vault.sz, D.Notice.sz, D.Mailbox.sz, D.KeyStore.sz, D.Entry.sz, D.Bundle.sz, D.Device.sz, D.Credential.sz, D.Account.sz, D.Challenge.sz, D.ChallengeBook.sz, D.Site.sz, D.Share.sz, D.Keeper.sz, D.KeeperHost.sz, D.World.sz] at *
    try simp only [IntKind.wrap_i64] at *
    omega
  ·
    replace h2 := of_decide_eq_false h2
    refine skp ?_
    refine sr <| m (fab 1 rfl T.f30_1 (.t n2)) u11 <| m (lab T.a27 n0 d1 k2 (.t n11)) u12 <| m (mv (.t n1)) u13 <| cI (call (sp_laws_szEpochBoxes _ _ (by omega) (by first | omega | (simp only [IntKind.wrap_i64] at *; omega))) (.c (.t n12) rfl (.c (.t n13) rfl .n))) (fun _ => u14) (fun r3 hr3 => ?_)
    refine m (as_ (.t n14)) u1 <| e ?_
    refine sq ?_
    refine sr <| m (mv (.t n1)) u15 <| m (lss (.t n15) (.i rfl)) u16 <| e ?_
    refine cnd n16 (fun h4 => ?_) (fun h4 => ?_)
    ·
      replace h4 := of_decide_eq_true h4
      refine sr <| m (as_ (.i rfl)) u4 <| e ?_
      refine rt (ret1 (.t n4 (.p rfl) .n) ?_)
      refine ⟨_, rfl, fun hn => ?_⟩
      try simp only [D.Box.sz, D.EpochBoxes.sz, D.LogEntry.sz, D.SealedBundle.sz, D.Cloud.sz, D.Vault.sz, D.Notice.sz, D.Mailbox.sz, D.KeyStore.sz, D.Entry.sz, D.Bundle.sz, D.Device.sz, D.Credential.sz, D.Account.sz, D.Challenge.sz, D.ChallengeBook.sz, D.Site.sz, D.Share.sz, D.Keeper.sz, D.KeeperHost.sz, D.World.sz] at *
      try simp only [IntKind.wrap_i64] at *
      omega
    ·
      replace h4 := of_decide_eq_false h4
      refine skp ?_
      refine sr <| m (fab 3 rfl T.f30_2 (.t n2)) u17 <| m (ldb T.o28 n0 n3 (.t n17)) u18 <| m (mv (.t n1)) u19 <| cI (call (sp_laws_szSealedBundleS _ _ (by omega) (by first | omega | (simp only [IntKind.wrap_i64] at *; omega))) (.c (.t n18) rfl (.c (.t n19) rfl .n))) (fun _ => u20) (fun r5 hr5 => ?_)
      refine m (as_ (.t n20)) u1 <| e ?_
      refine sq ?_
      refine sr <| m (mv (.t n1)) u21 <| m (lss (.t n21) (.i rfl)) u22 <| e ?_
      refine cnd n22 (fun h6 => ?_) (fun h6 => ?_)
      ·
        replace h6 := of_decide_eq_true h6
        refine sr <| m (as_ (.i rfl)) u4 <| e ?_
        refine rt (ret1 (.t n4 (.p rfl) .n) ?_)
        refine ⟨_, rfl, fun hn => ?_⟩
        try simp only [D.Box.sz, D.EpochBoxes.sz, D.LogEntry.sz, D.SealedBundle.sz, D.Cloud.sz, D.Vault.sz, D.Notice.sz, D.Mailbox.sz, D.KeyStore.sz, D.Entry.sz, D.Bundle.sz, D.Device.sz, D.Credential.sz, D.Account.sz, D.Challenge.sz, D.ChallengeBook.sz, D.Site.sz, D.Share.sz, D.Keeper.sz, D.KeeperHost.sz, D.World.sz] at *
        try simp only [IntKind.wrap_i64] at *
        omega
      ·
        replace h6 := of_decide_eq_false h6
        refine skp ?_
        refine sr <| m (mv (.t n1)) u23 <| m (as_ (.t n23)) u4 <| e ?_
        refine rt (ret1 (.t n4 (.p rfl) .n) ?_)
        refine ⟨_, rfl, fun hn => ?_⟩
        try simp only [D.Box.sz, D.EpochBoxes.sz, D.LogEntry.sz, D.SealedBundle.sz, D.Cloud.sz, D.Vault.sz, D.Notice.sz, D.Mailbox.sz, D.KeyStore.sz, D.Entry.sz, D.Bundle.sz, D.Device.sz, D.Credential.sz, D.Account.sz, D.Challenge.sz, D.ChallengeBook.sz, D.Site.sz, D.Share.sz, D.Keeper.sz, D.KeeperHost.sz, D.World.sz] at *
        try simp only [IntKind.wrap_i64] at *
        omega

theorem sp_laws_szCredentialS (l : List D.Credential) (left : Int) (h0 : 0 ≤ left) (h1 : left ≤ 1048576) : Spec Tryz.prog G0 179 [.slice 4 (l.map D.Credential.V), .int .i64 left] (fun r => ∃ n : Int, r = .int .i64 n ∧ (0 ≤ n → (l.length : Int) + n ≤ left)) := by
  refine enter (l := [.tmp 4]) Tryz.func179 rfl Tryz.ntmps179 rfl T.en179 fun E => ?_
  simp only [List.length_cons, List.length_nil, List.replicate_succ, List.replicate_zero, List.cons_append, List.nil_append, Nat.reduceAdd, Nat.reduceSub]
  refine rngl n0 fun hlen => ?_
  simp only [List.length_map, maxLen] at hlen
  have hw : IntKind.i64.wrap (left - (l.length : Int)) = left - (l.length : Int) := by rw [IntKind.wrap_i64]; omega
  refine sr <| m (as_ (.i rfl)) u4 <| e ?_
  refine sr <| m (mv (.t n1)) u5 <| m (mv (.t n0)) u6 <| m (lenm T.s228 (.t n6)) u7 <| m (sub (.t n5) (.t n7)) u8 <| m (as_ (.t n8)) u1 <| e ?_
  refine sq ?_
  refine sr <| m (mv (.t n1)) u9 <| m (lss (.t n9) (.i rfl)) u10 <| e ?_
  refine cnd n10 (fun h1 => ?_) (fun h1 => ?_)
  ·
    replace h1 := of_decide_eq_true h1
    refine sr <| m (as_ (.i rfl)) u4 <| e ?_
    refine rt (ret1 (.t n4 (.p rfl) .n) ?_)
    refine ⟨_, rfl, fun hn => ?_⟩
    first | omega | (rw [hw]; omega)
  ·
    replace h1 := of_decide_eq_false h1
    refine skp ?_
    refine sr <| m (mv (.t n1)) u11 <| m (as_ (.t n11)) u4 <| e ?_
    refine rt (ret1 (.t n4 (.p rfl) .n) ?_)
    refine ⟨_, rfl, fun hn => ?_⟩
    first | omega | (rw [hw]; omega)

theorem sp_laws_szAccount (x : D.Account) (left : Int) (h0 : 0 ≤ left) (h1 : left ≤ 1048576) : Spec Tryz.prog G0 157 [.agg (D.Account.V x), .int .i64 left] (fun r => ∃ n : Int, r = .int .i64 n ∧ (0 ≤ n → (x.sz : Int) + n ≤ left)) := by
  refine enter (l := [.tmp 4]) Tryz.func157 rfl Tryz.ntmps157 rfl T.en157 fun E => ?_
  simp only [List.length_cons, List.length_nil, List.replicate_succ, List.replicate_zero, List.cons_append, List.nil_append, Nat.reduceAdd, Nat.reduceSub]
  refine sr <| k (bx rfl s0 u2 (.t n0)) <| m (as_ (.i rfl)) u4 <| e ?_
  refine sr <| m (fab 2 rfl T.f230_2 (.t n2)) u5 <| m (ldb T.o228 n0 n2 (.t n5)) u6 <| m (mv (.t n1)) u7 <| cI (call (sp_laws_szCredentialS _ _ (by omega) (by first | omega | (simp only [IntKind.wrap_i64] at *; omega))) (.c (.t n6) rfl (.c (.t n7) rfl .n))) (fun _ => u8) (fun r1 hr1 => ?_)
  refine m (as_ (.t n8)) u1 <| e ?_
  refine sq ?_
  refine sr <| m (mv (.t n1)) u9 <| m (lss (.t n9) (.i rfl)) u10 <| e ?_
  refine cnd n10 (fun h2 => ?_) (fun h2 => ?_)
  ·
    replace h2 := of_decide_eq_true h2
    refine sr <| m (as_ (.i rfl)) u4 <| e ?_
    refine rt (ret1 (.t n4 (.p rfl) .n) ?_)
    refine ⟨_, rfl, fun hn => ?_⟩
    try simp only [D.Box.sz, D.EpochBoxes.sz, D.LogEntry.sz, D.SealedBundle.sz, D.Cloud.sz, D.Vault.sz, D.Notice.sz, D.Mailbox.sz, D.KeyStore.sz, D.Entry.sz, D.Bundle.sz, D.Device.sz, D.Credential.sz, D.Account.sz, D.Challenge.sz, D.ChallengeBook.sz, D.Site.sz, D.Share.sz, D.Keeper.sz, D.KeeperHost.sz, D.World.sz] at *
    try simp only [IntKind.wrap_i64] at *
    omega
  ·
    replace h2 := of_decide_eq_false h2
    refine skp ?_
    refine sr <| m (mv (.t n1)) u11 <| m (as_ (.t n11)) u4 <| e ?_
    refine rt (ret1 (.t n4 (.p rfl) .n) ?_)
    refine ⟨_, rfl, fun hn => ?_⟩
    try simp only [D.Box.sz, D.EpochBoxes.sz, D.LogEntry.sz, D.SealedBundle.sz, D.Cloud.sz, D.Vault.sz, D.Notice.sz, D.Mailbox.sz, D.KeyStore.sz, D.Entry.sz, D.Bundle.sz, D.Device.sz, D.Credential.sz, D.Account.sz, D.Challenge.sz, D.ChallengeBook.sz, D.Site.sz, D.Share.sz, D.Keeper.sz, D.KeeperHost.sz, D.World.sz] at *
    try simp only [IntKind.wrap_i64] at *
    omega

theorem sp_laws_szAccountS (l : List D.Account) (left : Int) (h0 : 0 ≤ left) (h1 : left ≤ 1048576) : Spec Tryz.prog G0 119 [.slice 3 (l.map D.Account.V), .int .i64 left] (fun r => ∃ n : Int, r = .int .i64 n ∧ (0 ≤ n → ((l.length + (l.map D.Account.sz).sum : Nat) : Int) + n ≤ left)) := by
  refine enter (l := [.tmp 4]) Tryz.func119 rfl Tryz.ntmps119 rfl T.en119 fun E => ?_
  simp only [List.length_cons, List.length_nil, List.replicate_succ, List.replicate_zero, List.cons_append, List.nil_append, Nat.reduceAdd, Nat.reduceSub]
  refine rngl n0 fun hlen => ?_
  simp only [List.length_map, maxLen] at hlen
  have hw : IntKind.i64.wrap (left - (l.length : Int)) = left - (l.length : Int) := by rw [IntKind.wrap_i64]; omega
  refine sr <| m (as_ (.i rfl)) u4 <| e ?_
  refine sr <| m (mv (.t n1)) u6 <| m (mv (.t n0)) u7 <| m (lenm T.s140 (.t n7)) u8 <| m (sub (.t n6) (.t n8)) u9 <| m (as_ (.t n9)) u1 <| e ?_
  refine sq ?_
  refine sr <| m (mv (.t n1)) u10 <| m (lss (.t n10) (.i rfl)) u11 <| e ?_
  refine cnd n11 (fun h1 => ?_) (fun h1 => ?_)
  ·
    replace h1 := of_decide_eq_true h1
    refine sr <| m (as_ (.i rfl)) u4 <| e ?_
    refine rt (ret1 (.t n4 (.p rfl) .n) ?_)
    exact ⟨-1, rfl, fun hn => by omega⟩
  ·
    replace h1 := of_decide_eq_false h1
    refine skp ?_
    refine sq ?_
    refine sr <| m (as_ (.i rfl)) u5 <| e ?_
    refine bk ?_
    refine lp (fun x0 : Nat × Int => ⟨[.slice 3 (l.map D.Account.V), .int .i64 x0.2, .any, .any, .any, .int .i64 (x0.1 : Int), .any, .any, .any, .any, .any, .any, .any, .any, .any, .any, .any, .any, .any, .any, .any, .any, .any, .any, .any, .any, .any], []⟩) (fun x0 : Nat × Int => x0.1 ≤ l.length ∧ 0 ≤ x0.2 ∧ (l.length : Int) + (((l.take x0.1).map D.Account.sz).sum : Nat) + x0.2 ≤ left) (fun x0 : Nat × Int => l.length - x0.1) ((0, IntKind.i64.wrap (left - (l.length : Int)))) (by rw [hw] at h1 ⊢; simp; omega) (le [] (by decide) (.c (.e rfl rfl) (.c (.e rfl rfl) (.c .a (.c .a (.c .a (.c (.e rfl rfl) (.c .a (.c .a (.c .a (.c .a (.c .a (.c .a (.c .a (.c .a (.c .a (.c .a (.c .a (.c .a (.c .a (.c .a (.c .a (.c .a (.c .a (.c .a (.c .a (.c .a (.c .a .n))))))))))))))))))))))))))) .n) ?_
    rintro ⟨i, mm⟩ hJ
    try dsimp only at hJ ⊢
    refine sq ?_
    refine sr <| m (mv (.t n5)) u12 <| m (mv (.t n0)) u13 <| m (lenm T.s140 (.t n13)) u14 <| m (lss (.t n12) (.t n14)) u15 <| e ?_
    refine cnd n15 (fun h2 => ?_) (fun h2 => ?_)
    ·
      replace h2 := of_decide_eq_true h2
      refine skp ?_
      refine sq ?_
      refine bk ?_
      refine sr <| m (mv (.t n0)) u18 <| m (mv (.t n5)) u19 <| m (ixm T.s140 (Int.natCast_nonneg _) (gi (by omega)) (.t n18) (.t n19)) u20 <| m (lae T.a230 k3 (.t n20)) u21 <| m (mv (.t n1)) u22 <| cI (call (sp_laws_szAccount _ _ (by omega) (by first | omega | (simp only [IntKind.wrap_i64] at *; omega))) (.c (.t n21) rfl (.c (.t n22) rfl .n))) (fun _ => u23) (fun r3 hr3 => ?_)
      refine m (as_ (.t n23)) u1 <| e ?_
      refine sr <| m (mv (.t n1)) u24 <| m (lss (.t n24) (.i rfl)) u25 <| e ?_
      refine cnd n25 (fun h4 => ?_) (fun h4 => ?_)
      ·
        replace h4 := of_decide_eq_true h4
        refine sr <| m (as_ (.i rfl)) u4 <| e ?_
        refine rt (ret1 (.t n4 (.p rfl) .n) ?_)
        exact ⟨-1, rfl, fun hn => by omega⟩
      ·
        replace h4 := of_decide_eq_false h4
        refine skp ?_
        refine rg <| m (mv (.t n5)) u16 <| m (add (.t n16) (.i rfl)) u17 <| m (as_ (.t n17)) u5 <| e ?_
        exact ⟨(i + 1, r3), ⟨by omega, by omega, by rw [take_sum D.Account.sz l i (by omega)]; have := hr3 (by omega); omega⟩, (by omega), le [] (by decide) (.c (.e rfl rfl) (.c (.e rfl rfl) (.c .a (.c .a (.c .a (.c (.e (wi (by omega)) rfl) (.c .a (.c .a (.c .a (.c .a (.c .a (.c .a (.c .a (.c .a (.c .a (.c .a (.c .a (.c .a (.c .a (.c .a (.c .a (.c .a (.c .a (.c .a (.c .a (.c .a (.c .a .n))))))))))))))))))))))))))) .n⟩
    ·
      replace h2 := of_decide_eq_false h2
      refine ex (x1 ?_)
      refine sr <| m (mv (.t n1)) u26 <| m (as_ (.t n26)) u4 <| e ?_
      refine rt (ret1 (.t n4 (.p rfl) .n) ?_)
      refine ⟨_, rfl, fun hn => ?_⟩
      rw [show i = l.length from by omega, List.take_length] at hJ
      omega

theorem sp_laws_szChallengeS (l : List D.Challenge) (left : Int) (h0 : 0 ≤ left) (h1 : left ≤ 1048576) : Spec Tryz.prog G0 158 [.slice 3 (l.map D.Challenge.V), .int .i64 left] (fun r => ∃ n : Int, r = .int .i64 n ∧ (0 ≤ n → (l.length : Int) + n ≤ left)) := by
  refine enter (l := [.tmp 4]) Tryz.func158 rfl Tryz.ntmps158 rfl T.en158 fun E => ?_
  simp only [List.length_cons, List.length_nil, List.replicate_succ, List.replicate_zero, List.cons_append, List.nil_append, Nat.reduceAdd, Nat.reduceSub]
  refine rngl n0 fun hlen => ?_
  simp only [List.length_map, maxLen] at hlen
  have hw : IntKind.i64.wrap (left - (l.length : Int)) = left - (l.length : Int) := by rw [IntKind.wrap_i64]; omega
  refine sr <| m (as_ (.i rfl)) u4 <| e ?_
  refine sr <| m (mv (.t n1)) u5 <| m (mv (.t n0)) u6 <| m (lenm T.s141 (.t n6)) u7 <| m (sub (.t n5) (.t n7)) u8 <| m (as_ (.t n8)) u1 <| e ?_
  refine sq ?_
  refine sr <| m (mv (.t n1)) u9 <| m (lss (.t n9) (.i rfl)) u10 <| e ?_
  refine cnd n10 (fun h1 => ?_) (fun h1 => ?_)
  ·
    replace h1 := of_decide_eq_true h1
    refine sr <| m (as_ (.i rfl)) u4 <| e ?_
    refine rt (ret1 (.t n4 (.p rfl) .n) ?_)
    refine ⟨_, rfl, fun hn => ?_⟩
    first | omega | (rw [hw]; omega)
  ·
    replace h1 := of_decide_eq_false h1
    refine skp ?_
    refine sr <| m (mv (.t n1)) u11 <| m (as_ (.t n11)) u4 <| e ?_
    refine rt (ret1 (.t n4 (.p rfl) .n) ?_)
    refine ⟨_, rfl, fun hn => ?_⟩
    first | omega | (rw [hw]; omega)

theorem sp_laws_szChallengeBook (x : D.ChallengeBook) (left : Int) (h0 : 0 ≤ left) (h1 : left ≤ 1048576) : Spec Tryz.prog G0 120 [.agg (D.ChallengeBook.V x), .int .i64 left] (fun r => ∃ n : Int, r = .int .i64 n ∧ (0 ≤ n → (x.sz : Int) + n ≤ left)) := by
  refine enter (l := [.tmp 4]) Tryz.func120 rfl Tryz.ntmps120 rfl T.en120 fun E => ?_
  simp only [List.length_cons, List.length_nil, List.replicate_succ, List.replicate_zero, List.cons_append, List.nil_append, Nat.reduceAdd, Nat.reduceSub]
  refine sr <| k (bx rfl s0 u2 (.t n0)) <| m (as_ (.i rfl)) u4 <| e ?_
  refine sr <| m (fab 2 rfl T.f143_2 (.t n2)) u5 <| m (ldb T.o141 n0 n2 (.t n5)) u6 <| m (mv (.t n1)) u7 <| cI (call (sp_laws_szChallengeS _ _ (by omega) (by first | omega | (simp only [IntKind.wrap_i64] at *; omega))) (.c (.t n6) rfl (.c (.t n7) rfl .n))) (fun _ => u8) (fun r1 hr1 => ?_)
  refine m (as_ (.t n8)) u1 <| e ?_
  refine sq ?_
  refine sr <| m (mv (.t n1)) u9 <| m (lss (.t n9) (.i rfl)) u10 <| e ?_
  refine cnd n10 (fun h2 => ?_) (fun h2 => ?_)
  ·
    replace h2 := of_decide_eq_true h2
    refine sr <| m (as_ (.i rfl)) u4 <| e ?_
    refine rt (ret1 (.t n4 (.p rfl) .n) ?_)
    refine ⟨_, rfl, fun hn => ?_⟩
    try simp only [D.Box.sz, D.EpochBoxes.sz, D.LogEntry.sz, D.SealedBundle.sz, D.Cloud.sz, D.Vault.sz, D.Notice.sz, D.Mailbox.sz, D.KeyStore.sz, D.Entry.sz, D.Bundle.sz, D.Device.sz, D.Credential.sz, D.Account.sz, D.Challenge.sz, D.ChallengeBook.sz, D.Site.sz, D.Share.sz, D.Keeper.sz, D.KeeperHost.sz, D.World.sz] at *
    try simp only [IntKind.wrap_i64] at *
    omega
  ·
    replace h2 := of_decide_eq_false h2
    refine skp ?_
    refine sr <| m (mv (.t n1)) u11 <| m (as_ (.t n11)) u4 <| e ?_
    refine rt (ret1 (.t n4 (.p rfl) .n) ?_)
    refine ⟨_, rfl, fun hn => ?_⟩
    try simp only [D.Box.sz, D.EpochBoxes.sz, D.LogEntry.sz, D.SealedBundle.sz, D.Cloud.sz, D.Vault.sz, D.Notice.sz, D.Mailbox.sz, D.KeyStore.sz, D.Entry.sz, D.Bundle.sz, D.Device.sz, D.Credential.sz, D.Account.sz, D.Challenge.sz, D.ChallengeBook.sz, D.Site.sz, D.Share.sz, D.Keeper.sz, D.KeeperHost.sz, D.World.sz] at *
    try simp only [IntKind.wrap_i64] at *
    omega

theorem sp_laws_szIntS (l : List Int) (left : Int) (h0 : 0 ≤ left) (h1 : left ≤ 1048576) : Spec Tryz.prog G0 121 [.slice 1 (l.map iV), .int .i64 left] (fun r => ∃ n : Int, r = .int .i64 n ∧ (0 ≤ n → (l.length : Int) + n ≤ left)) := by
  refine enter (l := [.tmp 4]) Tryz.func121 rfl Tryz.ntmps121 rfl T.en121 fun E => ?_
  simp only [List.length_cons, List.length_nil, List.replicate_succ, List.replicate_zero, List.cons_append, List.nil_append, Nat.reduceAdd, Nat.reduceSub]
  refine rngl n0 fun hlen => ?_
  simp only [List.length_map, maxLen] at hlen
  have hw : IntKind.i64.wrap (left - (l.length : Int)) = left - (l.length : Int) := by rw [IntKind.wrap_i64]; omega
  refine sr <| m (as_ (.i rfl)) u4 <| e ?_
  refine sr <| m (mv (.t n1)) u5 <| m (mv (.t n0)) u6 <| m (lenm T.s95 (.t n6)) u7 <| m (sub (.t n5) (.t n7)) u8 <| m (as_ (.t n8)) u1 <| e ?_
  refine sq ?_
  refine sr <| m (mv (.t n1)) u9 <| m (lss (.t n9) (.i rfl)) u10 <| e ?_
  refine cnd n10 (fun h1 => ?_) (fun h1 => ?_)
  ·
    replace h1 := of_decide_eq_true h1
    refine sr <| m (as_ (.i rfl)) u4 <| e ?_
    refine rt (ret1 (.t n4 (.p rfl) .n) ?_)
    refine ⟨_, rfl, fun hn => ?_⟩
    first | omega | (rw [hw]; omega)
  ·
    replace h1 := of_decide_eq_false h1
    refine skp ?_
    refine sr <| m (mv (.t n1)) u11 <| m (as_ (.t n11)) u4 <| e ?_
    refine rt (ret1 (.t n4 (.p rfl) .n) ?_)
    refine ⟨_, rfl, fun hn => ?_⟩
    first | omega | (rw [hw]; omega)

theorem sp_laws_szSite (x : D.Site) (left : Int) (h0 : 0 ≤ left) (h1 : left ≤ 1048576) : Spec Tryz.prog G0 79 [.agg (D.Site.V x), .int .i64 left] (fun r => ∃ n : Int, r = .int .i64 n ∧ (0 ≤ n → (x.sz : Int) + n ≤ left)) := by
  refine enter (l := [.tmp 4]) Tryz.func79 rfl Tryz.ntmps79 rfl T.en79 fun E => ?_
  simp only [List.length_cons, List.length_nil, List.replicate_succ, List.replicate_zero, List.cons_append, List.nil_append, Nat.reduceAdd, Nat.reduceSub]
  refine sr <| k (bx rfl s0 u2 (.t n0)) <| m (as_ (.i rfl)) u4 <| e ?_
  refine sr <| m (mv (.t n1)) u5 <| m (fab 0 rfl T.f145_0 (.t n2)) u6 <| m (ldb T.o9 n0 n0 (.t n6)) u7 <| m (lenS Tryz.underlying9 (.t n7)) u8 <| m (sub (.t n5) (.t n8)) u9 <| m (as_ (.t n9)) u1 <| e ?_
  refine rngs n7 fun hs7 => ?_
  simp only [maxLen] at hs7
  refine sq ?_
  refine sr <| m (mv (.t n1)) u10 <| m (lss (.t n10) (.i rfl)) u11 <| e ?_
  refine cnd n11 (fun h1 => ?_) (fun h1 => ?_)
  ·
    replace h1 := of_decide_eq_true h1
    refine sr <| m (as_ (.i rfl)) u4 <| e ?_
    refine rt (ret1 (.t n4 (.p rfl) .n) ?_)
    refine ⟨_, rfl, fun hn => ?_⟩
    try simp only [D.Box.sz, D.EpochBoxes.sz, D.LogEntry.sz, D.SealedBundle.sz, D.Cloud.sz, D.Vault.sz, D.Notice.sz, D.Mailbox.sz, D.KeyStore.sz, D.Entry.sz, D.Bundle.sz, D.Device.sz, D.Credential.sz, D.Account.sz, D.Challenge.sz, D.ChallengeBook.sz, D.Site.sz, D.Share.sz, D.Keeper.sz, D.KeeperHost.sz, D.World.sz] at *
    try simp only [IntKind.wrap_i64] at *
    omega
  ·
    replace h1 := of_decide_eq_false h1
    refine skp ?_
    refine sr <| m (fab 1 rfl T.f145_1 (.t n2)) u12 <| m (ldb T.o140 n0 n1 (.t n12)) u13 <| m (mv (.t n1)) u14 <| cI (call (sp_laws_szAccountS _ _ (by omega) (by first | omega | (simp only [IntKind.wrap_i64] at *; omega))) (.c (.t n13) rfl (.c (.t n14) rfl .n))) (fun _ => u15) (fun r2 hr2 => ?_)
    refine m (as_ (.t n15)) u1 <| e ?_
    refine sq ?_
    refine sr <| m (mv (.t n1)) u16 <| m (lss (.t n16) (.i rfl)) u17 <| e ?_
    refine cnd n17 (fun h3 => ?_) (fun h3 => ?_)
    ·
      replace h3 := of_decide_eq_true h3
      refine sr <| m (as_ (.i rfl)) u4 <| e ?_
      refine rt (ret1 (.t n4 (.p rfl) .n) ?_)
      refine ⟨_, rfl, fun hn => ?_⟩
      try simp only [D.Box.sz, D.EpochBoxes.sz, D.LogEntry.sz, D.SealedBundle.sz, D.Cloud.sz, D.Vault.sz, D.Notice.sz, D.Mailbox.sz, D.KeyStore.sz, D.Entry.sz, D.Bundle.sz, D.Device.sz, D.Credential.sz, D.Account.sz, D.Challenge.sz, D.ChallengeBook.sz, D.Site.sz, D.Share.sz, D.Keeper.sz, D.KeeperHost.sz, D.World.sz] at *
      try simp only [IntKind.wrap_i64] at *
      omega
    ·
      replace h3 := of_decide_eq_false h3
      refine skp ?_
      refine sr <| m (fab 2 rfl T.f145_2 (.t n2)) u18 <| m (lab T.a143 n0 d2 k3 (.t n18)) u19 <| m (mv (.t n1)) u20 <| cI (call (sp_laws_szChallengeBook _ _ (by omega) (by first | omega | (simp only [IntKind.wrap_i64] at *; omega))) (.c (.t n19) rfl (.c (.t n20) rfl .n))) (fun _ => u21) (fun r4 hr4 => ?_)
      refine m (as_ (.t n21)) u1 <| e ?_
      refine sq ?_
      refine sr <| m (mv (.t n1)) u22 <| m (lss (.t n22) (.i rfl)) u23 <| e ?_
      refine cnd n23 (fun h5 => ?_) (fun h5 => ?_)
      ·
        replace h5 := of_decide_eq_true h5
        refine sr <| m (as_ (.i rfl)) u4 <| e ?_
        refine rt (ret1 (.t n4 (.p rfl) .n) ?_)
        refine ⟨_, rfl, fun hn => ?_⟩
        try simp only [D.Box.sz, D.EpochBoxes.sz, D.LogEntry.sz, D.SealedBundle.sz, D.Cloud.sz, D.Vault.sz, D.Notice.sz, D.Mailbox.sz, D.KeyStore.sz, D.Entry.sz, D.Bundle.sz, D.Device.sz, D.Credential.sz, D.Account.sz, D.Challenge.sz, D.ChallengeBook.sz, D.Site.sz, D.Share.sz, D.Keeper.sz, D.KeeperHost.sz, D.World.sz] at *
        try simp only [IntKind.wrap_i64] at *
        omega
      ·
        replace h5 := of_decide_eq_false h5
        refine skp ?_
        refine sr <| m (fab 5 rfl T.f145_3 (.t n2)) u24 <| m (ldb T.o95 n0 n5 (.t n24)) u25 <| m (mv (.t n1)) u26 <| cI (call (sp_laws_szIntS _ _ (by omega) (by first | omega | (simp only [IntKind.wrap_i64] at *; omega))) (.c (.t n25) rfl (.c (.t n26) rfl .n))) (fun _ => u27) (fun r6 hr6 => ?_)
        refine m (as_ (.t n27)) u1 <| e ?_
        refine sq ?_
        refine sr <| m (mv (.t n1)) u28 <| m (lss (.t n28) (.i rfl)) u29 <| e ?_
        refine cnd n29 (fun h7 => ?_) (fun h7 => ?_)
        ·
          replace h7 := of_decide_eq_true h7
          refine sr <| m (as_ (.i rfl)) u4 <| e ?_
          refine rt (ret1 (.t n4 (.p rfl) .n) ?_)
          refine ⟨_, rfl, fun hn => ?_⟩
          try simp only [D.Box.sz, D.EpochBoxes.sz, D.LogEntry.sz, D.SealedBundle.sz, D.Cloud.sz, D.Vault.sz, D.Notice.sz, D.Mailbox.sz, D.KeyStore.sz, D.Entry.sz, D.Bundle.sz, D.Device.sz, D.Credential.sz, D.Account.sz, D.Challenge.sz, D.ChallengeBook.sz, D.Site.sz, D.Share.sz, D.Keeper.sz, D.KeeperHost.sz, D.World.sz] at *
          try simp only [IntKind.wrap_i64] at *
          omega
        ·
          replace h7 := of_decide_eq_false h7
          refine skp ?_
          refine sr <| m (mv (.t n1)) u30 <| m (as_ (.t n30)) u4 <| e ?_
          refine rt (ret1 (.t n4 (.p rfl) .n) ?_)
          refine ⟨_, rfl, fun hn => ?_⟩
          try simp only [D.Box.sz, D.EpochBoxes.sz, D.LogEntry.sz, D.SealedBundle.sz, D.Cloud.sz, D.Vault.sz, D.Notice.sz, D.Mailbox.sz, D.KeyStore.sz, D.Entry.sz, D.Bundle.sz, D.Device.sz, D.Credential.sz, D.Account.sz, D.Challenge.sz, D.ChallengeBook.sz, D.Site.sz, D.Share.sz, D.Keeper.sz, D.KeeperHost.sz, D.World.sz] at *
          try simp only [IntKind.wrap_i64] at *
          omega

theorem sp_laws_szSiteS (l : List D.Site) (left : Int) (h0 : 0 ≤ left) (h1 : left ≤ 1048576) : Spec Tryz.prog G0 33 [.slice 6 (l.map D.Site.V), .int .i64 left] (fun r => ∃ n : Int, r = .int .i64 n ∧ (0 ≤ n → ((l.length + (l.map D.Site.sz).sum : Nat) : Int) + n ≤ left)) := by
  refine enter (l := [.tmp 4]) Tryz.func33 rfl Tryz.ntmps33 rfl T.en33 fun E => ?_
  simp only [List.length_cons, List.length_nil, List.replicate_succ, List.replicate_zero, List.cons_append, List.nil_append, Nat.reduceAdd, Nat.reduceSub]
  refine rngl n0 fun hlen => ?_
  simp only [List.length_map, maxLen] at hlen
  have hw : IntKind.i64.wrap (left - (l.length : Int)) = left - (l.length : Int) := by rw [IntKind.wrap_i64]; omega
  refine sr <| m (as_ (.i rfl)) u4 <| e ?_
  refine sr <| m (mv (.t n1)) u6 <| m (mv (.t n0)) u7 <| m (lenm T.s31 (.t n7)) u8 <| m (sub (.t n6) (.t n8)) u9 <| m (as_ (.t n9)) u1 <| e ?_
  refine sq ?_
  refine sr <| m (mv (.t n1)) u10 <| m (lss (.t n10) (.i rfl)) u11 <| e ?_
  refine cnd n11 (fun h1 => ?_) (fun h1 => ?_)
  ·
    replace h1 := of_decide_eq_true h1
    refine sr <| m (as_ (.i rfl)) u4 <| e ?_
    refine rt (ret1 (.t n4 (.p rfl) .n) ?_)
    exact ⟨-1, rfl, fun hn => by omega⟩
  ·
    replace h1 := of_decide_eq_false h1
    refine skp ?_
    refine sq ?_
    refine sr <| m (as_ (.i rfl)) u5 <| e ?_
    refine bk ?_
    refine lp (fun x0 : Nat × Int => ⟨[.slice 6 (l.map D.Site.V), .int .i64 x0.2, .any, .any, .any, .int .i64 (x0.1 : Int), .any, .any, .any, .any, .any, .any, .any, .any, .any, .any, .any, .any, .any, .any, .any, .any, .any, .any, .any, .any, .any], []⟩) (fun x0 : Nat × Int => x0.1 ≤ l.length ∧ 0 ≤ x0.2 ∧ (l.length : Int) + (((l.take x0.1).map D.Site.sz).sum : Nat) + x0.2 ≤ left) (fun x0 : Nat × Int => l.length - x0.1) ((0, IntKind.i64.wrap (left - (l.length : Int)))) (by rw [hw] at h1 ⊢; simp; omega) (le [] (by decide) (.c (.e rfl rfl) (.c (.e rfl rfl) (.c .a (.c .a (.c .a (.c (.e rfl rfl) (.c .a (.c .a (.c .a (.c .a (.c .a (.c .a (.c .a (.c .a (.c .a (.c .a (.c .a (.c .a (.c .a (.c .a (.c .a (.c .a (.c .a (.c .a (.c .a (.c .a (.c .a .n))))))))))))))))))))))))))) .n) ?_
    rintro ⟨i, mm⟩ hJ
    try dsimp only at hJ ⊢
    refine sq ?_
    refine sr <| m (mv (.t n5)) u12 <| m (mv (.t n0)) u13 <| m (lenm T.s31 (.t n13)) u14 <| m (lss (.t n12) (.t n14)) u15 <| e ?_
    refine cnd n15 (fun h2 => ?_) (fun h2 => ?_)
    ·
      replace h2 := of_decide_eq_true h2
      refine skp ?_
      refine sq ?_
      refine bk ?_
      refine sr <| m (mv (.t n0)) u18 <| m (mv (.t n5)) u19 <| m (ixm T.s31 (Int.natCast_nonneg _) (gi (by omega)) (.t n18) (.t n19)) u20 <| m (lae T.a145 k6 (.t n20)) u21 <| m (mv (.t n1)) u22 <| cI (call (sp_laws_szSite _ _ (by omega) (by first | omega | (simp only [IntKind.wrap_i64] at *; omega))) (.c (.t n21) rfl (.c (.t n22) rfl .n))) (fun _ => u23) (fun r3 hr3 => ?_)
      refine m (as_ (.t n23)) u1 <| e ?_
      refine sr <| m (mv (.t n1)) u24 <| m (lss (.t n24) (.i rfl)) u25 <| e ?_
      refine cnd n25 (fun h4 => ?_) (fun h4 => ?_)
      ·
        replace h4 := of_decide_eq_true h4
        refine sr <| m (as_ (.i rfl)) u4 <| e ?_
        refine rt (ret1 (.t n4 (.p rfl) .n) ?_)
        exact ⟨-1, rfl, fun hn => by omega⟩
      ·
        replace h4 := of_decide_eq_false h4
        refine skp ?_
        refine rg <| m (mv (.t n5)) u16 <| m (add (.t n16) (.i rfl)) u17 <| m (as_ (.t n17)) u5 <| e ?_
        exact ⟨(i + 1, r3), ⟨by omega, by omega, by rw [take_sum D.Site.sz l i (by omega)]; have := hr3 (by omega); omega⟩, (by omega), le [] (by decide) (.c (.e rfl rfl) (.c (.e rfl rfl) (.c .a (.c .a (.c .a (.c (.e (wi (by omega)) rfl) (.c .a (.c .a (.c .a (.c .a (.c .a (.c .a (.c .a (.c .a (.c .a (.c .a (.c .a (.c .a (.c .a (.c .a (.c .a (.c .a (.c .a (.c .a (.c .a (.c .a (.c .a .n))))))))))))))))))))))))))) .n⟩
    ·
      replace h2 := of_decide_eq_false h2
      refine ex (x1 ?_)
      refine sr <| m (mv (.t n1)) u26 <| m (as_ (.t n26)) u4 <| e ?_
      refine rt (ret1 (.t n4 (.p rfl) .n) ?_)
      refine ⟨_, rfl, fun hn => ?_⟩
      rw [show i = l.length from by omega, List.take_length] at hJ
      omega

theorem sp_laws_szKeeperS (l : List D.Keeper) (left : Int) (h0 : 0 ≤ left) (h1 : left ≤ 1048576) : Spec Tryz.prog G0 122 [.slice 5 (l.map D.Keeper.V), .int .i64 left] (fun r => ∃ n : Int, r = .int .i64 n ∧ (0 ≤ n → (l.length : Int) + n ≤ left)) := by
  refine enter (l := [.tmp 4]) Tryz.func122 rfl Tryz.ntmps122 rfl T.en122 fun E => ?_
  simp only [List.length_cons, List.length_nil, List.replicate_succ, List.replicate_zero, List.cons_append, List.nil_append, Nat.reduceAdd, Nat.reduceSub]
  refine rngl n0 fun hlen => ?_
  simp only [List.length_map, maxLen] at hlen
  have hw : IntKind.i64.wrap (left - (l.length : Int)) = left - (l.length : Int) := by rw [IntKind.wrap_i64]; omega
  refine sr <| m (as_ (.i rfl)) u4 <| e ?_
  refine sr <| m (mv (.t n1)) u5 <| m (mv (.t n0)) u6 <| m (lenm T.s150 (.t n6)) u7 <| m (sub (.t n5) (.t n7)) u8 <| m (as_ (.t n8)) u1 <| e ?_
  refine sq ?_
  refine sr <| m (mv (.t n1)) u9 <| m (lss (.t n9) (.i rfl)) u10 <| e ?_
  refine cnd n10 (fun h1 => ?_) (fun h1 => ?_)
  ·
    replace h1 := of_decide_eq_true h1
    refine sr <| m (as_ (.i rfl)) u4 <| e ?_
    refine rt (ret1 (.t n4 (.p rfl) .n) ?_)
    refine ⟨_, rfl, fun hn => ?_⟩
    first | omega | (rw [hw]; omega)
  ·
    replace h1 := of_decide_eq_false h1
    refine skp ?_
    refine sr <| m (mv (.t n1)) u11 <| m (as_ (.t n11)) u4 <| e ?_
    refine rt (ret1 (.t n4 (.p rfl) .n) ?_)
    refine ⟨_, rfl, fun hn => ?_⟩
    first | omega | (rw [hw]; omega)

theorem sp_laws_szKeeperHost (x : D.KeeperHost) (left : Int) (h0 : 0 ≤ left) (h1 : left ≤ 1048576) : Spec Tryz.prog G0 80 [.agg (D.KeeperHost.V x), .int .i64 left] (fun r => ∃ n : Int, r = .int .i64 n ∧ (0 ≤ n → (x.sz : Int) + n ≤ left)) := by
  refine enter (l := [.tmp 4]) Tryz.func80 rfl Tryz.ntmps80 rfl T.en80 fun E => ?_
  simp only [List.length_cons, List.length_nil, List.replicate_succ, List.replicate_zero, List.cons_append, List.nil_append, Nat.reduceAdd, Nat.reduceSub]
  refine sr <| k (bx rfl s0 u2 (.t n0)) <| m (as_ (.i rfl)) u4 <| e ?_
  refine sr <| m (fab 5 rfl T.f152_1 (.t n2)) u5 <| m (ldb T.o150 n0 n5 (.t n5)) u6 <| m (mv (.t n1)) u7 <| cI (call (sp_laws_szKeeperS _ _ (by omega) (by first | omega | (simp only [IntKind.wrap_i64] at *; omega))) (.c (.t n6) rfl (.c (.t n7) rfl .n))) (fun _ => u8) (fun r1 hr1 => ?_)
  refine m (as_ (.t n8)) u1 <| e ?_
  refine sq ?_
  refine sr <| m (mv (.t n1)) u9 <| m (lss (.t n9) (.i rfl)) u10 <| e ?_
  refine cnd n10 (fun h2 => ?_) (fun h2 => ?_)
  ·
    replace h2 := of_decide_eq_true h2
    refine sr <| m (as_ (.i rfl)) u4 <| e ?_
    refine rt (ret1 (.t n4 (.p rfl) .n) ?_)
    refine ⟨_, rfl, fun hn => ?_⟩
    try simp only [D.Box.sz, D.EpochBoxes.sz, D.LogEntry.sz, D.SealedBundle.sz, D.Cloud.sz, D.Vault.sz, D.Notice.sz, D.Mailbox.sz, D.KeyStore.sz, D.Entry.sz, D.Bundle.sz, D.Device.sz, D.Credential.sz, D.Account.sz, D.Challenge.sz, D.ChallengeBook.sz, D.Site.sz, D.Share.sz, D.Keeper.sz, D.KeeperHost.sz, D.World.sz] at *
    try simp only [IntKind.wrap_i64] at *
    omega
  ·
    replace h2 := of_decide_eq_false h2
    refine skp ?_
    refine sr <| m (mv (.t n1)) u11 <| m (as_ (.t n11)) u4 <| e ?_
    refine rt (ret1 (.t n4 (.p rfl) .n) ?_)
    refine ⟨_, rfl, fun hn => ?_⟩
    try simp only [D.Box.sz, D.EpochBoxes.sz, D.LogEntry.sz, D.SealedBundle.sz, D.Cloud.sz, D.Vault.sz, D.Notice.sz, D.Mailbox.sz, D.KeyStore.sz, D.Entry.sz, D.Bundle.sz, D.Device.sz, D.Credential.sz, D.Account.sz, D.Challenge.sz, D.ChallengeBook.sz, D.Site.sz, D.Share.sz, D.Keeper.sz, D.KeeperHost.sz, D.World.sz] at *
    try simp only [IntKind.wrap_i64] at *
    omega

theorem sp_laws_szKeeperHostS (l : List D.KeeperHost) (left : Int) (h0 : 0 ≤ left) (h1 : left ≤ 1048576) : Spec Tryz.prog G0 34 [.slice 7 (l.map D.KeeperHost.V), .int .i64 left] (fun r => ∃ n : Int, r = .int .i64 n ∧ (0 ≤ n → ((l.length + (l.map D.KeeperHost.sz).sum : Nat) : Int) + n ≤ left)) := by
  refine enter (l := [.tmp 4]) Tryz.func34 rfl Tryz.ntmps34 rfl T.en34 fun E => ?_
  simp only [List.length_cons, List.length_nil, List.replicate_succ, List.replicate_zero, List.cons_append, List.nil_append, Nat.reduceAdd, Nat.reduceSub]
  refine rngl n0 fun hlen => ?_
  simp only [List.length_map, maxLen] at hlen
  have hw : IntKind.i64.wrap (left - (l.length : Int)) = left - (l.length : Int) := by rw [IntKind.wrap_i64]; omega
  refine sr <| m (as_ (.i rfl)) u4 <| e ?_
  refine sr <| m (mv (.t n1)) u6 <| m (mv (.t n0)) u7 <| m (lenm T.s34 (.t n7)) u8 <| m (sub (.t n6) (.t n8)) u9 <| m (as_ (.t n9)) u1 <| e ?_
  refine sq ?_
  refine sr <| m (mv (.t n1)) u10 <| m (lss (.t n10) (.i rfl)) u11 <| e ?_
  refine cnd n11 (fun h1 => ?_) (fun h1 => ?_)
  ·
    replace h1 := of_decide_eq_true h1
    refine sr <| m (as_ (.i rfl)) u4 <| e ?_
    refine rt (ret1 (.t n4 (.p rfl) .n) ?_)
    exact ⟨-1, rfl, fun hn => by omega⟩
  ·
    replace h1 := of_decide_eq_false h1
    refine skp ?_
    refine sq ?_
    refine sr <| m (as_ (.i rfl)) u5 <| e ?_
    refine bk ?_
    refine lp (fun x0 : Nat × Int => ⟨[.slice 7 (l.map D.KeeperHost.V), .int .i64 x0.2, .any, .any, .any, .int .i64 (x0.1 : Int), .any, .any, .any, .any, .any, .any, .any, .any, .any, .any, .any, .any, .any, .any, .any, .any, .any, .any, .any, .any, .any], []⟩) (fun x0 : Nat × Int => x0.1 ≤ l.length ∧ 0 ≤ x0.2 ∧ (l.length : Int) + (((l.take x0.1).map D.KeeperHost.sz).sum : Nat) + x0.2 ≤ left) (fun x0 : Nat × Int => l.length - x0.1) ((0, IntKind.i64.wrap (left - (l.length : Int)))) (by rw [hw] at h1 ⊢; simp; omega) (le [] (by decide) (.c (.e rfl rfl) (.c (.e rfl rfl) (.c .a (.c .a (.c .a (.c (.e rfl rfl) (.c .a (.c .a (.c .a (.c .a (.c .a (.c .a (.c .a (.c .a (.c .a (.c .a (.c .a (.c .a (.c .a (.c .a (.c .a (.c .a (.c .a (.c .a (.c .a (.c .a (.c .a .n))))))))))))))))))))))))))) .n) ?_
    rintro ⟨i, mm⟩ hJ
    try dsimp only at hJ ⊢
    refine sq ?_
    refine sr <| m (mv (.t n5)) u12 <| m (mv (.t n0)) u13 <| m (lenm T.s34 (.t n13)) u14 <| m (lss (.t n12) (.t n14)) u15 <| e ?_
    refine cnd n15 (fun h2 => ?_) (fun h2 => ?_)
    ·
      replace h2 := of_decide_eq_true h2
      refine skp ?_
      refine sq ?_
      refine bk ?_
      refine sr <| m (mv (.t n0)) u18 <| m (mv (.t n5)) u19 <| m (ixm T.s34 (Int.natCast_nonneg _) (gi (by omega)) (.t n18) (.t n19)) u20 <| m (lae T.a152 k7 (.t n20)) u21 <| m (mv (.t n1)) u22 <| cI (call (sp_laws_szKeeperHost _ _ (by omega) (by first | omega | (simp only [IntKind.wrap_i64] at *; omega))) (.c (.t n21) rfl (.c (.t n22) rfl .n))) (fun _ => u23) (fun r3 hr3 => ?_)
      refine m (as_ (.t n23)) u1 <| e ?_
      refine sr <| m (mv (.t n1)) u24 <| m (lss (.t n24) (.i rfl)) u25 <| e ?_
      refine cnd n25 (fun h4 => ?_) (fun h4 => ?_)
      ·
        replace h4 := of_decide_eq_true h4
        refine sr <| m (as_ (.i rfl)) u4 <| e ?_
        refine rt (ret1 (.t n4 (.p rfl) .n) ?_)
        exact ⟨-1, rfl, fun hn => by omega⟩
      ·
        replace h4 := of_decide_eq_false h4
        refine skp ?_
        refine rg <| m (mv (.t n5)) u16 <| m (add (.t n16) (.i rfl)) u17 <| m (as_ (.t n17)) u5 <| e ?_
        exact ⟨(i + 1, r3), ⟨by omega, by omega, by rw [take_sum D.KeeperHost.sz l i (by omega)]; have := hr3 (by omega); omega⟩, (by omega), le [] (by decide) (.c (.e rfl rfl) (.c (.e rfl rfl) (.c .a (.c .a (.c .a (.c (.e (wi (by omega)) rfl) (.c .a (.c .a (.c .a (.c .a (.c .a (.c .a (.c .a (.c .a (.c .a (.c .a (.c .a (.c .a (.c .a (.c .a (.c .a (.c .a (.c .a (.c .a (.c .a (.c .a (.c .a .n))))))))))))))))))))))))))) .n⟩
    ·
      replace h2 := of_decide_eq_false h2
      refine ex (x1 ?_)
      refine sr <| m (mv (.t n1)) u26 <| m (as_ (.t n26)) u4 <| e ?_
      refine rt (ret1 (.t n4 (.p rfl) .n) ?_)
      refine ⟨_, rfl, fun hn => ?_⟩
      rw [show i = l.length from by omega, List.take_length] at hJ
      omega

theorem sp_laws_szNoticeS (l : List D.Notice) (left : Int) (h0 : 0 ≤ left) (h1 : left ≤ 1048576) : Spec Tryz.prog G0 81 [.slice 4 (l.map D.Notice.V), .int .i64 left] (fun r => ∃ n : Int, r = .int .i64 n ∧ (0 ≤ n → (l.length : Int) + n ≤ left)) := by
  refine enter (l := [.tmp 4]) Tryz.func81 rfl Tryz.ntmps81 rfl T.en81 fun E => ?_
  simp only [List.length_cons, List.length_nil, List.replicate_succ, List.replicate_zero, List.cons_append, List.nil_append, Nat.reduceAdd, Nat.reduceSub]
  refine rngl n0 fun hlen => ?_
  simp only [List.length_map, maxLen] at hlen
  have hw : IntKind.i64.wrap (left - (l.length : Int)) = left - (l.length : Int) := by rw [IntKind.wrap_i64]; omega
  refine sr <| m (as_ (.i rfl)) u4 <| e ?_
  refine sr <| m (mv (.t n1)) u5 <| m (mv (.t n0)) u6 <| m (lenm T.s35 (.t n6)) u7 <| m (sub (.t n5) (.t n7)) u8 <| m (as_ (.t n8)) u1 <| e ?_
  refine sq ?_
  refine sr <| m (mv (.t n1)) u9 <| m (lss (.t n9) (.i rfl)) u10 <| e ?_
  refine cnd n10 (fun h1 => ?_) (fun h1 => ?_)
  ·
    replace h1 := of_decide_eq_true h1
    refine sr <| m (as_ (.i rfl)) u4 <| e ?_
    refine rt (ret1 (.t n4 (.p rfl) .n) ?_)
    refine ⟨_, rfl, fun hn => ?_⟩
    first | omega | (rw [hw]; omega)
  ·
    replace h1 := of_decide_eq_false h1
    refine skp ?_
    refine sr <| m (mv (.t n1)) u11 <| m (as_ (.t n11)) u4 <| e ?_
    refine rt (ret1 (.t n4 (.p rfl) .n) ?_)
    refine ⟨_, rfl, fun hn => ?_⟩
    first | omega | (rw [hw]; omega)

theorem sp_laws_szMailbox (x : D.Mailbox) (left : Int) (h0 : 0 ≤ left) (h1 : left ≤ 1048576) : Spec Tryz.prog G0 35 [.agg (D.Mailbox.V x), .int .i64 left] (fun r => ∃ n : Int, r = .int .i64 n ∧ (0 ≤ n → (x.sz : Int) + n ≤ left)) := by
  refine enter (l := [.tmp 4]) Tryz.func35 rfl Tryz.ntmps35 rfl T.en35 fun E => ?_
  simp only [List.length_cons, List.length_nil, List.replicate_succ, List.replicate_zero, List.cons_append, List.nil_append, Nat.reduceAdd, Nat.reduceSub]
  refine sr <| k (bx rfl s0 u2 (.t n0)) <| m (as_ (.i rfl)) u4 <| e ?_
  refine sr <| m (fab 0 rfl T.f37_0 (.t n2)) u5 <| m (ldb T.o35 n0 n0 (.t n5)) u6 <| m (mv (.t n1)) u7 <| cI (call (sp_laws_szNoticeS _ _ (by omega) (by first | omega | (simp only [IntKind.wrap_i64] at *; omega))) (.c (.t n6) rfl (.c (.t n7) rfl .n))) (fun _ => u8) (fun r1 hr1 => ?_)
  refine m (as_ (.t n8)) u1 <| e ?_
  refine sq ?_
  refine sr <| m (mv (.t n1)) u9 <| m (lss (.t n9) (.i rfl)) u10 <| e ?_
  refine cnd n10 (fun h2 => ?_) (fun h2 => ?_)
  ·
    replace h2 := of_decide_eq_true h2
    refine sr <| m (as_ (.i rfl)) u4 <| e ?_
    refine rt (ret1 (.t n4 (.p rfl) .n) ?_)
    refine ⟨_, rfl, fun hn => ?_⟩
    try simp only [D.Box.sz, D.EpochBoxes.sz, D.LogEntry.sz, D.SealedBundle.sz, D.Cloud.sz, D.Vault.sz, D.Notice.sz, D.Mailbox.sz, D.KeyStore.sz, D.Entry.sz, D.Bundle.sz, D.Device.sz, D.Credential.sz, D.Account.sz, D.Challenge.sz, D.ChallengeBook.sz, D.Site.sz, D.Share.sz, D.Keeper.sz, D.KeeperHost.sz, D.World.sz] at *
    try simp only [IntKind.wrap_i64] at *
    omega
  ·
    replace h2 := of_decide_eq_false h2
    refine skp ?_
    refine sr <| m (mv (.t n1)) u11 <| m (as_ (.t n11)) u4 <| e ?_
    refine rt (ret1 (.t n4 (.p rfl) .n) ?_)
    refine ⟨_, rfl, fun hn => ?_⟩
    try simp only [D.Box.sz, D.EpochBoxes.sz, D.LogEntry.sz, D.SealedBundle.sz, D.Cloud.sz, D.Vault.sz, D.Notice.sz, D.Mailbox.sz, D.KeyStore.sz, D.Entry.sz, D.Bundle.sz, D.Device.sz, D.Credential.sz, D.Account.sz, D.Challenge.sz, D.ChallengeBook.sz, D.Site.sz, D.Share.sz, D.Keeper.sz, D.KeeperHost.sz, D.World.sz] at *
    try simp only [IntKind.wrap_i64] at *
    omega

theorem sp_laws_szWorld (x : D.World) (left : Int) (h0 : 0 ≤ left) (h1 : left ≤ 1048576) : Spec Tryz.prog G0 11 [.agg (D.World.V x), .int .i64 left] (fun r => ∃ n : Int, r = .int .i64 n ∧ (0 ≤ n → (x.sz : Int) + n ≤ left)) := by
  refine enter (l := [.tmp 4]) Tryz.func11 rfl Tryz.ntmps11 rfl T.en11 fun E => ?_
  simp only [List.length_cons, List.length_nil, List.replicate_succ, List.replicate_zero, List.cons_append, List.nil_append, Nat.reduceAdd, Nat.reduceSub]
  refine sr <| k (bx rfl s0 u2 (.t n0)) <| m (as_ (.i rfl)) u4 <| e ?_
  refine sr <| m (fab 2 rfl T.f39_2 (.t n2)) u5 <| m (ldb T.o22 n0 n2 (.t n5)) u6 <| m (mv (.t n1)) u7 <| cI (call (sp_laws_szDeviceS _ _ (by omega) (by first | omega | (simp only [IntKind.wrap_i64] at *; omega))) (.c (.t n6) rfl (.c (.t n7) rfl .n))) (fun _ => u8) (fun r1 hr1 => ?_)
  refine m (as_ (.t n8)) u1 <| e ?_
  refine sq ?_
  refine sr <| m (mv (.t n1)) u9 <| m (lss (.t n9) (.i rfl)) u10 <| e ?_
  refine cnd n10 (fun h2 => ?_) (fun h2 => ?_)
  ·
    replace h2 := of_decide_eq_true h2
    refine sr <| m (as_ (.i rfl)) u4 <| e ?_
    refine rt (ret1 (.t n4 (.p rfl) .n) ?_)
    refine ⟨_, rfl, fun hn => ?_⟩
    try simp only [D.Box.sz, D.EpochBoxes.sz, D.LogEntry.sz, D.SealedBundle.sz, D.Cloud.sz, D.Vault.sz, D.Notice.sz, D.Mailbox.sz, D.KeyStore.sz, D.Entry.sz, D.Bundle.sz, D.Device.sz, D.Credential.sz, D.Account.sz, D.Challenge.sz, D.ChallengeBook.sz, D.Site.sz, D.Share.sz, D.Keeper.sz, D.KeeperHost.sz, D.World.sz] at *
    try simp only [IntKind.wrap_i64] at *
    omega
  ·
    replace h2 := of_decide_eq_false h2
    refine skp ?_
    refine sr <| m (fab 3 rfl T.f39_3 (.t n2)) u11 <| m (ldb T.o23 n0 n3 (.t n11)) u12 <| m (mv (.t n1)) u13 <| cI (call (sp_laws_szBoolS _ _ (by omega) (by first | omega | (simp only [IntKind.wrap_i64] at *; omega))) (.c (.t n12) rfl (.c (.t n13) rfl .n))) (fun _ => u14) (fun r3 hr3 => ?_)
    refine m (as_ (.t n14)) u1 <| e ?_
    refine sq ?_
    refine sr <| m (mv (.t n1)) u15 <| m (lss (.t n15) (.i rfl)) u16 <| e ?_
    refine cnd n16 (fun h4 => ?_) (fun h4 => ?_)
    ·
      replace h4 := of_decide_eq_true h4
      refine sr <| m (as_ (.i rfl)) u4 <| e ?_
      refine rt (ret1 (.t n4 (.p rfl) .n) ?_)
      refine ⟨_, rfl, fun hn => ?_⟩
      try simp only [D.Box.sz, D.EpochBoxes.sz, D.LogEntry.sz, D.SealedBundle.sz, D.Cloud.sz, D.Vault.sz, D.Notice.sz, D.Mailbox.sz, D.KeyStore.sz, D.Entry.sz, D.Bundle.sz, D.Device.sz, D.Credential.sz, D.Account.sz, D.Challenge.sz, D.ChallengeBook.sz, D.Site.sz, D.Share.sz, D.Keeper.sz, D.KeeperHost.sz, D.World.sz] at *
      try simp only [IntKind.wrap_i64] at *
      omega
    ·
      replace h4 := of_decide_eq_false h4
      refine skp ?_
      refine sr <| m (fab 4 rfl T.f39_4 (.t n2)) u17 <| m (lab T.a30 n0 d4 k4 (.t n17)) u18 <| m (mv (.t n1)) u19 <| cI (call (sp_laws_szCloud _ _ (by omega) (by first | omega | (simp only [IntKind.wrap_i64] at *; omega))) (.c (.t n18) rfl (.c (.t n19) rfl .n))) (fun _ => u20) (fun r5 hr5 => ?_)
      refine m (as_ (.t n20)) u1 <| e ?_
      refine sq ?_
      refine sr <| m (mv (.t n1)) u21 <| m (lss (.t n21) (.i rfl)) u22 <| e ?_
      refine cnd n22 (fun h6 => ?_) (fun h6 => ?_)
      ·
        replace h6 := of_decide_eq_true h6
        refine sr <| m (as_ (.i rfl)) u4 <| e ?_
        refine rt (ret1 (.t n4 (.p rfl) .n) ?_)
        refine ⟨_, rfl, fun hn => ?_⟩
        try simp only [D.Box.sz, D.EpochBoxes.sz, D.LogEntry.sz, D.SealedBundle.sz, D.Cloud.sz, D.Vault.sz, D.Notice.sz, D.Mailbox.sz, D.KeyStore.sz, D.Entry.sz, D.Bundle.sz, D.Device.sz, D.Credential.sz, D.Account.sz, D.Challenge.sz, D.ChallengeBook.sz, D.Site.sz, D.Share.sz, D.Keeper.sz, D.KeeperHost.sz, D.World.sz] at *
        try simp only [IntKind.wrap_i64] at *
        omega
      ·
        replace h6 := of_decide_eq_false h6
        refine skp ?_
        refine sr <| m (fab 8 rfl T.f39_5 (.t n2)) u23 <| m (ldb T.o31 n0 n8 (.t n23)) u24 <| m (mv (.t n1)) u25 <| cI (call (sp_laws_szSiteS _ _ (by omega) (by first | omega | (simp only [IntKind.wrap_i64] at *; omega))) (.c (.t n24) rfl (.c (.t n25) rfl .n))) (fun _ => u26) (fun r7 hr7 => ?_)
        refine m (as_ (.t n26)) u1 <| e ?_
        refine sq ?_
        refine sr <| m (mv (.t n1)) u27 <| m (lss (.t n27) (.i rfl)) u28 <| e ?_
        refine cnd n28 (fun h8 => ?_) (fun h8 => ?_)
        ·
          replace h8 := of_decide_eq_true h8
          refine sr <| m (as_ (.i rfl)) u4 <| e ?_
          refine rt (ret1 (.t n4 (.p rfl) .n) ?_)
          refine ⟨_, rfl, fun hn => ?_⟩
          try simp only [D.Box.sz, D.EpochBoxes.sz, D.LogEntry.sz, D.SealedBundle.sz, D.Cloud.sz, D.Vault.sz, D.Notice.sz, D.Mailbox.sz, D.KeyStore.sz, D.Entry.sz, D.Bundle.sz, D.Device.sz, D.Credential.sz, D.Account.sz, D.Challenge.sz, D.ChallengeBook.sz, D.Site.sz, D.Share.sz, D.Keeper.sz, D.KeeperHost.sz, D.World.sz] at *
          try simp only [IntKind.wrap_i64] at *
          omega
        ·
          replace h8 := of_decide_eq_false h8
          refine skp ?_
          refine sr <| m (fab 13 rfl T.f39_7 (.t n2)) u29 <| m (ldb T.o34 n0 n13 (.t n29)) u30 <| m (mv (.t n1)) u31 <| cI (call (sp_laws_szKeeperHostS _ _ (by omega) (by first | omega | (simp only [IntKind.wrap_i64] at *; omega))) (.c (.t n30) rfl (.c (.t n31) rfl .n))) (fun _ => u32) (fun r9 hr9 => ?_)
          refine m (as_ (.t n32)) u1 <| e ?_
          refine sq ?_
          refine sr <| m (mv (.t n1)) u33 <| m (lss (.t n33) (.i rfl)) u34 <| e ?_
          refine cnd n34 (fun h10 => ?_) (fun h10 => ?_)
          ·
            replace h10 := of_decide_eq_true h10
            refine sr <| m (as_ (.i rfl)) u4 <| e ?_
            refine rt (ret1 (.t n4 (.p rfl) .n) ?_)
            refine ⟨_, rfl, fun hn => ?_⟩
            try simp only [D.Box.sz, D.EpochBoxes.sz, D.LogEntry.sz, D.SealedBundle.sz, D.Cloud.sz, D.Vault.sz, D.Notice.sz, D.Mailbox.sz, D.KeyStore.sz, D.Entry.sz, D.Bundle.sz, D.Device.sz, D.Credential.sz, D.Account.sz, D.Challenge.sz, D.ChallengeBook.sz, D.Site.sz, D.Share.sz, D.Keeper.sz, D.KeeperHost.sz, D.World.sz] at *
            try simp only [IntKind.wrap_i64] at *
            omega
          ·
            replace h10 := of_decide_eq_false h10
            refine skp ?_
            refine sr <| m (fab 15 rfl T.f39_9 (.t n2)) u35 <| m (lab T.a37 n0 d15 k1 (.t n35)) u36 <| m (mv (.t n1)) u37 <| cI (call (sp_laws_szMailbox _ _ (by omega) (by first | omega | (simp only [IntKind.wrap_i64] at *; omega))) (.c (.t n36) rfl (.c (.t n37) rfl .n))) (fun _ => u38) (fun r11 hr11 => ?_)
            refine m (as_ (.t n38)) u1 <| e ?_
            refine sq ?_
            refine sr <| m (mv (.t n1)) u39 <| m (lss (.t n39) (.i rfl)) u40 <| e ?_
            refine cnd n40 (fun h12 => ?_) (fun h12 => ?_)
            ·
              replace h12 := of_decide_eq_true h12
              refine sr <| m (as_ (.i rfl)) u4 <| e ?_
              refine rt (ret1 (.t n4 (.p rfl) .n) ?_)
              refine ⟨_, rfl, fun hn => ?_⟩
              try simp only [D.Box.sz, D.EpochBoxes.sz, D.LogEntry.sz, D.SealedBundle.sz, D.Cloud.sz, D.Vault.sz, D.Notice.sz, D.Mailbox.sz, D.KeyStore.sz, D.Entry.sz, D.Bundle.sz, D.Device.sz, D.Credential.sz, D.Account.sz, D.Challenge.sz, D.ChallengeBook.sz, D.Site.sz, D.Share.sz, D.Keeper.sz, D.KeeperHost.sz, D.World.sz] at *
              try simp only [IntKind.wrap_i64] at *
              omega
            ·
              replace h12 := of_decide_eq_false h12
              refine skp ?_
              refine sr <| m (mv (.t n1)) u41 <| m (as_ (.t n41)) u4 <| e ?_
              refine rt (ret1 (.t n4 (.p rfl) .n) ?_)
              refine ⟨_, rfl, fun hn => ?_⟩
              try simp only [D.Box.sz, D.EpochBoxes.sz, D.LogEntry.sz, D.SealedBundle.sz, D.Cloud.sz, D.Vault.sz, D.Notice.sz, D.Mailbox.sz, D.KeyStore.sz, D.Entry.sz, D.Bundle.sz, D.Device.sz, D.Credential.sz, D.Account.sz, D.Challenge.sz, D.ChallengeBook.sz, D.Site.sz, D.Share.sz, D.Keeper.sz, D.KeeperHost.sz, D.World.sz] at *
              try simp only [IntKind.wrap_i64] at *
              omega

theorem sp_laws_toKeyStore (x : D.KeyStore) : Spec Tryz.prog G0 123 [.agg (D.KeyStore.V x)] (fun r => r = .agg x.V) := by
  refine enter (l := [.cell 2 99]) Tryz.func123 rfl Tryz.ntmps123 rfl T.en123 fun E => ?_
  simp only [List.length_cons, List.length_nil, List.replicate_succ, List.replicate_zero, List.cons_append, List.nil_append, Nat.reduceAdd, Nat.reduceSub]
  refine sr <| k (bx rfl s0 u1 (.t n0)) <| k (al T.z99 s1 u2) <| e ?_
  refine sr <| k (al T.z99 s2 u3) <| e ?_
  refine sr <| m (fab 0 rfl T.f130_0 (.t n1)) u4 <| m (ldb T.o3 n0 n0 (.t n4)) u5 <| m (fab 0 rfl T.f99_0 (.t n3)) u6 <| k (st1 T.o3 rfl n2 u0 q2 (.t n6) (.t n5)) <| e ?_
  refine sr <| m (fab 1 rfl T.f130_1 (.t n1)) u7 <| m (ldb T.o3 n0 n1 (.t n7)) u8 <| m (fab 1 rfl T.f99_1 (.t n3)) u9 <| k (st1 T.o3 rfl n2 u1 q2 (.t n9) (.t n8)) <| e ?_
  refine sr <| m (fab 2 rfl T.f130_2 (.t n1)) u10 <| m (ldb T.o3 n0 n2 (.t n10)) u11 <| m (fab 2 rfl T.f99_2 (.t n3)) u12 <| k (st1 T.o3 rfl n2 u2 q2 (.t n12) (.t n11)) <| e ?_
  refine sr <| m (fab 3 rfl T.f130_3 (.t n1)) u13 <| m (ldb T.o3 n0 n3 (.t n13)) u14 <| m (fab 3 rfl T.f99_3 (.t n3)) u15 <| k (st1 T.o3 rfl n2 u3 q2 (.t n15) (.t n14)) <| e ?_
  refine sr <| m (lab T.a99 n2 d0 k4 (.t n3)) u16 <| k (sta T.a99 rfl rfl n1 (.z (.z (.z (.z .n)))) q1 (.t n2) (.t n16)) <| e ?_
  refine rt (ret1 (.a n2 T.a99 n1 rfl (.c (.p rfl) (.c (.p rfl) (.c (.p rfl) (.c (.p rfl) .n)))) .n) ?_)
  rfl

theorem sp_laws_toLogEntry (x : D.LogEntry) : Spec Tryz.prog G0 125 [.agg (D.LogEntry.V x)] (fun r => r = .agg x.V) := by
  refine enter (l := [.cell 2 106]) Tryz.func125 rfl Tryz.ntmps125 rfl T.en125 fun E => ?_
  simp only [List.length_cons, List.length_nil, List.replicate_succ, List.replicate_zero, List.cons_append, List.nil_append, Nat.reduceAdd, Nat.reduceSub]
  refine sr <| k (bx rfl s0 u1 (.t n0)) <| k (al T.z106 s1 u2) <| e ?_
  refine sr <| k (al T.z106 s2 u3) <| e ?_
  refine sr <| m (fab 0 rfl T.f192_0 (.t n1)) u4 <| m (ldb T.o3 n0 n0 (.t n4)) u5 <| m (fab 0 rfl T.f106_0 (.t n3)) u6 <| k (st1 T.o3 rfl n2 u0 q2 (.t n6) (.t n5)) <| e ?_
  refine sr <| m (fab 1 rfl T.f192_1 (.t n1)) u7 <| m (ldb T.o3 n0 n1 (.t n7)) u8 <| m (fab 1 rfl T.f106_1 (.t n3)) u9 <| k (st1 T.o3 rfl n2 u1 q2 (.t n9) (.t n8)) <| e ?_
  refine sr <| m (fab 2 rfl T.f192_2 (.t n1)) u10 <| m (ldb T.o3 n0 n2 (.t n10)) u11 <| m (fab 2 rfl T.f106_2 (.t n3)) u12 <| k (st1 T.o3 rfl n2 u2 q2 (.t n12) (.t n11)) <| e ?_
  refine sr <| m (fab 3 rfl T.f192_3 (.t n1)) u13 <| m (ldb T.o3 n0 n3 (.t n13)) u14 <| m (fab 3 rfl T.f106_3 (.t n3)) u15 <| k (st1 T.o3 rfl n2 u3 q2 (.t n15) (.t n14)) <| e ?_
  refine sr <| m (fab 4 rfl T.f192_4 (.t n1)) u16 <| m (ldb T.o3 n0 n4 (.t n16)) u17 <| m (fab 4 rfl T.f106_4 (.t n3)) u18 <| k (st1 T.o3 rfl n2 u4 q2 (.t n18) (.t n17)) <| e ?_
  refine sr <| m (fab 5 rfl T.f192_5 (.t n1)) u19 <| m (ldb T.o3 n0 n5 (.t n19)) u20 <| m (fab 5 rfl T.f106_5 (.t n3)) u21 <| k (st1 T.o3 rfl n2 u5 q2 (.t n21) (.t n20)) <| e ?_
  refine sr <| m (lab T.a106 n2 d0 k6 (.t n3)) u22 <| k (sta T.a106 rfl rfl n1 (.z (.z (.z (.z (.z (.z .n)))))) q1 (.t n2) (.t n22)) <| e ?_
  refine rt (ret1 (.a n2 T.a106 n1 rfl (.c (.p rfl) (.c (.p rfl) (.c (.p rfl) (.c (.p rfl) (.c (.p rfl) (.c (.p rfl) .n)))))) .n) ?_)
  rfl

theorem sp_laws_toLogEntryS (l : List D.LogEntry) (hl : l.length ≤ 1048576) : Spec Tryz.prog G0 83 [.slice 6 (l.map D.LogEntry.V)] (fun r => r = .slice 6 (l.map D.LogEntry.V)) := by
  refine enter (l := [.tmp 2]) Tryz.func83 rfl Tryz.ntmps83 rfl T.en83 fun E => ?_
  simp only [List.length_cons, List.length_nil, List.replicate_succ, List.replicate_zero, List.cons_append, List.nil_append, Nat.reduceAdd, Nat.reduceSub]
  refine sr <| m (as_ .n) u2 <| e ?_
  refine sr <| m (mv (.t n0)) u5 <| m (lenm T.s24 (.t n5)) u6 <| k (mk_ T.s43 T.z106 (by omega) (by omega) s0 u7 (.t n6) (.t n6)) <| m (as_ (.t n7)) u3 <| e ?_
  refine sq ?_
  refine sr <| m (as_ (.i rfl)) u4 <| e ?_
  refine bk ?_
  refine lp (fun i : Nat => ⟨[.slice 6 (l.map D.LogEntry.V), .any, .nil, .own 0, .int .i64 (i : Int), .any, .any, .own 0, .any, .any, .any, .any, .any, .any, .any, .any, .any, .any, .any, .any, .any, .any, .any], [.row 106 6 (pref D.LogEntry.V l [.int .i64 0, .int .i64 0, .int .i64 0, .int .i64 0, .int .i64 0, .int .i64 0] i)]⟩) (fun i : Nat => i ≤ l.length) (fun i : Nat => l.length - i) (0) (by simp) (le [0] (by decide) (.c (.e rfl rfl) (.c .a (.c (.e rfl rfl) (.c (.w n0) (.c (.e rfl rfl) (.c .a (.c .a (.c (.w n0) (.c .a (.c .a (.c .a (.c .a (.c .a (.c .a (.c .a (.c .a (.c .a (.c .a (.c .a (.c .a (.c .a (.c .a (.c .a .n))))))))))))))))))))))) (.r n0 (pref_0 _ _ _).symm .n)) ?_
  rintro i hJ
  try dsimp only at hJ ⊢
  refine sq ?_
  refine sr <| m (mv (.t n4)) u8 <| m (mv (.t n0)) u9 <| m (lenm T.s24 (.t n9)) u10 <| m (lss (.t n8) (.t n10)) u11 <| e ?_
  refine cnd n11 (fun h1 => ?_) (fun h1 => ?_)
  ·
    replace h1 := of_decide_eq_true h1
    refine skp ?_
    refine sq ?_
    refine bk ?_
    refine rg <| m (mv (.t n3)) u14 <| m (mv (.t n4)) u15 <| m (mv (.t n0)) u16 <| m (mv (.t n4)) u17 <| m (ixm T.s24 (Int.natCast_nonneg _) (gi (by omega)) (.t n16) (.t n17)) u18 <| m (lae T.a192 k6 (.t n18)) u19 <| c (call (sp_laws_toLogEntry _) (.c (.t n19) rfl .n)) u20 <| m (oix T.s43 n0 (Int.natCast_nonneg _) (by rw [Int.toNat_natCast, pref_len (by omega)]; omega) (.t n14) (.t n15)) u21 <| k (stoA rfl (by rw [Int.toNat_natCast, pref_len (by omega)]; omega) T.a106 rfl rfl rfl n0 q0 (.t n21) (.t n20)) <| e ?_
    refine rg <| m (mv (.t n4)) u12 <| m (add (.t n12) (.i rfl)) u13 <| m (as_ (.t n13)) u4 <| e ?_
    exact ⟨i + 1, (by omega), (by omega), le [0] (by decide) (.c (.e rfl rfl) (.c .a (.c (.e rfl rfl) (.c (.w n0) (.c (.e (wi (by omega)) rfl) (.c .a (.c .a (.c (.w n0) (.c .a (.c .a (.c .a (.c .a (.c .a (.c .a (.c .a (.c .a (.c .a (.c .a (.c .a (.c .a (.c .a (.c .a (.c .a .n))))))))))))))))))))))) (.r n0 (pref_set (by omega)) .n)⟩
  ·
    replace h1 := of_decide_eq_false h1
    refine ex (x1 ?_)
    refine sr <| m (mv (.t n3)) u22 <| m (as_ (.t n22)) u2 <| e ?_
    refine rt (ret1 (.t n2 (.o n0) .n) ?_)
    show V.slice _ _ = V.slice _ _
    rw [show i = l.length from by omega, pref_full]

theorem sp_laws_toEntry (x : D.Entry) : Spec Tryz.prog G0 180 [.agg (D.Entry.V x)] (fun r => r = .agg x.V) := by
  refine enter (l := [.cell 2 111]) Tryz.func180 rfl Tryz.ntmps180 rfl T.en180 fun E => ?_
  simp only [List.length_cons, List.length_nil, List.replicate_succ, List.replicate_zero, List.cons_append, List.nil_append, Nat.reduceAdd, Nat.reduceSub]
  refine sr <| k (bx rfl s0 u1 (.t n0)) <| k (al T.z111 s1 u2) <| e ?_
  refine sr <| k (al T.z111 s2 u3) <| e ?_
  refine sr <| m (fab 0 rfl T.f248_0 (.t n1)) u4 <| m (ldb T.o3 n0 n0 (.t n4)) u5 <| m (fab 0 rfl T.f111_0 (.t n3)) u6 <| k (st1 T.o3 rfl n2 u0 q2 (.t n6) (.t n5)) <| e ?_
  refine sr <| m (fab 1 rfl T.f248_1 (.t n1)) u7 <| m (ldb T.o3 n0 n1 (.t n7)) u8 <| m (fab 1 rfl T.f111_1 (.t n3)) u9 <| k (st1 T.o3 rfl n2 u1 q2 (.t n9) (.t n8)) <| e ?_
  refine sr <| m (fab 2 rfl T.f248_2 (.t n1)) u10 <| m (ldb T.o3 n0 n2 (.t n10)) u11 <| m (fab 2 rfl T.f111_2 (.t n3)) u12 <| k (st1 T.o3 rfl n2 u2 q2 (.t n12) (.t n11)) <| e ?_
  refine sr <| m (fab 3 rfl T.f248_3 (.t n1)) u13 <| m (ldb T.o4 n0 n3 (.t n13)) u14 <| m (fab 3 rfl T.f111_3 (.t n3)) u15 <| k (st1 T.o4 rfl n2 u3 q2 (.t n15) (.t n14)) <| e ?_
  refine sr <| m (lab T.a111 n2 d0 k4 (.t n3)) u16 <| k (sta T.a111 rfl rfl n1 (.z (.z (.z (.z .n)))) q1 (.t n2) (.t n16)) <| e ?_
  refine rt (ret1 (.a n2 T.a111 n1 rfl (.c (.p rfl) (.c (.p rfl) (.c (.p rfl) (.c (.p rfl) .n)))) .n) ?_)
  rfl

theorem sp_laws_toEntryS (l : List D.Entry) (hl : l.length ≤ 1048576) : Spec Tryz.prog G0 159 [.slice 4 (l.map D.Entry.V)] (fun r => r = .slice 4 (l.map D.Entry.V)) := by
  refine enter (l := [.tmp 2]) Tryz.func159 rfl Tryz.ntmps159 rfl T.en159 fun E => ?_
  simp only [List.length_cons, List.length_nil, List.replicate_succ, List.replicate_zero, List.cons_append, List.nil_append, Nat.reduceAdd, Nat.reduceSub]
  refine sr <| m (as_ .n) u2 <| e ?_
  refine sr <| m (mv (.t n0)) u5 <| m (lenm T.s131 (.t n5)) u6 <| k (mk_ T.s100 T.z111 (by omega) (by omega) s0 u7 (.t n6) (.t n6)) <| m (as_ (.t n7)) u3 <| e ?_
  refine sq ?_
  refine sr <| m (as_ (.i rfl)) u4 <| e ?_
  refine bk ?_
  refine lp (fun i : Nat => ⟨[.slice 4 (l.map D.Entry.V), .any, .nil, .own 0, .int .i64 (i : Int), .any, .any, .own 0, .any, .any, .any, .any, .any, .any, .any, .any, .any, .any, .any, .any, .any, .any, .any], [.row 111 4 (pref D.Entry.V l [.int .i64 0, .int .i64 0, .int .i64 0, .bool false] i)]⟩) (fun i : Nat => i ≤ l.length) (fun i : Nat => l.length - i) (0) (by simp) (le [0] (by decide) (.c (.e rfl rfl) (.c .a (.c (.e rfl rfl) (.c (.w n0) (.c (.e rfl rfl) (.c .a (.c .a (.c (.w n0) (.c .a (.c .a (.c .a (.c .a (.c .a (.c .a (.c .a (.c .a (.c .a (.c .a (.c .a (.c .a (.c .a (.c .a (.c .a .n))))))))))))))))))))))) (.r n0 (pref_0 _ _ _).symm .n)) ?_
  rintro i hJ
  try dsimp only at hJ ⊢
  refine sq ?_
  refine sr <| m (mv (.t n4)) u8 <| m (mv (.t n0)) u9 <| m (lenm T.s131 (.t n9)) u10 <| m (lss (.t n8) (.t n10)) u11 <| e ?_
  refine cnd n11 (fun h1 => ?_) (fun h1 => ?_)
  ·
    replace h1 := of_decide_eq_true h1
    refine skp ?_
    refine sq ?_
    refine bk ?_
    refine rg <| m (mv (.t n3)) u14 <| m (mv (.t n4)) u15 <| m (mv (.t n0)) u16 <| m (mv (.t n4)) u17 <| m (ixm T.s131 (Int.natCast_nonneg _) (gi (by omega)) (.t n16) (.t n17)) u18 <| m (lae T.a248 k4 (.t n18)) u19 <| c (call (sp_laws_toEntry _) (.c (.t n19) rfl .n)) u20 <| m (oix T.s100 n0 (Int.natCast_nonneg _) (by rw [Int.toNat_natCast, pref_len (by omega)]; omega) (.t n14) (.t n15)) u21 <| k (stoA rfl (by rw [Int.toNat_natCast, pref_len (by omega)]; omega) T.a111 rfl rfl rfl n0 q0 (.t n21) (.t n20)) <| e ?_
    refine rg <| m (mv (.t n4)) u12 <| m (add (.t n12) (.i rfl)) u13 <| m (as_ (.t n13)) u4 <| e ?_
    exact ⟨i + 1, (by omega), (by omega), le [0] (by decide) (.c (.e rfl rfl) (.c .a (.c (.e rfl rfl) (.c (.w n0) (.c (.e (wi (by omega)) rfl) (.c .a (.c .a (.c (.w n0) (.c .a (.c .a (.c .a (.c .a (.c .a (.c .a (.c .a (.c .a (.c .a (.c .a (.c .a (.c .a (.c .a (.c .a (.c .a .n))))))))))))))))))))))) (.r n0 (pref_set (by omega)) .n)⟩
  ·
    replace h1 := of_decide_eq_false h1
    refine ex (x1 ?_)
    refine sr <| m (mv (.t n3)) u22 <| m (as_ (.t n22)) u2 <| e ?_
    refine rt (ret1 (.t n2 (.o n0) .n) ?_)
    show V.slice _ _ = V.slice _ _
    rw [show i = l.length from by omega, pref_full]

theorem sp_laws_toBundle (x : D.Bundle) (hl : x.sz ≤ 1048576) : Spec Tryz.prog G0 124 [.agg (D.Bundle.V x)] (fun r => r = .agg x.V) := by
  simp only [D.Bundle.sz] at hl
  refine enter (l := [.cell 2 102]) Tryz.func124 rfl Tryz.ntmps124 rfl T.en124 fun E => ?_
  simp only [List.length_cons, List.length_nil, List.replicate_succ, List.replicate_zero, List.cons_append, List.nil_append, Nat.reduceAdd, Nat.reduceSub]
  refine sr <| k (bx rfl s0 u1 (.t n0)) <| k (al T.z102 s1 u2) <| e ?_
  refine sr <| k (al T.z102 s2 u3) <| e ?_
  refine sr <| m (fab 0 rfl T.f133_0 (.t n1)) u4 <| m (ldb T.o131 n0 n0 (.t n4)) u5 <| c (call (sp_laws_toEntryS _ (by first | assumption | omega)) (.c (.t n5) rfl .n)) u6 <| m (fab 0 rfl T.f102_0 (.t n3)) u7 <| k (st1 T.o100 rfl n2 u0 q2 (.t n7) (.t n6)) <| e ?_
  refine sr <| m (lab T.a102 n2 d0 k1 (.t n3)) u8 <| k (sta T.a102 rfl rfl n1 (.z .n) q1 (.t n2) (.t n8)) <| e ?_
  refine rt (ret1 (.a n2 T.a102 n1 rfl (.c (.p rfl) .n) .n) ?_)
  rfl

theorem sp_laws_toDevice (x : D.Device) (hl : x.sz ≤ 1048576) : Spec Tryz.prog G0 82 [.agg (D.Device.V x)] (fun r => r = .agg x.V) := by
  simp only [D.Device.sz] at hl
  refine enter (l := [.cell 2 104]) Tryz.func82 rfl Tryz.ntmps82 rfl T.en82 fun E => ?_
  simp only [List.length_cons, List.length_nil, List.replicate_succ, List.replicate_zero, List.cons_append, List.nil_append, Nat.reduceAdd, Nat.reduceSub]
  refine sr <| k (bx rfl s0 u1 (.t n0)) <| k (al T.z104 s1 u2) <| e ?_
  refine sr <| k (al T.z104 s2 u3) <| e ?_
  refine sr <| m (fab 0 rfl T.f135_0 (.t n1)) u4 <| m (lab T.a130 n0 d0 k4 (.t n4)) u5 <| c (call (sp_laws_toKeyStore _) (.c (.t n5) rfl .n)) u6 <| m (fab 0 rfl T.f104_0 (.t n3)) u7 <| k (sta T.a99 rfl rfl n2 (.z (.z (.z (.z .n)))) q2 (.t n7) (.t n6)) <| e ?_
  refine sr <| m (fab 4 rfl T.f135_1 (.t n1)) u8 <| m (ldb T.o24 n0 n4 (.t n8)) u9 <| c (call (sp_laws_toLogEntryS _ (by first | assumption | omega)) (.c (.t n9) rfl .n)) u10 <| m (fab 4 rfl T.f104_1 (.t n3)) u11 <| k (st1 T.o43 rfl n2 u4 q2 (.t n11) (.t n10)) <| e ?_
  refine sr <| m (fab 5 rfl T.f135_2 (.t n1)) u12 <| m (ldb T.o3 n0 n5 (.t n12)) u13 <| m (fab 5 rfl T.f104_2 (.t n3)) u14 <| k (st1 T.o3 rfl n2 u5 q2 (.t n14) (.t n13)) <| e ?_
  refine sr <| m (fab 6 rfl T.f135_3 (.t n1)) u15 <| m (ldb T.o3 n0 n6 (.t n15)) u16 <| m (fab 6 rfl T.f104_3 (.t n3)) u17 <| k (st1 T.o3 rfl n2 u6 q2 (.t n17) (.t n16)) <| e ?_
  refine sr <| m (fab 7 rfl T.f135_4 (.t n1)) u18 <| m (ldb T.o3 n0 n7 (.t n18)) u19 <| m (fab 7 rfl T.f104_4 (.t n3)) u20 <| k (st1 T.o3 rfl n2 u7 q2 (.t n20) (.t n19)) <| e ?_
  refine sr <| m (fab 8 rfl T.f135_5 (.t n1)) u21 <| m (lab T.a133 n0 d8 k1 (.t n21)) u22 <| c (call (sp_laws_toBundle _ (by first | assumption | (simp only [D.Box.sz, D.EpochBoxes.sz, D.LogEntry.sz, D.SealedBundle.sz, D.Cloud.sz, D.Vault.sz, D.Notice.sz, D.Mailbox.sz, D.KeyStore.sz, D.Entry.sz, D.Bundle.sz, D.Device.sz, D.Credential.sz, D.Account.sz, D.Challenge.sz, D.ChallengeBook.sz, D.Site.sz, D.Share.sz, D.Keeper.sz, D.KeeperHost.sz, D.World.sz] at *; omega))) (.c (.t n22) rfl .n)) u23 <| m (fab 8 rfl T.f104_5 (.t n3)) u24 <| k (sta T.a102 rfl rfl n2 (.s (.s (.s (.s (.s (.s (.s (.s (.z .n))))))))) q2 (.t n24) (.t n23)) <| e ?_
  refine sr <| m (lab T.a104 n2 d0 k9 (.t n3)) u25 <| k (sta T.a104 rfl rfl n1 (.z (.z (.z (.z (.z (.z (.z (.z (.z .n))))))))) q1 (.t n2) (.t n25)) <| e ?_
  refine rt (ret1 (.a n2 T.a104 n1 rfl (.c (.p rfl) (.c (.p rfl) (.c (.p rfl) (.c (.p rfl) (.c (.p rfl) (.c (.p rfl) (.c (.p rfl) (.c (.p rfl) (.c (.p rfl) .n))))))))) .n) ?_)
  rfl

theorem sp_laws_toDeviceS (l : List D.Device) (hl : l.length + (l.map D.Device.sz).sum ≤ 1048576) : Spec Tryz.prog G0 37 [.slice 9 (l.map D.Device.V)] (fun r => r = .slice 9 (l.map D.Device.V)) := by
  have hmem : ∀ (j : Nat) (h : j < l.length), (l[j]'h).sz ≤ (l.map D.Device.sz).sum := fun j h => sum_mem D.Device.sz l _ (List.getElem_mem h)
  refine enter (l := [.tmp 2]) Tryz.func37 rfl Tryz.ntmps37 rfl T.en37 fun E => ?_
  simp only [List.length_cons, List.length_nil, List.replicate_succ, List.replicate_zero, List.cons_append, List.nil_append, Nat.reduceAdd, Nat.reduceSub]
  refine sr <| m (as_ .n) u2 <| e ?_
  refine sr <| m (mv (.t n0)) u5 <| m (lenm T.s22 (.t n5)) u6 <| k (mk_ T.s42 T.z104 (by omega) (by omega) s0 u7 (.t n6) (.t n6)) <| m (as_ (.t n7)) u3 <| e ?_
  refine sq ?_
  refine sr <| m (as_ (.i rfl)) u4 <| e ?_
  refine bk ?_
  refine lp (fun i : Nat => ⟨[.slice 9 (l.map D.Device.V), .any, .nil, .own 0, .int .i64 (i : Int), .any, .any, .own 0, .any, .any, .any, .any, .any, .any, .any, .any, .any, .any, .any, .any, .any, .any, .any], [.row 104 9 (pref D.Device.V l [.int .i64 0, .int .i64 0, .int .i64 0, .int .i64 0, .nil, .int .i64 0, .int .i64 0, .int .i64 0, .nil] i)]⟩) (fun i : Nat => i ≤ l.length) (fun i : Nat => l.length - i) (0) (by simp) (le [0] (by decide) (.c (.e rfl rfl) (.c .a (.c (.e rfl rfl) (.c (.w n0) (.c (.e rfl rfl) (.c .a (.c .a (.c (.w n0) (.c .a (.c .a (.c .a (.c .a (.c .a (.c .a (.c .a (.c .a (.c .a (.c .a (.c .a (.c .a (.c .a (.c .a (.c .a .n))))))))))))))))))))))) (.r n0 (pref_0 _ _ _).symm .n)) ?_
  rintro i hJ
  try dsimp only at hJ ⊢
  refine sq ?_
  refine sr <| m (mv (.t n4)) u8 <| m (mv (.t n0)) u9 <| m (lenm T.s22 (.t n9)) u10 <| m (lss (.t n8) (.t n10)) u11 <| e ?_
  refine cnd n11 (fun h1 => ?_) (fun h1 => ?_)
  ·
    replace h1 := of_decide_eq_true h1
    refine skp ?_
    refine sq ?_
    refine bk ?_
    refine rg <| m (mv (.t n3)) u14 <| m (mv (.t n4)) u15 <| m (mv (.t n0)) u16 <| m (mv (.t n4)) u17 <| m (ixm T.s22 (Int.natCast_nonneg _) (gi (by omega)) (.t n16) (.t n17)) u18 <| m (lae T.a135 k9 (.t n18)) u19 <| c (call (sp_laws_toDevice _ (by have := hmem i (by omega); omega)) (.c (.t n19) rfl .n)) u20 <| m (oix T.s42 n0 (Int.natCast_nonneg _) (by rw [Int.toNat_natCast, pref_len (by omega)]; omega) (.t n14) (.t n15)) u21 <| k (stoA rfl (by rw [Int.toNat_natCast, pref_len (by omega)]; omega) T.a104 rfl rfl rfl n0 q0 (.t n21) (.t n20)) <| e ?_
    refine rg <| m (mv (.t n4)) u12 <| m (add (.t n12) (.i rfl)) u13 <| m (as_ (.t n13)) u4 <| e ?_
    exact ⟨i + 1, (by omega), (by omega), le [0] (by decide) (.c (.e rfl rfl) (.c .a (.c (.e rfl rfl) (.c (.w n0) (.c (.e (wi (by omega)) rfl) (.c .a (.c .a (.c (.w n0) (.c .a (.c .a (.c .a (.c .a (.c .a (.c .a (.c .a (.c .a (.c .a (.c .a (.c .a (.c .a (.c .a (.c .a (.c .a .n))))))))))))))))))))))) (.r n0 (pref_set (by omega)) .n)⟩
  ·
    replace h1 := of_decide_eq_false h1
    refine ex (x1 ?_)
    refine sr <| m (mv (.t n3)) u22 <| m (as_ (.t n22)) u2 <| e ?_
    refine rt (ret1 (.t n2 (.o n0) .n) ?_)
    show V.slice _ _ = V.slice _ _
    rw [show i = l.length from by omega, pref_full]

theorem sp_laws_toBoolS (l : List Bool) (hl : l.length ≤ 1048576) : Spec Tryz.prog G0 38 [.slice 1 (l.map bV)] (fun r => r = .slice 1 (l.map bV)) := by
  refine enter (l := [.tmp 2]) Tryz.func38 rfl Tryz.ntmps38 rfl T.en38 fun E => ?_
  simp only [List.length_cons, List.length_nil, List.replicate_succ, List.replicate_zero, List.cons_append, List.nil_append, Nat.reduceAdd, Nat.reduceSub]
  refine sr <| m (as_ .n) u2 <| e ?_
  refine sr <| m (mv (.t n0)) u5 <| m (lenm T.s23 (.t n5)) u6 <| k (mk_ T.s23 T.z4 (by omega) (by omega) s0 u7 (.t n6) (.t n6)) <| m (as_ (.t n7)) u3 <| e ?_
  refine sq ?_
  refine sr <| m (as_ (.i rfl)) u4 <| e ?_
  refine bk ?_
  refine lp (fun i : Nat => ⟨[.slice 1 (l.map bV), .any, .nil, .own 0, .int .i64 (i : Int), .any, .any, .own 0, .any, .any, .any, .any, .any, .any, .any, .any, .any, .any, .any, .any, .any, .any], [.row 4 1 (pref bV l [.bool false] i)]⟩) (fun i : Nat => i ≤ l.length) (fun i : Nat => l.length - i) (0) (by simp) (le [0] (by decide) (.c (.e rfl rfl) (.c .a (.c (.e rfl rfl) (.c (.w n0) (.c (.e rfl rfl) (.c .a (.c .a (.c (.w n0) (.c .a (.c .a (.c .a (.c .a (.c .a (.c .a (.c .a (.c .a (.c .a (.c .a (.c .a (.c .a (.c .a (.c .a .n)))))))))))))))))))))) (.r n0 (pref_0 _ _ _).symm .n)) ?_
  rintro i hJ
  try dsimp only at hJ ⊢
  refine sq ?_
  refine sr <| m (mv (.t n4)) u8 <| m (mv (.t n0)) u9 <| m (lenm T.s23 (.t n9)) u10 <| m (lss (.t n8) (.t n10)) u11 <| e ?_
  refine cnd n11 (fun h1 => ?_) (fun h1 => ?_)
  ·
    replace h1 := of_decide_eq_true h1
    refine skp ?_
    refine sq ?_
    refine bk ?_
    refine rg <| m (mv (.t n3)) u14 <| m (mv (.t n4)) u15 <| m (mv (.t n0)) u16 <| m (mv (.t n4)) u17 <| m (ixm T.s23 (Int.natCast_nonneg _) (gi (by omega)) (.t n16) (.t n17)) u18 <| m (lde T.o4 n0 (.t n18)) u19 <| m (oix T.s23 n0 (Int.natCast_nonneg _) (by rw [Int.toNat_natCast, pref_len (by omega)]; omega) (.t n14) (.t n15)) u20 <| k (stoO rfl (by rw [Int.toNat_natCast, pref_len (by omega)]; omega) T.o4 rfl rfl rfl n0 q0 (.t n20) (.t n19)) <| e ?_
    refine rg <| m (mv (.t n4)) u12 <| m (add (.t n12) (.i rfl)) u13 <| m (as_ (.t n13)) u4 <| e ?_
    exact ⟨i + 1, (by omega), (by omega), le [0] (by decide) (.c (.e rfl rfl) (.c .a (.c (.e rfl rfl) (.c (.w n0) (.c (.e (wi (by omega)) rfl) (.c .a (.c .a (.c (.w n0) (.c .a (.c .a (.c .a (.c .a (.c .a (.c .a (.c .a (.c .a (.c .a (.c .a (.c .a (.c .a (.c .a (.c .a .n)))))))))))))))))))))) (.r n0 (pref_set (by omega)) .n)⟩
  ·
    replace h1 := of_decide_eq_false h1
    refine ex (x1 ?_)
    refine sr <| m (mv (.t n3)) u21 <| m (as_ (.t n21)) u2 <| e ?_
    refine rt (ret1 (.t n2 (.o n0) .n) ?_)
    show V.slice _ _ = V.slice _ _
    rw [show i = l.length from by omega, pref_full]

theorem sp_laws_toByteS (l : List Int) (hl : l.length ≤ 1048576) : Spec Tryz.prog G0 161 [.slice 1 (l.map y8)] (fun r => r = .slice 1 (l.map y8)) := by
  refine enter (l := [.tmp 2]) Tryz.func161 rfl Tryz.ntmps161 rfl T.en161 fun E => ?_
  simp only [List.length_cons, List.length_nil, List.replicate_succ, List.replicate_zero, List.cons_append, List.nil_append, Nat.reduceAdd, Nat.reduceSub]
  refine sr <| m (as_ .n) u2 <| e ?_
  refine sr <| m (mv (.t n0)) u5 <| m (lenm T.s174 (.t n5)) u6 <| k (mk_ T.s174 T.z5 (by omega) (by omega) s0 u7 (.t n6) (.t n6)) <| m (as_ (.t n7)) u3 <| e ?_
  refine sq ?_
  refine sr <| m (as_ (.i rfl)) u4 <| e ?_
  refine bk ?_
  refine lp (fun i : Nat => ⟨[.slice 1 (l.map y8), .any, .nil, .own 0, .int .i64 (i : Int), .any, .any, .own 0, .any, .any, .any, .any, .any, .any, .any, .any, .any, .any, .any, .any, .any, .any], [.row 5 1 (pref y8 l [.int .u8 0] i)]⟩) (fun i : Nat => i ≤ l.length) (fun i : Nat => l.length - i) (0) (by simp) (le [0] (by decide) (.c (.e rfl rfl) (.c .a (.c (.e rfl rfl) (.c (.w n0) (.c (.e rfl rfl) (.c .a (.c .a (.c (.w n0) (.c .a (.c .a (.c .a (.c .a (.c .a (.c .a (.c .a (.c .a (.c .a (.c .a (.c .a (.c .a (.c .a (.c .a .n)))))))))))))))))))))) (.r n0 (pref_0 _ _ _).symm .n)) ?_
  rintro i hJ
  try dsimp only at hJ ⊢
  refine sq ?_
  refine sr <| m (mv (.t n4)) u8 <| m (mv (.t n0)) u9 <| m (lenm T.s174 (.t n9)) u10 <| m (lss (.t n8) (.t n10)) u11 <| e ?_
  refine cnd n11 (fun h1 => ?_) (fun h1 => ?_)
  ·
    replace h1 := of_decide_eq_true h1
    refine skp ?_
    refine sq ?_
    refine bk ?_
    refine rg <| m (mv (.t n3)) u14 <| m (mv (.t n4)) u15 <| m (mv (.t n0)) u16 <| m (mv (.t n4)) u17 <| m (ixm T.s174 (Int.natCast_nonneg _) (gi (by omega)) (.t n16) (.t n17)) u18 <| m (lde T.o5 n0 (.t n18)) u19 <| m (oix T.s174 n0 (Int.natCast_nonneg _) (by rw [Int.toNat_natCast, pref_len (by omega)]; omega) (.t n14) (.t n15)) u20 <| k (stoO rfl (by rw [Int.toNat_natCast, pref_len (by omega)]; omega) T.o5 rfl rfl rfl n0 q0 (.t n20) (.t n19)) <| e ?_
    refine rg <| m (mv (.t n4)) u12 <| m (add (.t n12) (.i rfl)) u13 <| m (as_ (.t n13)) u4 <| e ?_
    exact ⟨i + 1, (by omega), (by omega), le [0] (by decide) (.c (.e rfl rfl) (.c .a (.c (.e rfl rfl) (.c (.w n0) (.c (.e (wi (by omega)) rfl) (.c .a (.c .a (.c (.w n0) (.c .a (.c .a (.c .a (.c .a (.c .a (.c .a (.c .a (.c .a (.c .a (.c .a (.c .a (.c .a (.c .a (.c .a .n)))))))))))))))))))))) (.r n0 (pref_set (by omega)) .n)⟩
  ·
    replace h1 := of_decide_eq_false h1
    refine ex (x1 ?_)
    refine sr <| m (mv (.t n3)) u21 <| m (as_ (.t n21)) u2 <| e ?_
    refine rt (ret1 (.t n2 (.o n0) .n) ?_)
    show V.slice _ _ = V.slice _ _
    rw [show i = l.length from by omega, pref_full]

theorem sp_laws_toBox (x : D.Box) (hl : x.sz ≤ 1048576) : Spec Tryz.prog G0 160 [.agg (D.Box.V x)] (fun r => r = .agg x.V) := by
  simp only [D.Box.sz] at hl
  refine enter (l := [.cell 2 220]) Tryz.func160 rfl Tryz.ntmps160 rfl T.en160 fun E => ?_
  simp only [List.length_cons, List.length_nil, List.replicate_succ, List.replicate_zero, List.cons_append, List.nil_append, Nat.reduceAdd, Nat.reduceSub]
  refine sr <| k (bx rfl s0 u1 (.t n0)) <| k (al T.z220 s1 u2) <| e ?_
  refine sr <| k (al T.z220 s2 u3) <| e ?_
  refine sr <| m (fab 0 rfl T.f225_0 (.t n1)) u4 <| m (ldb T.o3 n0 n0 (.t n4)) u5 <| m (fab 0 rfl T.f220_0 (.t n3)) u6 <| k (st1 T.o3 rfl n2 u0 q2 (.t n6) (.t n5)) <| e ?_
  refine sr <| m (fab 1 rfl T.f225_1 (.t n1)) u7 <| m (ldb T.o3 n0 n1 (.t n7)) u8 <| m (fab 1 rfl T.f220_1 (.t n3)) u9 <| k (st1 T.o3 rfl n2 u1 q2 (.t n9) (.t n8)) <| e ?_
  refine sr <| m (fab 2 rfl T.f225_2 (.t n1)) u10 <| m (ldb T.o174 n0 n2 (.t n10)) u11 <| c (call (sp_laws_toByteS _ (by first | assumption | omega)) (.c (.t n11) rfl .n)) u12 <| m (fab 2 rfl T.f220_2 (.t n3)) u13 <| k (st1 T.o174 rfl n2 u2 q2 (.t n13) (.t n12)) <| e ?_
  refine sr <| m (fab 3 rfl T.f225_3 (.t n1)) u14 <| m (ldb T.o3 n0 n3 (.t n14)) u15 <| m (fab 3 rfl T.f220_3 (.t n3)) u16 <| k (st1 T.o3 rfl n2 u3 q2 (.t n16) (.t n15)) <| e ?_
  refine sr <| m (lab T.a220 n2 d0 k4 (.t n3)) u17 <| k (sta T.a220 rfl rfl n1 (.z (.z (.z (.z .n)))) q1 (.t n2) (.t n17)) <| e ?_
  refine rt (ret1 (.a n2 T.a220 n1 rfl (.c (.p rfl) (.c (.p rfl) (.c (.p rfl) (.c (.p rfl) .n)))) .n) ?_)
  rfl

theorem sp_laws_toBoxS (l : List D.Box) (hl : l.length + (l.map D.Box.sz).sum ≤ 1048576) : Spec Tryz.prog G0 126 [.slice 4 (l.map D.Box.V)] (fun r => r = .slice 4 (l.map D.Box.V)) := by
  have hmem : ∀ (j : Nat) (h : j < l.length), (l[j]'h).sz ≤ (l.map D.Box.sz).sum := fun j h => sum_mem D.Box.sz l _ (List.getElem_mem h)
  refine enter (l := [.tmp 2]) Tryz.func126 rfl Tryz.ntmps126 rfl T.en126 fun E => ?_
  simp only [List.length_cons, List.length_nil, List.replicate_succ, List.replicate_zero, List.cons_append, List.nil_append, Nat.reduceAdd, Nat.reduceSub]
  refine sr <| m (as_ .n) u2 <| e ?_
  refine sr <| m (mv (.t n0)) u5 <| m (lenm T.s25 (.t n5)) u6 <| k (mk_ T.s44 T.z220 (by omega) (by omega) s0 u7 (.t n6) (.t n6)) <| m (as_ (.t n7)) u3 <| e ?_
  refine sq ?_
  refine sr <| m (as_ (.i rfl)) u4 <| e ?_
  refine bk ?_
  refine lp (fun i : Nat => ⟨[.slice 4 (l.map D.Box.V), .any, .nil, .own 0, .int .i64 (i : Int), .any, .any, .own 0, .any, .any, .any, .any, .any, .any, .any, .any, .any, .any, .any, .any, .any, .any, .any], [.row 220 4 (pref D.Box.V l [.int .i64 0, .int .i64 0, .nil, .int .i64 0] i)]⟩) (fun i : Nat => i ≤ l.length) (fun i : Nat => l.length - i) (0) (by simp) (le [0] (by decide) (.c (.e rfl rfl) (.c .a (.c (.e rfl rfl) (.c (.w n0) (.c (.e rfl rfl) (.c .a (.c .a (.c (.w n0) (.c .a (.c .a (.c .a (.c .a (.c .a (.c .a (.c .a (.c .a (.c .a (.c .a (.c .a (.c .a (.c .a (.c .a (.c .a .n))))))))))))))))))))))) (.r n0 (pref_0 _ _ _).symm .n)) ?_
  rintro i hJ
  try dsimp only at hJ ⊢
  refine sq ?_
  refine sr <| m (mv (.t n4)) u8 <| m (mv (.t n0)) u9 <| m (lenm T.s25 (.t n9)) u10 <| m (lss (.t n8) (.t n10)) u11 <| e ?_
  refine cnd n11 (fun h1 => ?_) (fun h1 => ?_)
  ·
    replace h1 := of_decide_eq_true h1
    refine skp ?_
    refine sq ?_
    refine bk ?_
    refine rg <| m (mv (.t n3)) u14 <| m (mv (.t n4)) u15 <| m (mv (.t n0)) u16 <| m (mv (.t n4)) u17 <| m (ixm T.s25 (Int.natCast_nonneg _) (gi (by omega)) (.t n16) (.t n17)) u18 <| m (lae T.a225 k4 (.t n18)) u19 <| c (call (sp_laws_toBox _ (by have := hmem i (by omega); omega)) (.c (.t n19) rfl .n)) u20 <| m (oix T.s44 n0 (Int.natCast_nonneg _) (by rw [Int.toNat_natCast, pref_len (by omega)]; omega) (.t n14) (.t n15)) u21 <| k (stoA rfl (by rw [Int.toNat_natCast, pref_len (by omega)]; omega) T.a220 rfl rfl rfl n0 q0 (.t n21) (.t n20)) <| e ?_
    refine rg <| m (mv (.t n4)) u12 <| m (add (.t n12) (.i rfl)) u13 <| m (as_ (.t n13)) u4 <| e ?_
    exact ⟨i + 1, (by omega), (by omega), le [0] (by decide) (.c (.e rfl rfl) (.c .a (.c (.e rfl rfl) (.c (.w n0) (.c (.e (wi (by omega)) rfl) (.c .a (.c .a (.c (.w n0) (.c .a (.c .a (.c .a (.c .a (.c .a (.c .a (.c .a (.c .a (.c .a (.c .a (.c .a (.c .a (.c .a (.c .a (.c .a .n))))))))))))))))))))))) (.r n0 (pref_set (by omega)) .n)⟩
  ·
    replace h1 := of_decide_eq_false h1
    refine ex (x1 ?_)
    refine sr <| m (mv (.t n3)) u22 <| m (as_ (.t n22)) u2 <| e ?_
    refine rt (ret1 (.t n2 (.o n0) .n) ?_)
    show V.slice _ _ = V.slice _ _
    rw [show i = l.length from by omega, pref_full]

theorem sp_laws_toEpochBoxes (x : D.EpochBoxes) (hl : x.sz ≤ 1048576) : Spec Tryz.prog G0 84 [.agg (D.EpochBoxes.V x)] (fun r => r = .agg x.V) := by
  simp only [D.EpochBoxes.sz] at hl
  refine enter (l := [.cell 2 46]) Tryz.func84 rfl Tryz.ntmps84 rfl T.en84 fun E => ?_
  simp only [List.length_cons, List.length_nil, List.replicate_succ, List.replicate_zero, List.cons_append, List.nil_append, Nat.reduceAdd, Nat.reduceSub]
  refine sr <| k (bx rfl s0 u1 (.t n0)) <| k (al T.z46 s1 u2) <| e ?_
  refine sr <| k (al T.z46 s2 u3) <| e ?_
  refine sr <| m (fab 0 rfl T.f27_0 (.t n1)) u4 <| m (ldb T.o3 n0 n0 (.t n4)) u5 <| m (fab 0 rfl T.f46_0 (.t n3)) u6 <| k (st1 T.o3 rfl n2 u0 q2 (.t n6) (.t n5)) <| e ?_
  refine sr <| m (fab 1 rfl T.f27_1 (.t n1)) u7 <| m (ldb T.o25 n0 n1 (.t n7)) u8 <| c (call (sp_laws_toBoxS _ (by first | assumption | omega)) (.c (.t n8) rfl .n)) u9 <| m (fab 1 rfl T.f46_1 (.t n3)) u10 <| k (st1 T.o44 rfl n2 u1 q2 (.t n10) (.t n9)) <| e ?_
  refine sr <| m (lab T.a46 n2 d0 k2 (.t n3)) u11 <| k (sta T.a46 rfl rfl n1 (.z (.z .n)) q1 (.t n2) (.t n11)) <| e ?_
  refine rt (ret1 (.a n2 T.a46 n1 rfl (.c (.p rfl) (.c (.p rfl) .n)) .n) ?_)
  rfl

theorem sp_laws_toSealedBundle (x : D.SealedBundle) (hl : x.sz ≤ 1048576) : Spec Tryz.prog G0 127 [.agg (D.SealedBundle.V x)] (fun r => r = .agg x.V) := by
  simp only [D.SealedBundle.sz] at hl
  refine enter (l := [.cell 2 194]) Tryz.func127 rfl Tryz.ntmps127 rfl T.en127 fun E => ?_
  simp only [List.length_cons, List.length_nil, List.replicate_succ, List.replicate_zero, List.cons_append, List.nil_append, Nat.reduceAdd, Nat.reduceSub]
  refine sr <| k (bx rfl s0 u1 (.t n0)) <| k (al T.z194 s1 u2) <| e ?_
  refine sr <| k (al T.z194 s2 u3) <| e ?_
  refine sr <| m (fab 0 rfl T.f184_0 (.t n1)) u4 <| m (ldb T.o3 n0 n0 (.t n4)) u5 <| m (fab 0 rfl T.f194_0 (.t n3)) u6 <| k (st1 T.o3 rfl n2 u0 q2 (.t n6) (.t n5)) <| e ?_
  refine sr <| m (fab 1 rfl T.f184_1 (.t n1)) u7 <| m (ldb T.o3 n0 n1 (.t n7)) u8 <| m (fab 1 rfl T.f194_1 (.t n3)) u9 <| k (st1 T.o3 rfl n2 u1 q2 (.t n9) (.t n8)) <| e ?_
  refine sr <| m (fab 2 rfl T.f184_2 (.t n1)) u10 <| m (ldb T.o174 n0 n2 (.t n10)) u11 <| c (call (sp_laws_toByteS _ (by first | assumption | omega)) (.c (.t n11) rfl .n)) u12 <| m (fab 2 rfl T.f194_2 (.t n3)) u13 <| k (st1 T.o174 rfl n2 u2 q2 (.t n13) (.t n12)) <| e ?_
  refine sr <| m (fab 3 rfl T.f184_3 (.t n1)) u14 <| m (ldb T.o3 n0 n3 (.t n14)) u15 <| m (fab 3 rfl T.f194_3 (.t n3)) u16 <| k (st1 T.o3 rfl n2 u3 q2 (.t n16) (.t n15)) <| e ?_
  refine sr <| m (lab T.a194 n2 d0 k4 (.t n3)) u17 <| k (sta T.a194 rfl rfl n1 (.z (.z (.z (.z .n)))) q1 (.t n2) (.t n17)) <| e ?_
  refine rt (ret1 (.a n2 T.a194 n1 rfl (.c (.p rfl) (.c (.p rfl) (.c (.p rfl) (.c (.p rfl) .n)))) .n) ?_)
  rfl

theorem sp_laws_toSealedBundleS (l : List D.SealedBundle) (hl : l.length + (l.map D.SealedBundle.sz).sum ≤ 1048576) : Spec Tryz.prog G0 85 [.slice 4 (l.map D.SealedBundle.V)] (fun r => r = .slice 4 (l.map D.SealedBundle.V)) := by
  have hmem : ∀ (j : Nat) (h : j < l.length), (l[j]'h).sz ≤ (l.map D.SealedBundle.sz).sum := fun j h => sum_mem D.SealedBundle.sz l _ (List.getElem_mem h)
  refine enter (l := [.tmp 2]) Tryz.func85 rfl Tryz.ntmps85 rfl T.en85 fun E => ?_
  simp only [List.length_cons, List.length_nil, List.replicate_succ, List.replicate_zero, List.cons_append, List.nil_append, Nat.reduceAdd, Nat.reduceSub]
  refine sr <| m (as_ .n) u2 <| e ?_
  refine sr <| m (mv (.t n0)) u5 <| m (lenm T.s28 (.t n5)) u6 <| k (mk_ T.s47 T.z194 (by omega) (by omega) s0 u7 (.t n6) (.t n6)) <| m (as_ (.t n7)) u3 <| e ?_
  refine sq ?_
  refine sr <| m (as_ (.i rfl)) u4 <| e ?_
  refine bk ?_
  refine lp (fun i : Nat => ⟨[.slice 4 (l.map D.SealedBundle.V), .any, .nil, .own 0, .int .i64 (i : Int), .any, .any, .own 0, .any, .any, .any, .any, .any, .any, .any, .any, .any, .any, .any, .any, .any, .any, .any], [.row 194 4 (pref D.SealedBundle.V l [.int .i64 0, .int .i64 0, .nil, .int .i64 0] i)]⟩) (fun i : Nat => i ≤ l.length) (fun i : Nat => l.length - i) (0) (by simp) (le [0] (by decide) (.c (.e rfl rfl) (.c .a (.c (.e rfl rfl) (.c (.w n0) (.c (.e rfl rfl) (.c .a (.c .a (.c (.w n0) (.c .a (.c .a (.c .a (.c .a (.c .a (.c .a (.c .a (.c .a (.c .a (.c .a (.c .a (.c .a (.c .a (.c .a (.c .a .n))))))))))))))))))))))) (.r n0 (pref_0 _ _ _).symm .n)) ?_
  rintro i hJ
  try dsimp only at hJ ⊢
  refine sq ?_
  refine sr <| m (mv (.t n4)) u8 <| m (mv (.t n0)) u9 <| m (lenm T.s28 (.t n9)) u10 <| m (lss (.t n8) (.t n10)) u11 <| e ?_
  refine cnd n11 (fun h1 => ?_) (fun h1 => ?_)
  ·
    replace h1 := of_decide_eq_true h1
    refine skp ?_
    refine sq ?_
    refine bk ?_
    refine rg <| m (mv (.t n3)) u14 <| m (mv (.t n4)) u15 <| m (mv (.t n0)) u16 <| m (mv (.t n4)) u17 <| m (ixm T.s28 (Int.natCast_nonneg _) (gi (by omega)) (.t n16) (.t n17)) u18 <| m (lae T.a184 k4 (.t n18)) u19 <| c (call (sp_laws_toSealedBundle _ (by have := hmem i (by omega); omega)) (.c (.t n19) rfl .n)) u20 <| m (oix T.s47 n0 (Int.natCast_nonneg _) (by rw [Int.toNat_natCast, pref_len (by omega)]; omega) (.t n14) (.t n15)) u21 <| k (stoA rfl (by rw [Int.toNat_natCast, pref_len (by omega)]; omega) T.a194 rfl rfl rfl n0 q0 (.t n21) (.t n20)) <| e ?_
    refine rg <| m (mv (.t n4)) u12 <| m (add (.t n12) (.i rfl)) u13 <| m (as_ (.t n13)) u4 <| e ?_
    exact ⟨i + 1, (by omega), (by omega), le [0] (by decide) (.c (.e rfl rfl) (.c .a (.c (.e rfl rfl) (.c (.w n0) (.c (.e (wi (by omega)) rfl) (.c .a (.c .a (.c (.w n0) (.c .a (.c .a (.c .a (.c .a (.c .a (.c .a (.c .a (.c .a (.c .a (.c .a (.c .a (.c .a (.c .a (.c .a (.c .a .n))))))))))))))))))))))) (.r n0 (pref_set (by omega)) .n)⟩
  ·
    replace h1 := of_decide_eq_false h1
    refine ex (x1 ?_)
    refine sr <| m (mv (.t n3)) u22 <| m (as_ (.t n22)) u2 <| e ?_
    refine rt (ret1 (.t n2 (.o n0) .n) ?_)
    show V.slice _ _ = V.slice _ _
    rw [show i = l.length from by omega, pref_full]

theorem sp_laws_toCloud (x : D.Cloud) (hl : x.sz ≤ 1048576) : Spec Tryz.prog G0 39 [.agg (D.Cloud.V x)] (fun r => r = .agg x.V) := by
  simp only [D.Cloud.sz] at hl
  refine enter (l := [.cell 2 49]) Tryz.func39 rfl Tryz.ntmps39 rfl T.en39 fun E => ?_
  simp only [List.length_cons, List.length_nil, List.replicate_succ, List.replicate_zero, List.cons_append, List.nil_append, Nat.reduceAdd, Nat.reduceSub]
  refine sr <| k (bx rfl s0 u1 (.t n0)) <| k (al T.z49 s1 u2) <| e ?_
  refine sr <| k (al T.z49 s2 u3) <| e ?_
  refine sr <| m (fab 0 rfl T.f30_0 (.t n1)) u4 <| m (ldb T.o24 n0 n0 (.t n4)) u5 <| c (call (sp_laws_toLogEntryS _ (by first | assumption | omega)) (.c (.t n5) rfl .n)) u6 <| m (fab 0 rfl T.f49_0 (.t n3)) u7 <| k (st1 T.o43 rfl n2 u0 q2 (.t n7) (.t n6)) <| e ?_
  refine sr <| m (fab 1 rfl T.f30_1 (.t n1)) u8 <| m (lab T.a27 n0 d1 k2 (.t n8)) u9 <| c (call (sp_laws_toEpochBoxes _ (by first | assumption | (simp only [D.Box.sz, D.EpochBoxes.sz, D.LogEntry.sz, D.SealedBundle.sz, D.Cloud.sz, D.Vault.sz, D.Notice.sz, D.Mailbox.sz, D.KeyStore.sz, D.Entry.sz, D.Bundle.sz, D.Device.sz, D.Credential.sz, D.Account.sz, D.Challenge.sz, D.ChallengeBook.sz, D.Site.sz, D.Share.sz, D.Keeper.sz, D.KeeperHost.sz, D.World.sz] at *; omega))) (.c (.t n9) rfl .n)) u10 <| m (fab 1 rfl T.f49_1 (.t n3)) u11 <| k (sta T.a46 rfl rfl n2 (.s (.z (.z .n))) q2 (.t n11) (.t n10)) <| e ?_
  refine sr <| m (fab 3 rfl T.f30_2 (.t n1)) u12 <| m (ldb T.o28 n0 n3 (.t n12)) u13 <| c (call (sp_laws_toSealedBundleS _ (by first | assumption | omega)) (.c (.t n13) rfl .n)) u14 <| m (fab 3 rfl T.f49_2 (.t n3)) u15 <| k (st1 T.o47 rfl n2 u3 q2 (.t n15) (.t n14)) <| e ?_
  refine sr <| m (lab T.a49 n2 d0 k4 (.t n3)) u16 <| k (sta T.a49 rfl rfl n1 (.z (.z (.z (.z .n)))) q1 (.t n2) (.t n16)) <| e ?_
  refine rt (ret1 (.a n2 T.a49 n1 rfl (.c (.p rfl) (.c (.p rfl) (.c (.p rfl) (.c (.p rfl) .n)))) .n) ?_)
  rfl

theorem sp_laws_toCredential (x : D.Credential) : Spec Tryz.prog G0 186 [.agg (D.Credential.V x)] (fun r => r = .agg x.V) := by
  refine enter (l := [.cell 2 125]) Tryz.func186 rfl Tryz.ntmps186 rfl T.en186 fun E => ?_
  simp only [List.length_cons, List.length_nil, List.replicate_succ, List.replicate_zero, List.cons_append, List.nil_append, Nat.reduceAdd, Nat.reduceSub]
  refine sr <| k (bx rfl s0 u1 (.t n0)) <| k (al T.z125 s1 u2) <| e ?_
  refine sr <| k (al T.z125 s2 u3) <| e ?_
  refine sr <| m (fab 0 rfl T.f258_0 (.t n1)) u4 <| m (ldb T.o3 n0 n0 (.t n4)) u5 <| m (fab 0 rfl T.f125_0 (.t n3)) u6 <| k (st1 T.o3 rfl n2 u0 q2 (.t n6) (.t n5)) <| e ?_
  refine sr <| m (fab 1 rfl T.f258_1 (.t n1)) u7 <| m (ldb T.o3 n0 n1 (.t n7)) u8 <| m (fab 1 rfl T.f125_1 (.t n3)) u9 <| k (st1 T.o3 rfl n2 u1 q2 (.t n9) (.t n8)) <| e ?_
  refine sr <| m (fab 2 rfl T.f258_2 (.t n1)) u10 <| m (ldb T.o3 n0 n2 (.t n10)) u11 <| m (fab 2 rfl T.f125_2 (.t n3)) u12 <| k (st1 T.o3 rfl n2 u2 q2 (.t n12) (.t n11)) <| e ?_
  refine sr <| m (fab 3 rfl T.f258_3 (.t n1)) u13 <| m (ldb T.o4 n0 n3 (.t n13)) u14 <| m (fab 3 rfl T.f125_3 (.t n3)) u15 <| k (st1 T.o4 rfl n2 u3 q2 (.t n15) (.t n14)) <| e ?_
  refine sr <| m (lab T.a125 n2 d0 k4 (.t n3)) u16 <| k (sta T.a125 rfl rfl n1 (.z (.z (.z (.z .n)))) q1 (.t n2) (.t n16)) <| e ?_
  refine rt (ret1 (.a n2 T.a125 n1 rfl (.c (.p rfl) (.c (.p rfl) (.c (.p rfl) (.c (.p rfl) .n)))) .n) ?_)
  rfl

theorem sp_laws_toCredentialS (l : List D.Credential) (hl : l.length ≤ 1048576) : Spec Tryz.prog G0 181 [.slice 4 (l.map D.Credential.V)] (fun r => r = .slice 4 (l.map D.Credential.V)) := by
  refine enter (l := [.tmp 2]) Tryz.func181 rfl Tryz.ntmps181 rfl T.en181 fun E => ?_
  simp only [List.length_cons, List.length_nil, List.replicate_succ, List.replicate_zero, List.cons_append, List.nil_append, Nat.reduceAdd, Nat.reduceSub]
  refine sr <| m (as_ .n) u2 <| e ?_
  refine sr <| m (mv (.t n0)) u5 <| m (lenm T.s228 (.t n5)) u6 <| k (mk_ T.s121 T.z125 (by omega) (by omega) s0 u7 (.t n6) (.t n6)) <| m (as_ (.t n7)) u3 <| e ?_
  refine sq ?_
  refine sr <| m (as_ (.i rfl)) u4 <| e ?_
  refine bk ?_
  refine lp (fun i : Nat => ⟨[.slice 4 (l.map D.Credential.V), .any, .nil, .own 0, .int .i64 (i : Int), .any, .any, .own 0, .any, .any, .any, .any, .any, .any, .any, .any, .any, .any, .any, .any, .any, .any, .any], [.row 125 4 (pref D.Credential.V l [.int .i64 0, .int .i64 0, .int .i64 0, .bool false] i)]⟩) (fun i : Nat => i ≤ l.length) (fun i : Nat => l.length - i) (0) (by simp) (le [0] (by decide) (.c (.e rfl rfl) (.c .a (.c (.e rfl rfl) (.c (.w n0) (.c (.e rfl rfl) (.c .a (.c .a (.c (.w n0) (.c .a (.c .a (.c .a (.c .a (.c .a (.c .a (.c .a (.c .a (.c .a (.c .a (.c .a (.c .a (.c .a (.c .a (.c .a .n))))))))))))))))))))))) (.r n0 (pref_0 _ _ _).symm .n)) ?_
  rintro i hJ
  try dsimp only at hJ ⊢
  refine sq ?_
  refine sr <| m (mv (.t n4)) u8 <| m (mv (.t n0)) u9 <| m (lenm T.s228 (.t n9)) u10 <| m (lss (.t n8) (.t n10)) u11 <| e ?_
  refine cnd n11 (fun h1 => ?_) (fun h1 => ?_)
  ·
    replace h1 := of_decide_eq_true h1
    refine skp ?_
    refine sq ?_
    refine bk ?_
    refine rg <| m (mv (.t n3)) u14 <| m (mv (.t n4)) u15 <| m (mv (.t n0)) u16 <| m (mv (.t n4)) u17 <| m (ixm T.s228 (Int.natCast_nonneg _) (gi (by omega)) (.t n16) (.t n17)) u18 <| m (lae T.a258 k4 (.t n18)) u19 <| c (call (sp_laws_toCredential _) (.c (.t n19) rfl .n)) u20 <| m (oix T.s121 n0 (Int.natCast_nonneg _) (by rw [Int.toNat_natCast, pref_len (by omega)]; omega) (.t n14) (.t n15)) u21 <| k (stoA rfl (by rw [Int.toNat_natCast, pref_len (by omega)]; omega) T.a125 rfl rfl rfl n0 q0 (.t n21) (.t n20)) <| e ?_
    refine rg <| m (mv (.t n4)) u12 <| m (add (.t n12) (.i rfl)) u13 <| m (as_ (.t n13)) u4 <| e ?_
    exact ⟨i + 1, (by omega), (by omega), le [0] (by decide) (.c (.e rfl rfl) (.c .a (.c (.e rfl rfl) (.c (.w n0) (.c (.e (wi (by omega)) rfl) (.c .a (.c .a (.c (.w n0) (.c .a (.c .a (.c .a (.c .a (.c .a (.c .a (.c .a (.c .a (.c .a (.c .a (.c .a (.c .a (.c .a (.c .a (.c .a .n))))))))))))))))))))))) (.r n0 (pref_set (by omega)) .n)⟩
  ·
    replace h1 := of_decide_eq_false h1
    refine ex (x1 ?_)
    refine sr <| m (mv (.t n3)) u22 <| m (as_ (.t n22)) u2 <| e ?_
    refine rt (ret1 (.t n2 (.o n0) .n) ?_)
    show V.slice _ _ = V.slice _ _
    rw [show i = l.length from by omega, pref_full]

theorem sp_laws_toAccount (x : D.Account) (hl : x.sz ≤ 1048576) : Spec Tryz.prog G0 162 [.agg (D.Account.V x)] (fun r => r = .agg x.V) := by
  simp only [D.Account.sz] at hl
  refine enter (l := [.cell 2 123]) Tryz.func162 rfl Tryz.ntmps162 rfl T.en162 fun E => ?_
  simp only [List.length_cons, List.length_nil, List.replicate_succ, List.replicate_zero, List.cons_append, List.nil_append, Nat.reduceAdd, Nat.reduceSub]
  refine sr <| k (bx rfl s0 u1 (.t n0)) <| k (al T.z123 s1 u2) <| e ?_
  refine sr <| k (al T.z123 s2 u3) <| e ?_
  refine sr <| m (fab 0 rfl T.f230_0 (.t n1)) u4 <| m (ldb T.o3 n0 n0 (.t n4)) u5 <| m (fab 0 rfl T.f123_0 (.t n3)) u6 <| k (st1 T.o3 rfl n2 u0 q2 (.t n6) (.t n5)) <| e ?_
  refine sr <| m (fab 1 rfl T.f230_1 (.t n1)) u7 <| m (ldb T.o3 n0 n1 (.t n7)) u8 <| m (fab 1 rfl T.f123_1 (.t n3)) u9 <| k (st1 T.o3 rfl n2 u1 q2 (.t n9) (.t n8)) <| e ?_
  refine sr <| m (fab 2 rfl T.f230_2 (.t n1)) u10 <| m (ldb T.o228 n0 n2 (.t n10)) u11 <| c (call (sp_laws_toCredentialS _ (by first | assumption | omega)) (.c (.t n11) rfl .n)) u12 <| m (fab 2 rfl T.f123_2 (.t n3)) u13 <| k (st1 T.o121 rfl n2 u2 q2 (.t n13) (.t n12)) <| e ?_
  refine sr <| m (lab T.a123 n2 d0 k3 (.t n3)) u14 <| k (sta T.a123 rfl rfl n1 (.z (.z (.z .n))) q1 (.t n2) (.t n14)) <| e ?_
  refine rt (ret1 (.a n2 T.a123 n1 rfl (.c (.p rfl) (.c (.p rfl) (.c (.p rfl) .n))) .n) ?_)
  rfl

theorem sp_laws_toAccountS (l : List D.Account) (hl : l.length + (l.map D.Account.sz).sum ≤ 1048576) : Spec Tryz.prog G0 128 [.slice 3 (l.map D.Account.V)] (fun r => r = .slice 3 (l.map D.Account.V)) := by
  have hmem : ∀ (j : Nat) (h : j < l.length), (l[j]'h).sz ≤ (l.map D.Account.sz).sum := fun j h => sum_mem D.Account.sz l _ (List.getElem_mem h)
  refine enter (l := [.tmp 2]) Tryz.func128 rfl Tryz.ntmps128 rfl T.en128 fun E => ?_
  simp only [List.length_cons, List.length_nil, List.replicate_succ, List.replicate_zero, List.cons_append, List.nil_append, Nat.reduceAdd, Nat.reduceSub]
  refine sr <| m (as_ .n) u2 <| e ?_
  refine sr <| m (mv (.t n0)) u5 <| m (lenm T.s140 (.t n5)) u6 <| k (mk_ T.s115 T.z123 (by omega) (by omega) s0 u7 (.t n6) (.t n6)) <| m (as_ (.t n7)) u3 <| e ?_
  refine sq ?_
  refine sr <| m (as_ (.i rfl)) u4 <| e ?_
  refine bk ?_
  refine lp (fun i : Nat => ⟨[.slice 3 (l.map D.Account.V), .any, .nil, .own 0, .int .i64 (i : Int), .any, .any, .own 0, .any, .any, .any, .any, .any, .any, .any, .any, .any, .any, .any, .any, .any, .any, .any], [.row 123 3 (pref D.Account.V l [.int .i64 0, .int .i64 0, .nil] i)]⟩) (fun i : Nat => i ≤ l.length) (fun i : Nat => l.length - i) (0) (by simp) (le [0] (by decide) (.c (.e rfl rfl) (.c .a (.c (.e rfl rfl) (.c (.w n0) (.c (.e rfl rfl) (.c .a (.c .a (.c (.w n0) (.c .a (.c .a (.c .a (.c .a (.c .a (.c .a (.c .a (.c .a (.c .a (.c .a (.c .a (.c .a (.c .a (.c .a (.c .a .n))))))))))))))))))))))) (.r n0 (pref_0 _ _ _).symm .n)) ?_
  rintro i hJ
  try dsimp only at hJ ⊢
  refine sq ?_
  refine sr <| m (mv (.t n4)) u8 <| m (mv (.t n0)) u9 <| m (lenm T.s140 (.t n9)) u10 <| m (lss (.t n8) (.t n10)) u11 <| e ?_
  refine cnd n11 (fun h1 => ?_) (fun h1 => ?_)
  ·
    replace h1 := of_decide_eq_true h1
    refine skp ?_
    refine sq ?_
    refine bk ?_
    refine rg <| m (mv (.t n3)) u14 <| m (mv (.t n4)) u15 <| m (mv (.t n0)) u16 <| m (mv (.t n4)) u17 <| m (ixm T.s140 (Int.natCast_nonneg _) (gi (by omega)) (.t n16) (.t n17)) u18 <| m (lae T.a230 k3 (.t n18)) u19 <| c (call (sp_laws_toAccount _ (by have := hmem i (by omega); omega)) (.c (.t n19) rfl .n)) u20 <| m (oix T.s115 n0 (Int.natCast_nonneg _) (by rw [Int.toNat_natCast, pref_len (by omega)]; omega) (.t n14) (.t n15)) u21 <| k (stoA rfl (by rw [Int.toNat_natCast, pref_len (by omega)]; omega) T.a123 rfl rfl rfl n0 q0 (.t n21) (.t n20)) <| e ?_
    refine rg <| m (mv (.t n4)) u12 <| m (add (.t n12) (.i rfl)) u13 <| m (as_ (.t n13)) u4 <| e ?_
    exact ⟨i + 1, (by omega), (by omega), le [0] (by decide) (.c (.e rfl rfl) (.c .a (.c (.e rfl rfl) (.c (.w n0) (.c (.e (wi (by omega)) rfl) (.c .a (.c .a (.c (.w n0) (.c .a (.c .a (.c .a (.c .a (.c .a (.c .a (.c .a (.c .a (.c .a (.c .a (.c .a (.c .a (.c .a (.c .a (.c .a .n))))))))))))))))))))))) (.r n0 (pref_set (by omega)) .n)⟩
  ·
    replace h1 := of_decide_eq_false h1
    refine ex (x1 ?_)
    refine sr <| m (mv (.t n3)) u22 <| m (as_ (.t n22)) u2 <| e ?_
    refine rt (ret1 (.t n2 (.o n0) .n) ?_)
    show V.slice _ _ = V.slice _ _
    rw [show i = l.length from by omega, pref_full]

theorem sp_laws_toChallenge (x : D.Challenge) : Spec Tryz.prog G0 182 [.agg (D.Challenge.V x)] (fun r => r = .agg x.V) := by
  refine enter (l := [.cell 2 251]) Tryz.func182 rfl Tryz.ntmps182 rfl T.en182 fun E => ?_
  simp only [List.length_cons, List.length_nil, List.replicate_succ, List.replicate_zero, List.cons_append, List.nil_append, Nat.reduceAdd, Nat.reduceSub]
  refine sr <| k (bx rfl s0 u1 (.t n0)) <| k (al T.z251 s1 u2) <| e ?_
  refine sr <| k (al T.z251 s2 u3) <| e ?_
  refine sr <| m (fab 0 rfl T.f253_0 (.t n1)) u4 <| m (ldb T.o3 n0 n0 (.t n4)) u5 <| m (fab 0 rfl T.f251_0 (.t n3)) u6 <| k (st1 T.o3 rfl n2 u0 q2 (.t n6) (.t n5)) <| e ?_
  refine sr <| m (fab 1 rfl T.f253_1 (.t n1)) u7 <| m (ldb T.o3 n0 n1 (.t n7)) u8 <| m (fab 1 rfl T.f251_1 (.t n3)) u9 <| k (st1 T.o3 rfl n2 u1 q2 (.t n9) (.t n8)) <| e ?_
  refine sr <| m (fab 2 rfl T.f253_2 (.t n1)) u10 <| m (ldb T.o3 n0 n2 (.t n10)) u11 <| m (fab 2 rfl T.f251_2 (.t n3)) u12 <| k (st1 T.o3 rfl n2 u2 q2 (.t n12) (.t n11)) <| e ?_
  refine sr <| m (lab T.a251 n2 d0 k3 (.t n3)) u13 <| k (sta T.a251 rfl rfl n1 (.z (.z (.z .n))) q1 (.t n2) (.t n13)) <| e ?_
  refine rt (ret1 (.a n2 T.a251 n1 rfl (.c (.p rfl) (.c (.p rfl) (.c (.p rfl) .n))) .n) ?_)
  rfl

theorem sp_laws_toChallengeS (l : List D.Challenge) (hl : l.length ≤ 1048576) : Spec Tryz.prog G0 163 [.slice 3 (l.map D.Challenge.V)] (fun r => r = .slice 3 (l.map D.Challenge.V)) := by
  refine enter (l := [.tmp 2]) Tryz.func163 rfl Tryz.ntmps163 rfl T.en163 fun E => ?_
  simp only [List.length_cons, List.length_nil, List.replicate_succ, List.replicate_zero, List.cons_append, List.nil_append, Nat.reduceAdd, Nat.reduceSub]
  refine sr <| m (as_ .n) u2 <| e ?_
  refine sr <| m (mv (.t n0)) u5 <| m (lenm T.s141 (.t n5)) u6 <| k (mk_ T.s116 T.z251 (by omega) (by omega) s0 u7 (.t n6) (.t n6)) <| m (as_ (.t n7)) u3 <| e ?_
  refine sq ?_
  refine sr <| m (as_ (.i rfl)) u4 <| e ?_
  refine bk ?_
  refine lp (fun i : Nat => ⟨[.slice 3 (l.map D.Challenge.V), .any, .nil, .own 0, .int .i64 (i : Int), .any, .any, .own 0, .any, .any, .any, .any, .any, .any, .any, .any, .any, .any, .any, .any, .any, .any, .any], [.row 251 3 (pref D.Challenge.V l [.int .i64 0, .int .i64 0, .int .i64 0] i)]⟩) (fun i : Nat => i ≤ l.length) (fun i : Nat => l.length - i) (0) (by simp) (le [0] (by decide) (.c (.e rfl rfl) (.c .a (.c (.e rfl rfl) (.c (.w n0) (.c (.e rfl rfl) (.c .a (.c .a (.c (.w n0) (.c .a (.c .a (.c .a (.c .a (.c .a (.c .a (.c .a (.c .a (.c .a (.c .a (.c .a (.c .a (.c .a (.c .a (.c .a .n))))))))))))))))))))))) (.r n0 (pref_0 _ _ _).symm .n)) ?_
  rintro i hJ
  try dsimp only at hJ ⊢
  refine sq ?_
  refine sr <| m (mv (.t n4)) u8 <| m (mv (.t n0)) u9 <| m (lenm T.s141 (.t n9)) u10 <| m (lss (.t n8) (.t n10)) u11 <| e ?_
  refine cnd n11 (fun h1 => ?_) (fun h1 => ?_)
  ·
    replace h1 := of_decide_eq_true h1
    refine skp ?_
    refine sq ?_
    refine bk ?_
    refine rg <| m (mv (.t n3)) u14 <| m (mv (.t n4)) u15 <| m (mv (.t n0)) u16 <| m (mv (.t n4)) u17 <| m (ixm T.s141 (Int.natCast_nonneg _) (gi (by omega)) (.t n16) (.t n17)) u18 <| m (lae T.a253 k3 (.t n18)) u19 <| c (call (sp_laws_toChallenge _) (.c (.t n19) rfl .n)) u20 <| m (oix T.s116 n0 (Int.natCast_nonneg _) (by rw [Int.toNat_natCast, pref_len (by omega)]; omega) (.t n14) (.t n15)) u21 <| k (stoA rfl (by rw [Int.toNat_natCast, pref_len (by omega)]; omega) T.a251 rfl rfl rfl n0 q0 (.t n21) (.t n20)) <| e ?_
    refine rg <| m (mv (.t n4)) u12 <| m (add (.t n12) (.i rfl)) u13 <| m (as_ (.t n13)) u4 <| e ?_
    exact ⟨i + 1, (by omega), (by omega), le [0] (by decide) (.c (.e rfl rfl) (.c .a (.c (.e rfl rfl) (.c (.w n0) (.c (.e (wi (by omega)) rfl) (.c .a (.c .a (.c (.w n0) (.c .a (.c .a (.c .a (.c .a (.c .a (.c .a (.c .a (.c .a (.c .a (.c .a (.c .a (.c .a (.c .a (.c .a (.c .a .n))))))))))))))))))))))) (.r n0 (pref_set (by omega)) .n)⟩
  ·
    replace h1 := of_decide_eq_false h1
    refine ex (x1 ?_)
    refine sr <| m (mv (.t n3)) u22 <| m (as_ (.t n22)) u2 <| e ?_
    refine rt (ret1 (.t n2 (.o n0) .n) ?_)
    show V.slice _ _ = V.slice _ _
    rw [show i = l.length from by omega, pref_full]

theorem sp_laws_toChallengeBook (x : D.ChallengeBook) (hl : x.sz ≤ 1048576) : Spec Tryz.prog G0 129 [.agg (D.ChallengeBook.V x)] (fun r => r = .agg x.V) := by
  simp only [D.ChallengeBook.sz] at hl
  refine enter (l := [.cell 2 118]) Tryz.func129 rfl Tryz.ntmps129 rfl T.en129 fun E => ?_
  simp only [List.length_cons, List.length_nil, List.replicate_succ, List.replicate_zero, List.cons_append, List.nil_append, Nat.reduceAdd, Nat.reduceSub]
  refine sr <| k (bx rfl s0 u1 (.t n0)) <| k (al T.z118 s1 u2) <| e ?_
  refine sr <| k (al T.z118 s2 u3) <| e ?_
  refine sr <| m (fab 0 rfl T.f143_0 (.t n1)) u4 <| m (ldb T.o3 n0 n0 (.t n4)) u5 <| m (fab 0 rfl T.f118_0 (.t n3)) u6 <| k (st1 T.o3 rfl n2 u0 q2 (.t n6) (.t n5)) <| e ?_
  refine sr <| m (fab 1 rfl T.f143_1 (.t n1)) u7 <| m (ldb T.o3 n0 n1 (.t n7)) u8 <| m (fab 1 rfl T.f118_1 (.t n3)) u9 <| k (st1 T.o3 rfl n2 u1 q2 (.t n9) (.t n8)) <| e ?_
  refine sr <| m (fab 2 rfl T.f143_2 (.t n1)) u10 <| m (ldb T.o141 n0 n2 (.t n10)) u11 <| c (call (sp_laws_toChallengeS _ (by first | assumption | omega)) (.c (.t n11) rfl .n)) u12 <| m (fab 2 rfl T.f118_2 (.t n3)) u13 <| k (st1 T.o116 rfl n2 u2 q2 (.t n13) (.t n12)) <| e ?_
  refine sr <| m (lab T.a118 n2 d0 k3 (.t n3)) u14 <| k (sta T.a118 rfl rfl n1 (.z (.z (.z .n))) q1 (.t n2) (.t n14)) <| e ?_
  refine rt (ret1 (.a n2 T.a118 n1 rfl (.c (.p rfl) (.c (.p rfl) (.c (.p rfl) .n))) .n) ?_)
  rfl

theorem sp_laws_toIntS (l : List Int) (hl : l.length ≤ 1048576) : Spec Tryz.prog G0 130 [.slice 1 (l.map iV)] (fun r => r = .slice 1 (l.map iV)) := by
  refine enter (l := [.tmp 2]) Tryz.func130 rfl Tryz.ntmps130 rfl T.en130 fun E => ?_
  simp only [List.length_cons, List.length_nil, List.replicate_succ, List.replicate_zero, List.cons_append, List.nil_append, Nat.reduceAdd, Nat.reduceSub]
  refine sr <| m (as_ .n) u2 <| e ?_
  refine sr <| m (mv (.t n0)) u5 <| m (lenm T.s95 (.t n5)) u6 <| k (mk_ T.s95 T.z3 (by omega) (by omega) s0 u7 (.t n6) (.t n6)) <| m (as_ (.t n7)) u3 <| e ?_
  refine sq ?_
  refine sr <| m (as_ (.i rfl)) u4 <| e ?_
  refine bk ?_
  refine lp (fun i : Nat => ⟨[.slice 1 (l.map iV), .any, .nil, .own 0, .int .i64 (i : Int), .any, .any, .own 0, .any, .any, .any, .any, .any, .any, .any, .any, .any, .any, .any, .any, .any, .any], [.row 3 1 (pref iV l [.int .i64 0] i)]⟩) (fun i : Nat => i ≤ l.length) (fun i : Nat => l.length - i) (0) (by simp) (le [0] (by decide) (.c (.e rfl rfl) (.c .a (.c (.e rfl rfl) (.c (.w n0) (.c (.e rfl rfl) (.c .a (.c .a (.c (.w n0) (.c .a (.c .a (.c .a (.c .a (.c .a (.c .a (.c .a (.c .a (.c .a (.c .a (.c .a (.c .a (.c .a (.c .a .n)))))))))))))))))))))) (.r n0 (pref_0 _ _ _).symm .n)) ?_
  rintro i hJ
  try dsimp only at hJ ⊢
  refine sq ?_
  refine sr <| m (mv (.t n4)) u8 <| m (mv (.t n0)) u9 <| m (lenm T.s95 (.t n9)) u10 <| m (lss (.t n8) (.t n10)) u11 <| e ?_
  refine cnd n11 (fun h1 => ?_) (fun h1 => ?_)
  ·
    replace h1 := of_decide_eq_true h1
    refine skp ?_
    refine sq ?_
    refine bk ?_
    refine rg <| m (mv (.t n3)) u14 <| m (mv (.t n4)) u15 <| m (mv (.t n0)) u16 <| m (mv (.t n4)) u17 <| m (ixm T.s95 (Int.natCast_nonneg _) (gi (by omega)) (.t n16) (.t n17)) u18 <| m (lde T.o3 n0 (.t n18)) u19 <| m (oix T.s95 n0 (Int.natCast_nonneg _) (by rw [Int.toNat_natCast, pref_len (by omega)]; omega) (.t n14) (.t n15)) u20 <| k (stoO rfl (by rw [Int.toNat_natCast, pref_len (by omega)]; omega) T.o3 rfl rfl rfl n0 q0 (.t n20) (.t n19)) <| e ?_
    refine rg <| m (mv (.t n4)) u12 <| m (add (.t n12) (.i rfl)) u13 <| m (as_ (.t n13)) u4 <| e ?_
    exact ⟨i + 1, (by omega), (by omega), le [0] (by decide) (.c (.e rfl rfl) (.c .a (.c (.e rfl rfl) (.c (.w n0) (.c (.e (wi (by omega)) rfl) (.c .a (.c .a (.c (.w n0) (.c .a (.c .a (.c .a (.c .a (.c .a (.c .a (.c .a (.c .a (.c .a (.c .a (.c .a (.c .a (.c .a (.c .a .n)))))))))))))))))))))) (.r n0 (pref_set (by omega)) .n)⟩
  ·
    replace h1 := of_decide_eq_false h1
    refine ex (x1 ?_)
    refine sr <| m (mv (.t n3)) u21 <| m (as_ (.t n21)) u2 <| e ?_
    refine rt (ret1 (.t n2 (.o n0) .n) ?_)
    show V.slice _ _ = V.slice _ _
    rw [show i = l.length from by omega, pref_full]

theorem sp_laws_toSite (x : D.Site) (hl : x.sz ≤ 1048576) : Spec Tryz.prog G0 86 [.agg (D.Site.V x)] (fun r => r = .agg x.V) := by
  simp only [D.Site.sz] at hl
  refine enter (l := [.cell 2 120]) Tryz.func86 rfl Tryz.ntmps86 rfl T.en86 fun E => ?_
  simp only [List.length_cons, List.length_nil, List.replicate_succ, List.replicate_zero, List.cons_append, List.nil_append, Nat.reduceAdd, Nat.reduceSub]
  refine sr <| k (bx rfl s0 u1 (.t n0)) <| k (al T.z120 s1 u2) <| e ?_
  refine sr <| k (al T.z120 s2 u3) <| e ?_
  refine sr <| m (fab 0 rfl T.f145_0 (.t n1)) u4 <| m (ldb T.o9 n0 n0 (.t n4)) u5 <| m (fab 0 rfl T.f120_0 (.t n3)) u6 <| k (st1 T.o9 rfl n2 u0 q2 (.t n6) (.t n5)) <| e ?_
  refine sr <| m (fab 1 rfl T.f145_1 (.t n1)) u7 <| m (ldb T.o140 n0 n1 (.t n7)) u8 <| c (call (sp_laws_toAccountS _ (by first | assumption | omega)) (.c (.t n8) rfl .n)) u9 <| m (fab 1 rfl T.f120_1 (.t n3)) u10 <| k (st1 T.o115 rfl n2 u1 q2 (.t n10) (.t n9)) <| e ?_
  refine sr <| m (fab 2 rfl T.f145_2 (.t n1)) u11 <| m (lab T.a143 n0 d2 k3 (.t n11)) u12 <| c (call (sp_laws_toChallengeBook _ (by first | assumption | (simp only [D.Box.sz, D.EpochBoxes.sz, D.LogEntry.sz, D.SealedBundle.sz, D.Cloud.sz, D.Vault.sz, D.Notice.sz, D.Mailbox.sz, D.KeyStore.sz, D.Entry.sz, D.Bundle.sz, D.Device.sz, D.Credential.sz, D.Account.sz, D.Challenge.sz, D.ChallengeBook.sz, D.Site.sz, D.Share.sz, D.Keeper.sz, D.KeeperHost.sz, D.World.sz] at *; omega))) (.c (.t n12) rfl .n)) u13 <| m (fab 2 rfl T.f120_2 (.t n3)) u14 <| k (sta T.a118 rfl rfl n2 (.s (.s (.z (.z (.z .n))))) q2 (.t n14) (.t n13)) <| e ?_
  refine sr <| m (fab 5 rfl T.f145_3 (.t n1)) u15 <| m (ldb T.o95 n0 n5 (.t n15)) u16 <| c (call (sp_laws_toIntS _ (by first | assumption | omega)) (.c (.t n16) rfl .n)) u17 <| m (fab 5 rfl T.f120_3 (.t n3)) u18 <| k (st1 T.o95 rfl n2 u5 q2 (.t n18) (.t n17)) <| e ?_
  refine sr <| m (lab T.a120 n2 d0 k6 (.t n3)) u19 <| k (sta T.a120 rfl rfl n1 (.z (.z (.z (.z (.z (.z .n)))))) q1 (.t n2) (.t n19)) <| e ?_
  refine rt (ret1 (.a n2 T.a120 n1 rfl (.c (.p rfl) (.c (.p rfl) (.c (.p rfl) (.c (.p rfl) (.c (.p rfl) (.c (.p rfl) .n)))))) .n) ?_)
  rfl

theorem sp_laws_toSiteS (l : List D.Site) (hl : l.length + (l.map D.Site.sz).sum ≤ 1048576) : Spec Tryz.prog G0 40 [.slice 6 (l.map D.Site.V)] (fun r => r = .slice 6 (l.map D.Site.V)) := by
  have hmem : ∀ (j : Nat) (h : j < l.length), (l[j]'h).sz ≤ (l.map D.Site.sz).sum := fun j h => sum_mem D.Site.sz l _ (List.getElem_mem h)
  refine enter (l := [.tmp 2]) Tryz.func40 rfl Tryz.ntmps40 rfl T.en40 fun E => ?_
  simp only [List.length_cons, List.length_nil, List.replicate_succ, List.replicate_zero, List.cons_append, List.nil_append, Nat.reduceAdd, Nat.reduceSub]
  refine sr <| m (as_ .n) u2 <| e ?_
  refine sr <| m (mv (.t n0)) u5 <| m (lenm T.s31 (.t n5)) u6 <| k (mk_ T.s50 T.z120 (by omega) (by omega) s0 u7 (.t n6) (.t n6)) <| m (as_ (.t n7)) u3 <| e ?_
  refine sq ?_
  refine sr <| m (as_ (.i rfl)) u4 <| e ?_
  refine bk ?_
  refine lp (fun i : Nat => ⟨[.slice 6 (l.map D.Site.V), .any, .nil, .own 0, .int .i64 (i : Int), .any, .any, .own 0, .any, .any, .any, .any, .any, .any, .any, .any, .any, .any, .any, .any, .any, .any, .any], [.row 120 6 (pref D.Site.V l [.str ⟨#[]⟩, .nil, .int .i64 0, .int .i64 0, .nil, .nil] i)]⟩) (fun i : Nat => i ≤ l.length) (fun i : Nat => l.length - i) (0) (by simp) (le [0] (by decide) (.c (.e rfl rfl) (.c .a (.c (.e rfl rfl) (.c (.w n0) (.c (.e rfl rfl) (.c .a (.c .a (.c (.w n0) (.c .a (.c .a (.c .a (.c .a (.c .a (.c .a (.c .a (.c .a (.c .a (.c .a (.c .a (.c .a (.c .a (.c .a (.c .a .n))))))))))))))))))))))) (.r n0 (pref_0 _ _ _).symm .n)) ?_
  rintro i hJ
  try dsimp only at hJ ⊢
  refine sq ?_
  refine sr <| m (mv (.t n4)) u8 <| m (mv (.t n0)) u9 <| m (lenm T.s31 (.t n9)) u10 <| m (lss (.t n8) (.t n10)) u11 <| e ?_
  refine cnd n11 (fun h1 => ?_) (fun h1 => ?_)
  ·
    replace h1 := of_decide_eq_true h1
    refine skp ?_
    refine sq ?_
    refine bk ?_
    refine rg <| m (mv (.t n3)) u14 <| m (mv (.t n4)) u15 <| m (mv (.t n0)) u16 <| m (mv (.t n4)) u17 <| m (ixm T.s31 (Int.natCast_nonneg _) (gi (by omega)) (.t n16) (.t n17)) u18 <| m (lae T.a145 k6 (.t n18)) u19 <| c (call (sp_laws_toSite _ (by have := hmem i (by omega); omega)) (.c (.t n19) rfl .n)) u20 <| m (oix T.s50 n0 (Int.natCast_nonneg _) (by rw [Int.toNat_natCast, pref_len (by omega)]; omega) (.t n14) (.t n15)) u21 <| k (stoA rfl (by rw [Int.toNat_natCast, pref_len (by omega)]; omega) T.a120 rfl rfl rfl n0 q0 (.t n21) (.t n20)) <| e ?_
    refine rg <| m (mv (.t n4)) u12 <| m (add (.t n12) (.i rfl)) u13 <| m (as_ (.t n13)) u4 <| e ?_
    exact ⟨i + 1, (by omega), (by omega), le [0] (by decide) (.c (.e rfl rfl) (.c .a (.c (.e rfl rfl) (.c (.w n0) (.c (.e (wi (by omega)) rfl) (.c .a (.c .a (.c (.w n0) (.c .a (.c .a (.c .a (.c .a (.c .a (.c .a (.c .a (.c .a (.c .a (.c .a (.c .a (.c .a (.c .a (.c .a (.c .a .n))))))))))))))))))))))) (.r n0 (pref_set (by omega)) .n)⟩
  ·
    replace h1 := of_decide_eq_false h1
    refine ex (x1 ?_)
    refine sr <| m (mv (.t n3)) u22 <| m (as_ (.t n22)) u2 <| e ?_
    refine rt (ret1 (.t n2 (.o n0) .n) ?_)
    show V.slice _ _ = V.slice _ _
    rw [show i = l.length from by omega, pref_full]

theorem sp_laws_toVault (x : D.Vault) : Spec Tryz.prog G0 41 [.agg (D.Vault.V x)] (fun r => r = .agg x.V) := by
  refine enter (l := [.cell 2 51]) Tryz.func41 rfl Tryz.ntmps41 rfl T.en41 fun E => ?_
  simp only [List.length_cons, List.length_nil, List.replicate_succ, List.replicate_zero, List.cons_append, List.nil_append, Nat.reduceAdd, Nat.reduceSub]
  refine sr <| k (bx rfl s0 u1 (.t n0)) <| k (al T.z51 s1 u2) <| e ?_
  refine sr <| k (al T.z51 s2 u3) <| e ?_
  refine sr <| m (fab 0 rfl T.f33_0 (.t n1)) u4 <| m (ldb T.o3 n0 n0 (.t n4)) u5 <| m (fab 0 rfl T.f51_0 (.t n3)) u6 <| k (st1 T.o3 rfl n2 u0 q2 (.t n6) (.t n5)) <| e ?_
  refine sr <| m (fab 1 rfl T.f33_1 (.t n1)) u7 <| m (ldb T.o3 n0 n1 (.t n7)) u8 <| m (fab 1 rfl T.f51_1 (.t n3)) u9 <| k (st1 T.o3 rfl n2 u1 q2 (.t n9) (.t n8)) <| e ?_
  refine sr <| m (fab 2 rfl T.f33_2 (.t n1)) u10 <| m (ldb T.o3 n0 n2 (.t n10)) u11 <| m (fab 2 rfl T.f51_2 (.t n3)) u12 <| k (st1 T.o3 rfl n2 u2 q2 (.t n12) (.t n11)) <| e ?_
  refine sr <| m (fab 3 rfl T.f33_3 (.t n1)) u13 <| m (ldb T.o3 n0 n3 (.t n13)) u14 <| m (fab 3 rfl T.f51_3 (.t n3)) u15 <| k (st1 T.o3 rfl n2 u3 q2 (.t n15) (.t n14)) <| e ?_
  refine sr <| m (lab T.a51 n2 d0 k4 (.t n3)) u16 <| k (sta T.a51 rfl rfl n1 (.z (.z (.z (.z .n)))) q1 (.t n2) (.t n16)) <| e ?_
  refine rt (ret1 (.a n2 T.a51 n1 rfl (.c (.p rfl) (.c (.p rfl) (.c (.p rfl) (.c (.p rfl) .n)))) .n) ?_)
  rfl

theorem sp_laws_toShare (x : D.Share) : Spec Tryz.prog G0 164 [.agg (D.Share.V x)] (fun r => r = .agg x.V) := by
  refine enter (l := [.cell 2 73]) Tryz.func164 rfl Tryz.ntmps164 rfl T.en164 fun E => ?_
  simp only [List.length_cons, List.length_nil, List.replicate_succ, List.replicate_zero, List.cons_append, List.nil_append, Nat.reduceAdd, Nat.reduceSub]
  refine sr <| k (bx rfl s0 u1 (.t n0)) <| k (al T.z73 s1 u2) <| e ?_
  refine sr <| k (al T.z73 s2 u3) <| e ?_
  refine sr <| m (fab 0 rfl T.f147_0 (.t n1)) u4 <| m (ldb T.o3 n0 n0 (.t n4)) u5 <| m (fab 0 rfl T.f73_0 (.t n3)) u6 <| k (st1 T.o3 rfl n2 u0 q2 (.t n6) (.t n5)) <| e ?_
  refine sr <| m (fab 1 rfl T.f147_1 (.t n1)) u7 <| m (ldb T.o3 n0 n1 (.t n7)) u8 <| m (fab 1 rfl T.f73_1 (.t n3)) u9 <| k (st1 T.o3 rfl n2 u1 q2 (.t n9) (.t n8)) <| e ?_
  refine sr <| m (lab T.a73 n2 d0 k2 (.t n3)) u10 <| k (sta T.a73 rfl rfl n1 (.z (.z .n)) q1 (.t n2) (.t n10)) <| e ?_
  refine rt (ret1 (.a n2 T.a73 n1 rfl (.c (.p rfl) (.c (.p rfl) .n)) .n) ?_)
  rfl

theorem sp_laws_toKeeper (x : D.Keeper) : Spec Tryz.prog G0 131 [.agg (D.Keeper.V x)] (fun r => r = .agg x.V) := by
  refine enter (l := [.cell 2 75]) Tryz.func131 rfl Tryz.ntmps131 rfl T.en131 fun E => ?_
  simp only [List.length_cons, List.length_nil, List.replicate_succ, List.replicate_zero, List.cons_append, List.nil_append, Nat.reduceAdd, Nat.reduceSub]
  refine sr <| k (bx rfl s0 u1 (.t n0)) <| k (al T.z75 s1 u2) <| e ?_
  refine sr <| k (al T.z75 s2 u3) <| e ?_
  refine sr <| m (fab 0 rfl T.f149_0 (.t n1)) u4 <| m (lab T.a147 n0 d0 k2 (.t n4)) u5 <| c (call (sp_laws_toShare _) (.c (.t n5) rfl .n)) u6 <| m (fab 0 rfl T.f75_0 (.t n3)) u7 <| k (sta T.a73 rfl rfl n2 (.z (.z .n)) q2 (.t n7) (.t n6)) <| e ?_
  refine sr <| m (fab 2 rfl T.f149_1 (.t n1)) u8 <| m (ldb T.o3 n0 n2 (.t n8)) u9 <| m (fab 2 rfl T.f75_1 (.t n3)) u10 <| k (st1 T.o3 rfl n2 u2 q2 (.t n10) (.t n9)) <| e ?_
  refine sr <| m (fab 3 rfl T.f149_2 (.t n1)) u11 <| m (ldb T.o3 n0 n3 (.t n11)) u12 <| m (fab 3 rfl T.f75_2 (.t n3)) u13 <| k (st1 T.o3 rfl n2 u3 q2 (.t n13) (.t n12)) <| e ?_
  refine sr <| m (fab 4 rfl T.f149_3 (.t n1)) u14 <| m (ldb T.o3 n0 n4 (.t n14)) u15 <| m (fab 4 rfl T.f75_3 (.t n3)) u16 <| k (st1 T.o3 rfl n2 u4 q2 (.t n16) (.t n15)) <| e ?_
  refine sr <| m (lab T.a75 n2 d0 k5 (.t n3)) u17 <| k (sta T.a75 rfl rfl n1 (.z (.z (.z (.z (.z .n))))) q1 (.t n2) (.t n17)) <| e ?_
  refine rt (ret1 (.a n2 T.a75 n1 rfl (.c (.p rfl) (.c (.p rfl) (.c (.p rfl) (.c (.p rfl) (.c (.p rfl) .n))))) .n) ?_)
  rfl

theorem sp_laws_toKeeperS (l : List D.Keeper) (hl : l.length ≤ 1048576) : Spec Tryz.prog G0 132 [.slice 5 (l.map D.Keeper.V)] (fun r => r = .slice 5 (l.map D.Keeper.V)) := by
  refine enter (l := [.tmp 2]) Tryz.func132 rfl Tryz.ntmps132 rfl T.en132 fun E => ?_
  simp only [List.length_cons, List.length_nil, List.replicate_succ, List.replicate_zero, List.cons_append, List.nil_append, Nat.reduceAdd, Nat.reduceSub]
  refine sr <| m (as_ .n) u2 <| e ?_
  refine sr <| m (mv (.t n0)) u5 <| m (lenm T.s150 (.t n5)) u6 <| k (mk_ T.s76 T.z75 (by omega) (by omega) s0 u7 (.t n6) (.t n6)) <| m (as_ (.t n7)) u3 <| e ?_
  refine sq ?_
  refine sr <| m (as_ (.i rfl)) u4 <| e ?_
  refine bk ?_
  refine lp (fun i : Nat => ⟨[.slice 5 (l.map D.Keeper.V), .any, .nil, .own 0, .int .i64 (i : Int), .any, .any, .own 0, .any, .any, .any, .any, .any, .any, .any, .any, .any, .any, .any, .any, .any, .any, .any], [.row 75 5 (pref D.Keeper.V l [.int .i64 0, .int .i64 0, .int .i64 0, .int .i64 0, .int .i64 0] i)]⟩) (fun i : Nat => i ≤ l.length) (fun i : Nat => l.length - i) (0) (by simp) (le [0] (by decide) (.c (.e rfl rfl) (.c .a (.c (.e rfl rfl) (.c (.w n0) (.c (.e rfl rfl) (.c .a (.c .a (.c (.w n0) (.c .a (.c .a (.c .a (.c .a (.c .a (.c .a (.c .a (.c .a (.c .a (.c .a (.c .a (.c .a (.c .a (.c .a (.c .a .n))))))))))))))))))))))) (.r n0 (pref_0 _ _ _).symm .n)) ?_
  rintro i hJ
  try dsimp only at hJ ⊢
  refine sq ?_
  refine sr <| m (mv (.t n4)) u8 <| m (mv (.t n0)) u9 <| m (lenm T.s150 (.t n9)) u10 <| m (lss (.t n8) (.t n10)) u11 <| e ?_
  refine cnd n11 (fun h1 => ?_) (fun h1 => ?_)
  ·
    replace h1 := of_decide_eq_true h1
    refine skp ?_
    refine sq ?_
    refine bk ?_
    refine rg <| m (mv (.t n3)) u14 <| m (mv (.t n4)) u15 <| m (mv (.t n0)) u16 <| m (mv (.t n4)) u17 <| m (ixm T.s150 (Int.natCast_nonneg _) (gi (by omega)) (.t n16) (.t n17)) u18 <| m (lae T.a149 k5 (.t n18)) u19 <| c (call (sp_laws_toKeeper _) (.c (.t n19) rfl .n)) u20 <| m (oix T.s76 n0 (Int.natCast_nonneg _) (by rw [Int.toNat_natCast, pref_len (by omega)]; omega) (.t n14) (.t n15)) u21 <| k (stoA rfl (by rw [Int.toNat_natCast, pref_len (by omega)]; omega) T.a75 rfl rfl rfl n0 q0 (.t n21) (.t n20)) <| e ?_
    refine rg <| m (mv (.t n4)) u12 <| m (add (.t n12) (.i rfl)) u13 <| m (as_ (.t n13)) u4 <| e ?_
    exact ⟨i + 1, (by omega), (by omega), le [0] (by decide) (.c (.e rfl rfl) (.c .a (.c (.e rfl rfl) (.c (.w n0) (.c (.e (wi (by omega)) rfl) (.c .a (.c .a (.c (.w n0) (.c .a (.c .a (.c .a (.c .a (.c .a (.c .a (.c .a (.c .a (.c .a (.c .a (.c .a (.c .a (.c .a (.c .a (.c .a .n))))))))))))))))))))))) (.r n0 (pref_set (by omega)) .n)⟩
  ·
    replace h1 := of_decide_eq_false h1
    refine ex (x1 ?_)
    refine sr <| m (mv (.t n3)) u22 <| m (as_ (.t n22)) u2 <| e ?_
    refine rt (ret1 (.t n2 (.o n0) .n) ?_)
    show V.slice _ _ = V.slice _ _
    rw [show i = l.length from by omega, pref_full]

theorem sp_laws_toKeeperHost (x : D.KeeperHost) (hl : x.sz ≤ 1048576) : Spec Tryz.prog G0 87 [.agg (D.KeeperHost.V x)] (fun r => r = .agg x.V) := by
  simp only [D.KeeperHost.sz] at hl
  refine enter (l := [.cell 2 78]) Tryz.func87 rfl Tryz.ntmps87 rfl T.en87 fun E => ?_
  simp only [List.length_cons, List.length_nil, List.replicate_succ, List.replicate_zero, List.cons_append, List.nil_append, Nat.reduceAdd, Nat.reduceSub]
  refine sr <| k (bx rfl s0 u1 (.t n0)) <| k (al T.z78 s1 u2) <| e ?_
  refine sr <| k (al T.z78 s2 u3) <| e ?_
  refine sr <| m (fab 0 rfl T.f152_0 (.t n1)) u4 <| m (lab T.a149 n0 d0 k5 (.t n4)) u5 <| c (call (sp_laws_toKeeper _) (.c (.t n5) rfl .n)) u6 <| m (fab 0 rfl T.f78_0 (.t n3)) u7 <| k (sta T.a75 rfl rfl n2 (.z (.z (.z (.z (.z .n))))) q2 (.t n7) (.t n6)) <| e ?_
  refine sr <| m (fab 5 rfl T.f152_1 (.t n1)) u8 <| m (ldb T.o150 n0 n5 (.t n8)) u9 <| c (call (sp_laws_toKeeperS _ (by first | assumption | omega)) (.c (.t n9) rfl .n)) u10 <| m (fab 5 rfl T.f78_1 (.t n3)) u11 <| k (st1 T.o76 rfl n2 u5 q2 (.t n11) (.t n10)) <| e ?_
  refine sr <| m (fab 6 rfl T.f152_2 (.t n1)) u12 <| m (ldb T.o3 n0 n6 (.t n12)) u13 <| m (fab 6 rfl T.f78_2 (.t n3)) u14 <| k (st1 T.o3 rfl n2 u6 q2 (.t n14) (.t n13)) <| e ?_
  refine sr <| m (lab T.a78 n2 d0 k7 (.t n3)) u15 <| k (sta T.a78 rfl rfl n1 (.z (.z (.z (.z (.z (.z (.z .n))))))) q1 (.t n2) (.t n15)) <| e ?_
  refine rt (ret1 (.a n2 T.a78 n1 rfl (.c (.p rfl) (.c (.p rfl) (.c (.p rfl) (.c (.p rfl) (.c (.p rfl) (.c (.p rfl) (.c (.p rfl) .n))))))) .n) ?_)
  rfl

theorem sp_laws_toKeeperHostS (l : List D.KeeperHost) (hl : l.length + (l.map D.KeeperHost.sz).sum ≤ 1048576) : Spec Tryz.prog G0 42 [.slice 7 (l.map D.KeeperHost.V)] (fun r => r = .slice 7 (l.map D.KeeperHost.V)) := by
  have hmem : ∀ (j : Nat) (h : j < l.length), (l[j]'h).sz ≤ (l.map D.KeeperHost.sz).sum := fun j h => sum_mem D.KeeperHost.sz l _ (List.getElem_mem h)
  refine enter (l := [.tmp 2]) Tryz.func42 rfl Tryz.ntmps42 rfl T.en42 fun E => ?_
  simp only [List.length_cons, List.length_nil, List.replicate_succ, List.replicate_zero, List.cons_append, List.nil_append, Nat.reduceAdd, Nat.reduceSub]
  refine sr <| m (as_ .n) u2 <| e ?_
  refine sr <| m (mv (.t n0)) u5 <| m (lenm T.s34 (.t n5)) u6 <| k (mk_ T.s52 T.z78 (by omega) (by omega) s0 u7 (.t n6) (.t n6)) <| m (as_ (.t n7)) u3 <| e ?_
  refine sq ?_
  refine sr <| m (as_ (.i rfl)) u4 <| e ?_
  refine bk ?_
  refine lp (fun i : Nat => ⟨[.slice 7 (l.map D.KeeperHost.V), .any, .nil, .own 0, .int .i64 (i : Int), .any, .any, .own 0, .any, .any, .any, .any, .any, .any, .any, .any, .any, .any, .any, .any, .any, .any, .any], [.row 78 7 (pref D.KeeperHost.V l [.int .i64 0, .int .i64 0, .int .i64 0, .int .i64 0, .int .i64 0, .nil, .int .i64 0] i)]⟩) (fun i : Nat => i ≤ l.length) (fun i : Nat => l.length - i) (0) (by simp) (le [0] (by decide) (.c (.e rfl rfl) (.c .a (.c (.e rfl rfl) (.c (.w n0) (.c (.e rfl rfl) (.c .a (.c .a (.c (.w n0) (.c .a (.c .a (.c .a (.c .a (.c .a (.c .a (.c .a (.c .a (.c .a (.c .a (.c .a (.c .a (.c .a (.c .a (.c .a .n))))))))))))))))))))))) (.r n0 (pref_0 _ _ _).symm .n)) ?_
  rintro i hJ
  try dsimp only at hJ ⊢
  refine sq ?_
  refine sr <| m (mv (.t n4)) u8 <| m (mv (.t n0)) u9 <| m (lenm T.s34 (.t n9)) u10 <| m (lss (.t n8) (.t n10)) u11 <| e ?_
  refine cnd n11 (fun h1 => ?_) (fun h1 => ?_)
  ·
    replace h1 := of_decide_eq_true h1
    refine skp ?_
    refine sq ?_
    refine bk ?_
    refine rg <| m (mv (.t n3)) u14 <| m (mv (.t n4)) u15 <| m (mv (.t n0)) u16 <| m (mv (.t n4)) u17 <| m (ixm T.s34 (Int.natCast_nonneg _) (gi (by omega)) (.t n16) (.t n17)) u18 <| m (lae T.a152 k7 (.t n18)) u19 <| c (call (sp_laws_toKeeperHost _ (by have := hmem i (by omega); omega)) (.c (.t n19) rfl .n)) u20 <| m (oix T.s52 n0 (Int.natCast_nonneg _) (by rw [Int.toNat_natCast, pref_len (by omega)]; omega) (.t n14) (.t n15)) u21 <| k (stoA rfl (by rw [Int.toNat_natCast, pref_len (by omega)]; omega) T.a78 rfl rfl rfl n0 q0 (.t n21) (.t n20)) <| e ?_
    refine rg <| m (mv (.t n4)) u12 <| m (add (.t n12) (.i rfl)) u13 <| m (as_ (.t n13)) u4 <| e ?_
    exact ⟨i + 1, (by omega), (by omega), le [0] (by decide) (.c (.e rfl rfl) (.c .a (.c (.e rfl rfl) (.c (.w n0) (.c (.e (wi (by omega)) rfl) (.c .a (.c .a (.c (.w n0) (.c .a (.c .a (.c .a (.c .a (.c .a (.c .a (.c .a (.c .a (.c .a (.c .a (.c .a (.c .a (.c .a (.c .a (.c .a .n))))))))))))))))))))))) (.r n0 (pref_set (by omega)) .n)⟩
  ·
    replace h1 := of_decide_eq_false h1
    refine ex (x1 ?_)
    refine sr <| m (mv (.t n3)) u22 <| m (as_ (.t n22)) u2 <| e ?_
    refine rt (ret1 (.t n2 (.o n0) .n) ?_)
    show V.slice _ _ = V.slice _ _
    rw [show i = l.length from by omega, pref_full]

theorem sp_laws_toNotice (x : D.Notice) : Spec Tryz.prog G0 133 [.agg (D.Notice.V x)] (fun r => r = .agg x.V) := by
  refine enter (l := [.cell 2 202]) Tryz.func133 rfl Tryz.ntmps133 rfl T.en133 fun E => ?_
  simp only [List.length_cons, List.length_nil, List.replicate_succ, List.replicate_zero, List.cons_append, List.nil_append, Nat.reduceAdd, Nat.reduceSub]
  refine sr <| k (bx rfl s0 u1 (.t n0)) <| k (al T.z202 s1 u2) <| e ?_
  refine sr <| k (al T.z202 s2 u3) <| e ?_
  refine sr <| m (fab 0 rfl T.f204_0 (.t n1)) u4 <| m (ldb T.o3 n0 n0 (.t n4)) u5 <| m (fab 0 rfl T.f202_0 (.t n3)) u6 <| k (st1 T.o3 rfl n2 u0 q2 (.t n6) (.t n5)) <| e ?_
  refine sr <| m (fab 1 rfl T.f204_1 (.t n1)) u7 <| m (ldb T.o3 n0 n1 (.t n7)) u8 <| m (fab 1 rfl T.f202_1 (.t n3)) u9 <| k (st1 T.o3 rfl n2 u1 q2 (.t n9) (.t n8)) <| e ?_
  refine sr <| m (fab 2 rfl T.f204_2 (.t n1)) u10 <| m (ldb T.o3 n0 n2 (.t n10)) u11 <| m (fab 2 rfl T.f202_2 (.t n3)) u12 <| k (st1 T.o3 rfl n2 u2 q2 (.t n12) (.t n11)) <| e ?_
  refine sr <| m (fab 3 rfl T.f204_3 (.t n1)) u13 <| m (ldb T.o4 n0 n3 (.t n13)) u14 <| m (fab 3 rfl T.f202_3 (.t n3)) u15 <| k (st1 T.o4 rfl n2 u3 q2 (.t n15) (.t n14)) <| e ?_
  refine sr <| m (lab T.a202 n2 d0 k4 (.t n3)) u16 <| k (sta T.a202 rfl rfl n1 (.z (.z (.z (.z .n)))) q1 (.t n2) (.t n16)) <| e ?_
  refine rt (ret1 (.a n2 T.a202 n1 rfl (.c (.p rfl) (.c (.p rfl) (.c (.p rfl) (.c (.p rfl) .n)))) .n) ?_)
  rfl

theorem sp_laws_toNoticeS (l : List D.Notice) (hl : l.length ≤ 1048576) : Spec Tryz.prog G0 88 [.slice 4 (l.map D.Notice.V)] (fun r => r = .slice 4 (l.map D.Notice.V)) := by
  refine enter (l := [.tmp 2]) Tryz.func88 rfl Tryz.ntmps88 rfl T.en88 fun E => ?_
  simp only [List.length_cons, List.length_nil, List.replicate_succ, List.replicate_zero, List.cons_append, List.nil_append, Nat.reduceAdd, Nat.reduceSub]
  refine sr <| m (as_ .n) u2 <| e ?_
  refine sr <| m (mv (.t n0)) u5 <| m (lenm T.s35 (.t n5)) u6 <| k (mk_ T.s53 T.z202 (by omega) (by omega) s0 u7 (.t n6) (.t n6)) <| m (as_ (.t n7)) u3 <| e ?_
  refine sq ?_
  refine sr <| m (as_ (.i rfl)) u4 <| e ?_
  refine bk ?_
  refine lp (fun i : Nat => ⟨[.slice 4 (l.map D.Notice.V), .any, .nil, .own 0, .int .i64 (i : Int), .any, .any, .own 0, .any, .any, .any, .any, .any, .any, .any, .any, .any, .any, .any, .any, .any, .any, .any], [.row 202 4 (pref D.Notice.V l [.int .i64 0, .int .i64 0, .int .i64 0, .bool false] i)]⟩) (fun i : Nat => i ≤ l.length) (fun i : Nat => l.length - i) (0) (by simp) (le [0] (by decide) (.c (.e rfl rfl) (.c .a (.c (.e rfl rfl) (.c (.w n0) (.c (.e rfl rfl) (.c .a (.c .a (.c (.w n0) (.c .a (.c .a (.c .a (.c .a (.c .a (.c .a (.c .a (.c .a (.c .a (.c .a (.c .a (.c .a (.c .a (.c .a (.c .a .n))))))))))))))))))))))) (.r n0 (pref_0 _ _ _).symm .n)) ?_
  rintro i hJ
  try dsimp only at hJ ⊢
  refine sq ?_
  refine sr <| m (mv (.t n4)) u8 <| m (mv (.t n0)) u9 <| m (lenm T.s35 (.t n9)) u10 <| m (lss (.t n8) (.t n10)) u11 <| e ?_
  refine cnd n11 (fun h1 => ?_) (fun h1 => ?_)
  ·
    replace h1 := of_decide_eq_true h1
    refine skp ?_
    refine sq ?_
    refine bk ?_
    refine rg <| m (mv (.t n3)) u14 <| m (mv (.t n4)) u15 <| m (mv (.t n0)) u16 <| m (mv (.t n4)) u17 <| m (ixm T.s35 (Int.natCast_nonneg _) (gi (by omega)) (.t n16) (.t n17)) u18 <| m (lae T.a204 k4 (.t n18)) u19 <| c (call (sp_laws_toNotice _) (.c (.t n19) rfl .n)) u20 <| m (oix T.s53 n0 (Int.natCast_nonneg _) (by rw [Int.toNat_natCast, pref_len (by omega)]; omega) (.t n14) (.t n15)) u21 <| k (stoA rfl (by rw [Int.toNat_natCast, pref_len (by omega)]; omega) T.a202 rfl rfl rfl n0 q0 (.t n21) (.t n20)) <| e ?_
    refine rg <| m (mv (.t n4)) u12 <| m (add (.t n12) (.i rfl)) u13 <| m (as_ (.t n13)) u4 <| e ?_
    exact ⟨i + 1, (by omega), (by omega), le [0] (by decide) (.c (.e rfl rfl) (.c .a (.c (.e rfl rfl) (.c (.w n0) (.c (.e (wi (by omega)) rfl) (.c .a (.c .a (.c (.w n0) (.c .a (.c .a (.c .a (.c .a (.c .a (.c .a (.c .a (.c .a (.c .a (.c .a (.c .a (.c .a (.c .a (.c .a (.c .a .n))))))))))))))))))))))) (.r n0 (pref_set (by omega)) .n)⟩
  ·
    replace h1 := of_decide_eq_false h1
    refine ex (x1 ?_)
    refine sr <| m (mv (.t n3)) u22 <| m (as_ (.t n22)) u2 <| e ?_
    refine rt (ret1 (.t n2 (.o n0) .n) ?_)
    show V.slice _ _ = V.slice _ _
    rw [show i = l.length from by omega, pref_full]

theorem sp_laws_toMailbox (x : D.Mailbox) (hl : x.sz ≤ 1048576) : Spec Tryz.prog G0 43 [.agg (D.Mailbox.V x)] (fun r => r = .agg x.V) := by
  simp only [D.Mailbox.sz] at hl
  refine enter (l := [.cell 2 55]) Tryz.func43 rfl Tryz.ntmps43 rfl T.en43 fun E => ?_
  simp only [List.length_cons, List.length_nil, List.replicate_succ, List.replicate_zero, List.cons_append, List.nil_append, Nat.reduceAdd, Nat.reduceSub]
  refine sr <| k (bx rfl s0 u1 (.t n0)) <| k (al T.z55 s1 u2) <| e ?_
  refine sr <| k (al T.z55 s2 u3) <| e ?_
  refine sr <| m (fab 0 rfl T.f37_0 (.t n1)) u4 <| m (ldb T.o35 n0 n0 (.t n4)) u5 <| c (call (sp_laws_toNoticeS _ (by first | assumption | omega)) (.c (.t n5) rfl .n)) u6 <| m (fab 0 rfl T.f55_0 (.t n3)) u7 <| k (st1 T.o53 rfl n2 u0 q2 (.t n7) (.t n6)) <| e ?_
  refine sr <| m (lab T.a55 n2 d0 k1 (.t n3)) u8 <| k (sta T.a55 rfl rfl n1 (.z .n) q1 (.t n2) (.t n8)) <| e ?_
  refine rt (ret1 (.a n2 T.a55 n1 rfl (.c (.p rfl) .n) .n) ?_)
  rfl

theorem sp_laws_toWorld (x : D.World) (hl : x.sz ≤ 1048576) : Spec Tryz.prog G0 13 [.agg (D.World.V x)] (fun r => r = .agg x.V) := by
  simp only [D.World.sz] at hl
  refine enter (l := [.cell 2 57]) Tryz.func13 rfl Tryz.ntmps13 rfl T.en13 fun E => ?_
  simp only [List.length_cons, List.length_nil, List.replicate_succ, List.replicate_zero, List.cons_append, List.nil_append, Nat.reduceAdd, Nat.reduceSub]
  refine sr <| k (bx rfl s0 u1 (.t n0)) <| k (al T.z57 s1 u2) <| e ?_
  refine sr <| k (al T.z57 s2 u3) <| e ?_
  refine sr <| m (fab 0 rfl T.f39_0 (.t n1)) u4 <| m (ldb T.o3 n0 n0 (.t n4)) u5 <| m (fab 0 rfl T.f57_0 (.t n3)) u6 <| k (st1 T.o3 rfl n2 u0 q2 (.t n6) (.t n5)) <| e ?_
  refine sr <| m (fab 1 rfl T.f39_1 (.t n1)) u7 <| m (ldb T.o3 n0 n1 (.t n7)) u8 <| m (fab 1 rfl T.f57_1 (.t n3)) u9 <| k (st1 T.o3 rfl n2 u1 q2 (.t n9) (.t n8)) <| e ?_
  refine sr <| m (fab 2 rfl T.f39_2 (.t n1)) u10 <| m (ldb T.o22 n0 n2 (.t n10)) u11 <| c (call (sp_laws_toDeviceS _ (by first | assumption | omega)) (.c (.t n11) rfl .n)) u12 <| m (fab 2 rfl T.f57_2 (.t n3)) u13 <| k (st1 T.o42 rfl n2 u2 q2 (.t n13) (.t n12)) <| e ?_
  refine sr <| m (fab 3 rfl T.f39_3 (.t n1)) u14 <| m (ldb T.o23 n0 n3 (.t n14)) u15 <| c (call (sp_laws_toBoolS _ (by first | assumption | omega)) (.c (.t n15) rfl .n)) u16 <| m (fab 3 rfl T.f57_3 (.t n3)) u17 <| k (st1 T.o23 rfl n2 u3 q2 (.t n17) (.t n16)) <| e ?_
  refine sr <| m (fab 4 rfl T.f39_4 (.t n1)) u18 <| m (lab T.a30 n0 d4 k4 (.t n18)) u19 <| c (call (sp_laws_toCloud _ (by first | assumption | (simp only [D.Box.sz, D.EpochBoxes.sz, D.LogEntry.sz, D.SealedBundle.sz, D.Cloud.sz, D.Vault.sz, D.Notice.sz, D.Mailbox.sz, D.KeyStore.sz, D.Entry.sz, D.Bundle.sz, D.Device.sz, D.Credential.sz, D.Account.sz, D.Challenge.sz, D.ChallengeBook.sz, D.Site.sz, D.Share.sz, D.Keeper.sz, D.KeeperHost.sz, D.World.sz] at *; omega))) (.c (.t n19) rfl .n)) u20 <| m (fab 4 rfl T.f57_4 (.t n3)) u21 <| k (sta T.a49 rfl rfl n2 (.s (.s (.s (.s (.z (.z (.z (.z .n)))))))) q2 (.t n21) (.t n20)) <| e ?_
  refine sr <| m (fab 8 rfl T.f39_5 (.t n1)) u22 <| m (ldb T.o31 n0 n8 (.t n22)) u23 <| c (call (sp_laws_toSiteS _ (by first | assumption | omega)) (.c (.t n23) rfl .n)) u24 <| m (fab 8 rfl T.f57_5 (.t n3)) u25 <| k (st1 T.o50 rfl n2 u8 q2 (.t n25) (.t n24)) <| e ?_
  refine sr <| m (fab 9 rfl T.f39_6 (.t n1)) u26 <| m (lab T.a33 n0 d9 k4 (.t n26)) u27 <| c (call (sp_laws_toVault _) (.c (.t n27) rfl .n)) u28 <| m (fab 9 rfl T.f57_6 (.t n3)) u29 <| k (sta T.a51 rfl rfl n2 (.s (.s (.s (.s (.s (.s (.s (.s (.s (.z (.z (.z (.z .n))))))))))))) q2 (.t n29) (.t n28)) <| e ?_
  refine sr <| m (fab 13 rfl T.f39_7 (.t n1)) u30 <| m (ldb T.o34 n0 n13 (.t n30)) u31 <| c (call (sp_laws_toKeeperHostS _ (by first | assumption | omega)) (.c (.t n31) rfl .n)) u32 <| m (fab 13 rfl T.f57_7 (.t n3)) u33 <| k (st1 T.o52 rfl n2 u13 q2 (.t n33) (.t n32)) <| e ?_
  refine sr <| m (fab 14 rfl T.f39_8 (.t n1)) u34 <| m (ldb T.o3 n0 n14 (.t n34)) u35 <| m (fab 14 rfl T.f57_8 (.t n3)) u36 <| k (st1 T.o3 rfl n2 u14 q2 (.t n36) (.t n35)) <| e ?_
  refine sr <| m (fab 15 rfl T.f39_9 (.t n1)) u37 <| m (lab T.a37 n0 d15 k1 (.t n37)) u38 <| c (call (sp_laws_toMailbox _ (by first | assumption | (simp only [D.Box.sz, D.EpochBoxes.sz, D.LogEntry.sz, D.SealedBundle.sz, D.Cloud.sz, D.Vault.sz, D.Notice.sz, D.Mailbox.sz, D.KeyStore.sz, D.Entry.sz, D.Bundle.sz, D.Device.sz, D.Credential.sz, D.Account.sz, D.Challenge.sz, D.ChallengeBook.sz, D.Site.sz, D.Share.sz, D.Keeper.sz, D.KeeperHost.sz, D.World.sz] at *; omega))) (.c (.t n38) rfl .n)) u39 <| m (fab 15 rfl T.f57_9 (.t n3)) u40 <| k (sta T.a55 rfl rfl n2 (.s (.s (.s (.s (.s (.s (.s (.s (.s (.s (.s (.s (.s (.s (.s (.z .n)))))))))))))))) q2 (.t n40) (.t n39)) <| e ?_
  refine sr <| m (lab T.a57 n2 d0 k16 (.t n3)) u41 <| k (sta T.a57 rfl rfl n1 (.z (.z (.z (.z (.z (.z (.z (.z (.z (.z (.z (.z (.z (.z (.z (.z .n)))))))))))))))) q1 (.t n2) (.t n41)) <| e ?_
  refine rt (ret1 (.a n2 T.a57 n1 rfl (.c (.p rfl) (.c (.p rfl) (.c (.p rfl) (.c (.p rfl) (.c (.p rfl) (.c (.p rfl) (.c (.p rfl) (.c (.p rfl) (.c (.p rfl) (.c (.p rfl) (.c (.p rfl) (.c (.p rfl) (.c (.p rfl) (.c (.p rfl) (.c (.p rfl) (.c (.p rfl) .n)))))))))))))))) .n) ?_)
  rfl

theorem sp_laws_eqKeyStore (x : D.KeyStore) : Spec Tryz.prog G0 134 [.agg (D.KeyStore.V x), .agg (D.KeyStore.V x)] (fun r => r = .bool true) := by
  refine enter (l := [.tmp 4]) Tryz.func134 rfl Tryz.ntmps134 rfl T.en134 fun E => ?_
  simp only [List.length_cons, List.length_nil, List.replicate_succ, List.replicate_zero, List.cons_append, List.nil_append, Nat.reduceAdd, Nat.reduceSub]
  refine sr <| k (bx rfl s0 u2 (.t n0)) <| k (bx rfl s1 u3 (.t n1)) <| m (as_ .b) u4 <| e ?_
  refine sq ?_
  refine sr <| m (fab 0 rfl T.f99_0 (.t n2)) u5 <| m (ldb T.o3 n0 n0 (.t n5)) u6 <| m (fab 0 rfl T.f99_0 (.t n3)) u7 <| m (ldb T.o3 n1 n0 (.t n7)) u8 <| m (neqs (.t n6) (.t n8)) u9 <| e ?_
  refine cdf n9 ?_
  refine skp ?_
  refine sq ?_
  refine sr <| m (fab 1 rfl T.f99_1 (.t n2)) u10 <| m (ldb T.o3 n0 n1 (.t n10)) u11 <| m (fab 1 rfl T.f99_1 (.t n3)) u12 <| m (ldb T.o3 n1 n1 (.t n12)) u13 <| m (neqs (.t n11) (.t n13)) u14 <| e ?_
  refine cdf n14 ?_
  refine skp ?_
  refine sq ?_
  refine sr <| m (fab 2 rfl T.f99_2 (.t n2)) u15 <| m (ldb T.o3 n0 n2 (.t n15)) u16 <| m (fab 2 rfl T.f99_2 (.t n3)) u17 <| m (ldb T.o3 n1 n2 (.t n17)) u18 <| m (neqs (.t n16) (.t n18)) u19 <| e ?_
  refine cdf n19 ?_
  refine skp ?_
  refine sq ?_
  refine sr <| m (fab 3 rfl T.f99_3 (.t n2)) u20 <| m (ldb T.o3 n0 n3 (.t n20)) u21 <| m (fab 3 rfl T.f99_3 (.t n3)) u22 <| m (ldb T.o3 n1 n3 (.t n22)) u23 <| m (neqs (.t n21) (.t n23)) u24 <| e ?_
  refine cdf n24 ?_
  refine skp ?_
  refine sr <| m (as_ .b) u4 <| e ?_
  refine rt (ret1 (.t n4 (.p rfl) .n) ?_)
  rfl

theorem sp_laws_eqLogEntry (x : D.LogEntry) : Spec Tryz.prog G0 136 [.agg (D.LogEntry.V x), .agg (D.LogEntry.V x)] (fun r => r = .bool true) := by
  refine enter (l := [.tmp 4]) Tryz.func136 rfl Tryz.ntmps136 rfl T.en136 fun E => ?_
  simp only [List.length_cons, List.length_nil, List.replicate_succ, List.replicate_zero, List.cons_append, List.nil_append, Nat.reduceAdd, Nat.reduceSub]
  refine sr <| k (bx rfl s0 u2 (.t n0)) <| k (bx rfl s1 u3 (.t n1)) <| m (as_ .b) u4 <| e ?_
  refine sq ?_
  refine sr <| m (fab 0 rfl T.f106_0 (.t n2)) u5 <| m (ldb T.o3 n0 n0 (.t n5)) u6 <| m (fab 0 rfl T.f106_0 (.t n3)) u7 <| m (ldb T.o3 n1 n0 (.t n7)) u8 <| m (neqs (.t n6) (.t n8)) u9 <| e ?_
  refine cdf n9 ?_
  refine skp ?_
  refine sq ?_
  refine sr <| m (fab 1 rfl T.f106_1 (.t n2)) u10 <| m (ldb T.o3 n0 n1 (.t n10)) u11 <| m (fab 1 rfl T.f106_1 (.t n3)) u12 <| m (ldb T.o3 n1 n1 (.t n12)) u13 <| m (neqs (.t n11) (.t n13)) u14 <| e ?_
  refine cdf n14 ?_
  refine skp ?_
  refine sq ?_
  refine sr <| m (fab 2 rfl T.f106_2 (.t n2)) u15 <| m (ldb T.o3 n0 n2 (.t n15)) u16 <| m (fab 2 rfl T.f106_2 (.t n3)) u17 <| m (ldb T.o3 n1 n2 (.t n17)) u18 <| m (neqs (.t n16) (.t n18)) u19 <| e ?_
  refine cdf n19 ?_
  refine skp ?_
  refine sq ?_
  refine sr <| m (fab 3 rfl T.f106_3 (.t n2)) u20 <| m (ldb T.o3 n0 n3 (.t n20)) u21 <| m (fab 3 rfl T.f106_3 (.t n3)) u22 <| m (ldb T.o3 n1 n3 (.t n22)) u23 <| m (neqs (.t n21) (.t n23)) u24 <| e ?_
  refine cdf n24 ?_
  refine skp ?_
  refine sq ?_
  refine sr <| m (fab 4 rfl T.f106_4 (.t n2)) u25 <| m (ldb T.o3 n0 n4 (.t n25)) u26 <| m (fab 4 rfl T.f106_4 (.t n3)) u27 <| m (ldb T.o3 n1 n4 (.t n27)) u28 <| m (neqs (.t n26) (.t n28)) u29 <| e ?_
  refine cdf n29 ?_
  refine skp ?_
  refine sq ?_
  refine sr <| m (fab 5 rfl T.f106_5 (.t n2)) u30 <| m (ldb T.o3 n0 n5 (.t n30)) u31 <| m (fab 5 rfl T.f106_5 (.t n3)) u32 <| m (ldb T.o3 n1 n5 (.t n32)) u33 <| m (neqs (.t n31) (.t n33)) u34 <| e ?_
  refine cdf n34 ?_
  refine skp ?_
  refine sr <| m (as_ .b) u4 <| e ?_
  refine rt (ret1 (.t n4 (.p rfl) .n) ?_)
  rfl

theorem sp_laws_eqLogEntryS (l : List D.LogEntry) : Spec Tryz.prog G0 90 [.slice 6 (l.map D.LogEntry.V), .slice 6 (l.map D.LogEntry.V)] (fun r => r = .bool true) := by
  refine enter (l := [.tmp 4]) Tryz.func90 rfl Tryz.ntmps90 rfl T.en90 fun E => ?_
  simp only [List.length_cons, List.length_nil, List.replicate_succ, List.replicate_zero, List.cons_append, List.nil_append, Nat.reduceAdd, Nat.reduceSub]
  refine rngl n0 fun hlen => ?_
  simp only [List.length_map, maxLen] at hlen
  refine sr <| m (as_ .b) u4 <| e ?_
  refine sq ?_
  refine sr <| m (mv (.t n0)) u6 <| m (lenm T.s43 (.t n6)) u7 <| m (mv (.t n1)) u8 <| m (lenm T.s43 (.t n8)) u9 <| m (neqs (.t n7) (.t n9)) u10 <| e ?_
  refine cdf n10 ?_
  refine skp ?_
  refine sq ?_
  refine sr <| m (as_ (.i rfl)) u5 <| e ?_
  refine bk ?_
  refine lp (fun i : Nat => ⟨[.slice 6 (l.map D.LogEntry.V), .slice 6 (l.map D.LogEntry.V), .any, .any, .any, .int .i64 (i : Int), .any, .any, .any, .any, .any, .any, .any, .any, .any, .any, .any, .any, .any, .any, .any, .any, .any, .any, .any, .any, .any], []⟩) (fun i : Nat => i ≤ l.length) (fun i : Nat => l.length - i) (0) (by simp) (le [] (by decide) (.c (.e rfl rfl) (.c (.e rfl rfl) (.c .a (.c .a (.c .a (.c (.e rfl rfl) (.c .a (.c .a (.c .a (.c .a (.c .a (.c .a (.c .a (.c .a (.c .a (.c .a (.c .a (.c .a (.c .a (.c .a (.c .a (.c .a (.c .a (.c .a (.c .a (.c .a (.c .a .n))))))))))))))))))))))))))) .n) ?_
  rintro i hJ
  try dsimp only at hJ ⊢
  refine sq ?_
  refine sr <| m (mv (.t n5)) u11 <| m (mv (.t n0)) u12 <| m (lenm T.s43 (.t n12)) u13 <| m (lss (.t n11) (.t n13)) u14 <| e ?_
  refine cnd n14 (fun h1 => ?_) (fun h1 => ?_)
  ·
    replace h1 := of_decide_eq_true h1
    refine skp ?_
    refine sq ?_
    refine bk ?_
    refine sd none [(0, true), (1, true), (2, true), (3, true), (4, true), (5, true), (6, true), (7, true), (8, false), (9, true)] T.mix (by kernel_rfl) <| om n0 (mv (.t n0)) u17 <| om n1 (mv (.t n5)) u18 <| om n2 (ixm T.s43 (Int.natCast_nonneg _) (gi (by omega)) (.t n17) (.t n18)) u19 <| om n3 (lae T.a106 k6 (.t n19)) u20 <| om n4 (mv (.t n1)) u21 <| om n5 (mv (.t n5)) u22 <| om n6 (ixm T.s43 (Int.natCast_nonneg _) (gi (by omega)) (.t n21) (.t n22)) u23 <| om n7 (lae T.a106 k6 (.t n23)) u24 <| oc n8 (call (sp_laws_eqLogEntry _) (.c (.t n20) rfl (.c (.t n24) rfl .n))) u25 <| om n9 (not_ (.t n25)) u26 <| oe ?_
    refine cdf n26 ?_
    refine skp ?_
    refine rg <| m (mv (.t n5)) u15 <| m (add (.t n15) (.i rfl)) u16 <| m (as_ (.t n16)) u5 <| e ?_
    exact ⟨i + 1, (by omega), (by omega), le [] (by decide) (.c (.e rfl rfl) (.c (.e rfl rfl) (.c .a (.c .a (.c .a (.c (.e (wi (by omega)) rfl) (.c .a (.c .a (.c .a (.c .a (.c .a (.c .a (.c .a (.c .a (.c .a (.c .a (.c .a (.c .a (.c .a (.c .a (.c .a (.c .a (.c .a (.c .a (.c .a (.c .a (.c .a .n))))))))))))))))))))))))))) .n⟩
  ·
    replace h1 := of_decide_eq_false h1
    refine ex (x1 ?_)
    refine sr <| m (as_ .b) u4 <| e ?_
    refine rt (ret1 (.t n4 (.p rfl) .n) ?_)
    rfl

theorem sp_laws_eqEntry (x : D.Entry) : Spec Tryz.prog G0 183 [.agg (D.Entry.V x), .agg (D.Entry.V x)] (fun r => r = .bool true) := by
  refine enter (l := [.tmp 4]) Tryz.func183 rfl Tryz.ntmps183 rfl T.en183 fun E => ?_
  simp only [List.length_cons, List.length_nil, List.replicate_succ, List.replicate_zero, List.cons_append, List.nil_append, Nat.reduceAdd, Nat.reduceSub]
  refine sr <| k (bx rfl s0 u2 (.t n0)) <| k (bx rfl s1 u3 (.t n1)) <| m (as_ .b) u4 <| e ?_
  refine sq ?_
  refine sr <| m (fab 0 rfl T.f111_0 (.t n2)) u5 <| m (ldb T.o3 n0 n0 (.t n5)) u6 <| m (fab 0 rfl T.f111_0 (.t n3)) u7 <| m (ldb T.o3 n1 n0 (.t n7)) u8 <| m (neqs (.t n6) (.t n8)) u9 <| e ?_
  refine cdf n9 ?_
  refine skp ?_
  refine sq ?_
  refine sr <| m (fab 1 rfl T.f111_1 (.t n2)) u10 <| m (ldb T.o3 n0 n1 (.t n10)) u11 <| m (fab 1 rfl T.f111_1 (.t n3)) u12 <| m (ldb T.o3 n1 n1 (.t n12)) u13 <| m (neqs (.t n11) (.t n13)) u14 <| e ?_
  refine cdf n14 ?_
  refine skp ?_
  refine sq ?_
  refine sr <| m (fab 2 rfl T.f111_2 (.t n2)) u15 <| m (ldb T.o3 n0 n2 (.t n15)) u16 <| m (fab 2 rfl T.f111_2 (.t n3)) u17 <| m (ldb T.o3 n1 n2 (.t n17)) u18 <| m (neqs (.t n16) (.t n18)) u19 <| e ?_
  refine cdf n19 ?_
  refine skp ?_
  refine sq ?_
  refine sr <| m (fab 3 rfl T.f111_3 (.t n2)) u20 <| m (ldb T.o4 n0 n3 (.t n20)) u21 <| m (fab 3 rfl T.f111_3 (.t n3)) u22 <| m (ldb T.o4 n1 n3 (.t n22)) u23 <| m (bnes Tryz.underlying4 (.t n21) (.t n23)) u24 <| e ?_
  refine cdf n24 ?_
  refine skp ?_
  refine sr <| m (as_ .b) u4 <| e ?_
  refine rt (ret1 (.t n4 (.p rfl) .n) ?_)
  rfl

theorem sp_laws_eqEntryS (l : List D.Entry) : Spec Tryz.prog G0 165 [.slice 4 (l.map D.Entry.V), .slice 4 (l.map D.Entry.V)] (fun r => r = .bool true) := by
  refine enter (l := [.tmp 4]) Tryz.func165 rfl Tryz.ntmps165 rfl T.en165 fun E => ?_
  simp only [List.length_cons, List.length_nil, List.replicate_succ, List.replicate_zero, List.cons_append, List.nil_append, Nat.reduceAdd, Nat.reduceSub]
  refine rngl n0 fun hlen => ?_
  simp only [List.length_map, maxLen] at hlen
  refine sr <| m (as_ .b) u4 <| e ?_
  refine sq ?_
  refine sr <| m (mv (.t n0)) u6 <| m (lenm T.s100 (.t n6)) u7 <| m (mv (.t n1)) u8 <| m (lenm T.s100 (.t n8)) u9 <| m (neqs (.t n7) (.t n9)) u10 <| e ?_
  refine cdf n10 ?_
  refine skp ?_
  refine sq ?_
  refine sr <| m (as_ (.i rfl)) u5 <| e ?_
  refine bk ?_
  refine lp (fun i : Nat => ⟨[.slice 4 (l.map D.Entry.V), .slice 4 (l.map D.Entry.V), .any, .any, .any, .int .i64 (i : Int), .any, .any, .any, .any, .any, .any, .any, .any, .any, .any, .any, .any, .any, .any, .any, .any, .any, .any, .any, .any, .any], []⟩) (fun i : Nat => i ≤ l.length) (fun i : Nat => l.length - i) (0) (by simp) (le [] (by decide) (.c (.e rfl rfl) (.c (.e rfl rfl) (.c .a (.c .a (.c .a (.c (.e rfl rfl) (.c .a (.c .a (.c .a (.c .a (.c .a (.c .a (.c .a (.c .a (.c .a (.c .a (.c .a (.c .a (.c .a (.c .a (.c .a (.c .a (.c .a (.c .a (.c .a (.c .a (.c .a .n))))))))))))))))))))))))))) .n) ?_
  rintro i hJ
  try dsimp only at hJ ⊢
  refine sq ?_
  refine sr <| m (mv (.t n5)) u11 <| m (mv (.t n0)) u12 <| m (lenm T.s100 (.t n12)) u13 <| m (lss (.t n11) (.t n13)) u14 <| e ?_
  refine cnd n14 (fun h1 => ?_) (fun h1 => ?_)
  ·
    replace h1 := of_decide_eq_true h1
    refine skp ?_
    refine sq ?_
    refine bk ?_
    refine sd none [(0, true), (1, true), (2, true), (3, true), (4, true), (5, true), (6, true), (7, true), (8, false), (9, true)] T.mix (by kernel_rfl) <| om n0 (mv (.t n0)) u17 <| om n1 (mv (.t n5)) u18 <| om n2 (ixm T.s100 (Int.natCast_nonneg _) (gi (by omega)) (.t n17) (.t n18)) u19 <| om n3 (lae T.a111 k4 (.t n19)) u20 <| om n4 (mv (.t n1)) u21 <| om n5 (mv (.t n5)) u22 <| om n6 (ixm T.s100 (Int.natCast_nonneg _) (gi (by omega)) (.t n21) (.t n22)) u23 <| om n7 (lae T.a111 k4 (.t n23)) u24 <| oc n8 (call (sp_laws_eqEntry _) (.c (.t n20) rfl (.c (.t n24) rfl .n))) u25 <| om n9 (not_ (.t n25)) u26 <| oe ?_
    refine cdf n26 ?_
    refine skp ?_
    refine rg <| m (mv (.t n5)) u15 <| m (add (.t n15) (.i rfl)) u16 <| m (as_ (.t n16)) u5 <| e ?_
    exact ⟨i + 1, (by omega), (by omega), le [] (by decide) (.c (.e rfl rfl) (.c (.e rfl rfl) (.c .a (.c .a (.c .a (.c (.e (wi (by omega)) rfl) (.c .a (.c .a (.c .a (.c .a (.c .a (.c .a (.c .a (.c .a (.c .a (.c .a (.c .a (.c .a (.c .a (.c .a (.c .a (.c .a (.c .a (.c .a (.c .a (.c .a (.c .a .n))))))))))))))))))))))))))) .n⟩
  ·
    replace h1 := of_decide_eq_false h1
    refine ex (x1 ?_)
    refine sr <| m (as_ .b) u4 <| e ?_
    refine rt (ret1 (.t n4 (.p rfl) .n) ?_)
    rfl

theorem sp_laws_eqBundle (x : D.Bundle) : Spec Tryz.prog G0 135 [.agg (D.Bundle.V x), .agg (D.Bundle.V x)] (fun r => r = .bool true) := by
  refine enter (l := [.tmp 4]) Tryz.func135 rfl Tryz.ntmps135 rfl T.en135 fun E => ?_
  simp only [List.length_cons, List.length_nil, List.replicate_succ, List.replicate_zero, List.cons_append, List.nil_append, Nat.reduceAdd, Nat.reduceSub]
  refine sr <| k (bx rfl s0 u2 (.t n0)) <| k (bx rfl s1 u3 (.t n1)) <| m (as_ .b) u4 <| e ?_
  refine sq ?_
  refine sr <| m (fab 0 rfl T.f102_0 (.t n2)) u5 <| m (ldb T.o100 n0 n0 (.t n5)) u6 <| m (fab 0 rfl T.f102_0 (.t n3)) u7 <| m (ldb T.o100 n1 n0 (.t n7)) u8 <| c (call (sp_laws_eqEntryS _) (.c (.t n6) rfl (.c (.t n8) rfl .n))) u9 <| m (not_ (.t n9)) u10 <| e ?_
  refine cdf n10 ?_
  refine skp ?_
  refine sr <| m (as_ .b) u4 <| e ?_
  refine rt (ret1 (.t n4 (.p rfl) .n) ?_)
  rfl

theorem sp_laws_eqDevice (x : D.Device) : Spec Tryz.prog G0 89 [.agg (D.Device.V x), .agg (D.Device.V x)] (fun r => r = .bool true) := by
  refine enter (l := [.tmp 4]) Tryz.func89 rfl Tryz.ntmps89 rfl T.en89 fun E => ?_
  simp only [List.length_cons, List.length_nil, List.replicate_succ, List.replicate_zero, List.cons_append, List.nil_append, Nat.reduceAdd, Nat.reduceSub]
  refine sr <| k (bx rfl s0 u2 (.t n0)) <| k (bx rfl s1 u3 (.t n1)) <| m (as_ .b) u4 <| e ?_
  refine sq ?_
  refine sr <| m (fab 0 rfl T.f104_0 (.t n2)) u5 <| m (lab T.a99 n0 d0 k4 (.t n5)) u6 <| m (fab 0 rfl T.f104_0 (.t n3)) u7 <| m (lab T.a99 n1 d0 k4 (.t n7)) u8 <| c (call (sp_laws_eqKeyStore _) (.c (.t n6) rfl (.c (.t n8) rfl .n))) u9 <| m (not_ (.t n9)) u10 <| e ?_
  refine cdf n10 ?_
  refine skp ?_
  refine sq ?_
  refine sr <| m (fab 4 rfl T.f104_1 (.t n2)) u11 <| m (ldb T.o43 n0 n4 (.t n11)) u12 <| m (fab 4 rfl T.f104_1 (.t n3)) u13 <| m (ldb T.o43 n1 n4 (.t n13)) u14 <| c (call (sp_laws_eqLogEntryS _) (.c (.t n12) rfl (.c (.t n14) rfl .n))) u15 <| m (not_ (.t n15)) u16 <| e ?_
  refine cdf n16 ?_
  refine skp ?_
  refine sq ?_
  refine sr <| m (fab 5 rfl T.f104_2 (.t n2)) u17 <| m (ldb T.o3 n0 n5 (.t n17)) u18 <| m (fab 5 rfl T.f104_2 (.t n3)) u19 <| m (ldb T.o3 n1 n5 (.t n19)) u20 <| m (neqs (.t n18) (.t n20)) u21 <| e ?_
  refine cdf n21 ?_
  refine skp ?_
  refine sq ?_
  refine sr <| m (fab 6 rfl T.f104_3 (.t n2)) u22 <| m (ldb T.o3 n0 n6 (.t n22)) u23 <| m (fab 6 rfl T.f104_3 (.t n3)) u24 <| m (ldb T.o3 n1 n6 (.t n24)) u25 <| m (neqs (.t n23) (.t n25)) u26 <| e ?_
  refine cdf n26 ?_
  refine skp ?_
  refine sq ?_
  refine sr <| m (fab 7 rfl T.f104_4 (.t n2)) u27 <| m (ldb T.o3 n0 n7 (.t n27)) u28 <| m (fab 7 rfl T.f104_4 (.t n3)) u29 <| m (ldb T.o3 n1 n7 (.t n29)) u30 <| m (neqs (.t n28) (.t n30)) u31 <| e ?_
  refine cdf n31 ?_
  refine skp ?_
  refine sq ?_
  refine sr <| m (fab 8 rfl T.f104_5 (.t n2)) u32 <| m (lab T.a102 n0 d8 k1 (.t n32)) u33 <| m (fab 8 rfl T.f104_5 (.t n3)) u34 <| m (lab T.a102 n1 d8 k1 (.t n34)) u35 <| c (call (sp_laws_eqBundle _) (.c (.t n33) rfl (.c (.t n35) rfl .n))) u36 <| m (not_ (.t n36)) u37 <| e ?_
  refine cdf n37 ?_
  refine skp ?_
  refine sr <| m (as_ .b) u4 <| e ?_
  refine rt (ret1 (.t n4 (.p rfl) .n) ?_)
  rfl

theorem sp_laws_eqDeviceS (l : List D.Device) : Spec Tryz.prog G0 45 [.slice 9 (l.map D.Device.V), .slice 9 (l.map D.Device.V)] (fun r => r = .bool true) := by
  refine enter (l := [.tmp 4]) Tryz.func45 rfl Tryz.ntmps45 rfl T.en45 fun E => ?_
  simp only [List.length_cons, List.length_nil, List.replicate_succ, List.replicate_zero, List.cons_append, List.nil_append, Nat.reduceAdd, Nat.reduceSub]
  refine rngl n0 fun hlen => ?_
  simp only [List.length_map, maxLen] at hlen
  refine sr <| m (as_ .b) u4 <| e ?_
  refine sq ?_
  refine sr <| m (mv (.t n0)) u6 <| m (lenm T.s42 (.t n6)) u7 <| m (mv (.t n1)) u8 <| m (lenm T.s42 (.t n8)) u9 <| m (neqs (.t n7) (.t n9)) u10 <| e ?_
  refine cdf n10 ?_
  refine skp ?_
  refine sq ?_
  refine sr <| m (as_ (.i rfl)) u5 <| e ?_
  refine bk ?_
  refine lp (fun i : Nat => ⟨[.slice 9 (l.map D.Device.V), .slice 9 (l.map D.Device.V), .any, .any, .any, .int .i64 (i : Int), .any, .any, .any, .any, .any, .any, .any, .any, .any, .any, .any, .any, .any, .any, .any, .any, .any, .any, .any, .any, .any], []⟩) (fun i : Nat => i ≤ l.length) (fun i : Nat => l.length - i) (0) (by simp) (le [] (by decide) (.c (.e rfl rfl) (.c (.e rfl rfl) (.c .a (.c .a (.c .a (.c (.e rfl rfl) (.c .a (.c .a (.c .a (.c .a (.c .a (.c .a (.c .a (.c .a (.c .a (.c .a (.c .a (.c .a (.c .a (.c .a (.c .a (.c .a (.c .a (.c .a (.c .a (.c .a (.c .a .n))))))))))))))))))))))))))) .n) ?_
  rintro i hJ
  try dsimp only at hJ ⊢
  refine sq ?_
  refine sr <| m (mv (.t n5)) u11 <| m (mv (.t n0)) u12 <| m (lenm T.s42 (.t n12)) u13 <| m (lss (.t n11) (.t n13)) u14 <| e ?_
  refine cnd n14 (fun h1 => ?_) (fun h1 => ?_)
  ·
    replace h1 := of_decide_eq_true h1
    refine skp ?_
    refine sq ?_
    refine bk ?_
    refine sd none [(0, true), (1, true), (2, true), (3, true), (4, true), (5, true), (6, true), (7, true), (8, false), (9, true)] T.mix (by kernel_rfl) <| om n0 (mv (.t n0)) u17 <| om n1 (mv (.t n5)) u18 <| om n2 (ixm T.s42 (Int.natCast_nonneg _) (gi (by omega)) (.t n17) (.t n18)) u19 <| om n3 (lae T.a104 k9 (.t n19)) u20 <| om n4 (mv (.t n1)) u21 <| om n5 (mv (.t n5)) u22 <| om n6 (ixm T.s42 (Int.natCast_nonneg _) (gi (by omega)) (.t n21) (.t n22)) u23 <| om n7 (lae T.a104 k9 (.t n23)) u24 <| oc n8 (call (sp_laws_eqDevice _) (.c (.t n20) rfl (.c (.t n24) rfl .n))) u25 <| om n9 (not_ (.t n25)) u26 <| oe ?_
    refine cdf n26 ?_
    refine skp ?_
    refine rg <| m (mv (.t n5)) u15 <| m (add (.t n15) (.i rfl)) u16 <| m (as_ (.t n16)) u5 <| e ?_
    exact ⟨i + 1, (by omega), (by omega), le [] (by decide) (.c (.e rfl rfl) (.c (.e rfl rfl) (.c .a (.c .a (.c .a (.c (.e (wi (by omega)) rfl) (.c .a (.c .a (.c .a (.c .a (.c .a (.c .a (.c .a (.c .a (.c .a (.c .a (.c .a (.c .a (.c .a (.c .a (.c .a (.c .a (.c .a (.c .a (.c .a (.c .a (.c .a .n))))))))))))))))))))))))))) .n⟩
  ·
    replace h1 := of_decide_eq_false h1
    refine ex (x1 ?_)
    refine sr <| m (as_ .b) u4 <| e ?_
    refine rt (ret1 (.t n4 (.p rfl) .n) ?_)
    rfl

theorem sp_laws_eqBoolS (l : List Bool) : Spec Tryz.prog G0 46 [.slice 1 (l.map bV), .slice 1 (l.map bV)] (fun r => r = .bool true) := by
  refine enter (l := [.tmp 4]) Tryz.func46 rfl Tryz.ntmps46 rfl T.en46 fun E => ?_
  simp only [List.length_cons, List.length_nil, List.replicate_succ, List.replicate_zero, List.cons_append, List.nil_append, Nat.reduceAdd, Nat.reduceSub]
  refine rngl n0 fun hlen => ?_
  simp only [List.length_map, maxLen] at hlen
  refine sr <| m (as_ .b) u4 <| e ?_
  refine sq ?_
  refine sr <| m (mv (.t n0)) u6 <| m (lenm T.s23 (.t n6)) u7 <| m (mv (.t n1)) u8 <| m (lenm T.s23 (.t n8)) u9 <| m (neqs (.t n7) (.t n9)) u10 <| e ?_
  refine cdf n10 ?_
  refine skp ?_
  refine sq ?_
  refine sr <| m (as_ (.i rfl)) u5 <| e ?_
  refine bk ?_
  refine lp (fun i : Nat => ⟨[.slice 1 (l.map bV), .slice 1 (l.map bV), .any, .any, .any, .int .i64 (i : Int), .any, .any, .any, .any, .any, .any, .any, .any, .any, .any, .any, .any, .any, .any, .any, .any, .any, .any, .any, .any], []⟩) (fun i : Nat => i ≤ l.length) (fun i : Nat => l.length - i) (0) (by simp) (le [] (by decide) (.c (.e rfl rfl) (.c (.e rfl rfl) (.c .a (.c .a (.c .a (.c (.e rfl rfl) (.c .a (.c .a (.c .a (.c .a (.c .a (.c .a (.c .a (.c .a (.c .a (.c .a (.c .a (.c .a (.c .a (.c .a (.c .a (.c .a (.c .a (.c .a (.c .a (.c .a .n)))))))))))))))))))))))))) .n) ?_
  rintro i hJ
  try dsimp only at hJ ⊢
  refine sq ?_
  refine sr <| m (mv (.t n5)) u11 <| m (mv (.t n0)) u12 <| m (lenm T.s23 (.t n12)) u13 <| m (lss (.t n11) (.t n13)) u14 <| e ?_
  refine cnd n14 (fun h1 => ?_) (fun h1 => ?_)
  ·
    replace h1 := of_decide_eq_true h1
    refine skp ?_
    refine sq ?_
    refine bk ?_
    refine sd none [(0, true), (1, true), (2, true), (3, true), (4, true), (5, true), (6, true), (7, true), (8, true)] T.mix (by kernel_rfl) <| om n0 (mv (.t n0)) u17 <| om n1 (mv (.t n5)) u18 <| om n2 (ixm T.s23 (Int.natCast_nonneg _) (gi (by omega)) (.t n17) (.t n18)) u19 <| om n3 (lde T.o4 n0 (.t n19)) u20 <| om n4 (mv (.t n1)) u21 <| om n5 (mv (.t n5)) u22 <| om n6 (ixm T.s23 (Int.natCast_nonneg _) (gi (by omega)) (.t n21) (.t n22)) u23 <| om n7 (lde T.o4 n0 (.t n23)) u24 <| om n8 (bnes Tryz.underlying4 (.t n20) (.t n24)) u25 <| oe ?_
    refine cdf n25 ?_
    refine skp ?_
    refine rg <| m (mv (.t n5)) u15 <| m (add (.t n15) (.i rfl)) u16 <| m (as_ (.t n16)) u5 <| e ?_
    exact ⟨i + 1, (by omega), (by omega), le [] (by decide) (.c (.e rfl rfl) (.c (.e rfl rfl) (.c .a (.c .a (.c .a (.c (.e (wi (by omega)) rfl) (.c .a (.c .a (.c .a (.c .a (.c .a (.c .a (.c .a (.c .a (.c .a (.c .a (.c .a (.c .a (.c .a (.c .a (.c .a (.c .a (.c .a (.c .a (.c .a (.c .a .n)))))))))))))))))))))))))) .n⟩
  ·
    replace h1 := of_decide_eq_false h1
    refine ex (x1 ?_)
    refine sr <| m (as_ .b) u4 <| e ?_
    refine rt (ret1 (.t n4 (.p rfl) .n) ?_)
    rfl

theorem sp_laws_eqByteS (l : List Int) : Spec Tryz.prog G0 167 [.slice 1 (l.map y8), .slice 1 (l.map y8)] (fun r => r = .bool true) := by
  refine enter (l := [.tmp 4]) Tryz.func167 rfl Tryz.ntmps167 rfl T.en167 fun E => ?_
  simp only [List.length_cons, List.length_nil, List.replicate_succ, List.replicate_zero, List.cons_append, List.nil_append, Nat.reduceAdd, Nat.reduceSub]
  refine rngl n0 fun hlen => ?_
  simp only [List.length_map, maxLen] at hlen
  refine sr <| m (as_ .b) u4 <| e ?_
  refine sq ?_
  refine sr <| m (mv (.t n0)) u6 <| m (lenm T.s174 (.t n6)) u7 <| m (mv (.t n1)) u8 <| m (lenm T.s174 (.t n8)) u9 <| m (neqs (.t n7) (.t n9)) u10 <| e ?_
  refine cdf n10 ?_
  refine skp ?_
  refine sq ?_
  refine sr <| m (as_ (.i rfl)) u5 <| e ?_
  refine bk ?_
  refine lp (fun i : Nat => ⟨[.slice 1 (l.map y8), .slice 1 (l.map y8), .any, .any, .any, .int .i64 (i : Int), .any, .any, .any, .any, .any, .any, .any, .any, .any, .any, .any, .any, .any, .any, .any, .any, .any, .any, .any, .any], []⟩) (fun i : Nat => i ≤ l.length) (fun i : Nat => l.length - i) (0) (by simp) (le [] (by decide) (.c (.e rfl rfl) (.c (.e rfl rfl) (.c .a (.c .a (.c .a (.c (.e rfl rfl) (.c .a (.c .a (.c .a (.c .a (.c .a (.c .a (.c .a (.c .a (.c .a (.c .a (.c .a (.c .a (.c .a (.c .a (.c .a (.c .a (.c .a (.c .a (.c .a (.c .a .n)))))))))))))))))))))))))) .n) ?_
  rintro i hJ
  try dsimp only at hJ ⊢
  refine sq ?_
  refine sr <| m (mv (.t n5)) u11 <| m (mv (.t n0)) u12 <| m (lenm T.s174 (.t n12)) u13 <| m (lss (.t n11) (.t n13)) u14 <| e ?_
  refine cnd n14 (fun h1 => ?_) (fun h1 => ?_)
  ·
    replace h1 := of_decide_eq_true h1
    refine skp ?_
    refine sq ?_
    refine bk ?_
    refine sd none [(0, true), (1, true), (2, true), (3, true), (4, true), (5, true), (6, true), (7, true), (8, true)] T.mix (by kernel_rfl) <| om n0 (mv (.t n0)) u17 <| om n1 (mv (.t n5)) u18 <| om n2 (ixm T.s174 (Int.natCast_nonneg _) (gi (by omega)) (.t n17) (.t n18)) u19 <| om n3 (lde T.o5 n0 (.t n19)) u20 <| om n4 (mv (.t n1)) u21 <| om n5 (mv (.t n5)) u22 <| om n6 (ixm T.s174 (Int.natCast_nonneg _) (gi (by omega)) (.t n21) (.t n22)) u23 <| om n7 (lde T.o5 n0 (.t n23)) u24 <| om n8 (neqs (.t n20) (.t n24)) u25 <| oe ?_
    refine cdf n25 ?_
    refine skp ?_
    refine rg <| m (mv (.t n5)) u15 <| m (add (.t n15) (.i rfl)) u16 <| m (as_ (.t n16)) u5 <| e ?_
    exact ⟨i + 1, (by omega), (by omega), le [] (by decide) (.c (.e rfl rfl) (.c (.e rfl rfl) (.c .a (.c .a (.c .a (.c (.e (wi (by omega)) rfl) (.c .a (.c .a (.c .a (.c .a (.c .a (.c .a (.c .a (.c .a (.c .a (.c .a (.c .a (.c .a (.c .a (.c .a (.c .a (.c .a (.c .a (.c .a (.c .a (.c .a .n)))))))))))))))))))))))))) .n⟩
  ·
    replace h1 := of_decide_eq_false h1
    refine ex (x1 ?_)
    refine sr <| m (as_ .b) u4 <| e ?_
    refine rt (ret1 (.t n4 (.p rfl) .n) ?_)
    rfl

theorem sp_laws_eqBox (x : D.Box) : Spec Tryz.prog G0 166 [.agg (D.Box.V x), .agg (D.Box.V x)] (fun r => r = .bool true) := by
  refine enter (l := [.tmp 4]) Tryz.func166 rfl Tryz.ntmps166 rfl T.en166 fun E => ?_
  simp only [List.length_cons, List.length_nil, List.replicate_succ, List.replicate_zero, List.cons_append, List.nil_append, Nat.reduceAdd, Nat.reduceSub]
  refine sr <| k (bx rfl s0 u2 (.t n0)) <| k (bx rfl s1 u3 (.t n1)) <| m (as_ .b) u4 <| e ?_
  refine sq ?_
  refine sr <| m (fab 0 rfl T.f220_0 (.t n2)) u5 <| m (ldb T.o3 n0 n0 (.t n5)) u6 <| m (fab 0 rfl T.f220_0 (.t n3)) u7 <| m (ldb T.o3 n1 n0 (.t n7)) u8 <| m (neqs (.t n6) (.t n8)) u9 <| e ?_
  refine cdf n9 ?_
  refine skp ?_
  refine sq ?_
  refine sr <| m (fab 1 rfl T.f220_1 (.t n2)) u10 <| m (ldb T.o3 n0 n1 (.t n10)) u11 <| m (fab 1 rfl T.f220_1 (.t n3)) u12 <| m (ldb T.o3 n1 n1 (.t n12)) u13 <| m (neqs (.t n11) (.t n13)) u14 <| e ?_
  refine cdf n14 ?_
  refine skp ?_
  refine sq ?_
  refine sr <| m (fab 2 rfl T.f220_2 (.t n2)) u15 <| m (ldb T.o174 n0 n2 (.t n15)) u16 <| m (fab 2 rfl T.f220_2 (.t n3)) u17 <| m (ldb T.o174 n1 n2 (.t n17)) u18 <| c (call (sp_laws_eqByteS _) (.c (.t n16) rfl (.c (.t n18) rfl .n))) u19 <| m (not_ (.t n19)) u20 <| e ?_
  refine cdf n20 ?_
  refine skp ?_
  refine sq ?_
  refine sr <| m (fab 3 rfl T.f220_3 (.t n2)) u21 <| m (ldb T.o3 n0 n3 (.t n21)) u22 <| m (fab 3 rfl T.f220_3 (.t n3)) u23 <| m (ldb T.o3 n1 n3 (.t n23)) u24 <| m (neqs (.t n22) (.t n24)) u25 <| e ?_
  refine cdf n25 ?_
  refine skp ?_
  refine sr <| m (as_ .b) u4 <| e ?_
  refine rt (ret1 (.t n4 (.p rfl) .n) ?_)
  rfl

theorem sp_laws_eqBoxS (l : List D.Box) : Spec Tryz.prog G0 137 [.slice 4 (l.map D.Box.V), .slice 4 (l.map D.Box.V)] (fun r => r = .bool true) := by
  refine enter (l := [.tmp 4]) Tryz.func137 rfl Tryz.ntmps137 rfl T.en137 fun E => ?_
  simp only [List.length_cons, List.length_nil, List.replicate_succ, List.replicate_zero, List.cons_append, List.nil_append, Nat.reduceAdd, Nat.reduceSub]
  refine rngl n0 fun hlen => ?_
  simp only [List.length_map, maxLen] at hlen
  refine sr <| m (as_ .b) u4 <| e ?_
  refine sq ?_
  refine sr <| m (mv (.t n0)) u6 <| m (lenm T.s44 (.t n6)) u7 <| m (mv (.t n1)) u8 <| m (lenm T.s44 (.t n8)) u9 <| m (neqs (.t n7) (.t n9)) u10 <| e ?_
  refine cdf n10 ?_
  refine skp ?_
  refine sq ?_
  refine sr <| m (as_ (.i rfl)) u5 <| e ?_
  refine bk ?_
  refine lp (fun i : Nat => ⟨[.slice 4 (l.map D.Box.V), .slice 4 (l.map D.Box.V), .any, .any, .any, .int .i64 (i : Int), .any, .any, .any, .any, .any, .any, .any, .any, .any, .any, .any, .any, .any, .any, .any, .any, .any, .any, .any, .any, .any], []⟩) (fun i : Nat => i ≤ l.length) (fun i : Nat => l.length - i) (0) (by simp) (le [] (by decide) (.c (.e rfl rfl) (.c (.e rfl rfl) (.c .a (.c .a (.c .a (.c (.e rfl rfl) (.c .a (.c .a (.c .a (.c .a (.c .a (.c .a (.c .a (.c .a (.c .a (.c .a (.c .a (.c .a (.c .a (.c .a (.c .a (.c .a (.c .a (.c .a (.c .a (.c .a (.c .a .n))))))))))))))))))))))))))) .n) ?_
  rintro i hJ
  try dsimp only at hJ ⊢
  refine sq ?_
  refine sr <| m (mv (.t n5)) u11 <| m (mv (.t n0)) u12 <| m (lenm T.s44 (.t n12)) u13 <| m (lss (.t n11) (.t n13)) u14 <| e ?_
  refine cnd n14 (fun h1 => ?_) (fun h1 => ?_)
  ·
    replace h1 := of_decide_eq_true h1
    refine skp ?_
    refine sq ?_
    refine bk ?_
    refine sd none [(0, true), (1, true), (2, true), (3, true), (4, true), (5, true), (6, true), (7, true), (8, false), (9, true)] T.mix (by kernel_rfl) <| om n0 (mv (.t n0)) u17 <| om n1 (mv (.t n5)) u18 <| om n2 (ixm T.s44 (Int.natCast_nonneg _) (gi (by omega)) (.t n17) (.t n18)) u19 <| om n3 (lae T.a220 k4 (.t n19)) u20 <| om n4 (mv (.t n1)) u21 <| om n5 (mv (.t n5)) u22 <| om n6 (ixm T.s44 (Int.natCast_nonneg _) (gi (by omega)) (.t n21) (.t n22)) u23 <| om n7 (lae T.a220 k4 (.t n23)) u24 <| oc n8 (call (sp_laws_eqBox _) (.c (.t n20) rfl (.c (.t n24) rfl .n))) u25 <| om n9 (not_ (.t n25)) u26 <| oe ?_
    refine cdf n26 ?_
    refine skp ?_
    refine rg <| m (mv (.t n5)) u15 <| m (add (.t n15) (.i rfl)) u16 <| m (as_ (.t n16)) u5 <| e ?_
    exact ⟨i + 1, (by omega), (by omega), le [] (by decide) (.c (.e rfl rfl) (.c (.e rfl rfl) (.c .a (.c .a (.c .a (.c (.e (wi (by omega)) rfl) (.c .a (.c .a (.c .a (.c .a (.c .a (.c .a (.c .a (.c .a (.c .a (.c .a (.c .a (.c .a (.c .a (.c .a (.c .a (.c .a (.c .a (.c .a (.c .a (.c .a (.c .a .n))))))))))))))))))))))))))) .n⟩
  ·
    replace h1 := of_decide_eq_false h1
    refine ex (x1 ?_)
    refine sr <| m (as_ .b) u4 <| e ?_
    refine rt (ret1 (.t n4 (.p rfl) .n) ?_)
    rfl

theorem sp_laws_eqEpochBoxes (x : D.EpochBoxes) : Spec Tryz.prog G0 91 [.agg (D.EpochBoxes.V x), .agg (D.EpochBoxes.V x)] (fun r => r = .bool true) := by
  refine enter (l := [.tmp 4]) Tryz.func91 rfl Tryz.ntmps91 rfl T.en91 fun E => ?_
  simp only [List.length_cons, List.length_nil, List.replicate_succ, List.replicate_zero, List.cons_append, List.nil_append, Nat.reduceAdd, Nat.reduceSub]
  refine sr <| k (bx rfl s0 u2 (.t n0)) <| k (bx rfl s1 u3 (.t n1)) <| m (as_ .b) u4 <| e ?_
  refine sq ?_
  refine sr <| m (fab 0 rfl T.f46_0 (.t n2)) u5 <| m (ldb T.o3 n0 n0 (.t n5)) u6 <| m (fab 0 rfl T.f46_0 (.t n3)) u7 <| m (ldb T.o3 n1 n0 (.t n7)) u8 <| m (neqs (.t n6) (.t n8)) u9 <| e ?_
  refine cdf n9 ?_
  refine skp ?_
  refine sq ?_
  refine sr <| m (fab 1 rfl T.f46_1 (.t n2)) u10 <| m (ldb T.o44 n0 n1 (.t n10)) u11 <| m (fab 1 rfl T.f46_1 (.t n3)) u12 <| m (ldb T.o44 n1 n1 (.t n12)) u13 <| c (call (sp_laws_eqBoxS _) (.c (.t n11) rfl (.c (.t n13) rfl .n))) u14 <| m (not_ (.t n14)) u15 <| e ?_
  refine cdf n15 ?_
  refine skp ?_
  refine sr <| m (as_ .b) u4 <| e ?_
  refine rt (ret1 (.t n4 (.p rfl) .n) ?_)
  rfl

theorem sp_laws_eqSealedBundle (x : D.SealedBundle) : Spec Tryz.prog G0 138 [.agg (D.SealedBundle.V x), .agg (D.SealedBundle.V x)] (fun r => r = .bool true) := by
  refine enter (l := [.tmp 4]) Tryz.func138 rfl Tryz.ntmps138 rfl T.en138 fun E => ?_
  simp only [List.length_cons, List.length_nil, List.replicate_succ, List.replicate_zero, List.cons_append, List.nil_append, Nat.reduceAdd, Nat.reduceSub]
  refine sr <| k (bx rfl s0 u2 (.t n0)) <| k (bx rfl s1 u3 (.t n1)) <| m (as_ .b) u4 <| e ?_
  refine sq ?_
  refine sr <| m (fab 0 rfl T.f194_0 (.t n2)) u5 <| m (ldb T.o3 n0 n0 (.t n5)) u6 <| m (fab 0 rfl T.f194_0 (.t n3)) u7 <| m (ldb T.o3 n1 n0 (.t n7)) u8 <| m (neqs (.t n6) (.t n8)) u9 <| e ?_
  refine cdf n9 ?_
  refine skp ?_
  refine sq ?_
  refine sr <| m (fab 1 rfl T.f194_1 (.t n2)) u10 <| m (ldb T.o3 n0 n1 (.t n10)) u11 <| m (fab 1 rfl T.f194_1 (.t n3)) u12 <| m (ldb T.o3 n1 n1 (.t n12)) u13 <| m (neqs (.t n11) (.t n13)) u14 <| e ?_
  refine cdf n14 ?_
  refine skp ?_
  refine sq ?_
  refine sr <| m (fab 2 rfl T.f194_2 (.t n2)) u15 <| m (ldb T.o174 n0 n2 (.t n15)) u16 <| m (fab 2 rfl T.f194_2 (.t n3)) u17 <| m (ldb T.o174 n1 n2 (.t n17)) u18 <| c (call (sp_laws_eqByteS _) (.c (.t n16) rfl (.c (.t n18) rfl .n))) u19 <| m (not_ (.t n19)) u20 <| e ?_
  refine cdf n20 ?_
  refine skp ?_
  refine sq ?_
  refine sr <| m (fab 3 rfl T.f194_3 (.t n2)) u21 <| m (ldb T.o3 n0 n3 (.t n21)) u22 <| m (fab 3 rfl T.f194_3 (.t n3)) u23 <| m (ldb T.o3 n1 n3 (.t n23)) u24 <| m (neqs (.t n22) (.t n24)) u25 <| e ?_
  refine cdf n25 ?_
  refine skp ?_
  refine sr <| m (as_ .b) u4 <| e ?_
  refine rt (ret1 (.t n4 (.p rfl) .n) ?_)
  rfl

theorem sp_laws_eqSealedBundleS (l : List D.SealedBundle) : Spec Tryz.prog G0 92 [.slice 4 (l.map D.SealedBundle.V), .slice 4 (l.map D.SealedBundle.V)] (fun r => r = .bool true) := by
  refine enter (l := [.tmp 4]) Tryz.func92 rfl Tryz.ntmps92 rfl T.en92 fun E => ?_
  simp only [List.length_cons, List.length_nil, List.replicate_succ, List.replicate_zero, List.cons_append, List.nil_append, Nat.reduceAdd, Nat.reduceSub]
  refine rngl n0 fun hlen => ?_
  simp only [List.length_map, maxLen] at hlen
  refine sr <| m (as_ .b) u4 <| e ?_
  refine sq ?_
  refine sr <| m (mv (.t n0)) u6 <| m (lenm T.s47 (.t n6)) u7 <| m (mv (.t n1)) u8 <| m (lenm T.s47 (.t n8)) u9 <| m (neqs (.t n7) (.t n9)) u10 <| e ?_
  refine cdf n10 ?_
  refine skp ?_
  refine sq ?_
  refine sr <| m (as_ (.i rfl)) u5 <| e ?_
  refine bk ?_
  refine lp (fun i : Nat => ⟨[.slice 4 (l.map D.SealedBundle.V), .slice 4 (l.map D.SealedBundle.V), .any, .any, .any, .int .i64 (i : Int), .any, .any, .any, .any, .any, .any, .any, .any, .any, .any, .any, .any, .any, .any, .any, .any, .any, .any, .any, .any, .any], []⟩) (fun i : Nat => i ≤ l.length) (fun i : Nat => l.length - i) (0) (by simp) (le [] (by decide) (.c (.e rfl rfl) (.c (.e rfl rfl) (.c .a (.c .a (.c .a (.c (.e rfl rfl) (.c .a (.c .a (.c .a (.c .a (.c .a (.c .a (.c .a (.c .a (.c .a (.c .a (.c .a (.c .a (.c .a (.c .a (.c .a (.c .a (.c .a (.c .a (.c .a (.c .a (.c .a .n))))))))))))))))))))))))))) .n) ?_
  rintro i hJ
  try dsimp only at hJ ⊢
  refine sq ?_
  refine sr <| m (mv (.t n5)) u11 <| m (mv (.t n0)) u12 <| m (lenm T.s47 (.t n12)) u13 <| m (lss (.t n11) (.t n13)) u14 <| e ?_
  refine cnd n14 (fun h1 => ?_) (fun h1 => ?_)
  ·
    replace h1 := of_decide_eq_true h1
    refine skp ?_
    refine sq ?_
    refine bk ?_
    refine sd none [(0, true), (1, true), (2, true), (3, true), (4, true), (5, true), (6, true), (7, true), (8, false), (9, true)] T.mix (by kernel_rfl) <| om n0 (mv (.t n0)) u17 <| om n1 (mv (.t n5)) u18 <| om n2 (ixm T.s47 (Int.natCast_nonneg _) (gi (by omega)) (.t n17) (.t n18)) u19 <| om n3 (lae T.a194 k4 (.t n19)) u20 <| om n4 (mv (.t n1)) u21 <| om n5 (mv (.t n5)) u22 <| om n6 (ixm T.s47 (Int.natCast_nonneg _) (gi (by omega)) (.t n21) (.t n22)) u23 <| om n7 (lae T.a194 k4 (.t n23)) u24 <| oc n8 (call (sp_laws_eqSealedBundle _) (.c (.t n20) rfl (.c (.t n24) rfl .n))) u25 <| om n9 (not_ (.t n25)) u26 <| oe ?_
    refine cdf n26 ?_
    refine skp ?_
    refine rg <| m (mv (.t n5)) u15 <| m (add (.t n15) (.i rfl)) u16 <| m (as_ (.t n16)) u5 <| e ?_
    exact ⟨i + 1, (by omega), (by omega), le [] (by decide) (.c (.e rfl rfl) (.c (.e rfl rfl) (.c .a (.c .a (.c .a (.c (.e (wi (by omega)) rfl) (.c .a (.c .a (.c .a (.c .a (.c .a (.c .a (.c .a (.c .a (.c .a (.c .a (.c .a (.c .a (.c .a (.c .a (.c .a (.c .a (.c .a (.c .a (.c .a (.c .a (.c .a .n))))))))))))))))))))))))))) .n⟩
  ·
    replace h1 := of_decide_eq_false h1
    refine ex (x1 ?_)
    refine sr <| m (as_ .b) u4 <| e ?_
    refine rt (ret1 (.t n4 (.p rfl) .n) ?_)
    rfl

theorem sp_laws_eqCloud (x : D.Cloud) : Spec Tryz.prog G0 47 [.agg (D.Cloud.V x), .agg (D.Cloud.V x)] (fun r => r = .bool true) := by
  refine enter (l := [.tmp 4]) Tryz.func47 rfl Tryz.ntmps47 rfl T.en47 fun E => ?_
  simp only [List.length_cons, List.length_nil, List.replicate_succ, List.replicate_zero, List.cons_append, List.nil_append, Nat.reduceAdd, Nat.reduceSub]
  refine sr <| k (bx rfl s0 u2 (.t n0)) <| k (bx rfl s1 u3 (.t n1)) <| m (as_ .b) u4 <| e ?_
  refine sq ?_
  refine sr <| m (fab 0 rfl T.f49_0 (.t n2)) u5 <| m (ldb T.o43 n0 n0 (.t n5)) u6 <| m (fab 0 rfl T.f49_0 (.t n3)) u7 <| m (ldb T.o43 n1 n0 (.t n7)) u8 <| c (call (sp_laws_eqLogEntryS _) (.c (.t n6) rfl (.c (.t n8) rfl .n))) u9 <| m (not_ (.t n9)) u10 <| e ?_
  refine cdf n10 ?_
  refine skp ?_
  refine sq ?_
  refine sr <| m (fab 1 rfl T.f49_1 (.t n2)) u11 <| m (lab T.a46 n0 d1 k2 (.t n11)) u12 <| m (fab 1 rfl T.f49_1 (.t n3)) u13 <| m (lab T.a46 n1 d1 k2 (.t n13)) u14 <| c (call (sp_laws_eqEpochBoxes _) (.c (.t n12) rfl (.c (.t n14) rfl .n))) u15 <| m (not_ (.t n15)) u16 <| e ?_
  refine cdf n16 ?_
  refine skp ?_
  refine sq ?_
  refine sr <| m (fab 3 rfl T.f49_2 (.t n2)) u17 <| m (ldb T.o47 n0 n3 (.t n17)) u18 <| m (fab 3 rfl T.f49_2 (.t n3)) u19 <| m (ldb T.o47 n1 n3 (.t n19)) u20 <| c (call (sp_laws_eqSealedBundleS _) (.c (.t n18) rfl (.c (.t n20) rfl .n))) u21 <| m (not_ (.t n21)) u22 <| e ?_
  refine cdf n22 ?_
  refine skp ?_
  refine sr <| m (as_ .b) u4 <| e ?_
  refine rt (ret1 (.t n4 (.p rfl) .n) ?_)
  rfl

theorem sp_laws_eqCredential (x : D.Credential) : Spec Tryz.prog G0 187 [.agg (D.Credential.V x), .agg (D.Credential.V x)] (fun r => r = .bool true) := by
  refine enter (l := [.tmp 4]) Tryz.func187 rfl Tryz.ntmps187 rfl T.en187 fun E => ?_
  simp only [List.length_cons, List.length_nil, List.replicate_succ, List.replicate_zero, List.cons_append, List.nil_append, Nat.reduceAdd, Nat.reduceSub]
  refine sr <| k (bx rfl s0 u2 (.t n0)) <| k (bx rfl s1 u3 (.t n1)) <| m (as_ .b) u4 <| e ?_
  refine sq ?_
  refine sr <| m (fab 0 rfl T.f125_0 (.t n2)) u5 <| m (ldb T.o3 n0 n0 (.t n5)) u6 <| m (fab 0 rfl T.f125_0 (.t n3)) u7 <| m (ldb T.o3 n1 n0 (.t n7)) u8 <| m (neqs (.t n6) (.t n8)) u9 <| e ?_
  refine cdf n9 ?_
  refine skp ?_
  refine sq ?_
  refine sr <| m (fab 1 rfl T.f125_1 (.t n2)) u10 <| m (ldb T.o3 n0 n1 (.t n10)) u11 <| m (fab 1 rfl T.f125_1 (.t n3)) u12 <| m (ldb T.o3 n1 n1 (.t n12)) u13 <| m (neqs (.t n11) (.t n13)) u14 <| e ?_
  refine cdf n14 ?_
  refine skp ?_
  refine sq ?_
  refine sr <| m (fab 2 rfl T.f125_2 (.t n2)) u15 <| m (ldb T.o3 n0 n2 (.t n15)) u16 <| m (fab 2 rfl T.f125_2 (.t n3)) u17 <| m (ldb T.o3 n1 n2 (.t n17)) u18 <| m (neqs (.t n16) (.t n18)) u19 <| e ?_
  refine cdf n19 ?_
  refine skp ?_
  refine sq ?_
  refine sr <| m (fab 3 rfl T.f125_3 (.t n2)) u20 <| m (ldb T.o4 n0 n3 (.t n20)) u21 <| m (fab 3 rfl T.f125_3 (.t n3)) u22 <| m (ldb T.o4 n1 n3 (.t n22)) u23 <| m (bnes Tryz.underlying4 (.t n21) (.t n23)) u24 <| e ?_
  refine cdf n24 ?_
  refine skp ?_
  refine sr <| m (as_ .b) u4 <| e ?_
  refine rt (ret1 (.t n4 (.p rfl) .n) ?_)
  rfl

theorem sp_laws_eqCredentialS (l : List D.Credential) : Spec Tryz.prog G0 184 [.slice 4 (l.map D.Credential.V), .slice 4 (l.map D.Credential.V)] (fun r => r = .bool true) := by
  refine enter (l := [.tmp 4]) Tryz.func184 rfl Tryz.ntmps184 rfl T.en184 fun E => ?_
  simp only [List.length_cons, List.length_nil, List.replicate_succ, List.replicate_zero, List.cons_append, List.nil_append, Nat.reduceAdd, Nat.reduceSub]
  refine rngl n0 fun hlen => ?_
  simp only [List.length_map, maxLen] at hlen
  refine sr <| m (as_ .b) u4 <| e ?_
  refine sq ?_
  refine sr <| m (mv (.t n0)) u6 <| m (lenm T.s121 (.t n6)) u7 <| m (mv (.t n1)) u8 <| m (lenm T.s121 (.t n8)) u9 <| m (neqs (.t n7) (.t n9)) u10 <| e ?_
  refine cdf n10 ?_
  refine skp ?_
  refine sq ?_
  refine sr <| m (as_ (.i rfl)) u5 <| e ?_
  refine bk ?_
  refine lp (fun i : Nat => ⟨[.slice 4 (l.map D.Credential.V), .slice 4 (l.map D.Credential.V), .any, .any, .any, .int .i64 (i : Int), .any, .any, .any, .any, .any, .any, .any, .any, .any, .any, .any, .any, .any, .any, .any, .any, .any, .any, .any, .any, .any], []⟩) (fun i : Nat => i ≤ l.length) (fun i : Nat => l.length - i) (0) (by simp) (le [] (by decide) (.c (.e rfl rfl) (.c (.e rfl rfl) (.c .a (.c .a (.c .a (.c (.e rfl rfl) (.c .a (.c .a (.c .a (.c .a (.c .a (.c .a (.c .a (.c .a (.c .a (.c .a (.c .a (.c .a (.c .a (.c .a (.c .a (.c .a (.c .a (.c .a (.c .a (.c .a (.c .a .n))))))))))))))))))))))))))) .n) ?_
  rintro i hJ
  try dsimp only at hJ ⊢
  refine sq ?_
  refine sr <| m (mv (.t n5)) u11 <| m (mv (.t n0)) u12 <| m (lenm T.s121 (.t n12)) u13 <| m (lss (.t n11) (.t n13)) u14 <| e ?_
  refine cnd n14 (fun h1 => ?_) (fun h1 => ?_)
  ·
    replace h1 := of_decide_eq_true h1
    refine skp ?_
    refine sq ?_
    refine bk ?_
    refine sd none [(0, true), (1, true), (2, true), (3, true), (4, true), (5, true), (6, true), (7, true), (8, false), (9, true)] T.mix (by kernel_rfl) <| om n0 (mv (.t n0)) u17 <| om n1 (mv (.t n5)) u18 <| om n2 (ixm T.s121 (Int.natCast_nonneg _) (gi (by omega)) (.t n17) (.t n18)) u19 <| om n3 (lae T.a125 k4 (.t n19)) u20 <| om n4 (mv (.t n1)) u21 <| om n5 (mv (.t n5)) u22 <| om n6 (ixm T.s121 (Int.natCast_nonneg _) (gi (by omega)) (.t n21) (.t n22)) u23 <| om n7 (lae T.a125 k4 (.t n23)) u24 <| oc n8 (call (sp_laws_eqCredential _) (.c (.t n20) rfl (.c (.t n24) rfl .n))) u25 <| om n9 (not_ (.t n25)) u26 <| oe ?_
    refine cdf n26 ?_
    refine skp ?_
    refine rg <| m (mv (.t n5)) u15 <| m (add (.t n15) (.i rfl)) u16 <| m (as_ (.t n16)) u5 <| e ?_
    exact ⟨i + 1, (by omega), (by omega), le [] (by decide) (.c (.e rfl rfl) (.c (.e rfl rfl) (.c .a (.c .a (.c .a (.c (.e (wi (by omega)) rfl) (.c .a (.c .a (.c .a (.c .a (.c .a (.c .a (.c .a (.c .a (.c .a (.c .a (.c .a (.c .a (.c .a (.c .a (.c .a (.c .a (.c .a (.c .a (.c .a (.c .a (.c .a .n))))))))))))))))))))))))))) .n⟩
  ·
    replace h1 := of_decide_eq_false h1
    refine ex (x1 ?_)
    refine sr <| m (as_ .b) u4 <| e ?_
    refine rt (ret1 (.t n4 (.p rfl) .n) ?_)
    rfl

theorem sp_laws_eqAccount (x : D.Account) : Spec Tryz.prog G0 168 [.agg (D.Account.V x), .agg (D.Account.V x)] (fun r => r = .bool true) := by
  refine enter (l := [.tmp 4]) Tryz.func168 rfl Tryz.ntmps168 rfl T.en168 fun E => ?_
  simp only [List.length_cons, List.length_nil, List.replicate_succ, List.replicate_zero, List.cons_append, List.nil_append, Nat.reduceAdd, Nat.reduceSub]
  refine sr <| k (bx rfl s0 u2 (.t n0)) <| k (bx rfl s1 u3 (.t n1)) <| m (as_ .b) u4 <| e ?_
  refine sq ?_
  refine sr <| m (fab 0 rfl T.f123_0 (.t n2)) u5 <| m (ldb T.o3 n0 n0 (.t n5)) u6 <| m (fab 0 rfl T.f123_0 (.t n3)) u7 <| m (ldb T.o3 n1 n0 (.t n7)) u8 <| m (neqs (.t n6) (.t n8)) u9 <| e ?_
  refine cdf n9 ?_
  refine skp ?_
  refine sq ?_
  refine sr <| m (fab 1 rfl T.f123_1 (.t n2)) u10 <| m (ldb T.o3 n0 n1 (.t n10)) u11 <| m (fab 1 rfl T.f123_1 (.t n3)) u12 <| m (ldb T.o3 n1 n1 (.t n12)) u13 <| m (neqs (.t n11) (.t n13)) u14 <| e ?_
  refine cdf n14 ?_
  refine skp ?_
  refine sq ?_
  refine sr <| m (fab 2 rfl T.f123_2 (.t n2)) u15 <| m (ldb T.o121 n0 n2 (.t n15)) u16 <| m (fab 2 rfl T.f123_2 (.t n3)) u17 <| m (ldb T.o121 n1 n2 (.t n17)) u18 <| c (call (sp_laws_eqCredentialS _) (.c (.t n16) rfl (.c (.t n18) rfl .n))) u19 <| m (not_ (.t n19)) u20 <| e ?_
  refine cdf n20 ?_
  refine skp ?_
  refine sr <| m (as_ .b) u4 <| e ?_
  refine rt (ret1 (.t n4 (.p rfl) .n) ?_)
  rfl

theorem sp_laws_eqAccountS (l : List D.Account) : Spec Tryz.prog G0 139 [.slice 3 (l.map D.Account.V), .slice 3 (l.map D.Account.V)] (fun r => r = .bool true) := by
  refine enter (l := [.tmp 4]) Tryz.func139 rfl Tryz.ntmps139 rfl T.en139 fun E => ?_
  simp only [List.length_cons, List.length_nil, List.replicate_succ, List.replicate_zero, List.cons_append, List.nil_append, Nat.reduceAdd, Nat.reduceSub]
  refine rngl n0 fun hlen => ?_
  simp only [List.length_map, maxLen] at hlen
  refine sr <| m (as_ .b) u4 <| e ?_
  refine sq ?_
  refine sr <| m (mv (.t n0)) u6 <| m (lenm T.s115 (.t n6)) u7 <| m (mv (.t n1)) u8 <| m (lenm T.s115 (.t n8)) u9 <| m (neqs (.t n7) (.t n9)) u10 <| e ?_
  refine cdf n10 ?_
  refine skp ?_
  refine sq ?_
  refine sr <| m (as_ (.i rfl)) u5 <| e ?_
  refine bk ?_
  refine lp (fun i : Nat => ⟨[.slice 3 (l.map D.Account.V), .slice 3 (l.map D.Account.V), .any, .any, .any, .int .i64 (i : Int), .any, .any, .any, .any, .any, .any, .any, .any, .any, .any, .any, .any, .any, .any, .any, .any, .any, .any, .any, .any, .any], []⟩) (fun i : Nat => i ≤ l.length) (fun i : Nat => l.length - i) (0) (by simp) (le [] (by decide) (.c (.e rfl rfl) (.c (.e rfl rfl) (.c .a (.c .a (.c .a (.c (.e rfl rfl) (.c .a (.c .a (.c .a (.c .a (.c .a (.c .a (.c .a (.c .a (.c .a (.c .a (.c .a (.c .a (.c .a (.c .a (.c .a (.c .a (.c .a (.c .a (.c .a (.c .a (.c .a .n))))))))))))))))))))))))))) .n) ?_
  rintro i hJ
  try dsimp only at hJ ⊢
  refine sq ?_
  refine sr <| m (mv (.t n5)) u11 <| m (mv (.t n0)) u12 <| m (lenm T.s115 (.t n12)) u13 <| m (lss (.t n11) (.t n13)) u14 <| e ?_
  refine cnd n14 (fun h1 => ?_) (fun h1 => ?_)
  ·
    replace h1 := of_decide_eq_true h1
    refine skp ?_
    refine sq ?_
    refine bk ?_
    refine sd none [(0, true), (1, true), (2, true), (3, true), (4, true), (5, true), (6, true), (7, true), (8, false), (9, true)] T.mix (by kernel_rfl) <| om n0 (mv (.t n0)) u17 <| om n1 (mv (.t n5)) u18 <| om n2 (ixm T.s115 (Int.natCast_nonneg _) (gi (by omega)) (.t n17) (.t n18)) u19 <| om n3 (lae T.a123 k3 (.t n19)) u20 <| om n4 (mv (.t n1)) u21 <| om n5 (mv (.t n5)) u22 <| om n6 (ixm T.s115 (Int.natCast_nonneg _) (gi (by omega)) (.t n21) (.t n22)) u23 <| om n7 (lae T.a123 k3 (.t n23)) u24 <| oc n8 (call (sp_laws_eqAccount _) (.c (.t n20) rfl (.c (.t n24) rfl .n))) u25 <| om n9 (not_ (.t n25)) u26 <| oe ?_
    refine cdf n26 ?_
    refine skp ?_
    refine rg <| m (mv (.t n5)) u15 <| m (add (.t n15) (.i rfl)) u16 <| m (as_ (.t n16)) u5 <| e ?_
    exact ⟨i + 1, (by omega), (by omega), le [] (by decide) (.c (.e rfl rfl) (.c (.e rfl rfl) (.c .a (.c .a (.c .a (.c (.e (wi (by omega)) rfl) (.c .a (.c .a (.c .a (.c .a (.c .a (.c .a (.c .a (.c .a (.c .a (.c .a (.c .a (.c .a (.c .a (.c .a (.c .a (.c .a (.c .a (.c .a (.c .a (.c .a (.c .a .n))))))))))))))))))))))))))) .n⟩
  ·
    replace h1 := of_decide_eq_false h1
    refine ex (x1 ?_)
    refine sr <| m (as_ .b) u4 <| e ?_
    refine rt (ret1 (.t n4 (.p rfl) .n) ?_)
    rfl

theorem sp_laws_eqChallenge (x : D.Challenge) : Spec Tryz.prog G0 185 [.agg (D.Challenge.V x), .agg (D.Challenge.V x)] (fun r => r = .bool true) := by
  refine enter (l := [.tmp 4]) Tryz.func185 rfl Tryz.ntmps185 rfl T.en185 fun E => ?_
  simp only [List.length_cons, List.length_nil, List.replicate_succ, List.replicate_zero, List.cons_append, List.nil_append, Nat.reduceAdd, Nat.reduceSub]
  refine sr <| k (bx rfl s0 u2 (.t n0)) <| k (bx rfl s1 u3 (.t n1)) <| m (as_ .b) u4 <| e ?_
  refine sq ?_
  refine sr <| m (fab 0 rfl T.f251_0 (.t n2)) u5 <| m (ldb T.o3 n0 n0 (.t n5)) u6 <| m (fab 0 rfl T.f251_0 (.t n3)) u7 <| m (ldb T.o3 n1 n0 (.t n7)) u8 <| m (neqs (.t n6) (.t n8)) u9 <| e ?_
  refine cdf n9 ?_
  refine skp ?_
  refine sq ?_
  refine sr <| m (fab 1 rfl T.f251_1 (.t n2)) u10 <| m (ldb T.o3 n0 n1 (.t n10)) u11 <| m (fab 1 rfl T.f251_1 (.t n3)) u12 <| m (ldb T.o3 n1 n1 (.t n12)) u13 <| m (neqs (.t n11) (.t n13)) u14 <| e ?_
  refine cdf n14 ?_
  refine skp ?_
  refine sq ?_
  refine sr <| m (fab 2 rfl T.f251_2 (.t n2)) u15 <| m (ldb T.o3 n0 n2 (.t n15)) u16 <| m (fab 2 rfl T.f251_2 (.t n3)) u17 <| m (ldb T.o3 n1 n2 (.t n17)) u18 <| m (neqs (.t n16) (.t n18)) u19 <| e ?_
  refine cdf n19 ?_
  refine skp ?_
  refine sr <| m (as_ .b) u4 <| e ?_
  refine rt (ret1 (.t n4 (.p rfl) .n) ?_)
  rfl

theorem sp_laws_eqChallengeS (l : List D.Challenge) : Spec Tryz.prog G0 169 [.slice 3 (l.map D.Challenge.V), .slice 3 (l.map D.Challenge.V)] (fun r => r = .bool true) := by
  refine enter (l := [.tmp 4]) Tryz.func169 rfl Tryz.ntmps169 rfl T.en169 fun E => ?_
  simp only [List.length_cons, List.length_nil, List.replicate_succ, List.replicate_zero, List.cons_append, List.nil_append, Nat.reduceAdd, Nat.reduceSub]
  refine rngl n0 fun hlen => ?_
  simp only [List.length_map, maxLen] at hlen
  refine sr <| m (as_ .b) u4 <| e ?_
  refine sq ?_
  refine sr <| m (mv (.t n0)) u6 <| m (lenm T.s116 (.t n6)) u7 <| m (mv (.t n1)) u8 <| m (lenm T.s116 (.t n8)) u9 <| m (neqs (.t n7) (.t n9)) u10 <| e ?_
  refine cdf n10 ?_
  refine skp ?_
  refine sq ?_
  refine sr <| m (as_ (.i rfl)) u5 <| e ?_
  refine bk ?_
  refine lp (fun i : Nat => ⟨[.slice 3 (l.map D.Challenge.V), .slice 3 (l.map D.Challenge.V), .any, .any, .any, .int .i64 (i : Int), .any, .any, .any, .any, .any, .any, .any, .any, .any, .any, .any, .any, .any, .any, .any, .any, .any, .any, .any, .any, .any], []⟩) (fun i : Nat => i ≤ l.length) (fun i : Nat => l.length - i) (0) (by simp) (le [] (by decide) (.c (.e rfl rfl) (.c (.e rfl rfl) (.c .a (.c .a (.c .a (.c (.e rfl rfl) (.c .a (.c .a (.c .a (.c .a (.c .a (.c .a (.c .a (.c .a (.c .a (.c .a (.c .a (.c .a (.c .a (.c .a (.c .a (.c .a (.c .a (.c .a (.c .a (.c .a (.c .a .n))))))))))))))))))))))))))) .n) ?_
  rintro i hJ
  try dsimp only at hJ ⊢
  refine sq ?_
  refine sr <| m (mv (.t n5)) u11 <| m (mv (.t n0)) u12 <| m (lenm T.s116 (.t n12)) u13 <| m (lss (.t n11) (.t n13)) u14 <| e ?_
  refine cnd n14 (fun h1 => ?_) (fun h1 => ?_)
  ·
    replace h1 := of_decide_eq_true h1
    refine skp ?_
    refine sq ?_
    refine bk ?_
    refine sd none [(0, true), (1, true), (2, true), (3, true), (4, true), (5, true), (6, true), (7, true), (8, false), (9, true)] T.mix (by kernel_rfl) <| om n0 (mv (.t n0)) u17 <| om n1 (mv (.t n5)) u18 <| om n2 (ixm T.s116 (Int.natCast_nonneg _) (gi (by omega)) (.t n17) (.t n18)) u19 <| om n3 (lae T.a251 k3 (.t n19)) u20 <| om n4 (mv (.t n1)) u21 <| om n5 (mv (.t n5)) u22 <| om n6 (ixm T.s116 (Int.natCast_nonneg _) (gi (by omega)) (.t n21) (.t n22)) u23 <| om n7 (lae T.a251 k3 (.t n23)) u24 <| oc n8 (call (sp_laws_eqChallenge _) (.c (.t n20) rfl (.c (.t n24) rfl .n))) u25 <| om n9 (not_ (.t n25)) u26 <| oe ?_
    refine cdf n26 ?_
    refine skp ?_
    refine rg <| m (mv (.t n5)) u15 <| m (add (.t n15) (.i rfl)) u16 <| m (as_ (.t n16)) u5 <| e ?_
    exact ⟨i + 1, (by omega), (by omega), le [] (by decide) (.c (.e rfl rfl) (.c (.e rfl rfl) (.c .a (.c .a (.c .a (.c (.e (wi (by omega)) rfl) (.c .a (.c .a (.c .a (.c .a (.c .a (.c .a (.c .a (.c .a (.c .a (.c .a (.c .a (.c .a (.c .a (.c .a (.c .a (.c .a (.c .a (.c .a (.c .a (.c .a (.c .a .n))))))))))))))))))))))))))) .n⟩
  ·
    replace h1 := of_decide_eq_false h1
    refine ex (x1 ?_)
    refine sr <| m (as_ .b) u4 <| e ?_
    refine rt (ret1 (.t n4 (.p rfl) .n) ?_)
    rfl

theorem sp_laws_eqChallengeBook (x : D.ChallengeBook) : Spec Tryz.prog G0 140 [.agg (D.ChallengeBook.V x), .agg (D.ChallengeBook.V x)] (fun r => r = .bool true) := by
  refine enter (l := [.tmp 4]) Tryz.func140 rfl Tryz.ntmps140 rfl T.en140 fun E => ?_
  simp only [List.length_cons, List.length_nil, List.replicate_succ, List.replicate_zero, List.cons_append, List.nil_append, Nat.reduceAdd, Nat.reduceSub]
  refine sr <| k (bx rfl s0 u2 (.t n0)) <| k (bx rfl s1 u3 (.t n1)) <| m (as_ .b) u4 <| e ?_
  refine sq ?_
  refine sr <| m (fab 0 rfl T.f118_0 (.t n2)) u5 <| m (ldb T.o3 n0 n0 (.t n5)) u6 <| m (fab 0 rfl T.f118_0 (.t n3)) u7 <| m (ldb T.o3 n1 n0 (.t n7)) u8 <| m (neqs (.t n6) (.t n8)) u9 <| e ?_
  refine cdf n9 ?_
  refine skp ?_
  refine sq ?_
  refine sr <| m (fab 1 rfl T.f118_1 (.t n2)) u10 <| m (ldb T.o3 n0 n1 (.t n10)) u11 <| m (fab 1 rfl T.f118_1 (.t n3)) u12 <| m (ldb T.o3 n1 n1 (.t n12)) u13 <| m (neqs (.t n11) (.t n13)) u14 <| e ?_
  refine cdf n14 ?_
  refine skp ?_
  refine sq ?_
  refine sr <| m (fab 2 rfl T.f118_2 (.t n2)) u15 <| m (ldb T.o116 n0 n2 (.t n15)) u16 <| m (fab 2 rfl T.f118_2 (.t n3)) u17 <| m (ldb T.o116 n1 n2 (.t n17)) u18 <| c (call (sp_laws_eqChallengeS _) (.c (.t n16) rfl (.c (.t n18) rfl .n))) u19 <| m (not_ (.t n19)) u20 <| e ?_
  refine cdf n20 ?_
  refine skp ?_
  refine sr <| m (as_ .b) u4 <| e ?_
  refine rt (ret1 (.t n4 (.p rfl) .n) ?_)
  rfl

theorem sp_laws_eqIntS (l : List Int) : Spec Tryz.prog G0 141 [.slice 1 (l.map iV), .slice 1 (l.map iV)] (fun r => r = .bool true) := by
  refine enter (l := [.tmp 4]) Tryz.func141 rfl Tryz.ntmps141 rfl T.en141 fun E => ?_
  simp only [List.length_cons, List.length_nil, List.replicate_succ, List.replicate_zero, List.cons_append, List.nil_append, Nat.reduceAdd, Nat.reduceSub]
  refine rngl n0 fun hlen => ?_
  simp only [List.length_map, maxLen] at hlen
  refine sr <| m (as_ .b) u4 <| e ?_
  refine sq ?_
  refine sr <| m (mv (.t n0)) u6 <| m (lenm T.s95 (.t n6)) u7 <| m (mv (.t n1)) u8 <| m (lenm T.s95 (.t n8)) u9 <| m (neqs (.t n7) (.t n9)) u10 <| e ?_
  refine cdf n10 ?_
  refine skp ?_
  refine sq ?_
  refine sr <| m (as_ (.i rfl)) u5 <| e ?_
  refine bk ?_
  refine lp (fun i : Nat => ⟨[.slice 1 (l.map iV), .slice 1 (l.map iV), .any, .any, .any, .int .i64 (i : Int), .any, .any, .any, .any, .any, .any, .any, .any, .any, .any, .any, .any, .any, .any, .any, .any, .any, .any, .any, .any], []⟩) (fun i : Nat => i ≤ l.length) (fun i : Nat => l.length - i) (0) (by simp) (le [] (by decide) (.c (.e rfl rfl) (.c (.e rfl rfl) (.c .a (.c .a (.c .a (.c (.e rfl rfl) (.c .a (.c .a (.c .a (.c .a (.c .a (.c .a (.c .a (.c .a (.c .a (.c .a (.c .a (.c .a (.c .a (.c .a (.c .a (.c .a (.c .a (.c .a (.c .a (.c .a .n)))))))))))))))))))))))))) .n) ?_
  rintro i hJ
  try dsimp only at hJ ⊢
  refine sq ?_
  refine sr <| m (mv (.t n5)) u11 <| m (mv (.t n0)) u12 <| m (lenm T.s95 (.t n12)) u13 <| m (lss (.t n11) (.t n13)) u14 <| e ?_
  refine cnd n14 (fun h1 => ?_) (fun h1 => ?_)
  ·
    replace h1 := of_decide_eq_true h1
    refine skp ?_
    refine sq ?_
    refine bk ?_
    refine sd none [(0, true), (1, true), (2, true), (3, true), (4, true), (5, true), (6, true), (7, true), (8, true)] T.mix (by kernel_rfl) <| om n0 (mv (.t n0)) u17 <| om n1 (mv (.t n5)) u18 <| om n2 (ixm T.s95 (Int.natCast_nonneg _) (gi (by omega)) (.t n17) (.t n18)) u19 <| om n3 (lde T.o3 n0 (.t n19)) u20 <| om n4 (mv (.t n1)) u21 <| om n5 (mv (.t n5)) u22 <| om n6 (ixm T.s95 (Int.natCast_nonneg _) (gi (by omega)) (.t n21) (.t n22)) u23 <| om n7 (lde T.o3 n0 (.t n23)) u24 <| om n8 (neqs (.t n20) (.t n24)) u25 <| oe ?_
    refine cdf n25 ?_
    refine skp ?_
    refine rg <| m (mv (.t n5)) u15 <| m (add (.t n15) (.i rfl)) u16 <| m (as_ (.t n16)) u5 <| e ?_
    exact ⟨i + 1, (by omega), (by omega), le [] (by decide) (.c (.e rfl rfl) (.c (.e rfl rfl) (.c .a (.c .a (.c .a (.c (.e (wi (by omega)) rfl) (.c .a (.c .a (.c .a (.c .a (.c .a (.c .a (.c .a (.c .a (.c .a (.c .a (.c .a (.c .a (.c .a (.c .a (.c .a (.c .a (.c .a (.c .a (.c .a (.c .a .n)))))))))))))))))))))))))) .n⟩
  ·
    replace h1 := of_decide_eq_false h1
    refine ex (x1 ?_)
    refine sr <| m (as_ .b) u4 <| e ?_
    refine rt (ret1 (.t n4 (.p rfl) .n) ?_)
    rfl

theorem sp_laws_eqSite (x : D.Site) : Spec Tryz.prog G0 93 [.agg (D.Site.V x), .agg (D.Site.V x)] (fun r => r = .bool true) := by
  refine enter (l := [.tmp 4]) Tryz.func93 rfl Tryz.ntmps93 rfl T.en93 fun E => ?_
  simp only [List.length_cons, List.length_nil, List.replicate_succ, List.replicate_zero, List.cons_append, List.nil_append, Nat.reduceAdd, Nat.reduceSub]
  refine sr <| k (bx rfl s0 u2 (.t n0)) <| k (bx rfl s1 u3 (.t n1)) <| m (as_ .b) u4 <| e ?_
  refine sq ?_
  refine sr <| m (fab 0 rfl T.f120_0 (.t n2)) u5 <| m (ldb T.o9 n0 n0 (.t n5)) u6 <| m (fab 0 rfl T.f120_0 (.t n3)) u7 <| m (ldb T.o9 n1 n0 (.t n7)) u8 <| m (snes (.t n6) (.t n8)) u9 <| e ?_
  refine cdf n9 ?_
  refine skp ?_
  refine sq ?_
  refine sr <| m (fab 1 rfl T.f120_1 (.t n2)) u10 <| m (ldb T.o115 n0 n1 (.t n10)) u11 <| m (fab 1 rfl T.f120_1 (.t n3)) u12 <| m (ldb T.o115 n1 n1 (.t n12)) u13 <| c (call (sp_laws_eqAccountS _) (.c (.t n11) rfl (.c (.t n13) rfl .n))) u14 <| m (not_ (.t n14)) u15 <| e ?_
  refine cdf n15 ?_
  refine skp ?_
  refine sq ?_
  refine sr <| m (fab 2 rfl T.f120_2 (.t n2)) u16 <| m (lab T.a118 n0 d2 k3 (.t n16)) u17 <| m (fab 2 rfl T.f120_2 (.t n3)) u18 <| m (lab T.a118 n1 d2 k3 (.t n18)) u19 <| c (call (sp_laws_eqChallengeBook _) (.c (.t n17) rfl (.c (.t n19) rfl .n))) u20 <| m (not_ (.t n20)) u21 <| e ?_
  refine cdf n21 ?_
  refine skp ?_
  refine sq ?_
  refine sr <| m (fab 5 rfl T.f120_3 (.t n2)) u22 <| m (ldb T.o95 n0 n5 (.t n22)) u23 <| m (fab 5 rfl T.f120_3 (.t n3)) u24 <| m (ldb T.o95 n1 n5 (.t n24)) u25 <| c (call (sp_laws_eqIntS _) (.c (.t n23) rfl (.c (.t n25) rfl .n))) u26 <| m (not_ (.t n26)) u27 <| e ?_
  refine cdf n27 ?_
  refine skp ?_
  refine sr <| m (as_ .b) u4 <| e ?_
  refine rt (ret1 (.t n4 (.p rfl) .n) ?_)
  rfl

theorem sp_laws_eqSiteS (l : List D.Site) : Spec Tryz.prog G0 48 [.slice 6 (l.map D.Site.V), .slice 6 (l.map D.Site.V)] (fun r => r = .bool true) := by
  refine enter (l := [.tmp 4]) Tryz.func48 rfl Tryz.ntmps48 rfl T.en48 fun E => ?_
  simp only [List.length_cons, List.length_nil, List.replicate_succ, List.replicate_zero, List.cons_append, List.nil_append, Nat.reduceAdd, Nat.reduceSub]
  refine rngl n0 fun hlen => ?_
  simp only [List.length_map, maxLen] at hlen
  refine sr <| m (as_ .b) u4 <| e ?_
  refine sq ?_
  refine sr <| m (mv (.t n0)) u6 <| m (lenm T.s50 (.t n6)) u7 <| m (mv (.t n1)) u8 <| m (lenm T.s50 (.t n8)) u9 <| m (neqs (.t n7) (.t n9)) u10 <| e ?_
  refine cdf n10 ?_
  refine skp ?_
  refine sq ?_
  refine sr <| m (as_ (.i rfl)) u5 <| e ?_
  refine bk ?_
  refine lp (fun i : Nat => ⟨[.slice 6 (l.map D.Site.V), .slice 6 (l.map D.Site.V), .any, .any, .any, .int .i64 (i : Int), .any, .any, .any, .any, .any, .any, .any, .any, .any, .any, .any, .any, .any, .any, .any, .any, .any, .any, .any, .any, .any], []⟩) (fun i : Nat => i ≤ l.length) (fun i : Nat => l.length - i) (0) (by simp) (le [] (by decide) (.c (.e rfl rfl) (.c (.e rfl rfl) (.c .a (.c .a (.c .a (.c (.e rfl rfl) (.c .a (.c .a (.c .a (.c .a (.c .a (.c .a (.c .a (.c .a (.c .a (.c .a (.c .a (.c .a (.c .a (.c .a (.c .a (.c .a (.c .a (.c .a (.c .a (.c .a (.c .a .n))))))))))))))))))))))))))) .n) ?_
  rintro i hJ
  try dsimp only at hJ ⊢
  refine sq ?_
  refine sr <| m (mv (.t n5)) u11 <| m (mv (.t n0)) u12 <| m (lenm T.s50 (.t n12)) u13 <| m (lss (.t n11) (.t n13)) u14 <| e ?_
  refine cnd n14 (fun h1 => ?_) (fun h1 => ?_)
  ·
    replace h1 := of_decide_eq_true h1
    refine skp ?_
    refine sq ?_
    refine bk ?_
    refine sd none [(0, true), (1, true), (2, true), (3, true), (4, true), (5, true), (6, true), (7, true), (8, false), (9, true)] T.mix (by kernel_rfl) <| om n0 (mv (.t n0)) u17 <| om n1 (mv (.t n5)) u18 <| om n2 (ixm T.s50 (Int.natCast_nonneg _) (gi (by omega)) (.t n17) (.t n18)) u19 <| om n3 (lae T.a120 k6 (.t n19)) u20 <| om n4 (mv (.t n1)) u21 <| om n5 (mv (.t n5)) u22 <| om n6 (ixm T.s50 (Int.natCast_nonneg _) (gi (by omega)) (.t n21) (.t n22)) u23 <| om n7 (lae T.a120 k6 (.t n23)) u24 <| oc n8 (call (sp_laws_eqSite _) (.c (.t n20) rfl (.c (.t n24) rfl .n))) u25 <| om n9 (not_ (.t n25)) u26 <| oe ?_
    refine cdf n26 ?_
    refine skp ?_
    refine rg <| m (mv (.t n5)) u15 <| m (add (.t n15) (.i rfl)) u16 <| m (as_ (.t n16)) u5 <| e ?_
    exact ⟨i + 1, (by omega), (by omega), le [] (by decide) (.c (.e rfl rfl) (.c (.e rfl rfl) (.c .a (.c .a (.c .a (.c (.e (wi (by omega)) rfl) (.c .a (.c .a (.c .a (.c .a (.c .a (.c .a (.c .a (.c .a (.c .a (.c .a (.c .a (.c .a (.c .a (.c .a (.c .a (.c .a (.c .a (.c .a (.c .a (.c .a (.c .a .n))))))))))))))))))))))))))) .n⟩
  ·
    replace h1 := of_decide_eq_false h1
    refine ex (x1 ?_)
    refine sr <| m (as_ .b) u4 <| e ?_
    refine rt (ret1 (.t n4 (.p rfl) .n) ?_)
    rfl

theorem sp_laws_eqVault (x : D.Vault) : Spec Tryz.prog G0 49 [.agg (D.Vault.V x), .agg (D.Vault.V x)] (fun r => r = .bool true) := by
  refine enter (l := [.tmp 4]) Tryz.func49 rfl Tryz.ntmps49 rfl T.en49 fun E => ?_
  simp only [List.length_cons, List.length_nil, List.replicate_succ, List.replicate_zero, List.cons_append, List.nil_append, Nat.reduceAdd, Nat.reduceSub]
  refine sr <| k (bx rfl s0 u2 (.t n0)) <| k (bx rfl s1 u3 (.t n1)) <| m (as_ .b) u4 <| e ?_
  refine sq ?_
  refine sr <| m (fab 0 rfl T.f51_0 (.t n2)) u5 <| m (ldb T.o3 n0 n0 (.t n5)) u6 <| m (fab 0 rfl T.f51_0 (.t n3)) u7 <| m (ldb T.o3 n1 n0 (.t n7)) u8 <| m (neqs (.t n6) (.t n8)) u9 <| e ?_
  refine cdf n9 ?_
  refine skp ?_
  refine sq ?_
  refine sr <| m (fab 1 rfl T.f51_1 (.t n2)) u10 <| m (ldb T.o3 n0 n1 (.t n10)) u11 <| m (fab 1 rfl T.f51_1 (.t n3)) u12 <| m (ldb T.o3 n1 n1 (.t n12)) u13 <| m (neqs (.t n11) (.t n13)) u14 <| e ?_
  refine cdf n14 ?_
  refine skp ?_
  refine sq ?_
  refine sr <| m (fab 2 rfl T.f51_2 (.t n2)) u15 <| m (ldb T.o3 n0 n2 (.t n15)) u16 <| m (fab 2 rfl T.f51_2 (.t n3)) u17 <| m (ldb T.o3 n1 n2 (.t n17)) u18 <| m (neqs (.t n16) (.t n18)) u19 <| e ?_
  refine cdf n19 ?_
  refine skp ?_
  refine sq ?_
  refine sr <| m (fab 3 rfl T.f51_3 (.t n2)) u20 <| m (ldb T.o3 n0 n3 (.t n20)) u21 <| m (fab 3 rfl T.f51_3 (.t n3)) u22 <| m (ldb T.o3 n1 n3 (.t n22)) u23 <| m (neqs (.t n21) (.t n23)) u24 <| e ?_
  refine cdf n24 ?_
  refine skp ?_
  refine sr <| m (as_ .b) u4 <| e ?_
  refine rt (ret1 (.t n4 (.p rfl) .n) ?_)
  rfl

theorem sp_laws_eqShare (x : D.Share) : Spec Tryz.prog G0 170 [.agg (D.Share.V x), .agg (D.Share.V x)] (fun r => r = .bool true) := by
  refine enter (l := [.tmp 4]) Tryz.func170 rfl Tryz.ntmps170 rfl T.en170 fun E => ?_
  simp only [List.length_cons, List.length_nil, List.replicate_succ, List.replicate_zero, List.cons_append, List.nil_append, Nat.reduceAdd, Nat.reduceSub]
  refine sr <| k (bx rfl s0 u2 (.t n0)) <| k (bx rfl s1 u3 (.t n1)) <| m (as_ .b) u4 <| e ?_
  refine sq ?_
  refine sr <| m (fab 0 rfl T.f73_0 (.t n2)) u5 <| m (ldb T.o3 n0 n0 (.t n5)) u6 <| m (fab 0 rfl T.f73_0 (.t n3)) u7 <| m (ldb T.o3 n1 n0 (.t n7)) u8 <| m (neqs (.t n6) (.t n8)) u9 <| e ?_
  refine cdf n9 ?_
  refine skp ?_
  refine sq ?_
  refine sr <| m (fab 1 rfl T.f73_1 (.t n2)) u10 <| m (ldb T.o3 n0 n1 (.t n10)) u11 <| m (fab 1 rfl T.f73_1 (.t n3)) u12 <| m (ldb T.o3 n1 n1 (.t n12)) u13 <| m (neqs (.t n11) (.t n13)) u14 <| e ?_
  refine cdf n14 ?_
  refine skp ?_
  refine sr <| m (as_ .b) u4 <| e ?_
  refine rt (ret1 (.t n4 (.p rfl) .n) ?_)
  rfl

theorem sp_laws_eqKeeper (x : D.Keeper) : Spec Tryz.prog G0 142 [.agg (D.Keeper.V x), .agg (D.Keeper.V x)] (fun r => r = .bool true) := by
  refine enter (l := [.tmp 4]) Tryz.func142 rfl Tryz.ntmps142 rfl T.en142 fun E => ?_
  simp only [List.length_cons, List.length_nil, List.replicate_succ, List.replicate_zero, List.cons_append, List.nil_append, Nat.reduceAdd, Nat.reduceSub]
  refine sr <| k (bx rfl s0 u2 (.t n0)) <| k (bx rfl s1 u3 (.t n1)) <| m (as_ .b) u4 <| e ?_
  refine sq ?_
  refine sr <| m (fab 0 rfl T.f75_0 (.t n2)) u5 <| m (lab T.a73 n0 d0 k2 (.t n5)) u6 <| m (fab 0 rfl T.f75_0 (.t n3)) u7 <| m (lab T.a73 n1 d0 k2 (.t n7)) u8 <| c (call (sp_laws_eqShare _) (.c (.t n6) rfl (.c (.t n8) rfl .n))) u9 <| m (not_ (.t n9)) u10 <| e ?_
  refine cdf n10 ?_
  refine skp ?_
  refine sq ?_
  refine sr <| m (fab 2 rfl T.f75_1 (.t n2)) u11 <| m (ldb T.o3 n0 n2 (.t n11)) u12 <| m (fab 2 rfl T.f75_1 (.t n3)) u13 <| m (ldb T.o3 n1 n2 (.t n13)) u14 <| m (neqs (.t n12) (.t n14)) u15 <| e ?_
  refine cdf n15 ?_
  refine skp ?_
  refine sq ?_
  refine sr <| m (fab 3 rfl T.f75_2 (.t n2)) u16 <| m (ldb T.o3 n0 n3 (.t n16)) u17 <| m (fab 3 rfl T.f75_2 (.t n3)) u18 <| m (ldb T.o3 n1 n3 (.t n18)) u19 <| m (neqs (.t n17) (.t n19)) u20 <| e ?_
  refine cdf n20 ?_
  refine skp ?_
  refine sq ?_
  refine sr <| m (fab 4 rfl T.f75_3 (.t n2)) u21 <| m (ldb T.o3 n0 n4 (.t n21)) u22 <| m (fab 4 rfl T.f75_3 (.t n3)) u23 <| m (ldb T.o3 n1 n4 (.t n23)) u24 <| m (neqs (.t n22) (.t n24)) u25 <| e ?_
  refine cdf n25 ?_
  refine skp ?_
  refine sr <| m (as_ .b) u4 <| e ?_
  refine rt (ret1 (.t n4 (.p rfl) .n) ?_)
  rfl

theorem sp_laws_eqKeeperS (l : List D.Keeper) : Spec Tryz.prog G0 143 [.slice 5 (l.map D.Keeper.V), .slice 5 (l.map D.Keeper.V)] (fun r => r = .bool true) := by
  refine enter (l := [.tmp 4]) Tryz.func143 rfl Tryz.ntmps143 rfl T.en143 fun E => ?_
  simp only [List.length_cons, List.length_nil, List.replicate_succ, List.replicate_zero, List.cons_append, List.nil_append, Nat.reduceAdd, Nat.reduceSub]
  refine rngl n0 fun hlen => ?_
  simp only [List.length_map, maxLen] at hlen
  refine sr <| m (as_ .b) u4 <| e ?_
  refine sq ?_
  refine sr <| m (mv (.t n0)) u6 <| m (lenm T.s76 (.t n6)) u7 <| m (mv (.t n1)) u8 <| m (lenm T.s76 (.t n8)) u9 <| m (neqs (.t n7) (.t n9)) u10 <| e ?_
  refine cdf n10 ?_
  refine skp ?_
  refine sq ?_
  refine sr <| m (as_ (.i rfl)) u5 <| e ?_
  refine bk ?_
  refine lp (fun i : Nat => ⟨[.slice 5 (l.map D.Keeper.V), .slice 5 (l.map D.Keeper.V), .any, .any, .any, .int .i64 (i : Int), .any, .any, .any, .any, .any, .any, .any, .any, .any, .any, .any, .any, .any, .any, .any, .any, .any, .any, .any, .any, .any], []⟩) (fun i : Nat => i ≤ l.length) (fun i : Nat => l.length - i) (0) (by simp) (le [] (by decide) (.c (.e rfl rfl) (.c (.e rfl rfl) (.c .a (.c .a (.c .a (.c (.e rfl rfl) (.c .a (.c .a (.c .a (.c .a (.c .a (.c .a (.c .a (.c .a (.c .a (.c .a (.c .a (.c .a (.c .a (.c .a (.c .a (.c .a (.c .a (.c .a (.c .a (.c .a (.c .a .n))))))))))))))))))))))))))) .n) ?_
  rintro i hJ
  try dsimp only at hJ ⊢
  refine sq ?_
  refine sr <| m (mv (.t n5)) u11 <| m (mv (.t n0)) u12 <| m (lenm T.s76 (.t n12)) u13 <| m (lss (.t n11) (.t n13)) u14 <| e ?_
  refine cnd n14 (fun h1 => ?_) (fun h1 => ?_)
  ·
    replace h1 := of_decide_eq_true h1
    refine skp ?_
    refine sq ?_
    refine bk ?_
    refine sd none [(0, true), (1, true), (2, true), (3, true), (4, true), (5, true), (6, true), (7, true), (8, false), (9, true)] T.mix (by kernel_rfl) <| om n0 (mv (.t n0)) u17 <| om n1 (mv (.t n5)) u18 <| om n2 (ixm T.s76 (Int.natCast_nonneg _) (gi (by omega)) (.t n17) (.t n18)) u19 <| om n3 (lae T.a75 k5 (.t n19)) u20 <| om n4 (mv (.t n1)) u21 <| om n5 (mv (.t n5)) u22 <| om n6 (ixm T.s76 (Int.natCast_nonneg _) (gi (by omega)) (.t n21) (.t n22)) u23 <| om n7 (lae T.a75 k5 (.t n23)) u24 <| oc n8 (call (sp_laws_eqKeeper _) (.c (.t n20) rfl (.c (.t n24) rfl .n))) u25 <| om n9 (not_ (.t n25)) u26 <| oe ?_
    refine cdf n26 ?_
    refine skp ?_
    refine rg <| m (mv (.t n5)) u15 <| m (add (.t n15) (.i rfl)) u16 <| m (as_ (.t n16)) u5 <| e ?_
    exact ⟨i + 1, (by omega), (by omega), le [] (by decide) (.c (.e rfl rfl) (.c (.e rfl rfl) (.c .a (.c .a (.c .a (.c (.e (wi (by omega)) rfl) (.c .a (.c .a (.c .a (.c .a (.c .a (.c .a (.c .a (.c .a (.c .a (.c .a (.c .a (.c .a (.c .a (.c .a (.c .a (.c .a (.c .a (.c .a (.c .a (.c .a (.c .a .n))))))))))))))))))))))))))) .n⟩
  ·
    replace h1 := of_decide_eq_false h1
    refine ex (x1 ?_)
    refine sr <| m (as_ .b) u4 <| e ?_
    refine rt (ret1 (.t n4 (.p rfl) .n) ?_)
    rfl

theorem sp_laws_eqKeeperHost (x : D.KeeperHost) : Spec Tryz.prog G0 94 [.agg (D.KeeperHost.V x), .agg (D.KeeperHost.V x)] (fun r => r = .bool true) := by
  refine enter (l := [.tmp 4]) Tryz.func94 rfl Tryz.ntmps94 rfl T.en94 fun E => ?_
  simp only [List.length_cons, List.length_nil, List.replicate_succ, List.replicate_zero, List.cons_append, List.nil_append, Nat.reduceAdd, Nat.reduceSub]
  refine sr <| k (bx rfl s0 u2 (.t n0)) <| k (bx rfl s1 u3 (.t n1)) <| m (as_ .b) u4 <| e ?_
  refine sq ?_
  refine sr <| m (fab 0 rfl T.f78_0 (.t n2)) u5 <| m (lab T.a75 n0 d0 k5 (.t n5)) u6 <| m (fab 0 rfl T.f78_0 (.t n3)) u7 <| m (lab T.a75 n1 d0 k5 (.t n7)) u8 <| c (call (sp_laws_eqKeeper _) (.c (.t n6) rfl (.c (.t n8) rfl .n))) u9 <| m (not_ (.t n9)) u10 <| e ?_
  refine cdf n10 ?_
  refine skp ?_
  refine sq ?_
  refine sr <| m (fab 5 rfl T.f78_1 (.t n2)) u11 <| m (ldb T.o76 n0 n5 (.t n11)) u12 <| m (fab 5 rfl T.f78_1 (.t n3)) u13 <| m (ldb T.o76 n1 n5 (.t n13)) u14 <| c (call (sp_laws_eqKeeperS _) (.c (.t n12) rfl (.c (.t n14) rfl .n))) u15 <| m (not_ (.t n15)) u16 <| e ?_
  refine cdf n16 ?_
  refine skp ?_
  refine sq ?_
  refine sr <| m (fab 6 rfl T.f78_2 (.t n2)) u17 <| m (ldb T.o3 n0 n6 (.t n17)) u18 <| m (fab 6 rfl T.f78_2 (.t n3)) u19 <| m (ldb T.o3 n1 n6 (.t n19)) u20 <| m (neqs (.t n18) (.t n20)) u21 <| e ?_
  refine cdf n21 ?_
  refine skp ?_
  refine sr <| m (as_ .b) u4 <| e ?_
  refine rt (ret1 (.t n4 (.p rfl) .n) ?_)
  rfl

theorem sp_laws_eqKeeperHostS (l : List D.KeeperHost) : Spec Tryz.prog G0 50 [.slice 7 (l.map D.KeeperHost.V), .slice 7 (l.map D.KeeperHost.V)] (fun r => r = .bool true) := by
  refine enter (l := [.tmp 4]) Tryz.func50 rfl Tryz.ntmps50 rfl T.en50 fun E => ?_
  simp only [List.length_cons, List.length_nil, List.replicate_succ, List.replicate_zero, List.cons_append, List.nil_append, Nat.reduceAdd, Nat.reduceSub]
  refine rngl n0 fun hlen => ?_
  simp only [List.length_map, maxLen] at hlen
  refine sr <| m (as_ .b) u4 <| e ?_
  refine sq ?_
  refine sr <| m (mv (.t n0)) u6 <| m (lenm T.s52 (.t n6)) u7 <| m (mv (.t n1)) u8 <| m (lenm T.s52 (.t n8)) u9 <| m (neqs (.t n7) (.t n9)) u10 <| e ?_
  refine cdf n10 ?_
  refine skp ?_
  refine sq ?_
  refine sr <| m (as_ (.i rfl)) u5 <| e ?_
  refine bk ?_
  refine lp (fun i : Nat => ⟨[.slice 7 (l.map D.KeeperHost.V), .slice 7 (l.map D.KeeperHost.V), .any, .any, .any, .int .i64 (i : Int), .any, .any, .any, .any, .any, .any, .any, .any, .any, .any, .any, .any, .any, .any, .any, .any, .any, .any, .any, .any, .any], []⟩) (fun i : Nat => i ≤ l.length) (fun i : Nat => l.length - i) (0) (by simp) (le [] (by decide) (.c (.e rfl rfl) (.c (.e rfl rfl) (.c .a (.c .a (.c .a (.c (.e rfl rfl) (.c .a (.c .a (.c .a (.c .a (.c .a (.c .a (.c .a (.c .a (.c .a (.c .a (.c .a (.c .a (.c .a (.c .a (.c .a (.c .a (.c .a (.c .a (.c .a (.c .a (.c .a .n))))))))))))))))))))))))))) .n) ?_
  rintro i hJ
  try dsimp only at hJ ⊢
  refine sq ?_
  refine sr <| m (mv (.t n5)) u11 <| m (mv (.t n0)) u12 <| m (lenm T.s52 (.t n12)) u13 <| m (lss (.t n11) (.t n13)) u14 <| e ?_
  refine cnd n14 (fun h1 => ?_) (fun h1 => ?_)
  ·
    replace h1 := of_decide_eq_true h1
    refine skp ?_
    refine sq ?_
    refine bk ?_
    refine sd none [(0, true), (1, true), (2, true), (3, true), (4, true), (5, true), (6, true), (7, true), (8, false), (9, true)] T.mix (by kernel_rfl) <| om n0 (mv (.t n0)) u17 <| om n1 (mv (.t n5)) u18 <| om n2 (ixm T.s52 (Int.natCast_nonneg _) (gi (by omega)) (.t n17) (.t n18)) u19 <| om n3 (lae T.a78 k7 (.t n19)) u20 <| om n4 (mv (.t n1)) u21 <| om n5 (mv (.t n5)) u22 <| om n6 (ixm T.s52 (Int.natCast_nonneg _) (gi (by omega)) (.t n21) (.t n22)) u23 <| om n7 (lae T.a78 k7 (.t n23)) u24 <| oc n8 (call (sp_laws_eqKeeperHost _) (.c (.t n20) rfl (.c (.t n24) rfl .n))) u25 <| om n9 (not_ (.t n25)) u26 <| oe ?_
    refine cdf n26 ?_
    refine skp ?_
    refine rg <| m (mv (.t n5)) u15 <| m (add (.t n15) (.i rfl)) u16 <| m (as_ (.t n16)) u5 <| e ?_
    exact ⟨i + 1, (by omega), (by omega), le [] (by decide) (.c (.e rfl rfl) (.c (.e rfl rfl) (.c .a (.c .a (.c .a (.c (.e (wi (by omega)) rfl) (.c .a (.c .a (.c .a (.c .a (.c .a (.c .a (.c .a (.c .a (.c .a (.c .a (.c .a (.c .a (.c .a (.c .a (.c .a (.c .a (.c .a (.c .a (.c .a (.c .a (.c .a .n))))))))))))))))))))))))))) .n⟩
  ·
    replace h1 := of_decide_eq_false h1
    refine ex (x1 ?_)
    refine sr <| m (as_ .b) u4 <| e ?_
    refine rt (ret1 (.t n4 (.p rfl) .n) ?_)
    rfl

theorem sp_laws_eqNotice (x : D.Notice) : Spec Tryz.prog G0 144 [.agg (D.Notice.V x), .agg (D.Notice.V x)] (fun r => r = .bool true) := by
  refine enter (l := [.tmp 4]) Tryz.func144 rfl Tryz.ntmps144 rfl T.en144 fun E => ?_
  simp only [List.length_cons, List.length_nil, List.replicate_succ, List.replicate_zero, List.cons_append, List.nil_append, Nat.reduceAdd, Nat.reduceSub]
  refine sr <| k (bx rfl s0 u2 (.t n0)) <| k (bx rfl s1 u3 (.t n1)) <| m (as_ .b) u4 <| e ?_
  refine sq ?_
  refine sr <| m (fab 0 rfl T.f202_0 (.t n2)) u5 <| m (ldb T.o3 n0 n0 (.t n5)) u6 <| m (fab 0 rfl T.f202_0 (.t n3)) u7 <| m (ldb T.o3 n1 n0 (.t n7)) u8 <| m (neqs (.t n6) (.t n8)) u9 <| e ?_
  refine cdf n9 ?_
  refine skp ?_
  refine sq ?_
  refine sr <| m (fab 1 rfl T.f202_1 (.t n2)) u10 <| m (ldb T.o3 n0 n1 (.t n10)) u11 <| m (fab 1 rfl T.f202_1 (.t n3)) u12 <| m (ldb T.o3 n1 n1 (.t n12)) u13 <| m (neqs (.t n11) (.t n13)) u14 <| e ?_
  refine cdf n14 ?_
  refine skp ?_
  refine sq ?_
  refine sr <| m (fab 2 rfl T.f202_2 (.t n2)) u15 <| m (ldb T.o3 n0 n2 (.t n15)) u16 <| m (fab 2 rfl T.f202_2 (.t n3)) u17 <| m (ldb T.o3 n1 n2 (.t n17)) u18 <| m (neqs (.t n16) (.t n18)) u19 <| e ?_
  refine cdf n19 ?_
  refine skp ?_
  refine sq ?_
  refine sr <| m (fab 3 rfl T.f202_3 (.t n2)) u20 <| m (ldb T.o4 n0 n3 (.t n20)) u21 <| m (fab 3 rfl T.f202_3 (.t n3)) u22 <| m (ldb T.o4 n1 n3 (.t n22)) u23 <| m (bnes Tryz.underlying4 (.t n21) (.t n23)) u24 <| e ?_
  refine cdf n24 ?_
  refine skp ?_
  refine sr <| m (as_ .b) u4 <| e ?_
  refine rt (ret1 (.t n4 (.p rfl) .n) ?_)
  rfl

theorem sp_laws_eqNoticeS (l : List D.Notice) : Spec Tryz.prog G0 95 [.slice 4 (l.map D.Notice.V), .slice 4 (l.map D.Notice.V)] (fun r => r = .bool true) := by
  refine enter (l := [.tmp 4]) Tryz.func95 rfl Tryz.ntmps95 rfl T.en95 fun E => ?_
  simp only [List.length_cons, List.length_nil, List.replicate_succ, List.replicate_zero, List.cons_append, List.nil_append, Nat.reduceAdd, Nat.reduceSub]
  refine rngl n0 fun hlen => ?_
  simp only [List.length_map, maxLen] at hlen
  refine sr <| m (as_ .b) u4 <| e ?_
  refine sq ?_
  refine sr <| m (mv (.t n0)) u6 <| m (lenm T.s53 (.t n6)) u7 <| m (mv (.t n1)) u8 <| m (lenm T.s53 (.t n8)) u9 <| m (neqs (.t n7) (.t n9)) u10 <| e ?_
  refine cdf n10 ?_
  refine skp ?_
  refine sq ?_
  refine sr <| m (as_ (.i rfl)) u5 <| e ?_
  refine bk ?_
  refine lp (fun i : Nat => ⟨[.slice 4 (l.map D.Notice.V), .slice 4 (l.map D.Notice.V), .any, .any, .any, .int .i64 (i : Int), .any, .any, .any, .any, .any, .any, .any, .any, .any, .any, .any, .any, .any, .any, .any, .any, .any, .any, .any, .any, .any], []⟩) (fun i : Nat => i ≤ l.length) (fun i : Nat => l.length - i) (0) (by simp) (le [] (by decide) (.c (.e rfl rfl) (.c (.e rfl rfl) (.c .a (.c .a (.c .a (.c (.e rfl rfl) (.c .a (.c .a (.c .a (.c .a (.c .a (.c .a (.c .a (.c .a (.c .a (.c .a (.c .a (.c .a (.c .a (.c .a (.c .a (.c .a (.c .a (.c .a (.c .a (.c .a (.c .a .n))))))))))))))))))))))))))) .n) ?_
  rintro i hJ
  try dsimp only at hJ ⊢
  refine sq ?_
  refine sr <| m (mv (.t n5)) u11 <| m (mv (.t n0)) u12 <| m (lenm T.s53 (.t n12)) u13 <| m (lss (.t n11) (.t n13)) u14 <| e ?_
  refine cnd n14 (fun h1 => ?_) (fun h1 => ?_)
  ·
    replace h1 := of_decide_eq_true h1
    refine skp ?_
    refine sq ?_
    refine bk ?_
    refine sd none [(0, true), (1, true), (2, true), (3, true), (4, true), (5, true), (6, true), (7, true), (8, false), (9, true)] T.mix (by kernel_rfl) <| om n0 (mv (.t n0)) u17 <| om n1 (mv (.t n5)) u18 <| om n2 (ixm T.s53 (Int.natCast_nonneg _) (gi (by omega)) (.t n17) (.t n18)) u19 <| om n3 (lae T.a202 k4 (.t n19)) u20 <| om n4 (mv (.t n1)) u21 <| om n5 (mv (.t n5)) u22 <| om n6 (ixm T.s53 (Int.natCast_nonneg _) (gi (by omega)) (.t n21) (.t n22)) u23 <| om n7 (lae T.a202 k4 (.t n23)) u24 <| oc n8 (call (sp_laws_eqNotice _) (.c (.t n20) rfl (.c (.t n24) rfl .n))) u25 <| om n9 (not_ (.t n25)) u26 <| oe ?_
    refine cdf n26 ?_
    refine skp ?_
    refine rg <| m (mv (.t n5)) u15 <| m (add (.t n15) (.i rfl)) u16 <| m (as_ (.t n16)) u5 <| e ?_
    exact ⟨i + 1, (by omega), (by omega), le [] (by decide) (.c (.e rfl rfl) (.c (.e rfl rfl) (.c .a (.c .a (.c .a (.c (.e (wi (by omega)) rfl) (.c .a (.c .a (.c .a (.c .a (.c .a (.c .a (.c .a (.c .a (.c .a (.c .a (.c .a (.c .a (.c .a (.c .a (.c .a (.c .a (.c .a (.c .a (.c .a (.c .a (.c .a .n))))))))))))))))))))))))))) .n⟩
  ·
    replace h1 := of_decide_eq_false h1
    refine ex (x1 ?_)
    refine sr <| m (as_ .b) u4 <| e ?_
    refine rt (ret1 (.t n4 (.p rfl) .n) ?_)
    rfl

theorem sp_laws_eqMailbox (x : D.Mailbox) : Spec Tryz.prog G0 51 [.agg (D.Mailbox.V x), .agg (D.Mailbox.V x)] (fun r => r = .bool true) := by
  refine enter (l := [.tmp 4]) Tryz.func51 rfl Tryz.ntmps51 rfl T.en51 fun E => ?_
  simp only [List.length_cons, List.length_nil, List.replicate_succ, List.replicate_zero, List.cons_append, List.nil_append, Nat.reduceAdd, Nat.reduceSub]
  refine sr <| k (bx rfl s0 u2 (.t n0)) <| k (bx rfl s1 u3 (.t n1)) <| m (as_ .b) u4 <| e ?_
  refine sq ?_
  refine sr <| m (fab 0 rfl T.f55_0 (.t n2)) u5 <| m (ldb T.o53 n0 n0 (.t n5)) u6 <| m (fab 0 rfl T.f55_0 (.t n3)) u7 <| m (ldb T.o53 n1 n0 (.t n7)) u8 <| c (call (sp_laws_eqNoticeS _) (.c (.t n6) rfl (.c (.t n8) rfl .n))) u9 <| m (not_ (.t n9)) u10 <| e ?_
  refine cdf n10 ?_
  refine skp ?_
  refine sr <| m (as_ .b) u4 <| e ?_
  refine rt (ret1 (.t n4 (.p rfl) .n) ?_)
  rfl

theorem sp_laws_eqWorld (x : D.World) : Spec Tryz.prog G0 15 [.agg (D.World.V x), .agg (D.World.V x)] (fun r => r = .bool true) := by
  refine enter (l := [.tmp 4]) Tryz.func15 rfl Tryz.ntmps15 rfl T.en15 fun E => ?_
  simp only [List.length_cons, List.length_nil, List.replicate_succ, List.replicate_zero, List.cons_append, List.nil_append, Nat.reduceAdd, Nat.reduceSub]
  refine sr <| k (bx rfl s0 u2 (.t n0)) <| k (bx rfl s1 u3 (.t n1)) <| m (as_ .b) u4 <| e ?_
  refine sq ?_
  refine sr <| m (fab 0 rfl T.f57_0 (.t n2)) u5 <| m (ldb T.o3 n0 n0 (.t n5)) u6 <| m (fab 0 rfl T.f57_0 (.t n3)) u7 <| m (ldb T.o3 n1 n0 (.t n7)) u8 <| m (neqs (.t n6) (.t n8)) u9 <| e ?_
  refine cdf n9 ?_
  refine skp ?_
  refine sq ?_
  refine sr <| m (fab 1 rfl T.f57_1 (.t n2)) u10 <| m (ldb T.o3 n0 n1 (.t n10)) u11 <| m (fab 1 rfl T.f57_1 (.t n3)) u12 <| m (ldb T.o3 n1 n1 (.t n12)) u13 <| m (neqs (.t n11) (.t n13)) u14 <| e ?_
  refine cdf n14 ?_
  refine skp ?_
  refine sq ?_
  refine sr <| m (fab 2 rfl T.f57_2 (.t n2)) u15 <| m (ldb T.o42 n0 n2 (.t n15)) u16 <| m (fab 2 rfl T.f57_2 (.t n3)) u17 <| m (ldb T.o42 n1 n2 (.t n17)) u18 <| c (call (sp_laws_eqDeviceS _) (.c (.t n16) rfl (.c (.t n18) rfl .n))) u19 <| m (not_ (.t n19)) u20 <| e ?_
  refine cdf n20 ?_
  refine skp ?_
  refine sq ?_
  refine sr <| m (fab 3 rfl T.f57_3 (.t n2)) u21 <| m (ldb T.o23 n0 n3 (.t n21)) u22 <| m (fab 3 rfl T.f57_3 (.t n3)) u23 <| m (ldb T.o23 n1 n3 (.t n23)) u24 <| c (call (sp_laws_eqBoolS _) (.c (.t n22) rfl (.c (.t n24) rfl .n))) u25 <| m (not_ (.t n25)) u26 <| e ?_
  refine cdf n26 ?_
  refine skp ?_
  refine sq ?_
  refine sr <| m (fab 4 rfl T.f57_4 (.t n2)) u27 <| m (lab T.a49 n0 d4 k4 (.t n27)) u28 <| m (fab 4 rfl T.f57_4 (.t n3)) u29 <| m (lab T.a49 n1 d4 k4 (.t n29)) u30 <| c (call (sp_laws_eqCloud _) (.c (.t n28) rfl (.c (.t n30) rfl .n))) u31 <| m (not_ (.t n31)) u32 <| e ?_
  refine cdf n32 ?_
  refine skp ?_
  refine sq ?_
  refine sr <| m (fab 8 rfl T.f57_5 (.t n2)) u33 <| m (ldb T.o50 n0 n8 (.t n33)) u34 <| m (fab 8 rfl T.f57_5 (.t n3)) u35 <| m (ldb T.o50 n1 n8 (.t n35)) u36 <| c (call (sp_laws_eqSiteS _) (.c (.t n34) rfl (.c (.t n36) rfl .n))) u37 <| m (not_ (.t n37)) u38 <| e ?_
  refine cdf n38 ?_
  refine skp ?_
  refine sq ?_
  refine sr <| m (fab 9 rfl T.f57_6 (.t n2)) u39 <| m (lab T.a51 n0 d9 k4 (.t n39)) u40 <| m (fab 9 rfl T.f57_6 (.t n3)) u41 <| m (lab T.a51 n1 d9 k4 (.t n41)) u42 <| c (call (sp_laws_eqVault _) (.c (.t n40) rfl (.c (.t n42) rfl .n))) u43 <| m (not_ (.t n43)) u44 <| e ?_
  refine cdf n44 ?_
  refine skp ?_
  refine sq ?_
  refine sr <| m (fab 13 rfl T.f57_7 (.t n2)) u45 <| m (ldb T.o52 n0 n13 (.t n45)) u46 <| m (fab 13 rfl T.f57_7 (.t n3)) u47 <| m (ldb T.o52 n1 n13 (.t n47)) u48 <| c (call (sp_laws_eqKeeperHostS _) (.c (.t n46) rfl (.c (.t n48) rfl .n))) u49 <| m (not_ (.t n49)) u50 <| e ?_
  refine cdf n50 ?_
  refine skp ?_
  refine sq ?_
  refine sr <| m (fab 14 rfl T.f57_8 (.t n2)) u51 <| m (ldb T.o3 n0 n14 (.t n51)) u52 <| m (fab 14 rfl T.f57_8 (.t n3)) u53 <| m (ldb T.o3 n1 n14 (.t n53)) u54 <| m (neqs (.t n52) (.t n54)) u55 <| e ?_
  refine cdf n55 ?_
  refine skp ?_
  refine sq ?_
  refine sr <| m (fab 15 rfl T.f57_9 (.t n2)) u56 <| m (lab T.a55 n0 d15 k1 (.t n56)) u57 <| m (fab 15 rfl T.f57_9 (.t n3)) u58 <| m (lab T.a55 n1 d15 k1 (.t n58)) u59 <| c (call (sp_laws_eqMailbox _) (.c (.t n57) rfl (.c (.t n59) rfl .n))) u60 <| m (not_ (.t n60)) u61 <| e ?_
  refine cdf n61 ?_
  refine skp ?_
  refine sr <| m (as_ .b) u4 <| e ?_
  refine rt (ret1 (.t n4 (.p rfl) .n) ?_)
  rfl

theorem sp_laws_FnExactKeysAgree (x0 : D.World) (x1 : Int) : Spec Tryz.prog G0 10 [.agg (D.World.V x0), .int .i64 x1] (fun r => r = .bool true) := by
  refine enter (l := [.tmp 4]) Tryz.func10 rfl Tryz.ntmps10 rfl T.en10 fun E => ?_
  simp only [List.length_cons, List.length_nil, List.replicate_succ, List.replicate_zero, List.cons_append, List.nil_append, Nat.reduceAdd, Nat.reduceSub]
  refine sr <| k (bx rfl s0 u2 (.t n0)) <| m (as_ .b) u4 <| e ?_
  refine sr <| m (as_ (.i rfl)) u5 <| e ?_
  refine sr <| m (lab T.a39 n0 d0 k16 (.t n2)) u9 <| m (mv (.t n5)) u10 <| cI (call (sp_laws_szWorld _ _ (by omega) (by first | omega | (simp only [IntKind.wrap_i64] at *; omega))) (.c (.t n9) rfl (.c (.t n10) rfl .n))) (fun _ => u11) (fun r1 hr1 => ?_)
  refine m (as_ (.t n11)) u5 <| e ?_
  refine sq ?_
  refine sr <| m (mv (.t n5)) u12 <| m (lss (.t n12) (.i rfl)) u13 <| e ?_
  refine cnd n13 (fun h2 => ?_) (fun h2 => ?_)
  ·
    replace h2 := of_decide_eq_true h2
    refine sr <| m (as_ .b) u4 <| e ?_
    refine rt (ret1 (.t n4 (.p rfl) .n) ?_)
    rfl
  ·
    replace h2 := of_decide_eq_false h2
    have hsz0 : x0.sz ≤ 1048576 := by
      have := hr1 (by omega)
      omega
    refine skp ?_
    refine sr <| m (lab T.a39 n0 d0 k16 (.t n2)) u14 <| c (call (sp_laws_toWorld _ (by first | assumption | (simp only [D.Box.sz, D.EpochBoxes.sz, D.LogEntry.sz, D.SealedBundle.sz, D.Cloud.sz, D.Vault.sz, D.Notice.sz, D.Mailbox.sz, D.KeyStore.sz, D.Entry.sz, D.Bundle.sz, D.Device.sz, D.Credential.sz, D.Account.sz, D.Challenge.sz, D.ChallengeBook.sz, D.Site.sz, D.Share.sz, D.Keeper.sz, D.KeeperHost.sz, D.World.sz] at *; omega))) (.c (.t n14) rfl .n)) u15 <| m (mv (.t n1)) u16 <| c (call (tot_spec_KeysAgree _ _ (WOk.of hsz0)) (.c (.t n15) rfl (.c (.t n16) rfl .n))) u17 <| m (as_ (.t n17)) u6 <| e ?_
    refine sr <| m (lab T.a39 n0 d0 k16 (.t n2)) u18 <| c (call (sp_laws_toWorld _ (by first | assumption | (simp only [D.Box.sz, D.EpochBoxes.sz, D.LogEntry.sz, D.SealedBundle.sz, D.Cloud.sz, D.Vault.sz, D.Notice.sz, D.Mailbox.sz, D.KeyStore.sz, D.Entry.sz, D.Bundle.sz, D.Device.sz, D.Credential.sz, D.Account.sz, D.Challenge.sz, D.ChallengeBook.sz, D.Site.sz, D.Share.sz, D.Keeper.sz, D.KeeperHost.sz, D.World.sz] at *; omega))) (.c (.t n18) rfl .n)) u19 <| k (al T.z57 s1 u7) <| k (sta T.a57 rfl rfl n1 (.z (.z (.z (.z (.z (.z (.z (.z (.z (.z (.z (.z (.z (.z (.z (.z .n)))))))))))))))) q1 (.t n7) (.t n19)) <| e ?_
    refine sr <| m (lab T.a57 n1 d0 k16 (.t n7)) u20 <| m (mv (.t n1)) u21 <| c (call (tot_impl_KeysAgree _ _ (WOk.of hsz0)) (.c (.t n20) rfl (.c (.t n21) rfl .n))) u22 <| m (as_ (.t n22)) u8 <| e ?_
    refine sq ?_
    refine sr <| m (mv (.t n8)) u23 <| m (mv (.t n6)) u24 <| m (bnes Tryz.underlying4 (.t n23) (.t n24)) u25 <| e ?_
    refine cdf n25 ?_
    refine skp ?_
    refine sq ?_
    refine sd none [(0, true), (1, true), (2, false), (3, false), (4, true)] T.mix (by kernel_rfl) <| om n0 (lab T.a57 n1 d0 k16 (.t n7)) u26 <| om n1 (lab T.a39 n0 d0 k16 (.t n2)) u27 <| oc n2 (call (sp_laws_toWorld _ (by first | assumption | (simp only [D.Box.sz, D.EpochBoxes.sz, D.LogEntry.sz, D.SealedBundle.sz, D.Cloud.sz, D.Vault.sz, D.Notice.sz, D.Mailbox.sz, D.KeyStore.sz, D.Entry.sz, D.Bundle.sz, D.Device.sz, D.Credential.sz, D.Account.sz, D.Challenge.sz, D.ChallengeBook.sz, D.Site.sz, D.Share.sz, D.Keeper.sz, D.KeeperHost.sz, D.World.sz] at *; omega))) (.c (.t n27) rfl .n)) u28 <| oc n3 (call (sp_laws_eqWorld _) (.c (.t n26) rfl (.c (.t n28) rfl .n))) u29 <| om n4 (not_ (.t n29)) u30 <| oe ?_
    refine cdf n30 ?_
    refine skp ?_
    refine sr <| m (as_ .b) u4 <| e ?_
    refine rt (ret1 (.t n4 (.p rfl) .n) ?_)
    rfl
end Go.VK
