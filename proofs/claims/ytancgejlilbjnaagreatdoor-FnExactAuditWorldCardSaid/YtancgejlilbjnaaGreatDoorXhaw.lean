/-
  Printed by wip/tools (own work of this part): models of functions, walks over the value kit, and proofs.
-/
import Derived.Test.YtancgejlilbjnaaGreatDoorXkaw3
set_option linter.unusedVariables false
set_option linter.unusedSimpArgs false
set_option maxRecDepth 100000
set_option maxHeartbeats 4000000
namespace Go.VK
open Go.RowKit Go.Proofs
theorem T.hd3 : HasData Tryz.prog 3 Int iV := hd_int Tryz.underlying3
theorem T.hd122 : HasData Tryz.prog 122 D.KeyStore D.KeyStore.V := hd_struct (t := 122) Tryz.underlying122 (by kernel_rfl) (hf_cons (k := 1) T.hd3 rfl (by kernel_rfl) (hf_cons (k := 1) T.hd3 rfl (by kernel_rfl) (hf_cons (k := 1) T.hd3 rfl (by kernel_rfl) (hf_cons (k := 1) T.hd3 rfl (by kernel_rfl) hf_nil)))) (fun p => ⟨p.1, p.2.1, p.2.2.1, p.2.2.2.1⟩) (fun p => rfl)
theorem T.hd224 : HasData Tryz.prog 224 D.LogEntry D.LogEntry.V := hd_struct (t := 224) Tryz.underlying224 (by kernel_rfl) (hf_cons (k := 1) T.hd3 rfl (by kernel_rfl) (hf_cons (k := 1) T.hd3 rfl (by kernel_rfl) (hf_cons (k := 1) T.hd3 rfl (by kernel_rfl) (hf_cons (k := 1) T.hd3 rfl (by kernel_rfl) (hf_cons (k := 1) T.hd3 rfl (by kernel_rfl) (hf_cons (k := 1) T.hd3 rfl (by kernel_rfl) hf_nil)))))) (fun p => ⟨p.1, p.2.1, p.2.2.1, p.2.2.2.1, p.2.2.2.2.1, p.2.2.2.2.2.1⟩) (fun p => rfl)
theorem T.hd24 : HasData Tryz.prog 24 (List D.LogEntry) (fun l => [.slice 6 (l.map D.LogEntry.V)]) := hd_slice Tryz.underlying24 (by kernel_rfl) (by decide) (fun _ => rfl) T.hd224
theorem T.hd4 : HasData Tryz.prog 4 Bool bV := hd_bool Tryz.underlying4
theorem T.hd315 : HasData Tryz.prog 315 D.Entry D.Entry.V := hd_struct (t := 315) Tryz.underlying315 (by kernel_rfl) (hf_cons (k := 1) T.hd3 rfl (by kernel_rfl) (hf_cons (k := 1) T.hd3 rfl (by kernel_rfl) (hf_cons (k := 1) T.hd3 rfl (by kernel_rfl) (hf_cons (k := 1) T.hd4 rfl (by kernel_rfl) hf_nil)))) (fun p => ⟨p.1, p.2.1, p.2.2.1, p.2.2.2.1⟩) (fun p => rfl)
theorem T.hd123 : HasData Tryz.prog 123 (List D.Entry) (fun l => [.slice 4 (l.map D.Entry.V)]) := hd_slice Tryz.underlying123 (by kernel_rfl) (by decide) (fun _ => rfl) T.hd315
theorem T.hd125 : HasData Tryz.prog 125 D.Bundle D.Bundle.V := hd_struct (t := 125) Tryz.underlying125 (by kernel_rfl) (hf_cons (k := 1) T.hd123 rfl (by kernel_rfl) hf_nil) (fun p => ⟨p.1⟩) (fun p => rfl)
theorem T.hd127 : HasData Tryz.prog 127 D.Device D.Device.V := hd_struct (t := 127) Tryz.underlying127 (by kernel_rfl) (hf_cons (k := 4) T.hd122 rfl (by kernel_rfl) (hf_cons (k := 1) T.hd24 rfl (by kernel_rfl) (hf_cons (k := 1) T.hd3 rfl (by kernel_rfl) (hf_cons (k := 1) T.hd3 rfl (by kernel_rfl) (hf_cons (k := 1) T.hd3 rfl (by kernel_rfl) (hf_cons (k := 1) T.hd125 rfl (by kernel_rfl) hf_nil)))))) (fun p => ⟨p.1, p.2.1, p.2.2.1, p.2.2.2.1, p.2.2.2.2.1, p.2.2.2.2.2.1⟩) (fun p => rfl)
theorem T.hd22 : HasData Tryz.prog 22 (List D.Device) (fun l => [.slice 9 (l.map D.Device.V)]) := hd_slice Tryz.underlying22 (by kernel_rfl) (by decide) (fun _ => rfl) T.hd127
theorem T.hd23 : HasData Tryz.prog 23 (List Bool) (fun l => [.slice 1 (l.map bV)]) := hd_slice Tryz.underlying23 (by kernel_rfl) (by decide) (fun _ => rfl) T.hd4
theorem T.hd5 : HasData Tryz.prog 5 Int y8 := hd_u8 Tryz.underlying5
theorem T.hd207 : HasData Tryz.prog 207 (List Int) (fun l => [.slice 1 (l.map y8)]) := hd_slice Tryz.underlying207 (by kernel_rfl) (by decide) (fun _ => rfl) T.hd5
theorem T.hd283 : HasData Tryz.prog 283 D.Box D.Box.V := hd_struct (t := 283) Tryz.underlying283 (by kernel_rfl) (hf_cons (k := 1) T.hd3 rfl (by kernel_rfl) (hf_cons (k := 1) T.hd3 rfl (by kernel_rfl) (hf_cons (k := 1) T.hd207 rfl (by kernel_rfl) (hf_cons (k := 1) T.hd3 rfl (by kernel_rfl) hf_nil)))) (fun p => ⟨p.1, p.2.1, p.2.2.1, p.2.2.2.1⟩) (fun p => rfl)
theorem T.hd25 : HasData Tryz.prog 25 (List D.Box) (fun l => [.slice 4 (l.map D.Box.V)]) := hd_slice Tryz.underlying25 (by kernel_rfl) (by decide) (fun _ => rfl) T.hd283
theorem T.hd27 : HasData Tryz.prog 27 D.EpochBoxes D.EpochBoxes.V := hd_struct (t := 27) Tryz.underlying27 (by kernel_rfl) (hf_cons (k := 1) T.hd3 rfl (by kernel_rfl) (hf_cons (k := 1) T.hd25 rfl (by kernel_rfl) hf_nil)) (fun p => ⟨p.1, p.2.1⟩) (fun p => rfl)
theorem T.hd209 : HasData Tryz.prog 209 D.SealedBundle D.SealedBundle.V := hd_struct (t := 209) Tryz.underlying209 (by kernel_rfl) (hf_cons (k := 1) T.hd3 rfl (by kernel_rfl) (hf_cons (k := 1) T.hd3 rfl (by kernel_rfl) (hf_cons (k := 1) T.hd207 rfl (by kernel_rfl) (hf_cons (k := 1) T.hd3 rfl (by kernel_rfl) hf_nil)))) (fun p => ⟨p.1, p.2.1, p.2.2.1, p.2.2.2.1⟩) (fun p => rfl)
theorem T.hd28 : HasData Tryz.prog 28 (List D.SealedBundle) (fun l => [.slice 4 (l.map D.SealedBundle.V)]) := hd_slice Tryz.underlying28 (by kernel_rfl) (by decide) (fun _ => rfl) T.hd209
theorem T.hd30 : HasData Tryz.prog 30 D.Cloud D.Cloud.V := hd_struct (t := 30) Tryz.underlying30 (by kernel_rfl) (hf_cons (k := 1) T.hd24 rfl (by kernel_rfl) (hf_cons (k := 2) T.hd27 rfl (by kernel_rfl) (hf_cons (k := 1) T.hd28 rfl (by kernel_rfl) hf_nil))) (fun p => ⟨p.1, p.2.1, p.2.2.1⟩) (fun p => rfl)
theorem T.hd9 : HasData Tryz.prog 9 ByteArray sV := hd_str Tryz.underlying9
theorem T.hd328 : HasData Tryz.prog 328 D.Credential D.Credential.V := hd_struct (t := 328) Tryz.underlying328 (by kernel_rfl) (hf_cons (k := 1) T.hd3 rfl (by kernel_rfl) (hf_cons (k := 1) T.hd3 rfl (by kernel_rfl) (hf_cons (k := 1) T.hd3 rfl (by kernel_rfl) (hf_cons (k := 1) T.hd4 rfl (by kernel_rfl) hf_nil)))) (fun p => ⟨p.1, p.2.1, p.2.2.1, p.2.2.2.1⟩) (fun p => rfl)
theorem T.hd285 : HasData Tryz.prog 285 (List D.Credential) (fun l => [.slice 4 (l.map D.Credential.V)]) := hd_slice Tryz.underlying285 (by kernel_rfl) (by decide) (fun _ => rfl) T.hd328
theorem T.hd287 : HasData Tryz.prog 287 D.Account D.Account.V := hd_struct (t := 287) Tryz.underlying287 (by kernel_rfl) (hf_cons (k := 1) T.hd3 rfl (by kernel_rfl) (hf_cons (k := 1) T.hd3 rfl (by kernel_rfl) (hf_cons (k := 1) T.hd285 rfl (by kernel_rfl) hf_nil))) (fun p => ⟨p.1, p.2.1, p.2.2.1⟩) (fun p => rfl)
theorem T.hd132 : HasData Tryz.prog 132 (List D.Account) (fun l => [.slice 3 (l.map D.Account.V)]) := hd_slice Tryz.underlying132 (by kernel_rfl) (by decide) (fun _ => rfl) T.hd287
theorem T.hd318 : HasData Tryz.prog 318 D.Challenge D.Challenge.V := hd_struct (t := 318) Tryz.underlying318 (by kernel_rfl) (hf_cons (k := 1) T.hd3 rfl (by kernel_rfl) (hf_cons (k := 1) T.hd3 rfl (by kernel_rfl) (hf_cons (k := 1) T.hd3 rfl (by kernel_rfl) hf_nil))) (fun p => ⟨p.1, p.2.1, p.2.2.1⟩) (fun p => rfl)
theorem T.hd133 : HasData Tryz.prog 133 (List D.Challenge) (fun l => [.slice 3 (l.map D.Challenge.V)]) := hd_slice Tryz.underlying133 (by kernel_rfl) (by decide) (fun _ => rfl) T.hd318
theorem T.hd135 : HasData Tryz.prog 135 D.ChallengeBook D.ChallengeBook.V := hd_struct (t := 135) Tryz.underlying135 (by kernel_rfl) (hf_cons (k := 1) T.hd3 rfl (by kernel_rfl) (hf_cons (k := 1) T.hd3 rfl (by kernel_rfl) (hf_cons (k := 1) T.hd133 rfl (by kernel_rfl) hf_nil))) (fun p => ⟨p.1, p.2.1, p.2.2.1⟩) (fun p => rfl)
theorem T.hd108 : HasData Tryz.prog 108 (List Int) (fun l => [.slice 1 (l.map iV)]) := hd_slice Tryz.underlying108 (by kernel_rfl) (by decide) (fun _ => rfl) T.hd3
theorem T.hd137 : HasData Tryz.prog 137 D.Site D.Site.V := hd_struct (t := 137) Tryz.underlying137 (by kernel_rfl) (hf_cons (k := 1) T.hd9 rfl (by kernel_rfl) (hf_cons (k := 1) T.hd132 rfl (by kernel_rfl) (hf_cons (k := 3) T.hd135 rfl (by kernel_rfl) (hf_cons (k := 1) T.hd108 rfl (by kernel_rfl) hf_nil)))) (fun p => ⟨p.1, p.2.1, p.2.2.1, p.2.2.2.1⟩) (fun p => rfl)
theorem T.hd31 : HasData Tryz.prog 31 (List D.Site) (fun l => [.slice 6 (l.map D.Site.V)]) := hd_slice Tryz.underlying31 (by kernel_rfl) (by decide) (fun _ => rfl) T.hd137
theorem T.hd33 : HasData Tryz.prog 33 D.Vault D.Vault.V := hd_struct (t := 33) Tryz.underlying33 (by kernel_rfl) (hf_cons (k := 1) T.hd3 rfl (by kernel_rfl) (hf_cons (k := 1) T.hd3 rfl (by kernel_rfl) (hf_cons (k := 1) T.hd3 rfl (by kernel_rfl) (hf_cons (k := 1) T.hd3 rfl (by kernel_rfl) hf_nil)))) (fun p => ⟨p.1, p.2.1, p.2.2.1, p.2.2.2.1⟩) (fun p => rfl)
theorem T.hd139 : HasData Tryz.prog 139 D.Share D.Share.V := hd_struct (t := 139) Tryz.underlying139 (by kernel_rfl) (hf_cons (k := 1) T.hd3 rfl (by kernel_rfl) (hf_cons (k := 1) T.hd3 rfl (by kernel_rfl) hf_nil)) (fun p => ⟨p.1, p.2.1⟩) (fun p => rfl)
theorem T.hd141 : HasData Tryz.prog 141 D.Keeper D.Keeper.V := hd_struct (t := 141) Tryz.underlying141 (by kernel_rfl) (hf_cons (k := 2) T.hd139 rfl (by kernel_rfl) (hf_cons (k := 1) T.hd3 rfl (by kernel_rfl) (hf_cons (k := 1) T.hd3 rfl (by kernel_rfl) (hf_cons (k := 1) T.hd3 rfl (by kernel_rfl) hf_nil)))) (fun p => ⟨p.1, p.2.1, p.2.2.1, p.2.2.2.1⟩) (fun p => rfl)
theorem T.hd142 : HasData Tryz.prog 142 (List D.Keeper) (fun l => [.slice 5 (l.map D.Keeper.V)]) := hd_slice Tryz.underlying142 (by kernel_rfl) (by decide) (fun _ => rfl) T.hd141
theorem T.hd144 : HasData Tryz.prog 144 D.KeeperHost D.KeeperHost.V := hd_struct (t := 144) Tryz.underlying144 (by kernel_rfl) (hf_cons (k := 5) T.hd141 rfl (by kernel_rfl) (hf_cons (k := 1) T.hd142 rfl (by kernel_rfl) (hf_cons (k := 1) T.hd3 rfl (by kernel_rfl) hf_nil))) (fun p => ⟨p.1, p.2.1, p.2.2.1⟩) (fun p => rfl)
theorem T.hd34 : HasData Tryz.prog 34 (List D.KeeperHost) (fun l => [.slice 7 (l.map D.KeeperHost.V)]) := hd_slice Tryz.underlying34 (by kernel_rfl) (by decide) (fun _ => rfl) T.hd144
theorem T.hd234 : HasData Tryz.prog 234 D.Notice D.Notice.V := hd_struct (t := 234) Tryz.underlying234 (by kernel_rfl) (hf_cons (k := 1) T.hd3 rfl (by kernel_rfl) (hf_cons (k := 1) T.hd3 rfl (by kernel_rfl) (hf_cons (k := 1) T.hd3 rfl (by kernel_rfl) (hf_cons (k := 1) T.hd4 rfl (by kernel_rfl) hf_nil)))) (fun p => ⟨p.1, p.2.1, p.2.2.1, p.2.2.2.1⟩) (fun p => rfl)
theorem T.hd35 : HasData Tryz.prog 35 (List D.Notice) (fun l => [.slice 4 (l.map D.Notice.V)]) := hd_slice Tryz.underlying35 (by kernel_rfl) (by decide) (fun _ => rfl) T.hd234
theorem T.hd37 : HasData Tryz.prog 37 D.Mailbox D.Mailbox.V := hd_struct (t := 37) Tryz.underlying37 (by kernel_rfl) (hf_cons (k := 1) T.hd35 rfl (by kernel_rfl) hf_nil) (fun p => ⟨p.1⟩) (fun p => rfl)
theorem T.hd39 : HasData Tryz.prog 39 D.World D.World.V := hd_struct (t := 39) Tryz.underlying39 (by kernel_rfl) (hf_cons (k := 1) T.hd3 rfl (by kernel_rfl) (hf_cons (k := 1) T.hd3 rfl (by kernel_rfl) (hf_cons (k := 1) T.hd22 rfl (by kernel_rfl) (hf_cons (k := 1) T.hd23 rfl (by kernel_rfl) (hf_cons (k := 4) T.hd30 rfl (by kernel_rfl) (hf_cons (k := 1) T.hd31 rfl (by kernel_rfl) (hf_cons (k := 4) T.hd33 rfl (by kernel_rfl) (hf_cons (k := 1) T.hd34 rfl (by kernel_rfl) (hf_cons (k := 1) T.hd3 rfl (by kernel_rfl) (hf_cons (k := 1) T.hd37 rfl (by kernel_rfl) hf_nil)))))))))) (fun p => ⟨p.1, p.2.1, p.2.2.1, p.2.2.2.1, p.2.2.2.2.1, p.2.2.2.2.2.1, p.2.2.2.2.2.2.1, p.2.2.2.2.2.2.2.1, p.2.2.2.2.2.2.2.2.1, p.2.2.2.2.2.2.2.2.2.1⟩) (fun p => rfl)
theorem sp_laws_szLogEntryS (l : List D.LogEntry) (left : Int) (h0 : 0 ≤ left) (h1 : left ≤ 1048576) : Spec Tryz.prog G0 80 [.slice 6 (l.map D.LogEntry.V), .int .i64 left] (fun r => ∃ n : Int, r = .int .i64 n ∧ (0 ≤ n → (l.length : Int) + n ≤ left)) := by
 refine enter (l := [.tmp 4]) Tryz.func80 rfl Tryz.ntmps80 rfl T.en80 fun E => ?_
 simp only [List.length_cons, List.length_nil, List.replicate_succ, List.replicate_zero, List.cons_append, List.nil_append, Nat.reduceAdd, Nat.reduceSub]
 refine rngl n0 fun hlen => ?_
 simp only [List.length_map, maxLen] at hlen
 have hw : IntKind.i64.wrap (left - (l.length : Int)) = left - (l.length : Int) := by rw [IntKind.wrap_i64]; omega
 refine sr <| m (as_ (.i rfl)) u4 <| e ?_
 refine sr <| m (mv (.t n1)) u5 <| m (mv (.t n0)) u6 <| m (lenm T.s24 (.t n6)) u7 <| m (sub (.t n5) (.t n7)) u8 <| m (as_ (.t n8)) u1 <| e ?_
 refine sq ?_
 refine sr <| m (mv (.t n1)) u9 <| m (lss (.t n9) (.i rfl)) u10 <| e ?_
 refine cnd n10 (fun h1 => ?_) (fun h1 => ?_)
 ·
  replace h1 := of_decide_eq_true h1
  refine sr <| m (as_ (.i rfl)) u4 <| e ?_
  refine rt (ret1 (.t n4 (.p rfl) .n) ?_)
  refine ⟨_, rfl, fun hn => ?_⟩
  first | omega | (rw [hw]; omega)
 ·
  replace h1 := of_decide_eq_false h1
  refine skp ?_
  refine sr <| m (mv (.t n1)) u11 <| m (as_ (.t n11)) u4 <| e ?_
  refine rt (ret1 (.t n4 (.p rfl) .n) ?_)
  refine ⟨_, rfl, fun hn => ?_⟩
  first | omega | (rw [hw]; omega)

theorem sp_laws_szEntryS (l : List D.Entry) (left : Int) (h0 : 0 ≤ left) (h1 : left ≤ 1048576) : Spec Tryz.prog G0 254 [.slice 4 (l.map D.Entry.V), .int .i64 left] (fun r => ∃ n : Int, r = .int .i64 n ∧ (0 ≤ n → (l.length : Int) + n ≤ left)) := by
 refine enter (l := [.tmp 4]) Tryz.func254 rfl Tryz.ntmps254 rfl T.en254 fun E => ?_
 simp only [List.length_cons, List.length_nil, List.replicate_succ, List.replicate_zero, List.cons_append, List.nil_append, Nat.reduceAdd, Nat.reduceSub]
 refine rngl n0 fun hlen => ?_
 simp only [List.length_map, maxLen] at hlen
 have hw : IntKind.i64.wrap (left - (l.length : Int)) = left - (l.length : Int) := by rw [IntKind.wrap_i64]; omega
 refine sr <| m (as_ (.i rfl)) u4 <| e ?_
 refine sr <| m (mv (.t n1)) u5 <| m (mv (.t n0)) u6 <| m (lenm T.s123 (.t n6)) u7 <| m (sub (.t n5) (.t n7)) u8 <| m (as_ (.t n8)) u1 <| e ?_
 refine sq ?_
 refine sr <| m (mv (.t n1)) u9 <| m (lss (.t n9) (.i rfl)) u10 <| e ?_
 refine cnd n10 (fun h1 => ?_) (fun h1 => ?_)
 ·
  replace h1 := of_decide_eq_true h1
  refine sr <| m (as_ (.i rfl)) u4 <| e ?_
  refine rt (ret1 (.t n4 (.p rfl) .n) ?_)
  refine ⟨_, rfl, fun hn => ?_⟩
  first | omega | (rw [hw]; omega)
 ·
  replace h1 := of_decide_eq_false h1
  refine skp ?_
  refine sr <| m (mv (.t n1)) u11 <| m (as_ (.t n11)) u4 <| e ?_
  refine rt (ret1 (.t n4 (.p rfl) .n) ?_)
  refine ⟨_, rfl, fun hn => ?_⟩
  first | omega | (rw [hw]; omega)

theorem sp_laws_szBundle (x : D.Bundle) (left : Int) (h0 : 0 ≤ left) (h1 : left ≤ 1048576) : Spec Tryz.prog G0 169 [.agg (D.Bundle.V x), .int .i64 left] (fun r => ∃ n : Int, r = .int .i64 n ∧ (0 ≤ n → (x.sz : Int) + n ≤ left)) := by
 refine enter (l := [.tmp 4]) Tryz.func169 rfl Tryz.ntmps169 rfl T.en169 fun E => ?_
 simp only [List.length_cons, List.length_nil, List.replicate_succ, List.replicate_zero, List.cons_append, List.nil_append, Nat.reduceAdd, Nat.reduceSub]
 refine sr <| k (bx rfl s0 u2 (.t n0)) <| m (as_ (.i rfl)) u4 <| e ?_
 refine sr <| m (fab 0 rfl T.f125_0 (.t n2)) u5 <| m (ldb T.o123 n0 n0 (.t n5)) u6 <| m (mv (.t n1)) u7 <| cI (call (sp_laws_szEntryS _ _ (by omega) (by first | omega | (simp only [IntKind.wrap_i64] at *; omega))) (.c (.t n6) rfl (.c (.t n7) rfl .n))) (fun _ => u8) (fun r1 hr1 => ?_)
 refine m (as_ (.t n8)) u1 <| e ?_
 refine sq ?_
 refine sr <| m (mv (.t n1)) u9 <| m (lss (.t n9) (.i rfl)) u10 <| e ?_
 refine cnd n10 (fun h2 => ?_) (fun h2 => ?_)
 ·
  replace h2 := of_decide_eq_true h2
  refine sr <| m (as_ (.i rfl)) u4 <| e ?_
  refine rt (ret1 (.t n4 (.p rfl) .n) ?_)
  refine ⟨_, rfl, fun hn => ?_⟩
  try simp only [D.Box.sz, D.EpochBoxes.sz, D.LogEntry.sz, D.SealedBundle.sz, D.Cloud.sz, D.Vault.sz, D.Notice.sz, D.Mailbox.sz, D.KeyStore.sz, D.Entry.sz, D.Bundle.sz, D.Device.sz, D.Credential.sz, D.Account.sz, D.Challenge.sz, D.ChallengeBook.sz, D.Site.sz, D.Share.sz, D.Keeper.sz, D.KeeperHost.sz, D.World.sz] at *
  try simp only [IntKind.wrap_i64] at *
  omega
 ·
  replace h2 := of_decide_eq_false h2
  refine skp ?_
  refine sr <| m (mv (.t n1)) u11 <| m (as_ (.t n11)) u4 <| e ?_
  refine rt (ret1 (.t n4 (.p rfl) .n) ?_)
  refine ⟨_, rfl, fun hn => ?_⟩
  try simp only [D.Box.sz, D.EpochBoxes.sz, D.LogEntry.sz, D.SealedBundle.sz, D.Cloud.sz, D.Vault.sz, D.Notice.sz, D.Mailbox.sz, D.KeyStore.sz, D.Entry.sz, D.Bundle.sz, D.Device.sz, D.Credential.sz, D.Account.sz, D.Challenge.sz, D.ChallengeBook.sz, D.Site.sz, D.Share.sz, D.Keeper.sz, D.KeeperHost.sz, D.World.sz] at *
  try simp only [IntKind.wrap_i64] at *
  omega

theorem sp_laws_szDevice (x : D.Device) (left : Int) (h0 : 0 ≤ left) (h1 : left ≤ 1048576) : Spec Tryz.prog G0 79 [.agg (D.Device.V x), .int .i64 left] (fun r => ∃ n : Int, r = .int .i64 n ∧ (0 ≤ n → (x.sz : Int) + n ≤ left)) := by
 refine enter (l := [.tmp 4]) Tryz.func79 rfl Tryz.ntmps79 rfl T.en79 fun E => ?_
 simp only [List.length_cons, List.length_nil, List.replicate_succ, List.replicate_zero, List.cons_append, List.nil_append, Nat.reduceAdd, Nat.reduceSub]
 refine sr <| k (bx rfl s0 u2 (.t n0)) <| m (as_ (.i rfl)) u4 <| e ?_
 refine sr <| m (fab 4 rfl T.f127_1 (.t n2)) u5 <| m (ldb T.o24 n0 n4 (.t n5)) u6 <| m (mv (.t n1)) u7 <| cI (call (sp_laws_szLogEntryS _ _ (by omega) (by first | omega | (simp only [IntKind.wrap_i64] at *; omega))) (.c (.t n6) rfl (.c (.t n7) rfl .n))) (fun _ => u8) (fun r1 hr1 => ?_)
 refine m (as_ (.t n8)) u1 <| e ?_
 refine sq ?_
 refine sr <| m (mv (.t n1)) u9 <| m (lss (.t n9) (.i rfl)) u10 <| e ?_
 refine cnd n10 (fun h2 => ?_) (fun h2 => ?_)
 ·
  replace h2 := of_decide_eq_true h2
  refine sr <| m (as_ (.i rfl)) u4 <| e ?_
  refine rt (ret1 (.t n4 (.p rfl) .n) ?_)
  refine ⟨_, rfl, fun hn => ?_⟩
  try simp only [D.Box.sz, D.EpochBoxes.sz, D.LogEntry.sz, D.SealedBundle.sz, D.Cloud.sz, D.Vault.sz, D.Notice.sz, D.Mailbox.sz, D.KeyStore.sz, D.Entry.sz, D.Bundle.sz, D.Device.sz, D.Credential.sz, D.Account.sz, D.Challenge.sz, D.ChallengeBook.sz, D.Site.sz, D.Share.sz, D.Keeper.sz, D.KeeperHost.sz, D.World.sz] at *
  try simp only [IntKind.wrap_i64] at *
  omega
 ·
  replace h2 := of_decide_eq_false h2
  refine skp ?_
  refine sr <| m (fab 8 rfl T.f127_5 (.t n2)) u11 <| m (lab T.a125 n0 d8 k1 (.t n11)) u12 <| m (mv (.t n1)) u13 <| cI (call (sp_laws_szBundle _ _ (by omega) (by first | omega | (simp only [IntKind.wrap_i64] at *; omega))) (.c (.t n12) rfl (.c (.t n13) rfl .n))) (fun _ => u14) (fun r3 hr3 => ?_)
  refine m (as_ (.t n14)) u1 <| e ?_
  refine sq ?_
  refine sr <| m (mv (.t n1)) u15 <| m (lss (.t n15) (.i rfl)) u16 <| e ?_
  refine cnd n16 (fun h4 => ?_) (fun h4 => ?_)
  ·
   replace h4 := of_decide_eq_true h4
   refine sr <| m (as_ (.i rfl)) u4 <| e ?_
   refine rt (ret1 (.t n4 (.p rfl) .n) ?_)
   refine ⟨_, rfl, fun hn => ?_⟩
   try simp only [D.Box.sz, D.EpochBoxes.sz, D.LogEntry.sz, D.SealedBundle.sz, D.Cloud.sz, D.Vault.sz, D.Notice.sz, D.Mailbox.sz, D.KeyStore.sz, D.Entry.sz, D.Bundle.sz, D.Device.sz, D.Credential.sz, D.Account.sz, D.Challenge.sz, D.ChallengeBook.sz, D.Site.sz, D.Share.sz, D.Keeper.sz, D.KeeperHost.sz, D.World.sz] at *
   try simp only [IntKind.wrap_i64] at *
   omega
  ·
   replace h4 := of_decide_eq_false h4
   refine skp ?_
   refine sr <| m (mv (.t n1)) u17 <| m (as_ (.t n17)) u4 <| e ?_
   refine rt (ret1 (.t n4 (.p rfl) .n) ?_)
   refine ⟨_, rfl, fun hn => ?_⟩
   try simp only [D.Box.sz, D.EpochBoxes.sz, D.LogEntry.sz, D.SealedBundle.sz, D.Cloud.sz, D.Vault.sz, D.Notice.sz, D.Mailbox.sz, D.KeyStore.sz, D.Entry.sz, D.Bundle.sz, D.Device.sz, D.Credential.sz, D.Account.sz, D.Challenge.sz, D.ChallengeBook.sz, D.Site.sz, D.Share.sz, D.Keeper.sz, D.KeeperHost.sz, D.World.sz] at *
   try simp only [IntKind.wrap_i64] at *
   omega

theorem sp_laws_szDeviceS (l : List D.Device) (left : Int) (h0 : 0 ≤ left) (h1 : left ≤ 1048576) : Spec Tryz.prog G0 23 [.slice 9 (l.map D.Device.V), .int .i64 left] (fun r => ∃ n : Int, r = .int .i64 n ∧ (0 ≤ n → ((l.length + (l.map D.Device.sz).sum : Nat) : Int) + n ≤ left)) := by
 refine enter (l := [.tmp 4]) Tryz.func23 rfl Tryz.ntmps23 rfl T.en23 fun E => ?_
 simp only [List.length_cons, List.length_nil, List.replicate_succ, List.replicate_zero, List.cons_append, List.nil_append, Nat.reduceAdd, Nat.reduceSub]
 refine rngl n0 fun hlen => ?_
 simp only [List.length_map, maxLen] at hlen
 have hw : IntKind.i64.wrap (left - (l.length : Int)) = left - (l.length : Int) := by rw [IntKind.wrap_i64]; omega
 refine sr <| m (as_ (.i rfl)) u4 <| e ?_
 refine sr <| m (mv (.t n1)) u6 <| m (mv (.t n0)) u7 <| m (lenm T.s22 (.t n7)) u8 <| m (sub (.t n6) (.t n8)) u9 <| m (as_ (.t n9)) u1 <| e ?_
 refine sq ?_
 refine sr <| m (mv (.t n1)) u10 <| m (lss (.t n10) (.i rfl)) u11 <| e ?_
 refine cnd n11 (fun h1 => ?_) (fun h1 => ?_)
 ·
  replace h1 := of_decide_eq_true h1
  refine sr <| m (as_ (.i rfl)) u4 <| e ?_
  refine rt (ret1 (.t n4 (.p rfl) .n) ?_)
  exact ⟨-1, rfl, fun hn => by omega⟩
 ·
  replace h1 := of_decide_eq_false h1
  refine skp ?_
  refine sq ?_
  refine sr <| m (as_ (.i rfl)) u5 <| e ?_
  refine bk ?_
  refine lp (fun x0 : Nat × Int => ⟨[.slice 9 (l.map D.Device.V), .int .i64 x0.2, .any, .any, .any, .int .i64 (x0.1 : Int), .any, .any, .any, .any, .any, .any, .any, .any, .any, .any, .any, .any, .any, .any, .any, .any, .any, .any, .any, .any, .any], []⟩) (fun x0 : Nat × Int => x0.1 ≤ l.length ∧ 0 ≤ x0.2 ∧ (l.length : Int) + (((l.take x0.1).map D.Device.sz).sum : Nat) + x0.2 ≤ left) (fun x0 : Nat × Int => l.length - x0.1) ((0, IntKind.i64.wrap (left - (l.length : Int)))) (by rw [hw] at h1 ⊢; simp; omega) (le [] (by decide) (.c (.e rfl rfl) (.c (.e rfl rfl) (.x2 (.c .a (.c (.e rfl rfl) (.x16 (.x4 (.c .a .n)))))))) .n) ?_
  rintro ⟨i, mm⟩ hJ
  try dsimp only at hJ ⊢
  refine sq ?_
  refine sr <| m (mv (.t n5)) u12 <| m (mv (.t n0)) u13 <| m (lenm T.s22 (.t n13)) u14 <| m (lss (.t n12) (.t n14)) u15 <| e ?_
  refine cnd n15 (fun h2 => ?_) (fun h2 => ?_)
  ·
   replace h2 := of_decide_eq_true h2
   refine skp ?_
   refine sq ?_
   refine bk ?_
   refine sr <| m (mv (.t n0)) u18 <| m (mv (.t n5)) u19 <| m (ixm T.s22 (Int.natCast_nonneg _) (gi (by omega)) (.t n18) (.t n19)) u20 <| m (lae T.a127 k9 (.t n20)) u21 <| m (mv (.t n1)) u22 <| cI (call (sp_laws_szDevice _ _ (by omega) (by first | omega | (simp only [IntKind.wrap_i64] at *; omega))) (.c (.t n21) rfl (.c (.t n22) rfl .n))) (fun _ => u23) (fun r3 hr3 => ?_)
   refine m (as_ (.t n23)) u1 <| e ?_
   refine sr <| m (mv (.t n1)) u24 <| m (lss (.t n24) (.i rfl)) u25 <| e ?_
   refine cnd n25 (fun h4 => ?_) (fun h4 => ?_)
   ·
    replace h4 := of_decide_eq_true h4
    refine sr <| m (as_ (.i rfl)) u4 <| e ?_
    refine rt (ret1 (.t n4 (.p rfl) .n) ?_)
    exact ⟨-1, rfl, fun hn => by omega⟩
   ·
    replace h4 := of_decide_eq_false h4
    refine skp ?_
    refine rg <| m (mv (.t n5)) u16 <| m (add (.t n16) (.i rfl)) u17 <| m (as_ (.t n17)) u5 <| e ?_
    exact ⟨(i + 1, r3), ⟨by omega, by omega, by rw [take_sum D.Device.sz l i (by omega)]; have := hr3 (by omega); omega⟩, (by omega), le [] (by decide) (.c (.e rfl rfl) (.c (.e rfl rfl) (.x2 (.c .a (.c (.e (wi (by omega)) rfl) (.x16 (.x4 (.c .a .n)))))))) .n⟩
  ·
   replace h2 := of_decide_eq_false h2
   refine ex (x1 ?_)
   refine sr <| m (mv (.t n1)) u26 <| m (as_ (.t n26)) u4 <| e ?_
   refine rt (ret1 (.t n4 (.p rfl) .n) ?_)
   refine ⟨_, rfl, fun hn => ?_⟩
   rw [show i = l.length from by omega, List.take_length] at hJ
   omega

theorem sp_laws_szBoolS (l : List Bool) (left : Int) (h0 : 0 ≤ left) (h1 : left ≤ 1048576) : Spec Tryz.prog G0 24 [.slice 1 (l.map bV), .int .i64 left] (fun r => ∃ n : Int, r = .int .i64 n ∧ (0 ≤ n → (l.length : Int) + n ≤ left)) := by
 refine enter (l := [.tmp 4]) Tryz.func24 rfl Tryz.ntmps24 rfl T.en24 fun E => ?_
 simp only [List.length_cons, List.length_nil, List.replicate_succ, List.replicate_zero, List.cons_append, List.nil_append, Nat.reduceAdd, Nat.reduceSub]
 refine rngl n0 fun hlen => ?_
 simp only [List.length_map, maxLen] at hlen
 have hw : IntKind.i64.wrap (left - (l.length : Int)) = left - (l.length : Int) := by rw [IntKind.wrap_i64]; omega
 refine sr <| m (as_ (.i rfl)) u4 <| e ?_
 refine sr <| m (mv (.t n1)) u5 <| m (mv (.t n0)) u6 <| m (lenm T.s23 (.t n6)) u7 <| m (sub (.t n5) (.t n7)) u8 <| m (as_ (.t n8)) u1 <| e ?_
 refine sq ?_
 refine sr <| m (mv (.t n1)) u9 <| m (lss (.t n9) (.i rfl)) u10 <| e ?_
 refine cnd n10 (fun h1 => ?_) (fun h1 => ?_)
 ·
  replace h1 := of_decide_eq_true h1
  refine sr <| m (as_ (.i rfl)) u4 <| e ?_
  refine rt (ret1 (.t n4 (.p rfl) .n) ?_)
  refine ⟨_, rfl, fun hn => ?_⟩
  first | omega | (rw [hw]; omega)
 ·
  replace h1 := of_decide_eq_false h1
  refine skp ?_
  refine sr <| m (mv (.t n1)) u11 <| m (as_ (.t n11)) u4 <| e ?_
  refine rt (ret1 (.t n4 (.p rfl) .n) ?_)
  refine ⟨_, rfl, fun hn => ?_⟩
  first | omega | (rw [hw]; omega)

theorem sp_laws_szByteS (l : List Int) (left : Int) (h0 : 0 ≤ left) (h1 : left ≤ 1048576) : Spec Tryz.prog G0 256 [.slice 1 (l.map y8), .int .i64 left] (fun r => ∃ n : Int, r = .int .i64 n ∧ (0 ≤ n → (l.length : Int) + n ≤ left)) := by
 refine enter (l := [.tmp 4]) Tryz.func256 rfl Tryz.ntmps256 rfl T.en256 fun E => ?_
 simp only [List.length_cons, List.length_nil, List.replicate_succ, List.replicate_zero, List.cons_append, List.nil_append, Nat.reduceAdd, Nat.reduceSub]
 refine rngl n0 fun hlen => ?_
 simp only [List.length_map, maxLen] at hlen
 have hw : IntKind.i64.wrap (left - (l.length : Int)) = left - (l.length : Int) := by rw [IntKind.wrap_i64]; omega
 refine sr <| m (as_ (.i rfl)) u4 <| e ?_
 refine sr <| m (mv (.t n1)) u5 <| m (mv (.t n0)) u6 <| m (lenm T.s207 (.t n6)) u7 <| m (sub (.t n5) (.t n7)) u8 <| m (as_ (.t n8)) u1 <| e ?_
 refine sq ?_
 refine sr <| m (mv (.t n1)) u9 <| m (lss (.t n9) (.i rfl)) u10 <| e ?_
 refine cnd n10 (fun h1 => ?_) (fun h1 => ?_)
 ·
  replace h1 := of_decide_eq_true h1
  refine sr <| m (as_ (.i rfl)) u4 <| e ?_
  refine rt (ret1 (.t n4 (.p rfl) .n) ?_)
  refine ⟨_, rfl, fun hn => ?_⟩
  first | omega | (rw [hw]; omega)
 ·
  replace h1 := of_decide_eq_false h1
  refine skp ?_
  refine sr <| m (mv (.t n1)) u11 <| m (as_ (.t n11)) u4 <| e ?_
  refine rt (ret1 (.t n4 (.p rfl) .n) ?_)
  refine ⟨_, rfl, fun hn => ?_⟩
  first | omega | (rw [hw]; omega)

theorem sp_laws_szBox (x : D.Box) (left : Int) (h0 : 0 ≤ left) (h1 : left ≤ 1048576) : Spec Tryz.prog G0 255 [.agg (D.Box.V x), .int .i64 left] (fun r => ∃ n : Int, r = .int .i64 n ∧ (0 ≤ n → (x.sz : Int) + n ≤ left)) := by
 refine enter (l := [.tmp 4]) Tryz.func255 rfl Tryz.ntmps255 rfl T.en255 fun E => ?_
 simp only [List.length_cons, List.length_nil, List.replicate_succ, List.replicate_zero, List.cons_append, List.nil_append, Nat.reduceAdd, Nat.reduceSub]
 refine sr <| k (bx rfl s0 u2 (.t n0)) <| m (as_ (.i rfl)) u4 <| e ?_
 refine sr <| m (fab 2 rfl T.f283_2 (.t n2)) u5 <| m (ldb T.o207 n0 n2 (.t n5)) u6 <| m (mv (.t n1)) u7 <| cI (call (sp_laws_szByteS _ _ (by omega) (by first | omega | (simp only [IntKind.wrap_i64] at *; omega))) (.c (.t n6) rfl (.c (.t n7) rfl .n))) (fun _ => u8) (fun r1 hr1 => ?_)
 refine m (as_ (.t n8)) u1 <| e ?_
 refine sq ?_
 refine sr <| m (mv (.t n1)) u9 <| m (lss (.t n9) (.i rfl)) u10 <| e ?_
 refine cnd n10 (fun h2 => ?_) (fun h2 => ?_)
 ·
  replace h2 := of_decide_eq_true h2
  refine sr <| m (as_ (.i rfl)) u4 <| e ?_
  refine rt (ret1 (.t n4 (.p rfl) .n) ?_)
  refine ⟨_, rfl, fun hn => ?_⟩
  try simp only [D.Box.sz, D.EpochBoxes.sz, D.LogEntry.sz, D.SealedBundle.sz, D.Cloud.sz, D.Vault.sz, D.Notice.sz, D.Mailbox.sz, D.KeyStore.sz, D.Entry.sz, D.Bundle.sz, D.Device.sz, D.Credential.sz, D.Account.sz, D.Challenge.sz, D.ChallengeBook.sz, D.Site.sz, D.Share.sz, D.Keeper.sz, D.KeeperHost.sz, D.World.sz] at *
  try simp only [IntKind.wrap_i64] at *
  omega
 ·
  replace h2 := of_decide_eq_false h2
  refine skp ?_
  refine sr <| m (mv (.t n1)) u11 <| m (as_ (.t n11)) u4 <| e ?_
  refine rt (ret1 (.t n4 (.p rfl) .n) ?_)
  refine ⟨_, rfl, fun hn => ?_⟩
  try simp only [D.Box.sz, D.EpochBoxes.sz, D.LogEntry.sz, D.SealedBundle.sz, D.Cloud.sz, D.Vault.sz, D.Notice.sz, D.Mailbox.sz, D.KeyStore.sz, D.Entry.sz, D.Bundle.sz, D.Device.sz, D.Credential.sz, D.Account.sz, D.Challenge.sz, D.ChallengeBook.sz, D.Site.sz, D.Share.sz, D.Keeper.sz, D.KeeperHost.sz, D.World.sz] at *
  try simp only [IntKind.wrap_i64] at *
  omega

theorem sp_laws_szBoxS (l : List D.Box) (left : Int) (h0 : 0 ≤ left) (h1 : left ≤ 1048576) : Spec Tryz.prog G0 170 [.slice 4 (l.map D.Box.V), .int .i64 left] (fun r => ∃ n : Int, r = .int .i64 n ∧ (0 ≤ n → ((l.length + (l.map D.Box.sz).sum : Nat) : Int) + n ≤ left)) := by
 refine enter (l := [.tmp 4]) Tryz.func170 rfl Tryz.ntmps170 rfl T.en170 fun E => ?_
 simp only [List.length_cons, List.length_nil, List.replicate_succ, List.replicate_zero, List.cons_append, List.nil_append, Nat.reduceAdd, Nat.reduceSub]
 refine rngl n0 fun hlen => ?_
 simp only [List.length_map, maxLen] at hlen
 have hw : IntKind.i64.wrap (left - (l.length : Int)) = left - (l.length : Int) := by rw [IntKind.wrap_i64]; omega
 refine sr <| m (as_ (.i rfl)) u4 <| e ?_
 refine sr <| m (mv (.t n1)) u6 <| m (mv (.t n0)) u7 <| m (lenm T.s25 (.t n7)) u8 <| m (sub (.t n6) (.t n8)) u9 <| m (as_ (.t n9)) u1 <| e ?_
 refine sq ?_
 refine sr <| m (mv (.t n1)) u10 <| m (lss (.t n10) (.i rfl)) u11 <| e ?_
 refine cnd n11 (fun h1 => ?_) (fun h1 => ?_)
 ·
  replace h1 := of_decide_eq_true h1
  refine sr <| m (as_ (.i rfl)) u4 <| e ?_
  refine rt (ret1 (.t n4 (.p rfl) .n) ?_)
  exact ⟨-1, rfl, fun hn => by omega⟩
 ·
  replace h1 := of_decide_eq_false h1
  refine skp ?_
  refine sq ?_
  refine sr <| m (as_ (.i rfl)) u5 <| e ?_
  refine bk ?_
  refine lp (fun x0 : Nat × Int => ⟨[.slice 4 (l.map D.Box.V), .int .i64 x0.2, .any, .any, .any, .int .i64 (x0.1 : Int), .any, .any, .any, .any, .any, .any, .any, .any, .any, .any, .any, .any, .any, .any, .any, .any, .any, .any, .any, .any, .any], []⟩) (fun x0 : Nat × Int => x0.1 ≤ l.length ∧ 0 ≤ x0.2 ∧ (l.length : Int) + (((l.take x0.1).map D.Box.sz).sum : Nat) + x0.2 ≤ left) (fun x0 : Nat × Int => l.length - x0.1) ((0, IntKind.i64.wrap (left - (l.length : Int)))) (by rw [hw] at h1 ⊢; simp; omega) (le [] (by decide) (.c (.e rfl rfl) (.c (.e rfl rfl) (.x2 (.c .a (.c (.e rfl rfl) (.x16 (.x4 (.c .a .n)))))))) .n) ?_
  rintro ⟨i, mm⟩ hJ
  try dsimp only at hJ ⊢
  refine sq ?_
  refine sr <| m (mv (.t n5)) u12 <| m (mv (.t n0)) u13 <| m (lenm T.s25 (.t n13)) u14 <| m (lss (.t n12) (.t n14)) u15 <| e ?_
  refine cnd n15 (fun h2 => ?_) (fun h2 => ?_)
  ·
   replace h2 := of_decide_eq_true h2
   refine skp ?_
   refine sq ?_
   refine bk ?_
   refine sr <| m (mv (.t n0)) u18 <| m (mv (.t n5)) u19 <| m (ixm T.s25 (Int.natCast_nonneg _) (gi (by omega)) (.t n18) (.t n19)) u20 <| m (lae T.a283 k4 (.t n20)) u21 <| m (mv (.t n1)) u22 <| cI (call (sp_laws_szBox _ _ (by omega) (by first | omega | (simp only [IntKind.wrap_i64] at *; omega))) (.c (.t n21) rfl (.c (.t n22) rfl .n))) (fun _ => u23) (fun r3 hr3 => ?_)
   refine m (as_ (.t n23)) u1 <| e ?_
   refine sr <| m (mv (.t n1)) u24 <| m (lss (.t n24) (.i rfl)) u25 <| e ?_
   refine cnd n25 (fun h4 => ?_) (fun h4 => ?_)
   ·
    replace h4 := of_decide_eq_true h4
    refine sr <| m (as_ (.i rfl)) u4 <| e ?_
    refine rt (ret1 (.t n4 (.p rfl) .n) ?_)
    exact ⟨-1, rfl, fun hn => by omega⟩
   ·
    replace h4 := of_decide_eq_false h4
    refine skp ?_
    refine rg <| m (mv (.t n5)) u16 <| m (add (.t n16) (.i rfl)) u17 <| m (as_ (.t n17)) u5 <| e ?_
    exact ⟨(i + 1, r3), ⟨by omega, by omega, by rw [take_sum D.Box.sz l i (by omega)]; have := hr3 (by omega); omega⟩, (by omega), le [] (by decide) (.c (.e rfl rfl) (.c (.e rfl rfl) (.x2 (.c .a (.c (.e (wi (by omega)) rfl) (.x16 (.x4 (.c .a .n)))))))) .n⟩
  ·
   replace h2 := of_decide_eq_false h2
   refine ex (x1 ?_)
   refine sr <| m (mv (.t n1)) u26 <| m (as_ (.t n26)) u4 <| e ?_
   refine rt (ret1 (.t n4 (.p rfl) .n) ?_)
   refine ⟨_, rfl, fun hn => ?_⟩
   rw [show i = l.length from by omega, List.take_length] at hJ
   omega

theorem sp_laws_szEpochBoxes (x : D.EpochBoxes) (left : Int) (h0 : 0 ≤ left) (h1 : left ≤ 1048576) : Spec Tryz.prog G0 81 [.agg (D.EpochBoxes.V x), .int .i64 left] (fun r => ∃ n : Int, r = .int .i64 n ∧ (0 ≤ n → (x.sz : Int) + n ≤ left)) := by
 refine enter (l := [.tmp 4]) Tryz.func81 rfl Tryz.ntmps81 rfl T.en81 fun E => ?_
 simp only [List.length_cons, List.length_nil, List.replicate_succ, List.replicate_zero, List.cons_append, List.nil_append, Nat.reduceAdd, Nat.reduceSub]
 refine sr <| k (bx rfl s0 u2 (.t n0)) <| m (as_ (.i rfl)) u4 <| e ?_
 refine sr <| m (fab 1 rfl T.f27_1 (.t n2)) u5 <| m (ldb T.o25 n0 n1 (.t n5)) u6 <| m (mv (.t n1)) u7 <| cI (call (sp_laws_szBoxS _ _ (by omega) (by first | omega | (simp only [IntKind.wrap_i64] at *; omega))) (.c (.t n6) rfl (.c (.t n7) rfl .n))) (fun _ => u8) (fun r1 hr1 => ?_)
 refine m (as_ (.t n8)) u1 <| e ?_
 refine sq ?_
 refine sr <| m (mv (.t n1)) u9 <| m (lss (.t n9) (.i rfl)) u10 <| e ?_
 refine cnd n10 (fun h2 => ?_) (fun h2 => ?_)
 ·
  replace h2 := of_decide_eq_true h2
  refine sr <| m (as_ (.i rfl)) u4 <| e ?_
  refine rt (ret1 (.t n4 (.p rfl) .n) ?_)
  refine ⟨_, rfl, fun hn => ?_⟩
  try simp only [D.Box.sz, D.EpochBoxes.sz, D.LogEntry.sz, D.SealedBundle.sz, D.Cloud.sz, D.Vault.sz, D.Notice.sz, D.Mailbox.sz, D.KeyStore.sz, D.Entry.sz, D.Bundle.sz, D.Device.sz, D.Credential.sz, D.Account.sz, D.Challenge.sz, D.ChallengeBook.sz, D.Site.sz, D.Share.sz, D.Keeper.sz, D.KeeperHost.sz, D.World.sz] at *
  try simp only [IntKind.wrap_i64] at *
  omega
 ·
  replace h2 := of_decide_eq_false h2
  refine skp ?_
  refine sr <| m (mv (.t n1)) u11 <| m (as_ (.t n11)) u4 <| e ?_
  refine rt (ret1 (.t n4 (.p rfl) .n) ?_)
  refine ⟨_, rfl, fun hn => ?_⟩
  try simp only [D.Box.sz, D.EpochBoxes.sz, D.LogEntry.sz, D.SealedBundle.sz, D.Cloud.sz, D.Vault.sz, D.Notice.sz, D.Mailbox.sz, D.KeyStore.sz, D.Entry.sz, D.Bundle.sz, D.Device.sz, D.Credential.sz, D.Account.sz, D.Challenge.sz, D.ChallengeBook.sz, D.Site.sz, D.Share.sz, D.Keeper.sz, D.KeeperHost.sz, D.World.sz] at *
  try simp only [IntKind.wrap_i64] at *
  omega

theorem sp_laws_szSealedBundle (x : D.SealedBundle) (left : Int) (h0 : 0 ≤ left) (h1 : left ≤ 1048576) : Spec Tryz.prog G0 171 [.agg (D.SealedBundle.V x), .int .i64 left] (fun r => ∃ n : Int, r = .int .i64 n ∧ (0 ≤ n → (x.sz : Int) + n ≤ left)) := by
 refine enter (l := [.tmp 4]) Tryz.func171 rfl Tryz.ntmps171 rfl T.en171 fun E => ?_
 simp only [List.length_cons, List.length_nil, List.replicate_succ, List.replicate_zero, List.cons_append, List.nil_append, Nat.reduceAdd, Nat.reduceSub]
 refine sr <| k (bx rfl s0 u2 (.t n0)) <| m (as_ (.i rfl)) u4 <| e ?_
 refine sr <| m (fab 2 rfl T.f209_2 (.t n2)) u5 <| m (ldb T.o207 n0 n2 (.t n5)) u6 <| m (mv (.t n1)) u7 <| cI (call (sp_laws_szByteS _ _ (by omega) (by first | omega | (simp only [IntKind.wrap_i64] at *; omega))) (.c (.t n6) rfl (.c (.t n7) rfl .n))) (fun _ => u8) (fun r1 hr1 => ?_)
 refine m (as_ (.t n8)) u1 <| e ?_
 refine sq ?_
 refine sr <| m (mv (.t n1)) u9 <| m (lss (.t n9) (.i rfl)) u10 <| e ?_
 refine cnd n10 (fun h2 => ?_) (fun h2 => ?_)
 ·
  replace h2 := of_decide_eq_true h2
  refine sr <| m (as_ (.i rfl)) u4 <| e ?_
  refine rt (ret1 (.t n4 (.p rfl) .n) ?_)
  refine ⟨_, rfl, fun hn => ?_⟩
  try simp only [D.Box.sz, D.EpochBoxes.sz, D.LogEntry.sz, D.SealedBundle.sz, D.Cloud.sz, D.Vault.sz, D.Notice.sz, D.Mailbox.sz, D.KeyStore.sz, D.Entry.sz, D.Bundle.sz, D.Device.sz, D.Credential.sz, D.Account.sz, D.Challenge.sz, D.ChallengeBook.sz, D.Site.sz, D.Share.sz, D.Keeper.sz, D.KeeperHost.sz, D.World.sz] at *
  try simp only [IntKind.wrap_i64] at *
  omega
 ·
  replace h2 := of_decide_eq_false h2
  refine skp ?_
  refine sr <| m (mv (.t n1)) u11 <| m (as_ (.t n11)) u4 <| e ?_
  refine rt (ret1 (.t n4 (.p rfl) .n) ?_)
  refine ⟨_, rfl, fun hn => ?_⟩
  try simp only [D.Box.sz, D.EpochBoxes.sz, D.LogEntry.sz, D.SealedBundle.sz, D.Cloud.sz, D.Vault.sz, D.Notice.sz, D.Mailbox.sz, D.KeyStore.sz, D.Entry.sz, D.Bundle.sz, D.Device.sz, D.Credential.sz, D.Account.sz, D.Challenge.sz, D.ChallengeBook.sz, D.Site.sz, D.Share.sz, D.Keeper.sz, D.KeeperHost.sz, D.World.sz] at *
  try simp only [IntKind.wrap_i64] at *
  omega

theorem sp_laws_szSealedBundleS (l : List D.SealedBundle) (left : Int) (h0 : 0 ≤ left) (h1 : left ≤ 1048576) : Spec Tryz.prog G0 82 [.slice 4 (l.map D.SealedBundle.V), .int .i64 left] (fun r => ∃ n : Int, r = .int .i64 n ∧ (0 ≤ n → ((l.length + (l.map D.SealedBundle.sz).sum : Nat) : Int) + n ≤ left)) := by
 refine enter (l := [.tmp 4]) Tryz.func82 rfl Tryz.ntmps82 rfl T.en82 fun E => ?_
 simp only [List.length_cons, List.length_nil, List.replicate_succ, List.replicate_zero, List.cons_append, List.nil_append, Nat.reduceAdd, Nat.reduceSub]
 refine rngl n0 fun hlen => ?_
 simp only [List.length_map, maxLen] at hlen
 have hw : IntKind.i64.wrap (left - (l.length : Int)) = left - (l.length : Int) := by rw [IntKind.wrap_i64]; omega
 refine sr <| m (as_ (.i rfl)) u4 <| e ?_
 refine sr <| m (mv (.t n1)) u6 <| m (mv (.t n0)) u7 <| m (lenm T.s28 (.t n7)) u8 <| m (sub (.t n6) (.t n8)) u9 <| m (as_ (.t n9)) u1 <| e ?_
 refine sq ?_
 refine sr <| m (mv (.t n1)) u10 <| m (lss (.t n10) (.i rfl)) u11 <| e ?_
 refine cnd n11 (fun h1 => ?_) (fun h1 => ?_)
 ·
  replace h1 := of_decide_eq_true h1
  refine sr <| m (as_ (.i rfl)) u4 <| e ?_
  refine rt (ret1 (.t n4 (.p rfl) .n) ?_)
  exact ⟨-1, rfl, fun hn => by omega⟩
 ·
  replace h1 := of_decide_eq_false h1
  refine skp ?_
  refine sq ?_
  refine sr <| m (as_ (.i rfl)) u5 <| e ?_
  refine bk ?_
  refine lp (fun x0 : Nat × Int => ⟨[.slice 4 (l.map D.SealedBundle.V), .int .i64 x0.2, .any, .any, .any, .int .i64 (x0.1 : Int), .any, .any, .any, .any, .any, .any, .any, .any, .any, .any, .any, .any, .any, .any, .any, .any, .any, .any, .any, .any, .any], []⟩) (fun x0 : Nat × Int => x0.1 ≤ l.length ∧ 0 ≤ x0.2 ∧ (l.length : Int) + (((l.take x0.1).map D.SealedBundle.sz).sum : Nat) + x0.2 ≤ left) (fun x0 : Nat × Int => l.length - x0.1) ((0, IntKind.i64.wrap (left - (l.length : Int)))) (by rw [hw] at h1 ⊢; simp; omega) (le [] (by decide) (.c (.e rfl rfl) (.c (.e rfl rfl) (.x2 (.c .a (.c (.e rfl rfl) (.x16 (.x4 (.c .a .n)))))))) .n) ?_
  rintro ⟨i, mm⟩ hJ
  try dsimp only at hJ ⊢
  refine sq ?_
  refine sr <| m (mv (.t n5)) u12 <| m (mv (.t n0)) u13 <| m (lenm T.s28 (.t n13)) u14 <| m (lss (.t n12) (.t n14)) u15 <| e ?_
  refine cnd n15 (fun h2 => ?_) (fun h2 => ?_)
  ·
   replace h2 := of_decide_eq_true h2
   refine skp ?_
   refine sq ?_
   refine bk ?_
   refine sr <| m (mv (.t n0)) u18 <| m (mv (.t n5)) u19 <| m (ixm T.s28 (Int.natCast_nonneg _) (gi (by omega)) (.t n18) (.t n19)) u20 <| m (lae T.a209 k4 (.t n20)) u21 <| m (mv (.t n1)) u22 <| cI (call (sp_laws_szSealedBundle _ _ (by omega) (by first | omega | (simp only [IntKind.wrap_i64] at *; omega))) (.c (.t n21) rfl (.c (.t n22) rfl .n))) (fun _ => u23) (fun r3 hr3 => ?_)
   refine m (as_ (.t n23)) u1 <| e ?_
   refine sr <| m (mv (.t n1)) u24 <| m (lss (.t n24) (.i rfl)) u25 <| e ?_
   refine cnd n25 (fun h4 => ?_) (fun h4 => ?_)
   ·
    replace h4 := of_decide_eq_true h4
    refine sr <| m (as_ (.i rfl)) u4 <| e ?_
    refine rt (ret1 (.t n4 (.p rfl) .n) ?_)
    exact ⟨-1, rfl, fun hn => by omega⟩
   ·
    replace h4 := of_decide_eq_false h4
    refine skp ?_
    refine rg <| m (mv (.t n5)) u16 <| m (add (.t n16) (.i rfl)) u17 <| m (as_ (.t n17)) u5 <| e ?_
    exact ⟨(i + 1, r3), ⟨by omega, by omega, by rw [take_sum D.SealedBundle.sz l i (by omega)]; have := hr3 (by omega); omega⟩, (by omega), le [] (by decide) (.c (.e rfl rfl) (.c (.e rfl rfl) (.x2 (.c .a (.c (.e (wi (by omega)) rfl) (.x16 (.x4 (.c .a .n)))))))) .n⟩
  ·
   replace h2 := of_decide_eq_false h2
   refine ex (x1 ?_)
   refine sr <| m (mv (.t n1)) u26 <| m (as_ (.t n26)) u4 <| e ?_
   refine rt (ret1 (.t n4 (.p rfl) .n) ?_)
   refine ⟨_, rfl, fun hn => ?_⟩
   rw [show i = l.length from by omega, List.take_length] at hJ
   omega

theorem sp_laws_szCloud (x : D.Cloud) (left : Int) (h0 : 0 ≤ left) (h1 : left ≤ 1048576) : Spec Tryz.prog G0 25 [.agg (D.Cloud.V x), .int .i64 left] (fun r => ∃ n : Int, r = .int .i64 n ∧ (0 ≤ n → (x.sz : Int) + n ≤ left)) := by
 refine enter (l := [.tmp 4]) Tryz.func25 rfl Tryz.ntmps25 rfl T.en25 fun E => ?_
 simp only [List.length_cons, List.length_nil, List.replicate_succ, List.replicate_zero, List.cons_append, List.nil_append, Nat.reduceAdd, Nat.reduceSub]
 refine sr <| k (bx rfl s0 u2 (.t n0)) <| m (as_ (.i rfl)) u4 <| e ?_
 refine sr <| m (fab 0 rfl T.f30_0 (.t n2)) u5 <| m (ldb T.o24 n0 n0 (.t n5)) u6 <| m (mv (.t n1)) u7 <| cI (call (sp_laws_szLogEntryS _ _ (by omega) (by first | omega | (simp only [IntKind.wrap_i64] at *; omega))) (.c (.t n6) rfl (.c (.t n7) rfl .n))) (fun _ => u8) (fun r1 hr1 => ?_)
 refine m (as_ (.t n8)) u1 <| e ?_
 refine sq ?_
 refine sr <| m (mv (.t n1)) u9 <| m (lss (.t n9) (.i rfl)) u10 <| e ?_
 refine cnd n10 (fun h2 => ?_) (fun h2 => ?_)
 ·
  replace h2 := of_decide_eq_true h2
  refine sr <| m (as_ (.i rfl)) u4 <| e ?_
  refine rt (ret1 (.t n4 (.p rfl) .n) ?_)
  refine ⟨_, rfl, fun hn => ?_⟩
  try simp only [D.Box.sz, D.EpochBoxes.sz, D.LogEntry.sz, D.SealedBundle.sz, D.Cloud.sz, D.Vault.sz, D.Notice.sz, D.Mailbox.sz, D.KeyStore.sz, D.Entry.sz, D.Bundle.sz, D.Device.sz, D.Credential.sz, D.Account.sz, D.Challenge.sz, D.ChallengeBook.sz, D.Site.sz, D.Share.sz, D.Keeper.sz, D.KeeperHost.sz, D.World.sz] at *
  try simp only [IntKind.wrap_i64] at *
  omega
 ·
  replace h2 := of_decide_eq_false h2
  refine skp ?_
  refine sr <| m (fab 1 rfl T.f30_1 (.t n2)) u11 <| m (lab T.a27 n0 d1 k2 (.t n11)) u12 <| m (mv (.t n1)) u13 <| cI (call (sp_laws_szEpochBoxes _ _ (by omega) (by first | omega | (simp only [IntKind.wrap_i64] at *; omega))) (.c (.t n12) rfl (.c (.t n13) rfl .n))) (fun _ => u14) (fun r3 hr3 => ?_)
  refine m (as_ (.t n14)) u1 <| e ?_
  refine sq ?_
  refine sr <| m (mv (.t n1)) u15 <| m (lss (.t n15) (.i rfl)) u16 <| e ?_
  refine cnd n16 (fun h4 => ?_) (fun h4 => ?_)
  ·
   replace h4 := of_decide_eq_true h4
   refine sr <| m (as_ (.i rfl)) u4 <| e ?_
   refine rt (ret1 (.t n4 (.p rfl) .n) ?_)
   refine ⟨_, rfl, fun hn => ?_⟩
   try simp only [D.Box.sz, D.EpochBoxes.sz, D.LogEntry.sz, D.SealedBundle.sz, D.Cloud.sz, D.Vault.sz, D.Notice.sz, D.Mailbox.sz, D.KeyStore.sz, D.Entry.sz, D.Bundle.sz, D.Device.sz, D.Credential.sz, D.Account.sz, D.Challenge.sz, D.ChallengeBook.sz, D.Site.sz, D.Share.sz, D.Keeper.sz, D.KeeperHost.sz, D.World.sz] at *
   try simp only [IntKind.wrap_i64] at *
   omega
  ·
   replace h4 := of_decide_eq_false h4
   refine skp ?_
   refine sr <| m (fab 3 rfl T.f30_2 (.t n2)) u17 <| m (ldb T.o28 n0 n3 (.t n17)) u18 <| m (mv (.t n1)) u19 <| cI (call (sp_laws_szSealedBundleS _ _ (by omega) (by first | omega | (simp only [IntKind.wrap_i64] at *; omega))) (.c (.t n18) rfl (.c (.t n19) rfl .n))) (fun _ => u20) (fun r5 hr5 => ?_)
   refine m (as_ (.t n20)) u1 <| e ?_
   refine sq ?_
   refine sr <| m (mv (.t n1)) u21 <| m (lss (.t n21) (.i rfl)) u22 <| e ?_
   refine cnd n22 (fun h6 => ?_) (fun h6 => ?_)
   ·
    replace h6 := of_decide_eq_true h6
    refine sr <| m (as_ (.i rfl)) u4 <| e ?_
    refine rt (ret1 (.t n4 (.p rfl) .n) ?_)
    refine ⟨_, rfl, fun hn => ?_⟩
    try simp only [D.Box.sz, D.EpochBoxes.sz, D.LogEntry.sz, D.SealedBundle.sz, D.Cloud.sz, D.Vault.sz, D.Notice.sz, D.Mailbox.sz, D.KeyStore.sz, D.Entry.sz, D.Bundle.sz, D.Device.sz, D.Credential.sz, D.Account.sz, D.Challenge.sz, D.ChallengeBook.sz, D.Site.sz, D.Share.sz, D.Keeper.sz, D.KeeperHost.sz, D.World.sz] at *
    try simp only [IntKind.wrap_i64] at *
    omega
   ·
    replace h6 := of_decide_eq_false h6
    refine skp ?_
    refine sr <| m (mv (.t n1)) u23 <| m (as_ (.t n23)) u4 <| e ?_
    refine rt (ret1 (.t n4 (.p rfl) .n) ?_)
    refine ⟨_, rfl, fun hn => ?_⟩
    try simp only [D.Box.sz, D.EpochBoxes.sz, D.LogEntry.sz, D.SealedBundle.sz, D.Cloud.sz, D.Vault.sz, D.Notice.sz, D.Mailbox.sz, D.KeyStore.sz, D.Entry.sz, D.Bundle.sz, D.Device.sz, D.Credential.sz, D.Account.sz, D.Challenge.sz, D.ChallengeBook.sz, D.Site.sz, D.Share.sz, D.Keeper.sz, D.KeeperHost.sz, D.World.sz] at *
    try simp only [IntKind.wrap_i64] at *
    omega

theorem sp_laws_szCredentialS (l : List D.Credential) (left : Int) (h0 : 0 ≤ left) (h1 : left ≤ 1048576) : Spec Tryz.prog G0 296 [.slice 4 (l.map D.Credential.V), .int .i64 left] (fun r => ∃ n : Int, r = .int .i64 n ∧ (0 ≤ n → (l.length : Int) + n ≤ left)) := by
 refine enter (l := [.tmp 4]) Tryz.func296 rfl Tryz.ntmps296 rfl T.en296 fun E => ?_
 simp only [List.length_cons, List.length_nil, List.replicate_succ, List.replicate_zero, List.cons_append, List.nil_append, Nat.reduceAdd, Nat.reduceSub]
 refine rngl n0 fun hlen => ?_
 simp only [List.length_map, maxLen] at hlen
 have hw : IntKind.i64.wrap (left - (l.length : Int)) = left - (l.length : Int) := by rw [IntKind.wrap_i64]; omega
 refine sr <| m (as_ (.i rfl)) u4 <| e ?_
 refine sr <| m (mv (.t n1)) u5 <| m (mv (.t n0)) u6 <| m (lenm T.s285 (.t n6)) u7 <| m (sub (.t n5) (.t n7)) u8 <| m (as_ (.t n8)) u1 <| e ?_
 refine sq ?_
 refine sr <| m (mv (.t n1)) u9 <| m (lss (.t n9) (.i rfl)) u10 <| e ?_
 refine cnd n10 (fun h1 => ?_) (fun h1 => ?_)
 ·
  replace h1 := of_decide_eq_true h1
  refine sr <| m (as_ (.i rfl)) u4 <| e ?_
  refine rt (ret1 (.t n4 (.p rfl) .n) ?_)
  refine ⟨_, rfl, fun hn => ?_⟩
  first | omega | (rw [hw]; omega)
 ·
  replace h1 := of_decide_eq_false h1
  refine skp ?_
  refine sr <| m (mv (.t n1)) u11 <| m (as_ (.t n11)) u4 <| e ?_
  refine rt (ret1 (.t n4 (.p rfl) .n) ?_)
  refine ⟨_, rfl, fun hn => ?_⟩
  first | omega | (rw [hw]; omega)

theorem sp_laws_szAccount (x : D.Account) (left : Int) (h0 : 0 ≤ left) (h1 : left ≤ 1048576) : Spec Tryz.prog G0 257 [.agg (D.Account.V x), .int .i64 left] (fun r => ∃ n : Int, r = .int .i64 n ∧ (0 ≤ n → (x.sz : Int) + n ≤ left)) := by
 refine enter (l := [.tmp 4]) Tryz.func257 rfl Tryz.ntmps257 rfl T.en257 fun E => ?_
 simp only [List.length_cons, List.length_nil, List.replicate_succ, List.replicate_zero, List.cons_append, List.nil_append, Nat.reduceAdd, Nat.reduceSub]
 refine sr <| k (bx rfl s0 u2 (.t n0)) <| m (as_ (.i rfl)) u4 <| e ?_
 refine sr <| m (fab 2 rfl T.f287_2 (.t n2)) u5 <| m (ldb T.o285 n0 n2 (.t n5)) u6 <| m (mv (.t n1)) u7 <| cI (call (sp_laws_szCredentialS _ _ (by omega) (by first | omega | (simp only [IntKind.wrap_i64] at *; omega))) (.c (.t n6) rfl (.c (.t n7) rfl .n))) (fun _ => u8) (fun r1 hr1 => ?_)
 refine m (as_ (.t n8)) u1 <| e ?_
 refine sq ?_
 refine sr <| m (mv (.t n1)) u9 <| m (lss (.t n9) (.i rfl)) u10 <| e ?_
 refine cnd n10 (fun h2 => ?_) (fun h2 => ?_)
 ·
  replace h2 := of_decide_eq_true h2
  refine sr <| m (as_ (.i rfl)) u4 <| e ?_
  refine rt (ret1 (.t n4 (.p rfl) .n) ?_)
  refine ⟨_, rfl, fun hn => ?_⟩
  try simp only [D.Box.sz, D.EpochBoxes.sz, D.LogEntry.sz, D.SealedBundle.sz, D.Cloud.sz, D.Vault.sz, D.Notice.sz, D.Mailbox.sz, D.KeyStore.sz, D.Entry.sz, D.Bundle.sz, D.Device.sz, D.Credential.sz, D.Account.sz, D.Challenge.sz, D.ChallengeBook.sz, D.Site.sz, D.Share.sz, D.Keeper.sz, D.KeeperHost.sz, D.World.sz] at *
  try simp only [IntKind.wrap_i64] at *
  omega
 ·
  replace h2 := of_decide_eq_false h2
  refine skp ?_
  refine sr <| m (mv (.t n1)) u11 <| m (as_ (.t n11)) u4 <| e ?_
  refine rt (ret1 (.t n4 (.p rfl) .n) ?_)
  refine ⟨_, rfl, fun hn => ?_⟩
  try simp only [D.Box.sz, D.EpochBoxes.sz, D.LogEntry.sz, D.SealedBundle.sz, D.Cloud.sz, D.Vault.sz, D.Notice.sz, D.Mailbox.sz, D.KeyStore.sz, D.Entry.sz, D.Bundle.sz, D.Device.sz, D.Credential.sz, D.Account.sz, D.Challenge.sz, D.ChallengeBook.sz, D.Site.sz, D.Share.sz, D.Keeper.sz, D.KeeperHost.sz, D.World.sz] at *
  try simp only [IntKind.wrap_i64] at *
  omega

theorem sp_laws_szAccountS (l : List D.Account) (left : Int) (h0 : 0 ≤ left) (h1 : left ≤ 1048576) : Spec Tryz.prog G0 172 [.slice 3 (l.map D.Account.V), .int .i64 left] (fun r => ∃ n : Int, r = .int .i64 n ∧ (0 ≤ n → ((l.length + (l.map D.Account.sz).sum : Nat) : Int) + n ≤ left)) := by
 refine enter (l := [.tmp 4]) Tryz.func172 rfl Tryz.ntmps172 rfl T.en172 fun E => ?_
 simp only [List.length_cons, List.length_nil, List.replicate_succ, List.replicate_zero, List.cons_append, List.nil_append, Nat.reduceAdd, Nat.reduceSub]
 refine rngl n0 fun hlen => ?_
 simp only [List.length_map, maxLen] at hlen
 have hw : IntKind.i64.wrap (left - (l.length : Int)) = left - (l.length : Int) := by rw [IntKind.wrap_i64]; omega
 refine sr <| m (as_ (.i rfl)) u4 <| e ?_
 refine sr <| m (mv (.t n1)) u6 <| m (mv (.t n0)) u7 <| m (lenm T.s132 (.t n7)) u8 <| m (sub (.t n6) (.t n8)) u9 <| m (as_ (.t n9)) u1 <| e ?_
 refine sq ?_
 refine sr <| m (mv (.t n1)) u10 <| m (lss (.t n10) (.i rfl)) u11 <| e ?_
 refine cnd n11 (fun h1 => ?_) (fun h1 => ?_)
 ·
  replace h1 := of_decide_eq_true h1
  refine sr <| m (as_ (.i rfl)) u4 <| e ?_
  refine rt (ret1 (.t n4 (.p rfl) .n) ?_)
  exact ⟨-1, rfl, fun hn => by omega⟩
 ·
  replace h1 := of_decide_eq_false h1
  refine skp ?_
  refine sq ?_
  refine sr <| m (as_ (.i rfl)) u5 <| e ?_
  refine bk ?_
  refine lp (fun x0 : Nat × Int => ⟨[.slice 3 (l.map D.Account.V), .int .i64 x0.2, .any, .any, .any, .int .i64 (x0.1 : Int), .any, .any, .any, .any, .any, .any, .any, .any, .any, .any, .any, .any, .any, .any, .any, .any, .any, .any, .any, .any, .any], []⟩) (fun x0 : Nat × Int => x0.1 ≤ l.length ∧ 0 ≤ x0.2 ∧ (l.length : Int) + (((l.take x0.1).map D.Account.sz).sum : Nat) + x0.2 ≤ left) (fun x0 : Nat × Int => l.length - x0.1) ((0, IntKind.i64.wrap (left - (l.length : Int)))) (by rw [hw] at h1 ⊢; simp; omega) (le [] (by decide) (.c (.e rfl rfl) (.c (.e rfl rfl) (.x2 (.c .a (.c (.e rfl rfl) (.x16 (.x4 (.c .a .n)))))))) .n) ?_
  rintro ⟨i, mm⟩ hJ
  try dsimp only at hJ ⊢
  refine sq ?_
  refine sr <| m (mv (.t n5)) u12 <| m (mv (.t n0)) u13 <| m (lenm T.s132 (.t n13)) u14 <| m (lss (.t n12) (.t n14)) u15 <| e ?_
  refine cnd n15 (fun h2 => ?_) (fun h2 => ?_)
  ·
   replace h2 := of_decide_eq_true h2
   refine skp ?_
   refine sq ?_
   refine bk ?_
   refine sr <| m (mv (.t n0)) u18 <| m (mv (.t n5)) u19 <| m (ixm T.s132 (Int.natCast_nonneg _) (gi (by omega)) (.t n18) (.t n19)) u20 <| m (lae T.a287 k3 (.t n20)) u21 <| m (mv (.t n1)) u22 <| cI (call (sp_laws_szAccount _ _ (by omega) (by first | omega | (simp only [IntKind.wrap_i64] at *; omega))) (.c (.t n21) rfl (.c (.t n22) rfl .n))) (fun _ => u23) (fun r3 hr3 => ?_)
   refine m (as_ (.t n23)) u1 <| e ?_
   refine sr <| m (mv (.t n1)) u24 <| m (lss (.t n24) (.i rfl)) u25 <| e ?_
   refine cnd n25 (fun h4 => ?_) (fun h4 => ?_)
   ·
    replace h4 := of_decide_eq_true h4
    refine sr <| m (as_ (.i rfl)) u4 <| e ?_
    refine rt (ret1 (.t n4 (.p rfl) .n) ?_)
    exact ⟨-1, rfl, fun hn => by omega⟩
   ·
    replace h4 := of_decide_eq_false h4
    refine skp ?_
    refine rg <| m (mv (.t n5)) u16 <| m (add (.t n16) (.i rfl)) u17 <| m (as_ (.t n17)) u5 <| e ?_
    exact ⟨(i + 1, r3), ⟨by omega, by omega, by rw [take_sum D.Account.sz l i (by omega)]; have := hr3 (by omega); omega⟩, (by omega), le [] (by decide) (.c (.e rfl rfl) (.c (.e rfl rfl) (.x2 (.c .a (.c (.e (wi (by omega)) rfl) (.x16 (.x4 (.c .a .n)))))))) .n⟩
  ·
   replace h2 := of_decide_eq_false h2
   refine ex (x1 ?_)
   refine sr <| m (mv (.t n1)) u26 <| m (as_ (.t n26)) u4 <| e ?_
   refine rt (ret1 (.t n4 (.p rfl) .n) ?_)
   refine ⟨_, rfl, fun hn => ?_⟩
   rw [show i = l.length from by omega, List.take_length] at hJ
   omega

theorem sp_laws_szChallengeS (l : List D.Challenge) (left : Int) (h0 : 0 ≤ left) (h1 : left ≤ 1048576) : Spec Tryz.prog G0 258 [.slice 3 (l.map D.Challenge.V), .int .i64 left] (fun r => ∃ n : Int, r = .int .i64 n ∧ (0 ≤ n → (l.length : Int) + n ≤ left)) := by
 refine enter (l := [.tmp 4]) Tryz.func258 rfl Tryz.ntmps258 rfl T.en258 fun E => ?_
 simp only [List.length_cons, List.length_nil, List.replicate_succ, List.replicate_zero, List.cons_append, List.nil_append, Nat.reduceAdd, Nat.reduceSub]
 refine rngl n0 fun hlen => ?_
 simp only [List.length_map, maxLen] at hlen
 have hw : IntKind.i64.wrap (left - (l.length : Int)) = left - (l.length : Int) := by rw [IntKind.wrap_i64]; omega
 refine sr <| m (as_ (.i rfl)) u4 <| e ?_
 refine sr <| m (mv (.t n1)) u5 <| m (mv (.t n0)) u6 <| m (lenm T.s133 (.t n6)) u7 <| m (sub (.t n5) (.t n7)) u8 <| m (as_ (.t n8)) u1 <| e ?_
 refine sq ?_
 refine sr <| m (mv (.t n1)) u9 <| m (lss (.t n9) (.i rfl)) u10 <| e ?_
 refine cnd n10 (fun h1 => ?_) (fun h1 => ?_)
 ·
  replace h1 := of_decide_eq_true h1
  refine sr <| m (as_ (.i rfl)) u4 <| e ?_
  refine rt (ret1 (.t n4 (.p rfl) .n) ?_)
  refine ⟨_, rfl, fun hn => ?_⟩
  first | omega | (rw [hw]; omega)
 ·
  replace h1 := of_decide_eq_false h1
  refine skp ?_
  refine sr <| m (mv (.t n1)) u11 <| m (as_ (.t n11)) u4 <| e ?_
  refine rt (ret1 (.t n4 (.p rfl) .n) ?_)
  refine ⟨_, rfl, fun hn => ?_⟩
  first | omega | (rw [hw]; omega)

theorem sp_laws_szChallengeBook (x : D.ChallengeBook) (left : Int) (h0 : 0 ≤ left) (h1 : left ≤ 1048576) : Spec Tryz.prog G0 173 [.agg (D.ChallengeBook.V x), .int .i64 left] (fun r => ∃ n : Int, r = .int .i64 n ∧ (0 ≤ n → (x.sz : Int) + n ≤ left)) := by
 refine enter (l := [.tmp 4]) Tryz.func173 rfl Tryz.ntmps173 rfl T.en173 fun E => ?_
 simp only [List.length_cons, List.length_nil, List.replicate_succ, List.replicate_zero, List.cons_append, List.nil_append, Nat.reduceAdd, Nat.reduceSub]
 refine sr <| k (bx rfl s0 u2 (.t n0)) <| m (as_ (.i rfl)) u4 <| e ?_
 refine sr <| m (fab 2 rfl T.f135_2 (.t n2)) u5 <| m (ldb T.o133 n0 n2 (.t n5)) u6 <| m (mv (.t n1)) u7 <| cI (call (sp_laws_szChallengeS _ _ (by omega) (by first | omega | (simp only [IntKind.wrap_i64] at *; omega))) (.c (.t n6) rfl (.c (.t n7) rfl .n))) (fun _ => u8) (fun r1 hr1 => ?_)
 refine m (as_ (.t n8)) u1 <| e ?_
 refine sq ?_
 refine sr <| m (mv (.t n1)) u9 <| m (lss (.t n9) (.i rfl)) u10 <| e ?_
 refine cnd n10 (fun h2 => ?_) (fun h2 => ?_)
 ·
  replace h2 := of_decide_eq_true h2
  refine sr <| m (as_ (.i rfl)) u4 <| e ?_
  refine rt (ret1 (.t n4 (.p rfl) .n) ?_)
  refine ⟨_, rfl, fun hn => ?_⟩
  try simp only [D.Box.sz, D.EpochBoxes.sz, D.LogEntry.sz, D.SealedBundle.sz, D.Cloud.sz, D.Vault.sz, D.Notice.sz, D.Mailbox.sz, D.KeyStore.sz, D.Entry.sz, D.Bundle.sz, D.Device.sz, D.Credential.sz, D.Account.sz, D.Challenge.sz, D.ChallengeBook.sz, D.Site.sz, D.Share.sz, D.Keeper.sz, D.KeeperHost.sz, D.World.sz] at *
  try simp only [IntKind.wrap_i64] at *
  omega
 ·
  replace h2 := of_decide_eq_false h2
  refine skp ?_
  refine sr <| m (mv (.t n1)) u11 <| m (as_ (.t n11)) u4 <| e ?_
  refine rt (ret1 (.t n4 (.p rfl) .n) ?_)
  refine ⟨_, rfl, fun hn => ?_⟩
  try simp only [D.Box.sz, D.EpochBoxes.sz, D.LogEntry.sz, D.SealedBundle.sz, D.Cloud.sz, D.Vault.sz, D.Notice.sz, D.Mailbox.sz, D.KeyStore.sz, D.Entry.sz, D.Bundle.sz, D.Device.sz, D.Credential.sz, D.Account.sz, D.Challenge.sz, D.ChallengeBook.sz, D.Site.sz, D.Share.sz, D.Keeper.sz, D.KeeperHost.sz, D.World.sz] at *
  try simp only [IntKind.wrap_i64] at *
  omega

theorem sp_laws_szIntS (l : List Int) (left : Int) (h0 : 0 ≤ left) (h1 : left ≤ 1048576) : Spec Tryz.prog G0 174 [.slice 1 (l.map iV), .int .i64 left] (fun r => ∃ n : Int, r = .int .i64 n ∧ (0 ≤ n → (l.length : Int) + n ≤ left)) := by
 refine enter (l := [.tmp 4]) Tryz.func174 rfl Tryz.ntmps174 rfl T.en174 fun E => ?_
 simp only [List.length_cons, List.length_nil, List.replicate_succ, List.replicate_zero, List.cons_append, List.nil_append, Nat.reduceAdd, Nat.reduceSub]
 refine rngl n0 fun hlen => ?_
 simp only [List.length_map, maxLen] at hlen
 have hw : IntKind.i64.wrap (left - (l.length : Int)) = left - (l.length : Int) := by rw [IntKind.wrap_i64]; omega
 refine sr <| m (as_ (.i rfl)) u4 <| e ?_
 refine sr <| m (mv (.t n1)) u5 <| m (mv (.t n0)) u6 <| m (lenm T.s108 (.t n6)) u7 <| m (sub (.t n5) (.t n7)) u8 <| m (as_ (.t n8)) u1 <| e ?_
 refine sq ?_
 refine sr <| m (mv (.t n1)) u9 <| m (lss (.t n9) (.i rfl)) u10 <| e ?_
 refine cnd n10 (fun h1 => ?_) (fun h1 => ?_)
 ·
  replace h1 := of_decide_eq_true h1
  refine sr <| m (as_ (.i rfl)) u4 <| e ?_
  refine rt (ret1 (.t n4 (.p rfl) .n) ?_)
  refine ⟨_, rfl, fun hn => ?_⟩
  first | omega | (rw [hw]; omega)
 ·
  replace h1 := of_decide_eq_false h1
  refine skp ?_
  refine sr <| m (mv (.t n1)) u11 <| m (as_ (.t n11)) u4 <| e ?_
  refine rt (ret1 (.t n4 (.p rfl) .n) ?_)
  refine ⟨_, rfl, fun hn => ?_⟩
  first | omega | (rw [hw]; omega)

theorem sp_laws_szSite (x : D.Site) (left : Int) (h0 : 0 ≤ left) (h1 : left ≤ 1048576) : Spec Tryz.prog G0 83 [.agg (D.Site.V x), .int .i64 left] (fun r => ∃ n : Int, r = .int .i64 n ∧ (0 ≤ n → (x.sz : Int) + n ≤ left)) := by
 refine enter (l := [.tmp 4]) Tryz.func83 rfl Tryz.ntmps83 rfl T.en83 fun E => ?_
 simp only [List.length_cons, List.length_nil, List.replicate_succ, List.replicate_zero, List.cons_append, List.nil_append, Nat.reduceAdd, Nat.reduceSub]
 refine sr <| k (bx rfl s0 u2 (.t n0)) <| m (as_ (.i rfl)) u4 <| e ?_
 refine sr <| m (mv (.t n1)) u5 <| m (fab 0 rfl T.f137_0 (.t n2)) u6 <| m (ldb T.o9 n0 n0 (.t n6)) u7 <| m (lenS Tryz.underlying9 (.t n7)) u8 <| m (sub (.t n5) (.t n8)) u9 <| m (as_ (.t n9)) u1 <| e ?_
 refine rngs n7 fun hs7 => ?_
 simp only [maxLen] at hs7
 refine sq ?_
 refine sr <| m (mv (.t n1)) u10 <| m (lss (.t n10) (.i rfl)) u11 <| e ?_
 refine cnd n11 (fun h1 => ?_) (fun h1 => ?_)
 ·
  replace h1 := of_decide_eq_true h1
  refine sr <| m (as_ (.i rfl)) u4 <| e ?_
  refine rt (ret1 (.t n4 (.p rfl) .n) ?_)
  refine ⟨_, rfl, fun hn => ?_⟩
  try simp only [D.Box.sz, D.EpochBoxes.sz, D.LogEntry.sz, D.SealedBundle.sz, D.Cloud.sz, D.Vault.sz, D.Notice.sz, D.Mailbox.sz, D.KeyStore.sz, D.Entry.sz, D.Bundle.sz, D.Device.sz, D.Credential.sz, D.Account.sz, D.Challenge.sz, D.ChallengeBook.sz, D.Site.sz, D.Share.sz, D.Keeper.sz, D.KeeperHost.sz, D.World.sz] at *
  try simp only [IntKind.wrap_i64] at *
  omega
 ·
  replace h1 := of_decide_eq_false h1
  refine skp ?_
  refine sr <| m (fab 1 rfl T.f137_1 (.t n2)) u12 <| m (ldb T.o132 n0 n1 (.t n12)) u13 <| m (mv (.t n1)) u14 <| cI (call (sp_laws_szAccountS _ _ (by omega) (by first | omega | (simp only [IntKind.wrap_i64] at *; omega))) (.c (.t n13) rfl (.c (.t n14) rfl .n))) (fun _ => u15) (fun r2 hr2 => ?_)
  refine m (as_ (.t n15)) u1 <| e ?_
  refine sq ?_
  refine sr <| m (mv (.t n1)) u16 <| m (lss (.t n16) (.i rfl)) u17 <| e ?_
  refine cnd n17 (fun h3 => ?_) (fun h3 => ?_)
  ·
   replace h3 := of_decide_eq_true h3
   refine sr <| m (as_ (.i rfl)) u4 <| e ?_
   refine rt (ret1 (.t n4 (.p rfl) .n) ?_)
   refine ⟨_, rfl, fun hn => ?_⟩
   try simp only [D.Box.sz, D.EpochBoxes.sz, D.LogEntry.sz, D.SealedBundle.sz, D.Cloud.sz, D.Vault.sz, D.Notice.sz, D.Mailbox.sz, D.KeyStore.sz, D.Entry.sz, D.Bundle.sz, D.Device.sz, D.Credential.sz, D.Account.sz, D.Challenge.sz, D.ChallengeBook.sz, D.Site.sz, D.Share.sz, D.Keeper.sz, D.KeeperHost.sz, D.World.sz] at *
   try simp only [IntKind.wrap_i64] at *
   omega
  ·
   replace h3 := of_decide_eq_false h3
   refine skp ?_
   refine sr <| m (fab 2 rfl T.f137_2 (.t n2)) u18 <| m (lab T.a135 n0 d2 k3 (.t n18)) u19 <| m (mv (.t n1)) u20 <| cI (call (sp_laws_szChallengeBook _ _ (by omega) (by first | omega | (simp only [IntKind.wrap_i64] at *; omega))) (.c (.t n19) rfl (.c (.t n20) rfl .n))) (fun _ => u21) (fun r4 hr4 => ?_)
   refine m (as_ (.t n21)) u1 <| e ?_
   refine sq ?_
   refine sr <| m (mv (.t n1)) u22 <| m (lss (.t n22) (.i rfl)) u23 <| e ?_
   refine cnd n23 (fun h5 => ?_) (fun h5 => ?_)
   ·
    replace h5 := of_decide_eq_true h5
    refine sr <| m (as_ (.i rfl)) u4 <| e ?_
    refine rt (ret1 (.t n4 (.p rfl) .n) ?_)
    refine ⟨_, rfl, fun hn => ?_⟩
    try simp only [D.Box.sz, D.EpochBoxes.sz, D.LogEntry.sz, D.SealedBundle.sz, D.Cloud.sz, D.Vault.sz, D.Notice.sz, D.Mailbox.sz, D.KeyStore.sz, D.Entry.sz, D.Bundle.sz, D.Device.sz, D.Credential.sz, D.Account.sz, D.Challenge.sz, D.ChallengeBook.sz, D.Site.sz, D.Share.sz, D.Keeper.sz, D.KeeperHost.sz, D.World.sz] at *
    try simp only [IntKind.wrap_i64] at *
    omega
   ·
    replace h5 := of_decide_eq_false h5
    refine skp ?_
    refine sr <| m (fab 5 rfl T.f137_3 (.t n2)) u24 <| m (ldb T.o108 n0 n5 (.t n24)) u25 <| m (mv (.t n1)) u26 <| cI (call (sp_laws_szIntS _ _ (by omega) (by first | omega | (simp only [IntKind.wrap_i64] at *; omega))) (.c (.t n25) rfl (.c (.t n26) rfl .n))) (fun _ => u27) (fun r6 hr6 => ?_)
    refine m (as_ (.t n27)) u1 <| e ?_
    refine sq ?_
    refine sr <| m (mv (.t n1)) u28 <| m (lss (.t n28) (.i rfl)) u29 <| e ?_
    refine cnd n29 (fun h7 => ?_) (fun h7 => ?_)
    ·
     replace h7 := of_decide_eq_true h7
     refine sr <| m (as_ (.i rfl)) u4 <| e ?_
     refine rt (ret1 (.t n4 (.p rfl) .n) ?_)
     refine ⟨_, rfl, fun hn => ?_⟩
     try simp only [D.Box.sz, D.EpochBoxes.sz, D.LogEntry.sz, D.SealedBundle.sz, D.Cloud.sz, D.Vault.sz, D.Notice.sz, D.Mailbox.sz, D.KeyStore.sz, D.Entry.sz, D.Bundle.sz, D.Device.sz, D.Credential.sz, D.Account.sz, D.Challenge.sz, D.ChallengeBook.sz, D.Site.sz, D.Share.sz, D.Keeper.sz, D.KeeperHost.sz, D.World.sz] at *
     try simp only [IntKind.wrap_i64] at *
     omega
    ·
     replace h7 := of_decide_eq_false h7
     refine skp ?_
     refine sr <| m (mv (.t n1)) u30 <| m (as_ (.t n30)) u4 <| e ?_
     refine rt (ret1 (.t n4 (.p rfl) .n) ?_)
     refine ⟨_, rfl, fun hn => ?_⟩
     try simp only [D.Box.sz, D.EpochBoxes.sz, D.LogEntry.sz, D.SealedBundle.sz, D.Cloud.sz, D.Vault.sz, D.Notice.sz, D.Mailbox.sz, D.KeyStore.sz, D.Entry.sz, D.Bundle.sz, D.Device.sz, D.Credential.sz, D.Account.sz, D.Challenge.sz, D.ChallengeBook.sz, D.Site.sz, D.Share.sz, D.Keeper.sz, D.KeeperHost.sz, D.World.sz] at *
     try simp only [IntKind.wrap_i64] at *
     omega

theorem sp_laws_szSiteS (l : List D.Site) (left : Int) (h0 : 0 ≤ left) (h1 : left ≤ 1048576) : Spec Tryz.prog G0 26 [.slice 6 (l.map D.Site.V), .int .i64 left] (fun r => ∃ n : Int, r = .int .i64 n ∧ (0 ≤ n → ((l.length + (l.map D.Site.sz).sum : Nat) : Int) + n ≤ left)) := by
 refine enter (l := [.tmp 4]) Tryz.func26 rfl Tryz.ntmps26 rfl T.en26 fun E => ?_
 simp only [List.length_cons, List.length_nil, List.replicate_succ, List.replicate_zero, List.cons_append, List.nil_append, Nat.reduceAdd, Nat.reduceSub]
 refine rngl n0 fun hlen => ?_
 simp only [List.length_map, maxLen] at hlen
 have hw : IntKind.i64.wrap (left - (l.length : Int)) = left - (l.length : Int) := by rw [IntKind.wrap_i64]; omega
 refine sr <| m (as_ (.i rfl)) u4 <| e ?_
 refine sr <| m (mv (.t n1)) u6 <| m (mv (.t n0)) u7 <| m (lenm T.s31 (.t n7)) u8 <| m (sub (.t n6) (.t n8)) u9 <| m (as_ (.t n9)) u1 <| e ?_
 refine sq ?_
 refine sr <| m (mv (.t n1)) u10 <| m (lss (.t n10) (.i rfl)) u11 <| e ?_
 refine cnd n11 (fun h1 => ?_) (fun h1 => ?_)
 ·
  replace h1 := of_decide_eq_true h1
  refine sr <| m (as_ (.i rfl)) u4 <| e ?_
  refine rt (ret1 (.t n4 (.p rfl) .n) ?_)
  exact ⟨-1, rfl, fun hn => by omega⟩
 ·
  replace h1 := of_decide_eq_false h1
  refine skp ?_
  refine sq ?_
  refine sr <| m (as_ (.i rfl)) u5 <| e ?_
  refine bk ?_
  refine lp (fun x0 : Nat × Int => ⟨[.slice 6 (l.map D.Site.V), .int .i64 x0.2, .any, .any, .any, .int .i64 (x0.1 : Int), .any, .any, .any, .any, .any, .any, .any, .any, .any, .any, .any, .any, .any, .any, .any, .any, .any, .any, .any, .any, .any], []⟩) (fun x0 : Nat × Int => x0.1 ≤ l.length ∧ 0 ≤ x0.2 ∧ (l.length : Int) + (((l.take x0.1).map D.Site.sz).sum : Nat) + x0.2 ≤ left) (fun x0 : Nat × Int => l.length - x0.1) ((0, IntKind.i64.wrap (left - (l.length : Int)))) (by rw [hw] at h1 ⊢; simp; omega) (le [] (by decide) (.c (.e rfl rfl) (.c (.e rfl rfl) (.x2 (.c .a (.c (.e rfl rfl) (.x16 (.x4 (.c .a .n)))))))) .n) ?_
  rintro ⟨i, mm⟩ hJ
  try dsimp only at hJ ⊢
  refine sq ?_
  refine sr <| m (mv (.t n5)) u12 <| m (mv (.t n0)) u13 <| m (lenm T.s31 (.t n13)) u14 <| m (lss (.t n12) (.t n14)) u15 <| e ?_
  refine cnd n15 (fun h2 => ?_) (fun h2 => ?_)
  ·
   replace h2 := of_decide_eq_true h2
   refine skp ?_
   refine sq ?_
   refine bk ?_
   refine sr <| m (mv (.t n0)) u18 <| m (mv (.t n5)) u19 <| m (ixm T.s31 (Int.natCast_nonneg _) (gi (by omega)) (.t n18) (.t n19)) u20 <| m (lae T.a137 k6 (.t n20)) u21 <| m (mv (.t n1)) u22 <| cI (call (sp_laws_szSite _ _ (by omega) (by first | omega | (simp only [IntKind.wrap_i64] at *; omega))) (.c (.t n21) rfl (.c (.t n22) rfl .n))) (fun _ => u23) (fun r3 hr3 => ?_)
   refine m (as_ (.t n23)) u1 <| e ?_
   refine sr <| m (mv (.t n1)) u24 <| m (lss (.t n24) (.i rfl)) u25 <| e ?_
   refine cnd n25 (fun h4 => ?_) (fun h4 => ?_)
   ·
    replace h4 := of_decide_eq_true h4
    refine sr <| m (as_ (.i rfl)) u4 <| e ?_
    refine rt (ret1 (.t n4 (.p rfl) .n) ?_)
    exact ⟨-1, rfl, fun hn => by omega⟩
   ·
    replace h4 := of_decide_eq_false h4
    refine skp ?_
    refine rg <| m (mv (.t n5)) u16 <| m (add (.t n16) (.i rfl)) u17 <| m (as_ (.t n17)) u5 <| e ?_
    exact ⟨(i + 1, r3), ⟨by omega, by omega, by rw [take_sum D.Site.sz l i (by omega)]; have := hr3 (by omega); omega⟩, (by omega), le [] (by decide) (.c (.e rfl rfl) (.c (.e rfl rfl) (.x2 (.c .a (.c (.e (wi (by omega)) rfl) (.x16 (.x4 (.c .a .n)))))))) .n⟩
  ·
   replace h2 := of_decide_eq_false h2
   refine ex (x1 ?_)
   refine sr <| m (mv (.t n1)) u26 <| m (as_ (.t n26)) u4 <| e ?_
   refine rt (ret1 (.t n4 (.p rfl) .n) ?_)
   refine ⟨_, rfl, fun hn => ?_⟩
   rw [show i = l.length from by omega, List.take_length] at hJ
   omega

theorem sp_laws_szKeeperS (l : List D.Keeper) (left : Int) (h0 : 0 ≤ left) (h1 : left ≤ 1048576) : Spec Tryz.prog G0 175 [.slice 5 (l.map D.Keeper.V), .int .i64 left] (fun r => ∃ n : Int, r = .int .i64 n ∧ (0 ≤ n → (l.length : Int) + n ≤ left)) := by
 refine enter (l := [.tmp 4]) Tryz.func175 rfl Tryz.ntmps175 rfl T.en175 fun E => ?_
 simp only [List.length_cons, List.length_nil, List.replicate_succ, List.replicate_zero, List.cons_append, List.nil_append, Nat.reduceAdd, Nat.reduceSub]
 refine rngl n0 fun hlen => ?_
 simp only [List.length_map, maxLen] at hlen
 have hw : IntKind.i64.wrap (left - (l.length : Int)) = left - (l.length : Int) := by rw [IntKind.wrap_i64]; omega
 refine sr <| m (as_ (.i rfl)) u4 <| e ?_
 refine sr <| m (mv (.t n1)) u5 <| m (mv (.t n0)) u6 <| m (lenm T.s142 (.t n6)) u7 <| m (sub (.t n5) (.t n7)) u8 <| m (as_ (.t n8)) u1 <| e ?_
 refine sq ?_
 refine sr <| m (mv (.t n1)) u9 <| m (lss (.t n9) (.i rfl)) u10 <| e ?_
 refine cnd n10 (fun h1 => ?_) (fun h1 => ?_)
 ·
  replace h1 := of_decide_eq_true h1
  refine sr <| m (as_ (.i rfl)) u4 <| e ?_
  refine rt (ret1 (.t n4 (.p rfl) .n) ?_)
  refine ⟨_, rfl, fun hn => ?_⟩
  first | omega | (rw [hw]; omega)
 ·
  replace h1 := of_decide_eq_false h1
  refine skp ?_
  refine sr <| m (mv (.t n1)) u11 <| m (as_ (.t n11)) u4 <| e ?_
  refine rt (ret1 (.t n4 (.p rfl) .n) ?_)
  refine ⟨_, rfl, fun hn => ?_⟩
  first | omega | (rw [hw]; omega)

theorem sp_laws_szKeeperHost (x : D.KeeperHost) (left : Int) (h0 : 0 ≤ left) (h1 : left ≤ 1048576) : Spec Tryz.prog G0 84 [.agg (D.KeeperHost.V x), .int .i64 left] (fun r => ∃ n : Int, r = .int .i64 n ∧ (0 ≤ n → (x.sz : Int) + n ≤ left)) := by
 refine enter (l := [.tmp 4]) Tryz.func84 rfl Tryz.ntmps84 rfl T.en84 fun E => ?_
 simp only [List.length_cons, List.length_nil, List.replicate_succ, List.replicate_zero, List.cons_append, List.nil_append, Nat.reduceAdd, Nat.reduceSub]
 refine sr <| k (bx rfl s0 u2 (.t n0)) <| m (as_ (.i rfl)) u4 <| e ?_
 refine sr <| m (fab 5 rfl T.f144_1 (.t n2)) u5 <| m (ldb T.o142 n0 n5 (.t n5)) u6 <| m (mv (.t n1)) u7 <| cI (call (sp_laws_szKeeperS _ _ (by omega) (by first | omega | (simp only [IntKind.wrap_i64] at *; omega))) (.c (.t n6) rfl (.c (.t n7) rfl .n))) (fun _ => u8) (fun r1 hr1 => ?_)
 refine m (as_ (.t n8)) u1 <| e ?_
 refine sq ?_
 refine sr <| m (mv (.t n1)) u9 <| m (lss (.t n9) (.i rfl)) u10 <| e ?_
 refine cnd n10 (fun h2 => ?_) (fun h2 => ?_)
 ·
  replace h2 := of_decide_eq_true h2
  refine sr <| m (as_ (.i rfl)) u4 <| e ?_
  refine rt (ret1 (.t n4 (.p rfl) .n) ?_)
  refine ⟨_, rfl, fun hn => ?_⟩
  try simp only [D.Box.sz, D.EpochBoxes.sz, D.LogEntry.sz, D.SealedBundle.sz, D.Cloud.sz, D.Vault.sz, D.Notice.sz, D.Mailbox.sz, D.KeyStore.sz, D.Entry.sz, D.Bundle.sz, D.Device.sz, D.Credential.sz, D.Account.sz, D.Challenge.sz, D.ChallengeBook.sz, D.Site.sz, D.Share.sz, D.Keeper.sz, D.KeeperHost.sz, D.World.sz] at *
  try simp only [IntKind.wrap_i64] at *
  omega
 ·
  replace h2 := of_decide_eq_false h2
  refine skp ?_
  refine sr <| m (mv (.t n1)) u11 <| m (as_ (.t n11)) u4 <| e ?_
  refine rt (ret1 (.t n4 (.p rfl) .n) ?_)
  refine ⟨_, rfl, fun hn => ?_⟩
  try simp only [D.Box.sz, D.EpochBoxes.sz, D.LogEntry.sz, D.SealedBundle.sz, D.Cloud.sz, D.Vault.sz, D.Notice.sz, D.Mailbox.sz, D.KeyStore.sz, D.Entry.sz, D.Bundle.sz, D.Device.sz, D.Credential.sz, D.Account.sz, D.Challenge.sz, D.ChallengeBook.sz, D.Site.sz, D.Share.sz, D.Keeper.sz, D.KeeperHost.sz, D.World.sz] at *
  try simp only [IntKind.wrap_i64] at *
  omega

theorem sp_laws_szKeeperHostS (l : List D.KeeperHost) (left : Int) (h0 : 0 ≤ left) (h1 : left ≤ 1048576) : Spec Tryz.prog G0 27 [.slice 7 (l.map D.KeeperHost.V), .int .i64 left] (fun r => ∃ n : Int, r = .int .i64 n ∧ (0 ≤ n → ((l.length + (l.map D.KeeperHost.sz).sum : Nat) : Int) + n ≤ left)) := by
 refine enter (l := [.tmp 4]) Tryz.func27 rfl Tryz.ntmps27 rfl T.en27 fun E => ?_
 simp only [List.length_cons, List.length_nil, List.replicate_succ, List.replicate_zero, List.cons_append, List.nil_append, Nat.reduceAdd, Nat.reduceSub]
 refine rngl n0 fun hlen => ?_
 simp only [List.length_map, maxLen] at hlen
 have hw : IntKind.i64.wrap (left - (l.length : Int)) = left - (l.length : Int) := by rw [IntKind.wrap_i64]; omega
 refine sr <| m (as_ (.i rfl)) u4 <| e ?_
 refine sr <| m (mv (.t n1)) u6 <| m (mv (.t n0)) u7 <| m (lenm T.s34 (.t n7)) u8 <| m (sub (.t n6) (.t n8)) u9 <| m (as_ (.t n9)) u1 <| e ?_
 refine sq ?_
 refine sr <| m (mv (.t n1)) u10 <| m (lss (.t n10) (.i rfl)) u11 <| e ?_
 refine cnd n11 (fun h1 => ?_) (fun h1 => ?_)
 ·
  replace h1 := of_decide_eq_true h1
  refine sr <| m (as_ (.i rfl)) u4 <| e ?_
  refine rt (ret1 (.t n4 (.p rfl) .n) ?_)
  exact ⟨-1, rfl, fun hn => by omega⟩
 ·
  replace h1 := of_decide_eq_false h1
  refine skp ?_
  refine sq ?_
  refine sr <| m (as_ (.i rfl)) u5 <| e ?_
  refine bk ?_
  refine lp (fun x0 : Nat × Int => ⟨[.slice 7 (l.map D.KeeperHost.V), .int .i64 x0.2, .any, .any, .any, .int .i64 (x0.1 : Int), .any, .any, .any, .any, .any, .any, .any, .any, .any, .any, .any, .any, .any, .any, .any, .any, .any, .any, .any, .any, .any], []⟩) (fun x0 : Nat × Int => x0.1 ≤ l.length ∧ 0 ≤ x0.2 ∧ (l.length : Int) + (((l.take x0.1).map D.KeeperHost.sz).sum : Nat) + x0.2 ≤ left) (fun x0 : Nat × Int => l.length - x0.1) ((0, IntKind.i64.wrap (left - (l.length : Int)))) (by rw [hw] at h1 ⊢; simp; omega) (le [] (by decide) (.c (.e rfl rfl) (.c (.e rfl rfl) (.x2 (.c .a (.c (.e rfl rfl) (.x16 (.x4 (.c .a .n)))))))) .n) ?_
  rintro ⟨i, mm⟩ hJ
  try dsimp only at hJ ⊢
  refine sq ?_
  refine sr <| m (mv (.t n5)) u12 <| m (mv (.t n0)) u13 <| m (lenm T.s34 (.t n13)) u14 <| m (lss (.t n12) (.t n14)) u15 <| e ?_
  refine cnd n15 (fun h2 => ?_) (fun h2 => ?_)
  ·
   replace h2 := of_decide_eq_true h2
   refine skp ?_
   refine sq ?_
   refine bk ?_
   refine sr <| m (mv (.t n0)) u18 <| m (mv (.t n5)) u19 <| m (ixm T.s34 (Int.natCast_nonneg _) (gi (by omega)) (.t n18) (.t n19)) u20 <| m (lae T.a144 k7 (.t n20)) u21 <| m (mv (.t n1)) u22 <| cI (call (sp_laws_szKeeperHost _ _ (by omega) (by first | omega | (simp only [IntKind.wrap_i64] at *; omega))) (.c (.t n21) rfl (.c (.t n22) rfl .n))) (fun _ => u23) (fun r3 hr3 => ?_)
   refine m (as_ (.t n23)) u1 <| e ?_
   refine sr <| m (mv (.t n1)) u24 <| m (lss (.t n24) (.i rfl)) u25 <| e ?_
   refine cnd n25 (fun h4 => ?_) (fun h4 => ?_)
   ·
    replace h4 := of_decide_eq_true h4
    refine sr <| m (as_ (.i rfl)) u4 <| e ?_
    refine rt (ret1 (.t n4 (.p rfl) .n) ?_)
    exact ⟨-1, rfl, fun hn => by omega⟩
   ·
    replace h4 := of_decide_eq_false h4
    refine skp ?_
    refine rg <| m (mv (.t n5)) u16 <| m (add (.t n16) (.i rfl)) u17 <| m (as_ (.t n17)) u5 <| e ?_
    exact ⟨(i + 1, r3), ⟨by omega, by omega, by rw [take_sum D.KeeperHost.sz l i (by omega)]; have := hr3 (by omega); omega⟩, (by omega), le [] (by decide) (.c (.e rfl rfl) (.c (.e rfl rfl) (.x2 (.c .a (.c (.e (wi (by omega)) rfl) (.x16 (.x4 (.c .a .n)))))))) .n⟩
  ·
   replace h2 := of_decide_eq_false h2
   refine ex (x1 ?_)
   refine sr <| m (mv (.t n1)) u26 <| m (as_ (.t n26)) u4 <| e ?_
   refine rt (ret1 (.t n4 (.p rfl) .n) ?_)
   refine ⟨_, rfl, fun hn => ?_⟩
   rw [show i = l.length from by omega, List.take_length] at hJ
   omega

theorem sp_laws_szNoticeS (l : List D.Notice) (left : Int) (h0 : 0 ≤ left) (h1 : left ≤ 1048576) : Spec Tryz.prog G0 85 [.slice 4 (l.map D.Notice.V), .int .i64 left] (fun r => ∃ n : Int, r = .int .i64 n ∧ (0 ≤ n → (l.length : Int) + n ≤ left)) := by
 refine enter (l := [.tmp 4]) Tryz.func85 rfl Tryz.ntmps85 rfl T.en85 fun E => ?_
 simp only [List.length_cons, List.length_nil, List.replicate_succ, List.replicate_zero, List.cons_append, List.nil_append, Nat.reduceAdd, Nat.reduceSub]
 refine rngl n0 fun hlen => ?_
 simp only [List.length_map, maxLen] at hlen
 have hw : IntKind.i64.wrap (left - (l.length : Int)) = left - (l.length : Int) := by rw [IntKind.wrap_i64]; omega
 refine sr <| m (as_ (.i rfl)) u4 <| e ?_
 refine sr <| m (mv (.t n1)) u5 <| m (mv (.t n0)) u6 <| m (lenm T.s35 (.t n6)) u7 <| m (sub (.t n5) (.t n7)) u8 <| m (as_ (.t n8)) u1 <| e ?_
 refine sq ?_
 refine sr <| m (mv (.t n1)) u9 <| m (lss (.t n9) (.i rfl)) u10 <| e ?_
 refine cnd n10 (fun h1 => ?_) (fun h1 => ?_)
 ·
  replace h1 := of_decide_eq_true h1
  refine sr <| m (as_ (.i rfl)) u4 <| e ?_
  refine rt (ret1 (.t n4 (.p rfl) .n) ?_)
  refine ⟨_, rfl, fun hn => ?_⟩
  first | omega | (rw [hw]; omega)
 ·
  replace h1 := of_decide_eq_false h1
  refine skp ?_
  refine sr <| m (mv (.t n1)) u11 <| m (as_ (.t n11)) u4 <| e ?_
  refine rt (ret1 (.t n4 (.p rfl) .n) ?_)
  refine ⟨_, rfl, fun hn => ?_⟩
  first | omega | (rw [hw]; omega)

theorem sp_laws_szMailbox (x : D.Mailbox) (left : Int) (h0 : 0 ≤ left) (h1 : left ≤ 1048576) : Spec Tryz.prog G0 28 [.agg (D.Mailbox.V x), .int .i64 left] (fun r => ∃ n : Int, r = .int .i64 n ∧ (0 ≤ n → (x.sz : Int) + n ≤ left)) := by
 refine enter (l := [.tmp 4]) Tryz.func28 rfl Tryz.ntmps28 rfl T.en28 fun E => ?_
 simp only [List.length_cons, List.length_nil, List.replicate_succ, List.replicate_zero, List.cons_append, List.nil_append, Nat.reduceAdd, Nat.reduceSub]
 refine sr <| k (bx rfl s0 u2 (.t n0)) <| m (as_ (.i rfl)) u4 <| e ?_
 refine sr <| m (fab 0 rfl T.f37_0 (.t n2)) u5 <| m (ldb T.o35 n0 n0 (.t n5)) u6 <| m (mv (.t n1)) u7 <| cI (call (sp_laws_szNoticeS _ _ (by omega) (by first | omega | (simp only [IntKind.wrap_i64] at *; omega))) (.c (.t n6) rfl (.c (.t n7) rfl .n))) (fun _ => u8) (fun r1 hr1 => ?_)
 refine m (as_ (.t n8)) u1 <| e ?_
 refine sq ?_
 refine sr <| m (mv (.t n1)) u9 <| m (lss (.t n9) (.i rfl)) u10 <| e ?_
 refine cnd n10 (fun h2 => ?_) (fun h2 => ?_)
 ·
  replace h2 := of_decide_eq_true h2
  refine sr <| m (as_ (.i rfl)) u4 <| e ?_
  refine rt (ret1 (.t n4 (.p rfl) .n) ?_)
  refine ⟨_, rfl, fun hn => ?_⟩
  try simp only [D.Box.sz, D.EpochBoxes.sz, D.LogEntry.sz, D.SealedBundle.sz, D.Cloud.sz, D.Vault.sz, D.Notice.sz, D.Mailbox.sz, D.KeyStore.sz, D.Entry.sz, D.Bundle.sz, D.Device.sz, D.Credential.sz, D.Account.sz, D.Challenge.sz, D.ChallengeBook.sz, D.Site.sz, D.Share.sz, D.Keeper.sz, D.KeeperHost.sz, D.World.sz] at *
  try simp only [IntKind.wrap_i64] at *
  omega
 ·
  replace h2 := of_decide_eq_false h2
  refine skp ?_
  refine sr <| m (mv (.t n1)) u11 <| m (as_ (.t n11)) u4 <| e ?_
  refine rt (ret1 (.t n4 (.p rfl) .n) ?_)
  refine ⟨_, rfl, fun hn => ?_⟩
  try simp only [D.Box.sz, D.EpochBoxes.sz, D.LogEntry.sz, D.SealedBundle.sz, D.Cloud.sz, D.Vault.sz, D.Notice.sz, D.Mailbox.sz, D.KeyStore.sz, D.Entry.sz, D.Bundle.sz, D.Device.sz, D.Credential.sz, D.Account.sz, D.Challenge.sz, D.ChallengeBook.sz, D.Site.sz, D.Share.sz, D.Keeper.sz, D.KeeperHost.sz, D.World.sz] at *
  try simp only [IntKind.wrap_i64] at *
  omega

theorem sp_laws_szWorld (x : D.World) (left : Int) (h0 : 0 ≤ left) (h1 : left ≤ 1048576) : Spec Tryz.prog G0 8 [.agg (D.World.V x), .int .i64 left] (fun r => ∃ n : Int, r = .int .i64 n ∧ (0 ≤ n → (x.sz : Int) + n ≤ left)) := by
 refine enter (l := [.tmp 4]) Tryz.func8 rfl Tryz.ntmps8 rfl T.en8 fun E => ?_
 simp only [List.length_cons, List.length_nil, List.replicate_succ, List.replicate_zero, List.cons_append, List.nil_append, Nat.reduceAdd, Nat.reduceSub]
 refine sr <| k (bx rfl s0 u2 (.t n0)) <| m (as_ (.i rfl)) u4 <| e ?_
 refine sr <| m (fab 2 rfl T.f39_2 (.t n2)) u5 <| m (ldb T.o22 n0 n2 (.t n5)) u6 <| m (mv (.t n1)) u7 <| cI (call (sp_laws_szDeviceS _ _ (by omega) (by first | omega | (simp only [IntKind.wrap_i64] at *; omega))) (.c (.t n6) rfl (.c (.t n7) rfl .n))) (fun _ => u8) (fun r1 hr1 => ?_)
 refine m (as_ (.t n8)) u1 <| e ?_
 refine sq ?_
 refine sr <| m (mv (.t n1)) u9 <| m (lss (.t n9) (.i rfl)) u10 <| e ?_
 refine cnd n10 (fun h2 => ?_) (fun h2 => ?_)
 ·
  replace h2 := of_decide_eq_true h2
  refine sr <| m (as_ (.i rfl)) u4 <| e ?_
  refine rt (ret1 (.t n4 (.p rfl) .n) ?_)
  refine ⟨_, rfl, fun hn => ?_⟩
  try simp only [D.Box.sz, D.EpochBoxes.sz, D.LogEntry.sz, D.SealedBundle.sz, D.Cloud.sz, D.Vault.sz, D.Notice.sz, D.Mailbox.sz, D.KeyStore.sz, D.Entry.sz, D.Bundle.sz, D.Device.sz, D.Credential.sz, D.Account.sz, D.Challenge.sz, D.ChallengeBook.sz, D.Site.sz, D.Share.sz, D.Keeper.sz, D.KeeperHost.sz, D.World.sz] at *
  try simp only [IntKind.wrap_i64] at *
  omega
 ·
  replace h2 := of_decide_eq_false h2
  refine skp ?_
  refine sr <| m (fab 3 rfl T.f39_3 (.t n2)) u11 <| m (ldb T.o23 n0 n3 (.t n11)) u12 <| m (mv (.t n1)) u13 <| cI (call (sp_laws_szBoolS _ _ (by omega) (by first | omega | (simp only [IntKind.wrap_i64] at *; omega))) (.c (.t n12) rfl (.c (.t n13) rfl .n))) (fun _ => u14) (fun r3 hr3 => ?_)
  refine m (as_ (.t n14)) u1 <| e ?_
  refine sq ?_
  refine sr <| m (mv (.t n1)) u15 <| m (lss (.t n15) (.i rfl)) u16 <| e ?_
  refine cnd n16 (fun h4 => ?_) (fun h4 => ?_)
  ·
   replace h4 := of_decide_eq_true h4
   refine sr <| m (as_ (.i rfl)) u4 <| e ?_
   refine rt (ret1 (.t n4 (.p rfl) .n) ?_)
   refine ⟨_, rfl, fun hn => ?_⟩
   try simp only [D.Box.sz, D.EpochBoxes.sz, D.LogEntry.sz, D.SealedBundle.sz, D.Cloud.sz, D.Vault.sz, D.Notice.sz, D.Mailbox.sz, D.KeyStore.sz, D.Entry.sz, D.Bundle.sz, D.Device.sz, D.Credential.sz, D.Account.sz, D.Challenge.sz, D.ChallengeBook.sz, D.Site.sz, D.Share.sz, D.Keeper.sz, D.KeeperHost.sz, D.World.sz] at *
   try simp only [IntKind.wrap_i64] at *
   omega
  ·
   replace h4 := of_decide_eq_false h4
   refine skp ?_
   refine sr <| m (fab 4 rfl T.f39_4 (.t n2)) u17 <| m (lab T.a30 n0 d4 k4 (.t n17)) u18 <| m (mv (.t n1)) u19 <| cI (call (sp_laws_szCloud _ _ (by omega) (by first | omega | (simp only [IntKind.wrap_i64] at *; omega))) (.c (.t n18) rfl (.c (.t n19) rfl .n))) (fun _ => u20) (fun r5 hr5 => ?_)
   refine m (as_ (.t n20)) u1 <| e ?_
   refine sq ?_
   refine sr <| m (mv (.t n1)) u21 <| m (lss (.t n21) (.i rfl)) u22 <| e ?_
   refine cnd n22 (fun h6 => ?_) (fun h6 => ?_)
   ·
    replace h6 := of_decide_eq_true h6
    refine sr <| m (as_ (.i rfl)) u4 <| e ?_
    refine rt (ret1 (.t n4 (.p rfl) .n) ?_)
    refine ⟨_, rfl, fun hn => ?_⟩
    try simp only [D.Box.sz, D.EpochBoxes.sz, D.LogEntry.sz, D.SealedBundle.sz, D.Cloud.sz, D.Vault.sz, D.Notice.sz, D.Mailbox.sz, D.KeyStore.sz, D.Entry.sz, D.Bundle.sz, D.Device.sz, D.Credential.sz, D.Account.sz, D.Challenge.sz, D.ChallengeBook.sz, D.Site.sz, D.Share.sz, D.Keeper.sz, D.KeeperHost.sz, D.World.sz] at *
    try simp only [IntKind.wrap_i64] at *
    omega
   ·
    replace h6 := of_decide_eq_false h6
    refine skp ?_
    refine sr <| m (fab 8 rfl T.f39_5 (.t n2)) u23 <| m (ldb T.o31 n0 n8 (.t n23)) u24 <| m (mv (.t n1)) u25 <| cI (call (sp_laws_szSiteS _ _ (by omega) (by first | omega | (simp only [IntKind.wrap_i64] at *; omega))) (.c (.t n24) rfl (.c (.t n25) rfl .n))) (fun _ => u26) (fun r7 hr7 => ?_)
    refine m (as_ (.t n26)) u1 <| e ?_
    refine sq ?_
    refine sr <| m (mv (.t n1)) u27 <| m (lss (.t n27) (.i rfl)) u28 <| e ?_
    refine cnd n28 (fun h8 => ?_) (fun h8 => ?_)
    ·
     replace h8 := of_decide_eq_true h8
     refine sr <| m (as_ (.i rfl)) u4 <| e ?_
     refine rt (ret1 (.t n4 (.p rfl) .n) ?_)
     refine ⟨_, rfl, fun hn => ?_⟩
     try simp only [D.Box.sz, D.EpochBoxes.sz, D.LogEntry.sz, D.SealedBundle.sz, D.Cloud.sz, D.Vault.sz, D.Notice.sz, D.Mailbox.sz, D.KeyStore.sz, D.Entry.sz, D.Bundle.sz, D.Device.sz, D.Credential.sz, D.Account.sz, D.Challenge.sz, D.ChallengeBook.sz, D.Site.sz, D.Share.sz, D.Keeper.sz, D.KeeperHost.sz, D.World.sz] at *
     try simp only [IntKind.wrap_i64] at *
     omega
    ·
     replace h8 := of_decide_eq_false h8
     refine skp ?_
     refine sr <| m (fab 13 rfl T.f39_7 (.t n2)) u29 <| m (ldb T.o34 n0 n13 (.t n29)) u30 <| m (mv (.t n1)) u31 <| cI (call (sp_laws_szKeeperHostS _ _ (by omega) (by first | omega | (simp only [IntKind.wrap_i64] at *; omega))) (.c (.t n30) rfl (.c (.t n31) rfl .n))) (fun _ => u32) (fun r9 hr9 => ?_)
     refine m (as_ (.t n32)) u1 <| e ?_
     refine sq ?_
     refine sr <| m (mv (.t n1)) u33 <| m (lss (.t n33) (.i rfl)) u34 <| e ?_
     refine cnd n34 (fun h10 => ?_) (fun h10 => ?_)
     ·
      replace h10 := of_decide_eq_true h10
      refine sr <| m (as_ (.i rfl)) u4 <| e ?_
      refine rt (ret1 (.t n4 (.p rfl) .n) ?_)
      refine ⟨_, rfl, fun hn => ?_⟩
      try simp only [D.Box.sz, D.EpochBoxes.sz, D.LogEntry.sz, D.SealedBundle.sz, D.Cloud.sz, D.Vault.sz, D.Notice.sz, D.Mailbox.sz, D.KeyStore.sz, D.Entry.sz, D.Bundle.sz, D.Device.sz, D.Credential.sz, D.Account.sz, D.Challenge.sz, D.ChallengeBook.sz, D.Site.sz, D.Share.sz, D.Keeper.sz, D.KeeperHost.sz, D.World.sz] at *
      try simp only [IntKind.wrap_i64] at *
      omega
     ·
      replace h10 := of_decide_eq_false h10
      refine skp ?_
      refine sr <| m (fab 15 rfl T.f39_9 (.t n2)) u35 <| m (lab T.a37 n0 d15 k1 (.t n35)) u36 <| m (mv (.t n1)) u37 <| cI (call (sp_laws_szMailbox _ _ (by omega) (by first | omega | (simp only [IntKind.wrap_i64] at *; omega))) (.c (.t n36) rfl (.c (.t n37) rfl .n))) (fun _ => u38) (fun r11 hr11 => ?_)
      refine m (as_ (.t n38)) u1 <| e ?_
      refine sq ?_
      refine sr <| m (mv (.t n1)) u39 <| m (lss (.t n39) (.i rfl)) u40 <| e ?_
      refine cnd n40 (fun h12 => ?_) (fun h12 => ?_)
      ·
       replace h12 := of_decide_eq_true h12
       refine sr <| m (as_ (.i rfl)) u4 <| e ?_
       refine rt (ret1 (.t n4 (.p rfl) .n) ?_)
       refine ⟨_, rfl, fun hn => ?_⟩
       try simp only [D.Box.sz, D.EpochBoxes.sz, D.LogEntry.sz, D.SealedBundle.sz, D.Cloud.sz, D.Vault.sz, D.Notice.sz, D.Mailbox.sz, D.KeyStore.sz, D.Entry.sz, D.Bundle.sz, D.Device.sz, D.Credential.sz, D.Account.sz, D.Challenge.sz, D.ChallengeBook.sz, D.Site.sz, D.Share.sz, D.Keeper.sz, D.KeeperHost.sz, D.World.sz] at *
       try simp only [IntKind.wrap_i64] at *
       omega
      ·
       replace h12 := of_decide_eq_false h12
       refine skp ?_
       refine sr <| m (mv (.t n1)) u41 <| m (as_ (.t n41)) u4 <| e ?_
       refine rt (ret1 (.t n4 (.p rfl) .n) ?_)
       refine ⟨_, rfl, fun hn => ?_⟩
       try simp only [D.Box.sz, D.EpochBoxes.sz, D.LogEntry.sz, D.SealedBundle.sz, D.Cloud.sz, D.Vault.sz, D.Notice.sz, D.Mailbox.sz, D.KeyStore.sz, D.Entry.sz, D.Bundle.sz, D.Device.sz, D.Credential.sz, D.Account.sz, D.Challenge.sz, D.ChallengeBook.sz, D.Site.sz, D.Share.sz, D.Keeper.sz, D.KeeperHost.sz, D.World.sz] at *
       try simp only [IntKind.wrap_i64] at *
       omega

theorem sp_laws_toKeyStore (x : D.KeyStore) : Spec Tryz.prog G0 180 [.agg (D.KeyStore.V x)] (fun r => r = .agg x.V) := by
 refine enter (l := [.cell 2 113]) Tryz.func180 rfl Tryz.ntmps180 rfl T.en180 fun E => ?_
 simp only [List.length_cons, List.length_nil, List.replicate_succ, List.replicate_zero, List.cons_append, List.nil_append, Nat.reduceAdd, Nat.reduceSub]
 refine sr <| k (bx rfl s0 u1 (.t n0)) <| k (al T.z113 s1 u2) <| e ?_
 refine sr <| k (al T.z113 s2 u3) <| e ?_
 refine sr <| m (fab 0 rfl T.f122_0 (.t n1)) u4 <| m (ldb T.o3 n0 n0 (.t n4)) u5 <| m (fab 0 rfl T.f113_0 (.t n3)) u6 <| k (st1 T.o3 rfl n2 u0 q2 (.t n6) (.t n5)) <| e ?_
 refine sr <| m (fab 1 rfl T.f122_1 (.t n1)) u7 <| m (ldb T.o3 n0 n1 (.t n7)) u8 <| m (fab 1 rfl T.f113_1 (.t n3)) u9 <| k (st1 T.o3 rfl n2 u1 q2 (.t n9) (.t n8)) <| e ?_
 refine sr <| m (fab 2 rfl T.f122_2 (.t n1)) u10 <| m (ldb T.o3 n0 n2 (.t n10)) u11 <| m (fab 2 rfl T.f113_2 (.t n3)) u12 <| k (st1 T.o3 rfl n2 u2 q2 (.t n12) (.t n11)) <| e ?_
 refine sr <| m (fab 3 rfl T.f122_3 (.t n1)) u13 <| m (ldb T.o3 n0 n3 (.t n13)) u14 <| m (fab 3 rfl T.f113_3 (.t n3)) u15 <| k (st1 T.o3 rfl n2 u3 q2 (.t n15) (.t n14)) <| e ?_
 refine sr <| m (lab T.a113 n2 d0 k4 (.t n3)) u16 <| k (sta T.a113 rfl rfl n1 (.z (.z (.z (.z .n)))) q1 (.t n2) (.t n16)) <| e ?_
 refine rt (ret1 (.a n2 T.a113 n1 rfl (.c (.p rfl) (.c (.p rfl) (.c (.p rfl) (.c (.p rfl) .n)))) .n) ?_)
 rfl

theorem sp_laws_toLogEntry (x : D.LogEntry) : Spec Tryz.prog G0 182 [.agg (D.LogEntry.V x)] (fun r => r = .agg x.V) := by
 refine enter (l := [.cell 2 220]) Tryz.func182 rfl Tryz.ntmps182 rfl T.en182 fun E => ?_
 simp only [List.length_cons, List.length_nil, List.replicate_succ, List.replicate_zero, List.cons_append, List.nil_append, Nat.reduceAdd, Nat.reduceSub]
 refine sr <| k (bx rfl s0 u1 (.t n0)) <| k (al T.z220 s1 u2) <| e ?_
 refine sr <| k (al T.z220 s2 u3) <| e ?_
 refine sr <| m (fab 0 rfl T.f224_0 (.t n1)) u4 <| m (ldb T.o3 n0 n0 (.t n4)) u5 <| m (fab 0 rfl T.f220_0 (.t n3)) u6 <| k (st1 T.o3 rfl n2 u0 q2 (.t n6) (.t n5)) <| e ?_
 refine sr <| m (fab 1 rfl T.f224_1 (.t n1)) u7 <| m (ldb T.o3 n0 n1 (.t n7)) u8 <| m (fab 1 rfl T.f220_1 (.t n3)) u9 <| k (st1 T.o3 rfl n2 u1 q2 (.t n9) (.t n8)) <| e ?_
 refine sr <| m (fab 2 rfl T.f224_2 (.t n1)) u10 <| m (ldb T.o3 n0 n2 (.t n10)) u11 <| m (fab 2 rfl T.f220_2 (.t n3)) u12 <| k (st1 T.o3 rfl n2 u2 q2 (.t n12) (.t n11)) <| e ?_
 refine sr <| m (fab 3 rfl T.f224_3 (.t n1)) u13 <| m (ldb T.o3 n0 n3 (.t n13)) u14 <| m (fab 3 rfl T.f220_3 (.t n3)) u15 <| k (st1 T.o3 rfl n2 u3 q2 (.t n15) (.t n14)) <| e ?_
 refine sr <| m (fab 4 rfl T.f224_4 (.t n1)) u16 <| m (ldb T.o3 n0 n4 (.t n16)) u17 <| m (fab 4 rfl T.f220_4 (.t n3)) u18 <| k (st1 T.o3 rfl n2 u4 q2 (.t n18) (.t n17)) <| e ?_
 refine sr <| m (fab 5 rfl T.f224_5 (.t n1)) u19 <| m (ldb T.o3 n0 n5 (.t n19)) u20 <| m (fab 5 rfl T.f220_5 (.t n3)) u21 <| k (st1 T.o3 rfl n2 u5 q2 (.t n21) (.t n20)) <| e ?_
 refine sr <| m (lab T.a220 n2 d0 k6 (.t n3)) u22 <| k (sta T.a220 rfl rfl n1 (.z (.z (.z (.z (.z (.z .n)))))) q1 (.t n2) (.t n22)) <| e ?_
 refine rt (ret1 (.a n2 T.a220 n1 rfl (.c (.p rfl) (.c (.p rfl) (.c (.p rfl) (.c (.p rfl) (.c (.p rfl) (.c (.p rfl) .n)))))) .n) ?_)
 rfl

theorem sp_laws_toLogEntryS (l : List D.LogEntry) (hl : l.length ≤ 1048576) : Spec Tryz.prog G0 92 [.slice 6 (l.map D.LogEntry.V)] (fun r => r = .slice 6 (l.map D.LogEntry.V)) := by
 refine enter (l := [.tmp 2]) Tryz.func92 rfl Tryz.ntmps92 rfl T.en92 fun E => ?_
 simp only [List.length_cons, List.length_nil, List.replicate_succ, List.replicate_zero, List.cons_append, List.nil_append, Nat.reduceAdd, Nat.reduceSub]
 refine sr <| m (as_ .n) u2 <| e ?_
 refine sr <| m (mv (.t n0)) u5 <| m (lenm T.s24 (.t n5)) u6 <| k (mk_ T.s43 T.z220 (by omega) (by omega) s0 u7 (.t n6) (.t n6)) <| m (as_ (.t n7)) u3 <| e ?_
 refine sq ?_
 refine sr <| m (as_ (.i rfl)) u4 <| e ?_
 refine bk ?_
 refine lp (fun i : Nat => ⟨[.slice 6 (l.map D.LogEntry.V), .any, .nil, .own 0, .int .i64 (i : Int), .any, .any, .own 0, .any, .any, .any, .any, .any, .any, .any, .any, .any, .any, .any, .any, .any, .any, .any], [.row 220 6 (pref D.LogEntry.V l [.int .i64 0, .int .i64 0, .int .i64 0, .int .i64 0, .int .i64 0, .int .i64 0] i)]⟩) (fun i : Nat => i ≤ l.length) (fun i : Nat => l.length - i) (0) (by simp) (le [0] (by decide) (.c (.e rfl rfl) (.c .a (.c (.e rfl rfl) (.c (.w n0) (.c (.e rfl rfl) (.x2 (.c (.w n0) (.x8 (.x4 (.x2 (.c .a .n))))))))))) (.r n0 (pref_0 _ _ _).symm .n)) ?_
 rintro i hJ
 try dsimp only at hJ ⊢
 refine sq ?_
 refine sr <| m (mv (.t n4)) u8 <| m (mv (.t n0)) u9 <| m (lenm T.s24 (.t n9)) u10 <| m (lss (.t n8) (.t n10)) u11 <| e ?_
 refine cnd n11 (fun h1 => ?_) (fun h1 => ?_)
 ·
  replace h1 := of_decide_eq_true h1
  refine skp ?_
  refine sq ?_
  refine bk ?_
  refine rg <| m (mv (.t n3)) u14 <| m (mv (.t n4)) u15 <| m (mv (.t n0)) u16 <| m (mv (.t n4)) u17 <| m (ixm T.s24 (Int.natCast_nonneg _) (gi (by omega)) (.t n16) (.t n17)) u18 <| m (lae T.a224 k6 (.t n18)) u19 <| c (call (sp_laws_toLogEntry _) (.c (.t n19) rfl .n)) u20 <| m (oix T.s43 n0 (Int.natCast_nonneg _) (by rw [Int.toNat_natCast, pref_len (by omega)]; omega) (.t n14) (.t n15)) u21 <| k (stoA rfl (by rw [Int.toNat_natCast, pref_len (by omega)]; omega) T.a220 rfl rfl rfl n0 q0 (.t n21) (.t n20)) <| e ?_
  refine rg <| m (mv (.t n4)) u12 <| m (add (.t n12) (.i rfl)) u13 <| m (as_ (.t n13)) u4 <| e ?_
  exact ⟨i + 1, (by omega), (by omega), le [0] (by decide) (.c (.e rfl rfl) (.c .a (.c (.e rfl rfl) (.c (.w n0) (.c (.e (wi (by omega)) rfl) (.x2 (.c (.w n0) (.x8 (.x4 (.x2 (.c .a .n))))))))))) (.r n0 (pref_set (by omega)) .n)⟩
 ·
  replace h1 := of_decide_eq_false h1
  refine ex (x1 ?_)
  refine sr <| m (mv (.t n3)) u22 <| m (as_ (.t n22)) u2 <| e ?_
  refine rt (ret1 (.t n2 (.o n0) .n) ?_)
  show V.slice _ _ = V.slice _ _
  rw [show i = l.length from by omega, pref_full]

theorem sp_laws_toEntry (x : D.Entry) : Spec Tryz.prog G0 300 [.agg (D.Entry.V x)] (fun r => r = .agg x.V) := by
 refine enter (l := [.cell 2 264]) Tryz.func300 rfl Tryz.ntmps300 rfl T.en300 fun E => ?_
 simp only [List.length_cons, List.length_nil, List.replicate_succ, List.replicate_zero, List.cons_append, List.nil_append, Nat.reduceAdd, Nat.reduceSub]
 refine sr <| k (bx rfl s0 u1 (.t n0)) <| k (al T.z264 s1 u2) <| e ?_
 refine sr <| k (al T.z264 s2 u3) <| e ?_
 refine sr <| m (fab 0 rfl T.f315_0 (.t n1)) u4 <| m (ldb T.o3 n0 n0 (.t n4)) u5 <| m (fab 0 rfl T.f264_0 (.t n3)) u6 <| k (st1 T.o3 rfl n2 u0 q2 (.t n6) (.t n5)) <| e ?_
 refine sr <| m (fab 1 rfl T.f315_1 (.t n1)) u7 <| m (ldb T.o3 n0 n1 (.t n7)) u8 <| m (fab 1 rfl T.f264_1 (.t n3)) u9 <| k (st1 T.o3 rfl n2 u1 q2 (.t n9) (.t n8)) <| e ?_
 refine sr <| m (fab 2 rfl T.f315_2 (.t n1)) u10 <| m (ldb T.o3 n0 n2 (.t n10)) u11 <| m (fab 2 rfl T.f264_2 (.t n3)) u12 <| k (st1 T.o3 rfl n2 u2 q2 (.t n12) (.t n11)) <| e ?_
 refine sr <| m (fab 3 rfl T.f315_3 (.t n1)) u13 <| m (ldb T.o4 n0 n3 (.t n13)) u14 <| m (fab 3 rfl T.f264_3 (.t n3)) u15 <| k (st1 T.o4 rfl n2 u3 q2 (.t n15) (.t n14)) <| e ?_
 refine sr <| m (lab T.a264 n2 d0 k4 (.t n3)) u16 <| k (sta T.a264 rfl rfl n1 (.z (.z (.z (.z .n)))) q1 (.t n2) (.t n16)) <| e ?_
 refine rt (ret1 (.a n2 T.a264 n1 rfl (.c (.p rfl) (.c (.p rfl) (.c (.p rfl) (.c (.p rfl) .n)))) .n) ?_)
 rfl

theorem sp_laws_toEntryS (l : List D.Entry) (hl : l.length ≤ 1048576) : Spec Tryz.prog G0 265 [.slice 4 (l.map D.Entry.V)] (fun r => r = .slice 4 (l.map D.Entry.V)) := by
 refine enter (l := [.tmp 2]) Tryz.func265 rfl Tryz.ntmps265 rfl T.en265 fun E => ?_
 simp only [List.length_cons, List.length_nil, List.replicate_succ, List.replicate_zero, List.cons_append, List.nil_append, Nat.reduceAdd, Nat.reduceSub]
 refine sr <| m (as_ .n) u2 <| e ?_
 refine sr <| m (mv (.t n0)) u5 <| m (lenm T.s123 (.t n5)) u6 <| k (mk_ T.s114 T.z264 (by omega) (by omega) s0 u7 (.t n6) (.t n6)) <| m (as_ (.t n7)) u3 <| e ?_
 refine sq ?_
 refine sr <| m (as_ (.i rfl)) u4 <| e ?_
 refine bk ?_
 refine lp (fun i : Nat => ⟨[.slice 4 (l.map D.Entry.V), .any, .nil, .own 0, .int .i64 (i : Int), .any, .any, .own 0, .any, .any, .any, .any, .any, .any, .any, .any, .any, .any, .any, .any, .any, .any, .any], [.row 264 4 (pref D.Entry.V l [.int .i64 0, .int .i64 0, .int .i64 0, .bool false] i)]⟩) (fun i : Nat => i ≤ l.length) (fun i : Nat => l.length - i) (0) (by simp) (le [0] (by decide) (.c (.e rfl rfl) (.c .a (.c (.e rfl rfl) (.c (.w n0) (.c (.e rfl rfl) (.x2 (.c (.w n0) (.x8 (.x4 (.x2 (.c .a .n))))))))))) (.r n0 (pref_0 _ _ _).symm .n)) ?_
 rintro i hJ
 try dsimp only at hJ ⊢
 refine sq ?_
 refine sr <| m (mv (.t n4)) u8 <| m (mv (.t n0)) u9 <| m (lenm T.s123 (.t n9)) u10 <| m (lss (.t n8) (.t n10)) u11 <| e ?_
 refine cnd n11 (fun h1 => ?_) (fun h1 => ?_)
 ·
  replace h1 := of_decide_eq_true h1
  refine skp ?_
  refine sq ?_
  refine bk ?_
  refine rg <| m (mv (.t n3)) u14 <| m (mv (.t n4)) u15 <| m (mv (.t n0)) u16 <| m (mv (.t n4)) u17 <| m (ixm T.s123 (Int.natCast_nonneg _) (gi (by omega)) (.t n16) (.t n17)) u18 <| m (lae T.a315 k4 (.t n18)) u19 <| c (call (sp_laws_toEntry _) (.c (.t n19) rfl .n)) u20 <| m (oix T.s114 n0 (Int.natCast_nonneg _) (by rw [Int.toNat_natCast, pref_len (by omega)]; omega) (.t n14) (.t n15)) u21 <| k (stoA rfl (by rw [Int.toNat_natCast, pref_len (by omega)]; omega) T.a264 rfl rfl rfl n0 q0 (.t n21) (.t n20)) <| e ?_
  refine rg <| m (mv (.t n4)) u12 <| m (add (.t n12) (.i rfl)) u13 <| m (as_ (.t n13)) u4 <| e ?_
  exact ⟨i + 1, (by omega), (by omega), le [0] (by decide) (.c (.e rfl rfl) (.c .a (.c (.e rfl rfl) (.c (.w n0) (.c (.e (wi (by omega)) rfl) (.x2 (.c (.w n0) (.x8 (.x4 (.x2 (.c .a .n))))))))))) (.r n0 (pref_set (by omega)) .n)⟩
 ·
  replace h1 := of_decide_eq_false h1
  refine ex (x1 ?_)
  refine sr <| m (mv (.t n3)) u22 <| m (as_ (.t n22)) u2 <| e ?_
  refine rt (ret1 (.t n2 (.o n0) .n) ?_)
  show V.slice _ _ = V.slice _ _
  rw [show i = l.length from by omega, pref_full]

theorem sp_laws_toBundle (x : D.Bundle) (hl : x.sz ≤ 1048576) : Spec Tryz.prog G0 181 [.agg (D.Bundle.V x)] (fun r => r = .agg x.V) := by
 simp only [D.Bundle.sz] at hl
 refine enter (l := [.cell 2 116]) Tryz.func181 rfl Tryz.ntmps181 rfl T.en181 fun E => ?_
 simp only [List.length_cons, List.length_nil, List.replicate_succ, List.replicate_zero, List.cons_append, List.nil_append, Nat.reduceAdd, Nat.reduceSub]
 refine sr <| k (bx rfl s0 u1 (.t n0)) <| k (al T.z116 s1 u2) <| e ?_
 refine sr <| k (al T.z116 s2 u3) <| e ?_
 refine sr <| m (fab 0 rfl T.f125_0 (.t n1)) u4 <| m (ldb T.o123 n0 n0 (.t n4)) u5 <| c (call (sp_laws_toEntryS _ (by first | assumption | omega)) (.c (.t n5) rfl .n)) u6 <| m (fab 0 rfl T.f116_0 (.t n3)) u7 <| k (st1 T.o114 rfl n2 u0 q2 (.t n7) (.t n6)) <| e ?_
 refine sr <| m (lab T.a116 n2 d0 k1 (.t n3)) u8 <| k (sta T.a116 rfl rfl n1 (.z .n) q1 (.t n2) (.t n8)) <| e ?_
 refine rt (ret1 (.a n2 T.a116 n1 rfl (.c (.p rfl) .n) .n) ?_)
 rfl

theorem sp_laws_toDevice (x : D.Device) (hl : x.sz ≤ 1048576) : Spec Tryz.prog G0 91 [.agg (D.Device.V x)] (fun r => r = .agg x.V) := by
 simp only [D.Device.sz] at hl
 refine enter (l := [.cell 2 118]) Tryz.func91 rfl Tryz.ntmps91 rfl T.en91 fun E => ?_
 simp only [List.length_cons, List.length_nil, List.replicate_succ, List.replicate_zero, List.cons_append, List.nil_append, Nat.reduceAdd, Nat.reduceSub]
 refine sr <| k (bx rfl s0 u1 (.t n0)) <| k (al T.z118 s1 u2) <| e ?_
 refine sr <| k (al T.z118 s2 u3) <| e ?_
 refine sr <| m (fab 0 rfl T.f127_0 (.t n1)) u4 <| m (lab T.a122 n0 d0 k4 (.t n4)) u5 <| c (call (sp_laws_toKeyStore _) (.c (.t n5) rfl .n)) u6 <| m (fab 0 rfl T.f118_0 (.t n3)) u7 <| k (sta T.a113 rfl rfl n2 (.z (.z (.z (.z .n)))) q2 (.t n7) (.t n6)) <| e ?_
 refine sr <| m (fab 4 rfl T.f127_1 (.t n1)) u8 <| m (ldb T.o24 n0 n4 (.t n8)) u9 <| c (call (sp_laws_toLogEntryS _ (by first | assumption | omega)) (.c (.t n9) rfl .n)) u10 <| m (fab 4 rfl T.f118_1 (.t n3)) u11 <| k (st1 T.o43 rfl n2 u4 q2 (.t n11) (.t n10)) <| e ?_
 refine sr <| m (fab 5 rfl T.f127_2 (.t n1)) u12 <| m (ldb T.o3 n0 n5 (.t n12)) u13 <| m (fab 5 rfl T.f118_2 (.t n3)) u14 <| k (st1 T.o3 rfl n2 u5 q2 (.t n14) (.t n13)) <| e ?_
 refine sr <| m (fab 6 rfl T.f127_3 (.t n1)) u15 <| m (ldb T.o3 n0 n6 (.t n15)) u16 <| m (fab 6 rfl T.f118_3 (.t n3)) u17 <| k (st1 T.o3 rfl n2 u6 q2 (.t n17) (.t n16)) <| e ?_
 refine sr <| m (fab 7 rfl T.f127_4 (.t n1)) u18 <| m (ldb T.o3 n0 n7 (.t n18)) u19 <| m (fab 7 rfl T.f118_4 (.t n3)) u20 <| k (st1 T.o3 rfl n2 u7 q2 (.t n20) (.t n19)) <| e ?_
 refine sr <| m (fab 8 rfl T.f127_5 (.t n1)) u21 <| m (lab T.a125 n0 d8 k1 (.t n21)) u22 <| c (call (sp_laws_toBundle _ (by first | assumption | (simp only [D.Box.sz, D.EpochBoxes.sz, D.LogEntry.sz, D.SealedBundle.sz, D.Cloud.sz, D.Vault.sz, D.Notice.sz, D.Mailbox.sz, D.KeyStore.sz, D.Entry.sz, D.Bundle.sz, D.Device.sz, D.Credential.sz, D.Account.sz, D.Challenge.sz, D.ChallengeBook.sz, D.Site.sz, D.Share.sz, D.Keeper.sz, D.KeeperHost.sz, D.World.sz] at *; omega))) (.c (.t n22) rfl .n)) u23 <| m (fab 8 rfl T.f118_5 (.t n3)) u24 <| k (sta T.a116 rfl rfl n2 (.s (.s (.s (.s (.s (.s (.s (.s (.z .n))))))))) q2 (.t n24) (.t n23)) <| e ?_
 refine sr <| m (lab T.a118 n2 d0 k9 (.t n3)) u25 <| k (sta T.a118 rfl rfl n1 (.z (.z (.z (.z (.z (.z (.z (.z (.z .n))))))))) q1 (.t n2) (.t n25)) <| e ?_
 refine rt (ret1 (.a n2 T.a118 n1 rfl (.c (.p rfl) (.c (.p rfl) (.c (.p rfl) (.c (.p rfl) (.c (.p rfl) (.c (.p rfl) (.c (.p rfl) (.c (.p rfl) (.c (.p rfl) .n))))))))) .n) ?_)
 rfl

theorem sp_laws_toDeviceS (l : List D.Device) (hl : l.length + (l.map D.Device.sz).sum ≤ 1048576) : Spec Tryz.prog G0 32 [.slice 9 (l.map D.Device.V)] (fun r => r = .slice 9 (l.map D.Device.V)) := by
 have hmem : ∀ (j : Nat) (h : j < l.length), (l[j]'h).sz ≤ (l.map D.Device.sz).sum := fun j h => sum_mem D.Device.sz l _ (List.getElem_mem h)
 refine enter (l := [.tmp 2]) Tryz.func32 rfl Tryz.ntmps32 rfl T.en32 fun E => ?_
 simp only [List.length_cons, List.length_nil, List.replicate_succ, List.replicate_zero, List.cons_append, List.nil_append, Nat.reduceAdd, Nat.reduceSub]
 refine sr <| m (as_ .n) u2 <| e ?_
 refine sr <| m (mv (.t n0)) u5 <| m (lenm T.s22 (.t n5)) u6 <| k (mk_ T.s42 T.z118 (by omega) (by omega) s0 u7 (.t n6) (.t n6)) <| m (as_ (.t n7)) u3 <| e ?_
 refine sq ?_
 refine sr <| m (as_ (.i rfl)) u4 <| e ?_
 refine bk ?_
 refine lp (fun i : Nat => ⟨[.slice 9 (l.map D.Device.V), .any, .nil, .own 0, .int .i64 (i : Int), .any, .any, .own 0, .any, .any, .any, .any, .any, .any, .any, .any, .any, .any, .any, .any, .any, .any, .any], [.row 118 9 (pref D.Device.V l [.int .i64 0, .int .i64 0, .int .i64 0, .int .i64 0, .nil, .int .i64 0, .int .i64 0, .int .i64 0, .nil] i)]⟩) (fun i : Nat => i ≤ l.length) (fun i : Nat => l.length - i) (0) (by simp) (le [0] (by decide) (.c (.e rfl rfl) (.c .a (.c (.e rfl rfl) (.c (.w n0) (.c (.e rfl rfl) (.x2 (.c (.w n0) (.x8 (.x4 (.x2 (.c .a .n))))))))))) (.r n0 (pref_0 _ _ _).symm .n)) ?_
 rintro i hJ
 try dsimp only at hJ ⊢
 refine sq ?_
 refine sr <| m (mv (.t n4)) u8 <| m (mv (.t n0)) u9 <| m (lenm T.s22 (.t n9)) u10 <| m (lss (.t n8) (.t n10)) u11 <| e ?_
 refine cnd n11 (fun h1 => ?_) (fun h1 => ?_)
 ·
  replace h1 := of_decide_eq_true h1
  refine skp ?_
  refine sq ?_
  refine bk ?_
  refine rg <| m (mv (.t n3)) u14 <| m (mv (.t n4)) u15 <| m (mv (.t n0)) u16 <| m (mv (.t n4)) u17 <| m (ixm T.s22 (Int.natCast_nonneg _) (gi (by omega)) (.t n16) (.t n17)) u18 <| m (lae T.a127 k9 (.t n18)) u19 <| c (call (sp_laws_toDevice _ (by have := hmem i (by omega); omega)) (.c (.t n19) rfl .n)) u20 <| m (oix T.s42 n0 (Int.natCast_nonneg _) (by rw [Int.toNat_natCast, pref_len (by omega)]; omega) (.t n14) (.t n15)) u21 <| k (stoA rfl (by rw [Int.toNat_natCast, pref_len (by omega)]; omega) T.a118 rfl rfl rfl n0 q0 (.t n21) (.t n20)) <| e ?_
  refine rg <| m (mv (.t n4)) u12 <| m (add (.t n12) (.i rfl)) u13 <| m (as_ (.t n13)) u4 <| e ?_
  exact ⟨i + 1, (by omega), (by omega), le [0] (by decide) (.c (.e rfl rfl) (.c .a (.c (.e rfl rfl) (.c (.w n0) (.c (.e (wi (by omega)) rfl) (.x2 (.c (.w n0) (.x8 (.x4 (.x2 (.c .a .n))))))))))) (.r n0 (pref_set (by omega)) .n)⟩
 ·
  replace h1 := of_decide_eq_false h1
  refine ex (x1 ?_)
  refine sr <| m (mv (.t n3)) u22 <| m (as_ (.t n22)) u2 <| e ?_
  refine rt (ret1 (.t n2 (.o n0) .n) ?_)
  show V.slice _ _ = V.slice _ _
  rw [show i = l.length from by omega, pref_full]

theorem sp_laws_toBoolS (l : List Bool) (hl : l.length ≤ 1048576) : Spec Tryz.prog G0 33 [.slice 1 (l.map bV)] (fun r => r = .slice 1 (l.map bV)) := by
 refine enter (l := [.tmp 2]) Tryz.func33 rfl Tryz.ntmps33 rfl T.en33 fun E => ?_
 simp only [List.length_cons, List.length_nil, List.replicate_succ, List.replicate_zero, List.cons_append, List.nil_append, Nat.reduceAdd, Nat.reduceSub]
 refine sr <| m (as_ .n) u2 <| e ?_
 refine sr <| m (mv (.t n0)) u5 <| m (lenm T.s23 (.t n5)) u6 <| k (mk_ T.s23 T.z4 (by omega) (by omega) s0 u7 (.t n6) (.t n6)) <| m (as_ (.t n7)) u3 <| e ?_
 refine sq ?_
 refine sr <| m (as_ (.i rfl)) u4 <| e ?_
 refine bk ?_
 refine lp (fun i : Nat => ⟨[.slice 1 (l.map bV), .any, .nil, .own 0, .int .i64 (i : Int), .any, .any, .own 0, .any, .any, .any, .any, .any, .any, .any, .any, .any, .any, .any, .any, .any, .any], [.row 4 1 (pref bV l [.bool false] i)]⟩) (fun i : Nat => i ≤ l.length) (fun i : Nat => l.length - i) (0) (by simp) (le [0] (by decide) (.c (.e rfl rfl) (.c .a (.c (.e rfl rfl) (.c (.w n0) (.c (.e rfl rfl) (.x2 (.c (.w n0) (.x8 (.x4 (.x2 .n)))))))))) (.r n0 (pref_0 _ _ _).symm .n)) ?_
 rintro i hJ
 try dsimp only at hJ ⊢
 refine sq ?_
 refine sr <| m (mv (.t n4)) u8 <| m (mv (.t n0)) u9 <| m (lenm T.s23 (.t n9)) u10 <| m (lss (.t n8) (.t n10)) u11 <| e ?_
 refine cnd n11 (fun h1 => ?_) (fun h1 => ?_)
 ·
  replace h1 := of_decide_eq_true h1
  refine skp ?_
  refine sq ?_
  refine bk ?_
  refine rg <| m (mv (.t n3)) u14 <| m (mv (.t n4)) u15 <| m (mv (.t n0)) u16 <| m (mv (.t n4)) u17 <| m (ixm T.s23 (Int.natCast_nonneg _) (gi (by omega)) (.t n16) (.t n17)) u18 <| m (lde T.o4 n0 (.t n18)) u19 <| m (oix T.s23 n0 (Int.natCast_nonneg _) (by rw [Int.toNat_natCast, pref_len (by omega)]; omega) (.t n14) (.t n15)) u20 <| k (stoO rfl (by rw [Int.toNat_natCast, pref_len (by omega)]; omega) T.o4 rfl rfl rfl n0 q0 (.t n20) (.t n19)) <| e ?_
  refine rg <| m (mv (.t n4)) u12 <| m (add (.t n12) (.i rfl)) u13 <| m (as_ (.t n13)) u4 <| e ?_
  exact ⟨i + 1, (by omega), (by omega), le [0] (by decide) (.c (.e rfl rfl) (.c .a (.c (.e rfl rfl) (.c (.w n0) (.c (.e (wi (by omega)) rfl) (.x2 (.c (.w n0) (.x8 (.x4 (.x2 .n)))))))))) (.r n0 (pref_set (by omega)) .n)⟩
 ·
  replace h1 := of_decide_eq_false h1
  refine ex (x1 ?_)
  refine sr <| m (mv (.t n3)) u21 <| m (as_ (.t n21)) u2 <| e ?_
  refine rt (ret1 (.t n2 (.o n0) .n) ?_)
  show V.slice _ _ = V.slice _ _
  rw [show i = l.length from by omega, pref_full]

theorem sp_laws_toByteS (l : List Int) (hl : l.length ≤ 1048576) : Spec Tryz.prog G0 267 [.slice 1 (l.map y8)] (fun r => r = .slice 1 (l.map y8)) := by
 refine enter (l := [.tmp 2]) Tryz.func267 rfl Tryz.ntmps267 rfl T.en267 fun E => ?_
 simp only [List.length_cons, List.length_nil, List.replicate_succ, List.replicate_zero, List.cons_append, List.nil_append, Nat.reduceAdd, Nat.reduceSub]
 refine sr <| m (as_ .n) u2 <| e ?_
 refine sr <| m (mv (.t n0)) u5 <| m (lenm T.s207 (.t n5)) u6 <| k (mk_ T.s207 T.z5 (by omega) (by omega) s0 u7 (.t n6) (.t n6)) <| m (as_ (.t n7)) u3 <| e ?_
 refine sq ?_
 refine sr <| m (as_ (.i rfl)) u4 <| e ?_
 refine bk ?_
 refine lp (fun i : Nat => ⟨[.slice 1 (l.map y8), .any, .nil, .own 0, .int .i64 (i : Int), .any, .any, .own 0, .any, .any, .any, .any, .any, .any, .any, .any, .any, .any, .any, .any, .any, .any], [.row 5 1 (pref y8 l [.int .u8 0] i)]⟩) (fun i : Nat => i ≤ l.length) (fun i : Nat => l.length - i) (0) (by simp) (le [0] (by decide) (.c (.e rfl rfl) (.c .a (.c (.e rfl rfl) (.c (.w n0) (.c (.e rfl rfl) (.x2 (.c (.w n0) (.x8 (.x4 (.x2 .n)))))))))) (.r n0 (pref_0 _ _ _).symm .n)) ?_
 rintro i hJ
 try dsimp only at hJ ⊢
 refine sq ?_
 refine sr <| m (mv (.t n4)) u8 <| m (mv (.t n0)) u9 <| m (lenm T.s207 (.t n9)) u10 <| m (lss (.t n8) (.t n10)) u11 <| e ?_
 refine cnd n11 (fun h1 => ?_) (fun h1 => ?_)
 ·
  replace h1 := of_decide_eq_true h1
  refine skp ?_
  refine sq ?_
  refine bk ?_
  refine rg <| m (mv (.t n3)) u14 <| m (mv (.t n4)) u15 <| m (mv (.t n0)) u16 <| m (mv (.t n4)) u17 <| m (ixm T.s207 (Int.natCast_nonneg _) (gi (by omega)) (.t n16) (.t n17)) u18 <| m (lde T.o5 n0 (.t n18)) u19 <| m (oix T.s207 n0 (Int.natCast_nonneg _) (by rw [Int.toNat_natCast, pref_len (by omega)]; omega) (.t n14) (.t n15)) u20 <| k (stoO rfl (by rw [Int.toNat_natCast, pref_len (by omega)]; omega) T.o5 rfl rfl rfl n0 q0 (.t n20) (.t n19)) <| e ?_
  refine rg <| m (mv (.t n4)) u12 <| m (add (.t n12) (.i rfl)) u13 <| m (as_ (.t n13)) u4 <| e ?_
  exact ⟨i + 1, (by omega), (by omega), le [0] (by decide) (.c (.e rfl rfl) (.c .a (.c (.e rfl rfl) (.c (.w n0) (.c (.e (wi (by omega)) rfl) (.x2 (.c (.w n0) (.x8 (.x4 (.x2 .n)))))))))) (.r n0 (pref_set (by omega)) .n)⟩
 ·
  replace h1 := of_decide_eq_false h1
  refine ex (x1 ?_)
  refine sr <| m (mv (.t n3)) u21 <| m (as_ (.t n21)) u2 <| e ?_
  refine rt (ret1 (.t n2 (.o n0) .n) ?_)
  show V.slice _ _ = V.slice _ _
  rw [show i = l.length from by omega, pref_full]

theorem sp_laws_toBox (x : D.Box) (hl : x.sz ≤ 1048576) : Spec Tryz.prog G0 266 [.agg (D.Box.V x)] (fun r => r = .agg x.V) := by
 simp only [D.Box.sz] at hl
 refine enter (l := [.cell 2 293]) Tryz.func266 rfl Tryz.ntmps266 rfl T.en266 fun E => ?_
 simp only [List.length_cons, List.length_nil, List.replicate_succ, List.replicate_zero, List.cons_append, List.nil_append, Nat.reduceAdd, Nat.reduceSub]
 refine sr <| k (bx rfl s0 u1 (.t n0)) <| k (al T.z293 s1 u2) <| e ?_
 refine sr <| k (al T.z293 s2 u3) <| e ?_
 refine sr <| m (fab 0 rfl T.f283_0 (.t n1)) u4 <| m (ldb T.o3 n0 n0 (.t n4)) u5 <| m (fab 0 rfl T.f293_0 (.t n3)) u6 <| k (st1 T.o3 rfl n2 u0 q2 (.t n6) (.t n5)) <| e ?_
 refine sr <| m (fab 1 rfl T.f283_1 (.t n1)) u7 <| m (ldb T.o3 n0 n1 (.t n7)) u8 <| m (fab 1 rfl T.f293_1 (.t n3)) u9 <| k (st1 T.o3 rfl n2 u1 q2 (.t n9) (.t n8)) <| e ?_
 refine sr <| m (fab 2 rfl T.f283_2 (.t n1)) u10 <| m (ldb T.o207 n0 n2 (.t n10)) u11 <| c (call (sp_laws_toByteS _ (by first | assumption | omega)) (.c (.t n11) rfl .n)) u12 <| m (fab 2 rfl T.f293_2 (.t n3)) u13 <| k (st1 T.o207 rfl n2 u2 q2 (.t n13) (.t n12)) <| e ?_
 refine sr <| m (fab 3 rfl T.f283_3 (.t n1)) u14 <| m (ldb T.o3 n0 n3 (.t n14)) u15 <| m (fab 3 rfl T.f293_3 (.t n3)) u16 <| k (st1 T.o3 rfl n2 u3 q2 (.t n16) (.t n15)) <| e ?_
 refine sr <| m (lab T.a293 n2 d0 k4 (.t n3)) u17 <| k (sta T.a293 rfl rfl n1 (.z (.z (.z (.z .n)))) q1 (.t n2) (.t n17)) <| e ?_
 refine rt (ret1 (.a n2 T.a293 n1 rfl (.c (.p rfl) (.c (.p rfl) (.c (.p rfl) (.c (.p rfl) .n)))) .n) ?_)
 rfl

theorem sp_laws_toBoxS (l : List D.Box) (hl : l.length + (l.map D.Box.sz).sum ≤ 1048576) : Spec Tryz.prog G0 183 [.slice 4 (l.map D.Box.V)] (fun r => r = .slice 4 (l.map D.Box.V)) := by
 have hmem : ∀ (j : Nat) (h : j < l.length), (l[j]'h).sz ≤ (l.map D.Box.sz).sum := fun j h => sum_mem D.Box.sz l _ (List.getElem_mem h)
 refine enter (l := [.tmp 2]) Tryz.func183 rfl Tryz.ntmps183 rfl T.en183 fun E => ?_
 simp only [List.length_cons, List.length_nil, List.replicate_succ, List.replicate_zero, List.cons_append, List.nil_append, Nat.reduceAdd, Nat.reduceSub]
 refine sr <| m (as_ .n) u2 <| e ?_
 refine sr <| m (mv (.t n0)) u5 <| m (lenm T.s25 (.t n5)) u6 <| k (mk_ T.s44 T.z293 (by omega) (by omega) s0 u7 (.t n6) (.t n6)) <| m (as_ (.t n7)) u3 <| e ?_
 refine sq ?_
 refine sr <| m (as_ (.i rfl)) u4 <| e ?_
 refine bk ?_
 refine lp (fun i : Nat => ⟨[.slice 4 (l.map D.Box.V), .any, .nil, .own 0, .int .i64 (i : Int), .any, .any, .own 0, .any, .any, .any, .any, .any, .any, .any, .any, .any, .any, .any, .any, .any, .any, .any], [.row 293 4 (pref D.Box.V l [.int .i64 0, .int .i64 0, .nil, .int .i64 0] i)]⟩) (fun i : Nat => i ≤ l.length) (fun i : Nat => l.length - i) (0) (by simp) (le [0] (by decide) (.c (.e rfl rfl) (.c .a (.c (.e rfl rfl) (.c (.w n0) (.c (.e rfl rfl) (.x2 (.c (.w n0) (.x8 (.x4 (.x2 (.c .a .n))))))))))) (.r n0 (pref_0 _ _ _).symm .n)) ?_
 rintro i hJ
 try dsimp only at hJ ⊢
 refine sq ?_
 refine sr <| m (mv (.t n4)) u8 <| m (mv (.t n0)) u9 <| m (lenm T.s25 (.t n9)) u10 <| m (lss (.t n8) (.t n10)) u11 <| e ?_
 refine cnd n11 (fun h1 => ?_) (fun h1 => ?_)
 ·
  replace h1 := of_decide_eq_true h1
  refine skp ?_
  refine sq ?_
  refine bk ?_
  refine rg <| m (mv (.t n3)) u14 <| m (mv (.t n4)) u15 <| m (mv (.t n0)) u16 <| m (mv (.t n4)) u17 <| m (ixm T.s25 (Int.natCast_nonneg _) (gi (by omega)) (.t n16) (.t n17)) u18 <| m (lae T.a283 k4 (.t n18)) u19 <| c (call (sp_laws_toBox _ (by have := hmem i (by omega); omega)) (.c (.t n19) rfl .n)) u20 <| m (oix T.s44 n0 (Int.natCast_nonneg _) (by rw [Int.toNat_natCast, pref_len (by omega)]; omega) (.t n14) (.t n15)) u21 <| k (stoA rfl (by rw [Int.toNat_natCast, pref_len (by omega)]; omega) T.a293 rfl rfl rfl n0 q0 (.t n21) (.t n20)) <| e ?_
  refine rg <| m (mv (.t n4)) u12 <| m (add (.t n12) (.i rfl)) u13 <| m (as_ (.t n13)) u4 <| e ?_
  exact ⟨i + 1, (by omega), (by omega), le [0] (by decide) (.c (.e rfl rfl) (.c .a (.c (.e rfl rfl) (.c (.w n0) (.c (.e (wi (by omega)) rfl) (.x2 (.c (.w n0) (.x8 (.x4 (.x2 (.c .a .n))))))))))) (.r n0 (pref_set (by omega)) .n)⟩
 ·
  replace h1 := of_decide_eq_false h1
  refine ex (x1 ?_)
  refine sr <| m (mv (.t n3)) u22 <| m (as_ (.t n22)) u2 <| e ?_
  refine rt (ret1 (.t n2 (.o n0) .n) ?_)
  show V.slice _ _ = V.slice _ _
  rw [show i = l.length from by omega, pref_full]

theorem sp_laws_toEpochBoxes (x : D.EpochBoxes) (hl : x.sz ≤ 1048576) : Spec Tryz.prog G0 93 [.agg (D.EpochBoxes.V x)] (fun r => r = .agg x.V) := by
 simp only [D.EpochBoxes.sz] at hl
 refine enter (l := [.cell 2 46]) Tryz.func93 rfl Tryz.ntmps93 rfl T.en93 fun E => ?_
 simp only [List.length_cons, List.length_nil, List.replicate_succ, List.replicate_zero, List.cons_append, List.nil_append, Nat.reduceAdd, Nat.reduceSub]
 refine sr <| k (bx rfl s0 u1 (.t n0)) <| k (al T.z46 s1 u2) <| e ?_
 refine sr <| k (al T.z46 s2 u3) <| e ?_
 refine sr <| m (fab 0 rfl T.f27_0 (.t n1)) u4 <| m (ldb T.o3 n0 n0 (.t n4)) u5 <| m (fab 0 rfl T.f46_0 (.t n3)) u6 <| k (st1 T.o3 rfl n2 u0 q2 (.t n6) (.t n5)) <| e ?_
 refine sr <| m (fab 1 rfl T.f27_1 (.t n1)) u7 <| m (ldb T.o25 n0 n1 (.t n7)) u8 <| c (call (sp_laws_toBoxS _ (by first | assumption | omega)) (.c (.t n8) rfl .n)) u9 <| m (fab 1 rfl T.f46_1 (.t n3)) u10 <| k (st1 T.o44 rfl n2 u1 q2 (.t n10) (.t n9)) <| e ?_
 refine sr <| m (lab T.a46 n2 d0 k2 (.t n3)) u11 <| k (sta T.a46 rfl rfl n1 (.z (.z .n)) q1 (.t n2) (.t n11)) <| e ?_
 refine rt (ret1 (.a n2 T.a46 n1 rfl (.c (.p rfl) (.c (.p rfl) .n)) .n) ?_)
 rfl

theorem sp_laws_toSealedBundle (x : D.SealedBundle) (hl : x.sz ≤ 1048576) : Spec Tryz.prog G0 184 [.agg (D.SealedBundle.V x)] (fun r => r = .agg x.V) := by
 simp only [D.SealedBundle.sz] at hl
 refine enter (l := [.cell 2 226]) Tryz.func184 rfl Tryz.ntmps184 rfl T.en184 fun E => ?_
 simp only [List.length_cons, List.length_nil, List.replicate_succ, List.replicate_zero, List.cons_append, List.nil_append, Nat.reduceAdd, Nat.reduceSub]
 refine sr <| k (bx rfl s0 u1 (.t n0)) <| k (al T.z226 s1 u2) <| e ?_
 refine sr <| k (al T.z226 s2 u3) <| e ?_
 refine sr <| m (fab 0 rfl T.f209_0 (.t n1)) u4 <| m (ldb T.o3 n0 n0 (.t n4)) u5 <| m (fab 0 rfl T.f226_0 (.t n3)) u6 <| k (st1 T.o3 rfl n2 u0 q2 (.t n6) (.t n5)) <| e ?_
 refine sr <| m (fab 1 rfl T.f209_1 (.t n1)) u7 <| m (ldb T.o3 n0 n1 (.t n7)) u8 <| m (fab 1 rfl T.f226_1 (.t n3)) u9 <| k (st1 T.o3 rfl n2 u1 q2 (.t n9) (.t n8)) <| e ?_
 refine sr <| m (fab 2 rfl T.f209_2 (.t n1)) u10 <| m (ldb T.o207 n0 n2 (.t n10)) u11 <| c (call (sp_laws_toByteS _ (by first | assumption | omega)) (.c (.t n11) rfl .n)) u12 <| m (fab 2 rfl T.f226_2 (.t n3)) u13 <| k (st1 T.o207 rfl n2 u2 q2 (.t n13) (.t n12)) <| e ?_
 refine sr <| m (fab 3 rfl T.f209_3 (.t n1)) u14 <| m (ldb T.o3 n0 n3 (.t n14)) u15 <| m (fab 3 rfl T.f226_3 (.t n3)) u16 <| k (st1 T.o3 rfl n2 u3 q2 (.t n16) (.t n15)) <| e ?_
 refine sr <| m (lab T.a226 n2 d0 k4 (.t n3)) u17 <| k (sta T.a226 rfl rfl n1 (.z (.z (.z (.z .n)))) q1 (.t n2) (.t n17)) <| e ?_
 refine rt (ret1 (.a n2 T.a226 n1 rfl (.c (.p rfl) (.c (.p rfl) (.c (.p rfl) (.c (.p rfl) .n)))) .n) ?_)
 rfl

theorem sp_laws_toSealedBundleS (l : List D.SealedBundle) (hl : l.length + (l.map D.SealedBundle.sz).sum ≤ 1048576) : Spec Tryz.prog G0 94 [.slice 4 (l.map D.SealedBundle.V)] (fun r => r = .slice 4 (l.map D.SealedBundle.V)) := by
 have hmem : ∀ (j : Nat) (h : j < l.length), (l[j]'h).sz ≤ (l.map D.SealedBundle.sz).sum := fun j h => sum_mem D.SealedBundle.sz l _ (List.getElem_mem h)
 refine enter (l := [.tmp 2]) Tryz.func94 rfl Tryz.ntmps94 rfl T.en94 fun E => ?_
 simp only [List.length_cons, List.length_nil, List.replicate_succ, List.replicate_zero, List.cons_append, List.nil_append, Nat.reduceAdd, Nat.reduceSub]
 refine sr <| m (as_ .n) u2 <| e ?_
 refine sr <| m (mv (.t n0)) u5 <| m (lenm T.s28 (.t n5)) u6 <| k (mk_ T.s47 T.z226 (by omega) (by omega) s0 u7 (.t n6) (.t n6)) <| m (as_ (.t n7)) u3 <| e ?_
 refine sq ?_
 refine sr <| m (as_ (.i rfl)) u4 <| e ?_
 refine bk ?_
 refine lp (fun i : Nat => ⟨[.slice 4 (l.map D.SealedBundle.V), .any, .nil, .own 0, .int .i64 (i : Int), .any, .any, .own 0, .any, .any, .any, .any, .any, .any, .any, .any, .any, .any, .any, .any, .any, .any, .any], [.row 226 4 (pref D.SealedBundle.V l [.int .i64 0, .int .i64 0, .nil, .int .i64 0] i)]⟩) (fun i : Nat => i ≤ l.length) (fun i : Nat => l.length - i) (0) (by simp) (le [0] (by decide) (.c (.e rfl rfl) (.c .a (.c (.e rfl rfl) (.c (.w n0) (.c (.e rfl rfl) (.x2 (.c (.w n0) (.x8 (.x4 (.x2 (.c .a .n))))))))))) (.r n0 (pref_0 _ _ _).symm .n)) ?_
 rintro i hJ
 try dsimp only at hJ ⊢
 refine sq ?_
 refine sr <| m (mv (.t n4)) u8 <| m (mv (.t n0)) u9 <| m (lenm T.s28 (.t n9)) u10 <| m (lss (.t n8) (.t n10)) u11 <| e ?_
 refine cnd n11 (fun h1 => ?_) (fun h1 => ?_)
 ·
  replace h1 := of_decide_eq_true h1
  refine skp ?_
  refine sq ?_
  refine bk ?_
  refine rg <| m (mv (.t n3)) u14 <| m (mv (.t n4)) u15 <| m (mv (.t n0)) u16 <| m (mv (.t n4)) u17 <| m (ixm T.s28 (Int.natCast_nonneg _) (gi (by omega)) (.t n16) (.t n17)) u18 <| m (lae T.a209 k4 (.t n18)) u19 <| c (call (sp_laws_toSealedBundle _ (by have := hmem i (by omega); omega)) (.c (.t n19) rfl .n)) u20 <| m (oix T.s47 n0 (Int.natCast_nonneg _) (by rw [Int.toNat_natCast, pref_len (by omega)]; omega) (.t n14) (.t n15)) u21 <| k (stoA rfl (by rw [Int.toNat_natCast, pref_len (by omega)]; omega) T.a226 rfl rfl rfl n0 q0 (.t n21) (.t n20)) <| e ?_
  refine rg <| m (mv (.t n4)) u12 <| m (add (.t n12) (.i rfl)) u13 <| m (as_ (.t n13)) u4 <| e ?_
  exact ⟨i + 1, (by omega), (by omega), le [0] (by decide) (.c (.e rfl rfl) (.c .a (.c (.e rfl rfl) (.c (.w n0) (.c (.e (wi (by omega)) rfl) (.x2 (.c (.w n0) (.x8 (.x4 (.x2 (.c .a .n))))))))))) (.r n0 (pref_set (by omega)) .n)⟩
 ·
  replace h1 := of_decide_eq_false h1
  refine ex (x1 ?_)
  refine sr <| m (mv (.t n3)) u22 <| m (as_ (.t n22)) u2 <| e ?_
  refine rt (ret1 (.t n2 (.o n0) .n) ?_)
  show V.slice _ _ = V.slice _ _
  rw [show i = l.length from by omega, pref_full]

theorem sp_laws_toCloud (x : D.Cloud) (hl : x.sz ≤ 1048576) : Spec Tryz.prog G0 34 [.agg (D.Cloud.V x)] (fun r => r = .agg x.V) := by
 simp only [D.Cloud.sz] at hl
 refine enter (l := [.cell 2 49]) Tryz.func34 rfl Tryz.ntmps34 rfl T.en34 fun E => ?_
 simp only [List.length_cons, List.length_nil, List.replicate_succ, List.replicate_zero, List.cons_append, List.nil_append, Nat.reduceAdd, Nat.reduceSub]
 refine sr <| k (bx rfl s0 u1 (.t n0)) <| k (al T.z49 s1 u2) <| e ?_
 refine sr <| k (al T.z49 s2 u3) <| e ?_
 refine sr <| m (fab 0 rfl T.f30_0 (.t n1)) u4 <| m (ldb T.o24 n0 n0 (.t n4)) u5 <| c (call (sp_laws_toLogEntryS _ (by first | assumption | omega)) (.c (.t n5) rfl .n)) u6 <| m (fab 0 rfl T.f49_0 (.t n3)) u7 <| k (st1 T.o43 rfl n2 u0 q2 (.t n7) (.t n6)) <| e ?_
 refine sr <| m (fab 1 rfl T.f30_1 (.t n1)) u8 <| m (lab T.a27 n0 d1 k2 (.t n8)) u9 <| c (call (sp_laws_toEpochBoxes _ (by first | assumption | (simp only [D.Box.sz, D.EpochBoxes.sz, D.LogEntry.sz, D.SealedBundle.sz, D.Cloud.sz, D.Vault.sz, D.Notice.sz, D.Mailbox.sz, D.KeyStore.sz, D.Entry.sz, D.Bundle.sz, D.Device.sz, D.Credential.sz, D.Account.sz, D.Challenge.sz, D.ChallengeBook.sz, D.Site.sz, D.Share.sz, D.Keeper.sz, D.KeeperHost.sz, D.World.sz] at *; omega))) (.c (.t n9) rfl .n)) u10 <| m (fab 1 rfl T.f49_1 (.t n3)) u11 <| k (sta T.a46 rfl rfl n2 (.s (.z (.z .n))) q2 (.t n11) (.t n10)) <| e ?_
 refine sr <| m (fab 3 rfl T.f30_2 (.t n1)) u12 <| m (ldb T.o28 n0 n3 (.t n12)) u13 <| c (call (sp_laws_toSealedBundleS _ (by first | assumption | omega)) (.c (.t n13) rfl .n)) u14 <| m (fab 3 rfl T.f49_2 (.t n3)) u15 <| k (st1 T.o47 rfl n2 u3 q2 (.t n15) (.t n14)) <| e ?_
 refine sr <| m (lab T.a49 n2 d0 k4 (.t n3)) u16 <| k (sta T.a49 rfl rfl n1 (.z (.z (.z (.z .n)))) q1 (.t n2) (.t n16)) <| e ?_
 refine rt (ret1 (.a n2 T.a49 n1 rfl (.c (.p rfl) (.c (.p rfl) (.c (.p rfl) (.c (.p rfl) .n)))) .n) ?_)
 rfl

theorem sp_laws_toCredential (x : D.Credential) : Spec Tryz.prog G0 315 [.agg (D.Credential.V x)] (fun r => r = .agg x.V) := by
 refine enter (l := [.cell 2 176]) Tryz.func315 rfl Tryz.ntmps315 rfl T.en315 fun E => ?_
 simp only [List.length_cons, List.length_nil, List.replicate_succ, List.replicate_zero, List.cons_append, List.nil_append, Nat.reduceAdd, Nat.reduceSub]
 refine sr <| k (bx rfl s0 u1 (.t n0)) <| k (al T.z176 s1 u2) <| e ?_
 refine sr <| k (al T.z176 s2 u3) <| e ?_
 refine sr <| m (fab 0 rfl T.f328_0 (.t n1)) u4 <| m (ldb T.o3 n0 n0 (.t n4)) u5 <| m (fab 0 rfl T.f176_0 (.t n3)) u6 <| k (st1 T.o3 rfl n2 u0 q2 (.t n6) (.t n5)) <| e ?_
 refine sr <| m (fab 1 rfl T.f328_1 (.t n1)) u7 <| m (ldb T.o3 n0 n1 (.t n7)) u8 <| m (fab 1 rfl T.f176_1 (.t n3)) u9 <| k (st1 T.o3 rfl n2 u1 q2 (.t n9) (.t n8)) <| e ?_
 refine sr <| m (fab 2 rfl T.f328_2 (.t n1)) u10 <| m (ldb T.o3 n0 n2 (.t n10)) u11 <| m (fab 2 rfl T.f176_2 (.t n3)) u12 <| k (st1 T.o3 rfl n2 u2 q2 (.t n12) (.t n11)) <| e ?_
 refine sr <| m (fab 3 rfl T.f328_3 (.t n1)) u13 <| m (ldb T.o4 n0 n3 (.t n13)) u14 <| m (fab 3 rfl T.f176_3 (.t n3)) u15 <| k (st1 T.o4 rfl n2 u3 q2 (.t n15) (.t n14)) <| e ?_
 refine sr <| m (lab T.a176 n2 d0 k4 (.t n3)) u16 <| k (sta T.a176 rfl rfl n1 (.z (.z (.z (.z .n)))) q1 (.t n2) (.t n16)) <| e ?_
 refine rt (ret1 (.a n2 T.a176 n1 rfl (.c (.p rfl) (.c (.p rfl) (.c (.p rfl) (.c (.p rfl) .n)))) .n) ?_)
 rfl

theorem sp_laws_toCredentialS (l : List D.Credential) (hl : l.length ≤ 1048576) : Spec Tryz.prog G0 301 [.slice 4 (l.map D.Credential.V)] (fun r => r = .slice 4 (l.map D.Credential.V)) := by
 refine enter (l := [.tmp 2]) Tryz.func301 rfl Tryz.ntmps301 rfl T.en301 fun E => ?_
 simp only [List.length_cons, List.length_nil, List.replicate_succ, List.replicate_zero, List.cons_append, List.nil_append, Nat.reduceAdd, Nat.reduceSub]
 refine sr <| m (as_ .n) u2 <| e ?_
 refine sr <| m (mv (.t n0)) u5 <| m (lenm T.s285 (.t n5)) u6 <| k (mk_ T.s172 T.z176 (by omega) (by omega) s0 u7 (.t n6) (.t n6)) <| m (as_ (.t n7)) u3 <| e ?_
 refine sq ?_
 refine sr <| m (as_ (.i rfl)) u4 <| e ?_
 refine bk ?_
 refine lp (fun i : Nat => ⟨[.slice 4 (l.map D.Credential.V), .any, .nil, .own 0, .int .i64 (i : Int), .any, .any, .own 0, .any, .any, .any, .any, .any, .any, .any, .any, .any, .any, .any, .any, .any, .any, .any], [.row 176 4 (pref D.Credential.V l [.int .i64 0, .int .i64 0, .int .i64 0, .bool false] i)]⟩) (fun i : Nat => i ≤ l.length) (fun i : Nat => l.length - i) (0) (by simp) (le [0] (by decide) (.c (.e rfl rfl) (.c .a (.c (.e rfl rfl) (.c (.w n0) (.c (.e rfl rfl) (.x2 (.c (.w n0) (.x8 (.x4 (.x2 (.c .a .n))))))))))) (.r n0 (pref_0 _ _ _).symm .n)) ?_
 rintro i hJ
 try dsimp only at hJ ⊢
 refine sq ?_
 refine sr <| m (mv (.t n4)) u8 <| m (mv (.t n0)) u9 <| m (lenm T.s285 (.t n9)) u10 <| m (lss (.t n8) (.t n10)) u11 <| e ?_
 refine cnd n11 (fun h1 => ?_) (fun h1 => ?_)
 ·
  replace h1 := of_decide_eq_true h1
  refine skp ?_
  refine sq ?_
  refine bk ?_
  refine rg <| m (mv (.t n3)) u14 <| m (mv (.t n4)) u15 <| m (mv (.t n0)) u16 <| m (mv (.t n4)) u17 <| m (ixm T.s285 (Int.natCast_nonneg _) (gi (by omega)) (.t n16) (.t n17)) u18 <| m (lae T.a328 k4 (.t n18)) u19 <| c (call (sp_laws_toCredential _) (.c (.t n19) rfl .n)) u20 <| m (oix T.s172 n0 (Int.natCast_nonneg _) (by rw [Int.toNat_natCast, pref_len (by omega)]; omega) (.t n14) (.t n15)) u21 <| k (stoA rfl (by rw [Int.toNat_natCast, pref_len (by omega)]; omega) T.a176 rfl rfl rfl n0 q0 (.t n21) (.t n20)) <| e ?_
  refine rg <| m (mv (.t n4)) u12 <| m (add (.t n12) (.i rfl)) u13 <| m (as_ (.t n13)) u4 <| e ?_
  exact ⟨i + 1, (by omega), (by omega), le [0] (by decide) (.c (.e rfl rfl) (.c .a (.c (.e rfl rfl) (.c (.w n0) (.c (.e (wi (by omega)) rfl) (.x2 (.c (.w n0) (.x8 (.x4 (.x2 (.c .a .n))))))))))) (.r n0 (pref_set (by omega)) .n)⟩
 ·
  replace h1 := of_decide_eq_false h1
  refine ex (x1 ?_)
  refine sr <| m (mv (.t n3)) u22 <| m (as_ (.t n22)) u2 <| e ?_
  refine rt (ret1 (.t n2 (.o n0) .n) ?_)
  show V.slice _ _ = V.slice _ _
  rw [show i = l.length from by omega, pref_full]

theorem sp_laws_toAccount (x : D.Account) (hl : x.sz ≤ 1048576) : Spec Tryz.prog G0 268 [.agg (D.Account.V x)] (fun r => r = .agg x.V) := by
 simp only [D.Account.sz] at hl
 refine enter (l := [.cell 2 174]) Tryz.func268 rfl Tryz.ntmps268 rfl T.en268 fun E => ?_
 simp only [List.length_cons, List.length_nil, List.replicate_succ, List.replicate_zero, List.cons_append, List.nil_append, Nat.reduceAdd, Nat.reduceSub]
 refine sr <| k (bx rfl s0 u1 (.t n0)) <| k (al T.z174 s1 u2) <| e ?_
 refine sr <| k (al T.z174 s2 u3) <| e ?_
 refine sr <| m (fab 0 rfl T.f287_0 (.t n1)) u4 <| m (ldb T.o3 n0 n0 (.t n4)) u5 <| m (fab 0 rfl T.f174_0 (.t n3)) u6 <| k (st1 T.o3 rfl n2 u0 q2 (.t n6) (.t n5)) <| e ?_
 refine sr <| m (fab 1 rfl T.f287_1 (.t n1)) u7 <| m (ldb T.o3 n0 n1 (.t n7)) u8 <| m (fab 1 rfl T.f174_1 (.t n3)) u9 <| k (st1 T.o3 rfl n2 u1 q2 (.t n9) (.t n8)) <| e ?_
 refine sr <| m (fab 2 rfl T.f287_2 (.t n1)) u10 <| m (ldb T.o285 n0 n2 (.t n10)) u11 <| c (call (sp_laws_toCredentialS _ (by first | assumption | omega)) (.c (.t n11) rfl .n)) u12 <| m (fab 2 rfl T.f174_2 (.t n3)) u13 <| k (st1 T.o172 rfl n2 u2 q2 (.t n13) (.t n12)) <| e ?_
 refine sr <| m (lab T.a174 n2 d0 k3 (.t n3)) u14 <| k (sta T.a174 rfl rfl n1 (.z (.z (.z .n))) q1 (.t n2) (.t n14)) <| e ?_
 refine rt (ret1 (.a n2 T.a174 n1 rfl (.c (.p rfl) (.c (.p rfl) (.c (.p rfl) .n))) .n) ?_)
 rfl

theorem sp_laws_toAccountS (l : List D.Account) (hl : l.length + (l.map D.Account.sz).sum ≤ 1048576) : Spec Tryz.prog G0 185 [.slice 3 (l.map D.Account.V)] (fun r => r = .slice 3 (l.map D.Account.V)) := by
 have hmem : ∀ (j : Nat) (h : j < l.length), (l[j]'h).sz ≤ (l.map D.Account.sz).sum := fun j h => sum_mem D.Account.sz l _ (List.getElem_mem h)
 refine enter (l := [.tmp 2]) Tryz.func185 rfl Tryz.ntmps185 rfl T.en185 fun E => ?_
 simp only [List.length_cons, List.length_nil, List.replicate_succ, List.replicate_zero, List.cons_append, List.nil_append, Nat.reduceAdd, Nat.reduceSub]
 refine sr <| m (as_ .n) u2 <| e ?_
 refine sr <| m (mv (.t n0)) u5 <| m (lenm T.s132 (.t n5)) u6 <| k (mk_ T.s147 T.z174 (by omega) (by omega) s0 u7 (.t n6) (.t n6)) <| m (as_ (.t n7)) u3 <| e ?_
 refine sq ?_
 refine sr <| m (as_ (.i rfl)) u4 <| e ?_
 refine bk ?_
 refine lp (fun i : Nat => ⟨[.slice 3 (l.map D.Account.V), .any, .nil, .own 0, .int .i64 (i : Int), .any, .any, .own 0, .any, .any, .any, .any, .any, .any, .any, .any, .any, .any, .any, .any, .any, .any, .any], [.row 174 3 (pref D.Account.V l [.int .i64 0, .int .i64 0, .nil] i)]⟩) (fun i : Nat => i ≤ l.length) (fun i : Nat => l.length - i) (0) (by simp) (le [0] (by decide) (.c (.e rfl rfl) (.c .a (.c (.e rfl rfl) (.c (.w n0) (.c (.e rfl rfl) (.x2 (.c (.w n0) (.x8 (.x4 (.x2 (.c .a .n))))))))))) (.r n0 (pref_0 _ _ _).symm .n)) ?_
 rintro i hJ
 try dsimp only at hJ ⊢
 refine sq ?_
 refine sr <| m (mv (.t n4)) u8 <| m (mv (.t n0)) u9 <| m (lenm T.s132 (.t n9)) u10 <| m (lss (.t n8) (.t n10)) u11 <| e ?_
 refine cnd n11 (fun h1 => ?_) (fun h1 => ?_)
 ·
  replace h1 := of_decide_eq_true h1
  refine skp ?_
  refine sq ?_
  refine bk ?_
  refine rg <| m (mv (.t n3)) u14 <| m (mv (.t n4)) u15 <| m (mv (.t n0)) u16 <| m (mv (.t n4)) u17 <| m (ixm T.s132 (Int.natCast_nonneg _) (gi (by omega)) (.t n16) (.t n17)) u18 <| m (lae T.a287 k3 (.t n18)) u19 <| c (call (sp_laws_toAccount _ (by have := hmem i (by omega); omega)) (.c (.t n19) rfl .n)) u20 <| m (oix T.s147 n0 (Int.natCast_nonneg _) (by rw [Int.toNat_natCast, pref_len (by omega)]; omega) (.t n14) (.t n15)) u21 <| k (stoA rfl (by rw [Int.toNat_natCast, pref_len (by omega)]; omega) T.a174 rfl rfl rfl n0 q0 (.t n21) (.t n20)) <| e ?_
  refine rg <| m (mv (.t n4)) u12 <| m (add (.t n12) (.i rfl)) u13 <| m (as_ (.t n13)) u4 <| e ?_
  exact ⟨i + 1, (by omega), (by omega), le [0] (by decide) (.c (.e rfl rfl) (.c .a (.c (.e rfl rfl) (.c (.w n0) (.c (.e (wi (by omega)) rfl) (.x2 (.c (.w n0) (.x8 (.x4 (.x2 (.c .a .n))))))))))) (.r n0 (pref_set (by omega)) .n)⟩
 ·
  replace h1 := of_decide_eq_false h1
  refine ex (x1 ?_)
  refine sr <| m (mv (.t n3)) u22 <| m (as_ (.t n22)) u2 <| e ?_
  refine rt (ret1 (.t n2 (.o n0) .n) ?_)
  show V.slice _ _ = V.slice _ _
  rw [show i = l.length from by omega, pref_full]

theorem sp_laws_toChallenge (x : D.Challenge) : Spec Tryz.prog G0 302 [.agg (D.Challenge.V x)] (fun r => r = .agg x.V) := by
 refine enter (l := [.cell 2 269]) Tryz.func302 rfl Tryz.ntmps302 rfl T.en302 fun E => ?_
 simp only [List.length_cons, List.length_nil, List.replicate_succ, List.replicate_zero, List.cons_append, List.nil_append, Nat.reduceAdd, Nat.reduceSub]
 refine sr <| k (bx rfl s0 u1 (.t n0)) <| k (al T.z269 s1 u2) <| e ?_
 refine sr <| k (al T.z269 s2 u3) <| e ?_
 refine sr <| m (fab 0 rfl T.f318_0 (.t n1)) u4 <| m (ldb T.o3 n0 n0 (.t n4)) u5 <| m (fab 0 rfl T.f269_0 (.t n3)) u6 <| k (st1 T.o3 rfl n2 u0 q2 (.t n6) (.t n5)) <| e ?_
 refine sr <| m (fab 1 rfl T.f318_1 (.t n1)) u7 <| m (ldb T.o3 n0 n1 (.t n7)) u8 <| m (fab 1 rfl T.f269_1 (.t n3)) u9 <| k (st1 T.o3 rfl n2 u1 q2 (.t n9) (.t n8)) <| e ?_
 refine sr <| m (fab 2 rfl T.f318_2 (.t n1)) u10 <| m (ldb T.o3 n0 n2 (.t n10)) u11 <| m (fab 2 rfl T.f269_2 (.t n3)) u12 <| k (st1 T.o3 rfl n2 u2 q2 (.t n12) (.t n11)) <| e ?_
 refine sr <| m (lab T.a269 n2 d0 k3 (.t n3)) u13 <| k (sta T.a269 rfl rfl n1 (.z (.z (.z .n))) q1 (.t n2) (.t n13)) <| e ?_
 refine rt (ret1 (.a n2 T.a269 n1 rfl (.c (.p rfl) (.c (.p rfl) (.c (.p rfl) .n))) .n) ?_)
 rfl

theorem sp_laws_toChallengeS (l : List D.Challenge) (hl : l.length ≤ 1048576) : Spec Tryz.prog G0 269 [.slice 3 (l.map D.Challenge.V)] (fun r => r = .slice 3 (l.map D.Challenge.V)) := by
 refine enter (l := [.tmp 2]) Tryz.func269 rfl Tryz.ntmps269 rfl T.en269 fun E => ?_
 simp only [List.length_cons, List.length_nil, List.replicate_succ, List.replicate_zero, List.cons_append, List.nil_append, Nat.reduceAdd, Nat.reduceSub]
 refine sr <| m (as_ .n) u2 <| e ?_
 refine sr <| m (mv (.t n0)) u5 <| m (lenm T.s133 (.t n5)) u6 <| k (mk_ T.s148 T.z269 (by omega) (by omega) s0 u7 (.t n6) (.t n6)) <| m (as_ (.t n7)) u3 <| e ?_
 refine sq ?_
 refine sr <| m (as_ (.i rfl)) u4 <| e ?_
 refine bk ?_
 refine lp (fun i : Nat => ⟨[.slice 3 (l.map D.Challenge.V), .any, .nil, .own 0, .int .i64 (i : Int), .any, .any, .own 0, .any, .any, .any, .any, .any, .any, .any, .any, .any, .any, .any, .any, .any, .any, .any], [.row 269 3 (pref D.Challenge.V l [.int .i64 0, .int .i64 0, .int .i64 0] i)]⟩) (fun i : Nat => i ≤ l.length) (fun i : Nat => l.length - i) (0) (by simp) (le [0] (by decide) (.c (.e rfl rfl) (.c .a (.c (.e rfl rfl) (.c (.w n0) (.c (.e rfl rfl) (.x2 (.c (.w n0) (.x8 (.x4 (.x2 (.c .a .n))))))))))) (.r n0 (pref_0 _ _ _).symm .n)) ?_
 rintro i hJ
 try dsimp only at hJ ⊢
 refine sq ?_
 refine sr <| m (mv (.t n4)) u8 <| m (mv (.t n0)) u9 <| m (lenm T.s133 (.t n9)) u10 <| m (lss (.t n8) (.t n10)) u11 <| e ?_
 refine cnd n11 (fun h1 => ?_) (fun h1 => ?_)
 ·
  replace h1 := of_decide_eq_true h1
  refine skp ?_
  refine sq ?_
  refine bk ?_
  refine rg <| m (mv (.t n3)) u14 <| m (mv (.t n4)) u15 <| m (mv (.t n0)) u16 <| m (mv (.t n4)) u17 <| m (ixm T.s133 (Int.natCast_nonneg _) (gi (by omega)) (.t n16) (.t n17)) u18 <| m (lae T.a318 k3 (.t n18)) u19 <| c (call (sp_laws_toChallenge _) (.c (.t n19) rfl .n)) u20 <| m (oix T.s148 n0 (Int.natCast_nonneg _) (by rw [Int.toNat_natCast, pref_len (by omega)]; omega) (.t n14) (.t n15)) u21 <| k (stoA rfl (by rw [Int.toNat_natCast, pref_len (by omega)]; omega) T.a269 rfl rfl rfl n0 q0 (.t n21) (.t n20)) <| e ?_
  refine rg <| m (mv (.t n4)) u12 <| m (add (.t n12) (.i rfl)) u13 <| m (as_ (.t n13)) u4 <| e ?_
  exact ⟨i + 1, (by omega), (by omega), le [0] (by decide) (.c (.e rfl rfl) (.c .a (.c (.e rfl rfl) (.c (.w n0) (.c (.e (wi (by omega)) rfl) (.x2 (.c (.w n0) (.x8 (.x4 (.x2 (.c .a .n))))))))))) (.r n0 (pref_set (by omega)) .n)⟩
 ·
  replace h1 := of_decide_eq_false h1
  refine ex (x1 ?_)
  refine sr <| m (mv (.t n3)) u22 <| m (as_ (.t n22)) u2 <| e ?_
  refine rt (ret1 (.t n2 (.o n0) .n) ?_)
  show V.slice _ _ = V.slice _ _
  rw [show i = l.length from by omega, pref_full]

theorem sp_laws_toChallengeBook (x : D.ChallengeBook) (hl : x.sz ≤ 1048576) : Spec Tryz.prog G0 186 [.agg (D.ChallengeBook.V x)] (fun r => r = .agg x.V) := by
 simp only [D.ChallengeBook.sz] at hl
 refine enter (l := [.cell 2 150]) Tryz.func186 rfl Tryz.ntmps186 rfl T.en186 fun E => ?_
 simp only [List.length_cons, List.length_nil, List.replicate_succ, List.replicate_zero, List.cons_append, List.nil_append, Nat.reduceAdd, Nat.reduceSub]
 refine sr <| k (bx rfl s0 u1 (.t n0)) <| k (al T.z150 s1 u2) <| e ?_
 refine sr <| k (al T.z150 s2 u3) <| e ?_
 refine sr <| m (fab 0 rfl T.f135_0 (.t n1)) u4 <| m (ldb T.o3 n0 n0 (.t n4)) u5 <| m (fab 0 rfl T.f150_0 (.t n3)) u6 <| k (st1 T.o3 rfl n2 u0 q2 (.t n6) (.t n5)) <| e ?_
 refine sr <| m (fab 1 rfl T.f135_1 (.t n1)) u7 <| m (ldb T.o3 n0 n1 (.t n7)) u8 <| m (fab 1 rfl T.f150_1 (.t n3)) u9 <| k (st1 T.o3 rfl n2 u1 q2 (.t n9) (.t n8)) <| e ?_
 refine sr <| m (fab 2 rfl T.f135_2 (.t n1)) u10 <| m (ldb T.o133 n0 n2 (.t n10)) u11 <| c (call (sp_laws_toChallengeS _ (by first | assumption | omega)) (.c (.t n11) rfl .n)) u12 <| m (fab 2 rfl T.f150_2 (.t n3)) u13 <| k (st1 T.o148 rfl n2 u2 q2 (.t n13) (.t n12)) <| e ?_
 refine sr <| m (lab T.a150 n2 d0 k3 (.t n3)) u14 <| k (sta T.a150 rfl rfl n1 (.z (.z (.z .n))) q1 (.t n2) (.t n14)) <| e ?_
 refine rt (ret1 (.a n2 T.a150 n1 rfl (.c (.p rfl) (.c (.p rfl) (.c (.p rfl) .n))) .n) ?_)
 rfl

theorem sp_laws_toIntS (l : List Int) (hl : l.length ≤ 1048576) : Spec Tryz.prog G0 187 [.slice 1 (l.map iV)] (fun r => r = .slice 1 (l.map iV)) := by
 refine enter (l := [.tmp 2]) Tryz.func187 rfl Tryz.ntmps187 rfl T.en187 fun E => ?_
 simp only [List.length_cons, List.length_nil, List.replicate_succ, List.replicate_zero, List.cons_append, List.nil_append, Nat.reduceAdd, Nat.reduceSub]
 refine sr <| m (as_ .n) u2 <| e ?_
 refine sr <| m (mv (.t n0)) u5 <| m (lenm T.s108 (.t n5)) u6 <| k (mk_ T.s108 T.z3 (by omega) (by omega) s0 u7 (.t n6) (.t n6)) <| m (as_ (.t n7)) u3 <| e ?_
 refine sq ?_
 refine sr <| m (as_ (.i rfl)) u4 <| e ?_
 refine bk ?_
 refine lp (fun i : Nat => ⟨[.slice 1 (l.map iV), .any, .nil, .own 0, .int .i64 (i : Int), .any, .any, .own 0, .any, .any, .any, .any, .any, .any, .any, .any, .any, .any, .any, .any, .any, .any], [.row 3 1 (pref iV l [.int .i64 0] i)]⟩) (fun i : Nat => i ≤ l.length) (fun i : Nat => l.length - i) (0) (by simp) (le [0] (by decide) (.c (.e rfl rfl) (.c .a (.c (.e rfl rfl) (.c (.w n0) (.c (.e rfl rfl) (.x2 (.c (.w n0) (.x8 (.x4 (.x2 .n)))))))))) (.r n0 (pref_0 _ _ _).symm .n)) ?_
 rintro i hJ
 try dsimp only at hJ ⊢
 refine sq ?_
 refine sr <| m (mv (.t n4)) u8 <| m (mv (.t n0)) u9 <| m (lenm T.s108 (.t n9)) u10 <| m (lss (.t n8) (.t n10)) u11 <| e ?_
 refine cnd n11 (fun h1 => ?_) (fun h1 => ?_)
 ·
  replace h1 := of_decide_eq_true h1
  refine skp ?_
  refine sq ?_
  refine bk ?_
  refine rg <| m (mv (.t n3)) u14 <| m (mv (.t n4)) u15 <| m (mv (.t n0)) u16 <| m (mv (.t n4)) u17 <| m (ixm T.s108 (Int.natCast_nonneg _) (gi (by omega)) (.t n16) (.t n17)) u18 <| m (lde T.o3 n0 (.t n18)) u19 <| m (oix T.s108 n0 (Int.natCast_nonneg _) (by rw [Int.toNat_natCast, pref_len (by omega)]; omega) (.t n14) (.t n15)) u20 <| k (stoO rfl (by rw [Int.toNat_natCast, pref_len (by omega)]; omega) T.o3 rfl rfl rfl n0 q0 (.t n20) (.t n19)) <| e ?_
  refine rg <| m (mv (.t n4)) u12 <| m (add (.t n12) (.i rfl)) u13 <| m (as_ (.t n13)) u4 <| e ?_
  exact ⟨i + 1, (by omega), (by omega), le [0] (by decide) (.c (.e rfl rfl) (.c .a (.c (.e rfl rfl) (.c (.w n0) (.c (.e (wi (by omega)) rfl) (.x2 (.c (.w n0) (.x8 (.x4 (.x2 .n)))))))))) (.r n0 (pref_set (by omega)) .n)⟩
 ·
  replace h1 := of_decide_eq_false h1
  refine ex (x1 ?_)
  refine sr <| m (mv (.t n3)) u21 <| m (as_ (.t n21)) u2 <| e ?_
  refine rt (ret1 (.t n2 (.o n0) .n) ?_)
  show V.slice _ _ = V.slice _ _
  rw [show i = l.length from by omega, pref_full]

theorem sp_laws_toSite (x : D.Site) (hl : x.sz ≤ 1048576) : Spec Tryz.prog G0 95 [.agg (D.Site.V x)] (fun r => r = .agg x.V) := by
 simp only [D.Site.sz] at hl
 refine enter (l := [.cell 2 152]) Tryz.func95 rfl Tryz.ntmps95 rfl T.en95 fun E => ?_
 simp only [List.length_cons, List.length_nil, List.replicate_succ, List.replicate_zero, List.cons_append, List.nil_append, Nat.reduceAdd, Nat.reduceSub]
 refine sr <| k (bx rfl s0 u1 (.t n0)) <| k (al T.z152 s1 u2) <| e ?_
 refine sr <| k (al T.z152 s2 u3) <| e ?_
 refine sr <| m (fab 0 rfl T.f137_0 (.t n1)) u4 <| m (ldb T.o9 n0 n0 (.t n4)) u5 <| m (fab 0 rfl T.f152_0 (.t n3)) u6 <| k (st1 T.o9 rfl n2 u0 q2 (.t n6) (.t n5)) <| e ?_
 refine sr <| m (fab 1 rfl T.f137_1 (.t n1)) u7 <| m (ldb T.o132 n0 n1 (.t n7)) u8 <| c (call (sp_laws_toAccountS _ (by first | assumption | omega)) (.c (.t n8) rfl .n)) u9 <| m (fab 1 rfl T.f152_1 (.t n3)) u10 <| k (st1 T.o147 rfl n2 u1 q2 (.t n10) (.t n9)) <| e ?_
 refine sr <| m (fab 2 rfl T.f137_2 (.t n1)) u11 <| m (lab T.a135 n0 d2 k3 (.t n11)) u12 <| c (call (sp_laws_toChallengeBook _ (by first | assumption | (simp only [D.Box.sz, D.EpochBoxes.sz, D.LogEntry.sz, D.SealedBundle.sz, D.Cloud.sz, D.Vault.sz, D.Notice.sz, D.Mailbox.sz, D.KeyStore.sz, D.Entry.sz, D.Bundle.sz, D.Device.sz, D.Credential.sz, D.Account.sz, D.Challenge.sz, D.ChallengeBook.sz, D.Site.sz, D.Share.sz, D.Keeper.sz, D.KeeperHost.sz, D.World.sz] at *; omega))) (.c (.t n12) rfl .n)) u13 <| m (fab 2 rfl T.f152_2 (.t n3)) u14 <| k (sta T.a150 rfl rfl n2 (.s (.s (.z (.z (.z .n))))) q2 (.t n14) (.t n13)) <| e ?_
 refine sr <| m (fab 5 rfl T.f137_3 (.t n1)) u15 <| m (ldb T.o108 n0 n5 (.t n15)) u16 <| c (call (sp_laws_toIntS _ (by first | assumption | omega)) (.c (.t n16) rfl .n)) u17 <| m (fab 5 rfl T.f152_3 (.t n3)) u18 <| k (st1 T.o108 rfl n2 u5 q2 (.t n18) (.t n17)) <| e ?_
 refine sr <| m (lab T.a152 n2 d0 k6 (.t n3)) u19 <| k (sta T.a152 rfl rfl n1 (.z (.z (.z (.z (.z (.z .n)))))) q1 (.t n2) (.t n19)) <| e ?_
 refine rt (ret1 (.a n2 T.a152 n1 rfl (.c (.p rfl) (.c (.p rfl) (.c (.p rfl) (.c (.p rfl) (.c (.p rfl) (.c (.p rfl) .n)))))) .n) ?_)
 rfl

theorem sp_laws_toSiteS (l : List D.Site) (hl : l.length + (l.map D.Site.sz).sum ≤ 1048576) : Spec Tryz.prog G0 35 [.slice 6 (l.map D.Site.V)] (fun r => r = .slice 6 (l.map D.Site.V)) := by
 have hmem : ∀ (j : Nat) (h : j < l.length), (l[j]'h).sz ≤ (l.map D.Site.sz).sum := fun j h => sum_mem D.Site.sz l _ (List.getElem_mem h)
 refine enter (l := [.tmp 2]) Tryz.func35 rfl Tryz.ntmps35 rfl T.en35 fun E => ?_
 simp only [List.length_cons, List.length_nil, List.replicate_succ, List.replicate_zero, List.cons_append, List.nil_append, Nat.reduceAdd, Nat.reduceSub]
 refine sr <| m (as_ .n) u2 <| e ?_
 refine sr <| m (mv (.t n0)) u5 <| m (lenm T.s31 (.t n5)) u6 <| k (mk_ T.s50 T.z152 (by omega) (by omega) s0 u7 (.t n6) (.t n6)) <| m (as_ (.t n7)) u3 <| e ?_
 refine sq ?_
 refine sr <| m (as_ (.i rfl)) u4 <| e ?_
 refine bk ?_
 refine lp (fun i : Nat => ⟨[.slice 6 (l.map D.Site.V), .any, .nil, .own 0, .int .i64 (i : Int), .any, .any, .own 0, .any, .any, .any, .any, .any, .any, .any, .any, .any, .any, .any, .any, .any, .any, .any], [.row 152 6 (pref D.Site.V l [.str ⟨#[]⟩, .nil, .int .i64 0, .int .i64 0, .nil, .nil] i)]⟩) (fun i : Nat => i ≤ l.length) (fun i : Nat => l.length - i) (0) (by simp) (le [0] (by decide) (.c (.e rfl rfl) (.c .a (.c (.e rfl rfl) (.c (.w n0) (.c (.e rfl rfl) (.x2 (.c (.w n0) (.x8 (.x4 (.x2 (.c .a .n))))))))))) (.r n0 (pref_0 _ _ _).symm .n)) ?_
 rintro i hJ
 try dsimp only at hJ ⊢
 refine sq ?_
 refine sr <| m (mv (.t n4)) u8 <| m (mv (.t n0)) u9 <| m (lenm T.s31 (.t n9)) u10 <| m (lss (.t n8) (.t n10)) u11 <| e ?_
 refine cnd n11 (fun h1 => ?_) (fun h1 => ?_)
 ·
  replace h1 := of_decide_eq_true h1
  refine skp ?_
  refine sq ?_
  refine bk ?_
  refine rg <| m (mv (.t n3)) u14 <| m (mv (.t n4)) u15 <| m (mv (.t n0)) u16 <| m (mv (.t n4)) u17 <| m (ixm T.s31 (Int.natCast_nonneg _) (gi (by omega)) (.t n16) (.t n17)) u18 <| m (lae T.a137 k6 (.t n18)) u19 <| c (call (sp_laws_toSite _ (by have := hmem i (by omega); omega)) (.c (.t n19) rfl .n)) u20 <| m (oix T.s50 n0 (Int.natCast_nonneg _) (by rw [Int.toNat_natCast, pref_len (by omega)]; omega) (.t n14) (.t n15)) u21 <| k (stoA rfl (by rw [Int.toNat_natCast, pref_len (by omega)]; omega) T.a152 rfl rfl rfl n0 q0 (.t n21) (.t n20)) <| e ?_
  refine rg <| m (mv (.t n4)) u12 <| m (add (.t n12) (.i rfl)) u13 <| m (as_ (.t n13)) u4 <| e ?_
  exact ⟨i + 1, (by omega), (by omega), le [0] (by decide) (.c (.e rfl rfl) (.c .a (.c (.e rfl rfl) (.c (.w n0) (.c (.e (wi (by omega)) rfl) (.x2 (.c (.w n0) (.x8 (.x4 (.x2 (.c .a .n))))))))))) (.r n0 (pref_set (by omega)) .n)⟩
 ·
  replace h1 := of_decide_eq_false h1
  refine ex (x1 ?_)
  refine sr <| m (mv (.t n3)) u22 <| m (as_ (.t n22)) u2 <| e ?_
  refine rt (ret1 (.t n2 (.o n0) .n) ?_)
  show V.slice _ _ = V.slice _ _
  rw [show i = l.length from by omega, pref_full]

theorem sp_laws_toVault (x : D.Vault) : Spec Tryz.prog G0 36 [.agg (D.Vault.V x)] (fun r => r = .agg x.V) := by
 refine enter (l := [.cell 2 51]) Tryz.func36 rfl Tryz.ntmps36 rfl T.en36 fun E => ?_
 simp only [List.length_cons, List.length_nil, List.replicate_succ, List.replicate_zero, List.cons_append, List.nil_append, Nat.reduceAdd, Nat.reduceSub]
 refine sr <| k (bx rfl s0 u1 (.t n0)) <| k (al T.z51 s1 u2) <| e ?_
 refine sr <| k (al T.z51 s2 u3) <| e ?_
 refine sr <| m (fab 0 rfl T.f33_0 (.t n1)) u4 <| m (ldb T.o3 n0 n0 (.t n4)) u5 <| m (fab 0 rfl T.f51_0 (.t n3)) u6 <| k (st1 T.o3 rfl n2 u0 q2 (.t n6) (.t n5)) <| e ?_
 refine sr <| m (fab 1 rfl T.f33_1 (.t n1)) u7 <| m (ldb T.o3 n0 n1 (.t n7)) u8 <| m (fab 1 rfl T.f51_1 (.t n3)) u9 <| k (st1 T.o3 rfl n2 u1 q2 (.t n9) (.t n8)) <| e ?_
 refine sr <| m (fab 2 rfl T.f33_2 (.t n1)) u10 <| m (ldb T.o3 n0 n2 (.t n10)) u11 <| m (fab 2 rfl T.f51_2 (.t n3)) u12 <| k (st1 T.o3 rfl n2 u2 q2 (.t n12) (.t n11)) <| e ?_
 refine sr <| m (fab 3 rfl T.f33_3 (.t n1)) u13 <| m (ldb T.o3 n0 n3 (.t n13)) u14 <| m (fab 3 rfl T.f51_3 (.t n3)) u15 <| k (st1 T.o3 rfl n2 u3 q2 (.t n15) (.t n14)) <| e ?_
 refine sr <| m (lab T.a51 n2 d0 k4 (.t n3)) u16 <| k (sta T.a51 rfl rfl n1 (.z (.z (.z (.z .n)))) q1 (.t n2) (.t n16)) <| e ?_
 refine rt (ret1 (.a n2 T.a51 n1 rfl (.c (.p rfl) (.c (.p rfl) (.c (.p rfl) (.c (.p rfl) .n)))) .n) ?_)
 rfl

theorem sp_laws_toShare (x : D.Share) : Spec Tryz.prog G0 270 [.agg (D.Share.V x)] (fun r => r = .agg x.V) := by
 refine enter (l := [.cell 2 76]) Tryz.func270 rfl Tryz.ntmps270 rfl T.en270 fun E => ?_
 simp only [List.length_cons, List.length_nil, List.replicate_succ, List.replicate_zero, List.cons_append, List.nil_append, Nat.reduceAdd, Nat.reduceSub]
 refine sr <| k (bx rfl s0 u1 (.t n0)) <| k (al T.z76 s1 u2) <| e ?_
 refine sr <| k (al T.z76 s2 u3) <| e ?_
 refine sr <| m (fab 0 rfl T.f139_0 (.t n1)) u4 <| m (ldb T.o3 n0 n0 (.t n4)) u5 <| m (fab 0 rfl T.f76_0 (.t n3)) u6 <| k (st1 T.o3 rfl n2 u0 q2 (.t n6) (.t n5)) <| e ?_
 refine sr <| m (fab 1 rfl T.f139_1 (.t n1)) u7 <| m (ldb T.o3 n0 n1 (.t n7)) u8 <| m (fab 1 rfl T.f76_1 (.t n3)) u9 <| k (st1 T.o3 rfl n2 u1 q2 (.t n9) (.t n8)) <| e ?_
 refine sr <| m (lab T.a76 n2 d0 k2 (.t n3)) u10 <| k (sta T.a76 rfl rfl n1 (.z (.z .n)) q1 (.t n2) (.t n10)) <| e ?_
 refine rt (ret1 (.a n2 T.a76 n1 rfl (.c (.p rfl) (.c (.p rfl) .n)) .n) ?_)
 rfl

theorem sp_laws_toKeeper (x : D.Keeper) : Spec Tryz.prog G0 188 [.agg (D.Keeper.V x)] (fun r => r = .agg x.V) := by
 refine enter (l := [.cell 2 78]) Tryz.func188 rfl Tryz.ntmps188 rfl T.en188 fun E => ?_
 simp only [List.length_cons, List.length_nil, List.replicate_succ, List.replicate_zero, List.cons_append, List.nil_append, Nat.reduceAdd, Nat.reduceSub]
 refine sr <| k (bx rfl s0 u1 (.t n0)) <| k (al T.z78 s1 u2) <| e ?_
 refine sr <| k (al T.z78 s2 u3) <| e ?_
 refine sr <| m (fab 0 rfl T.f141_0 (.t n1)) u4 <| m (lab T.a139 n0 d0 k2 (.t n4)) u5 <| c (call (sp_laws_toShare _) (.c (.t n5) rfl .n)) u6 <| m (fab 0 rfl T.f78_0 (.t n3)) u7 <| k (sta T.a76 rfl rfl n2 (.z (.z .n)) q2 (.t n7) (.t n6)) <| e ?_
 refine sr <| m (fab 2 rfl T.f141_1 (.t n1)) u8 <| m (ldb T.o3 n0 n2 (.t n8)) u9 <| m (fab 2 rfl T.f78_1 (.t n3)) u10 <| k (st1 T.o3 rfl n2 u2 q2 (.t n10) (.t n9)) <| e ?_
 refine sr <| m (fab 3 rfl T.f141_2 (.t n1)) u11 <| m (ldb T.o3 n0 n3 (.t n11)) u12 <| m (fab 3 rfl T.f78_2 (.t n3)) u13 <| k (st1 T.o3 rfl n2 u3 q2 (.t n13) (.t n12)) <| e ?_
 refine sr <| m (fab 4 rfl T.f141_3 (.t n1)) u14 <| m (ldb T.o3 n0 n4 (.t n14)) u15 <| m (fab 4 rfl T.f78_3 (.t n3)) u16 <| k (st1 T.o3 rfl n2 u4 q2 (.t n16) (.t n15)) <| e ?_
 refine sr <| m (lab T.a78 n2 d0 k5 (.t n3)) u17 <| k (sta T.a78 rfl rfl n1 (.z (.z (.z (.z (.z .n))))) q1 (.t n2) (.t n17)) <| e ?_
 refine rt (ret1 (.a n2 T.a78 n1 rfl (.c (.p rfl) (.c (.p rfl) (.c (.p rfl) (.c (.p rfl) (.c (.p rfl) .n))))) .n) ?_)
 rfl

theorem sp_laws_toKeeperS (l : List D.Keeper) (hl : l.length ≤ 1048576) : Spec Tryz.prog G0 189 [.slice 5 (l.map D.Keeper.V)] (fun r => r = .slice 5 (l.map D.Keeper.V)) := by
 refine enter (l := [.tmp 2]) Tryz.func189 rfl Tryz.ntmps189 rfl T.en189 fun E => ?_
 simp only [List.length_cons, List.length_nil, List.replicate_succ, List.replicate_zero, List.cons_append, List.nil_append, Nat.reduceAdd, Nat.reduceSub]
 refine sr <| m (as_ .n) u2 <| e ?_
 refine sr <| m (mv (.t n0)) u5 <| m (lenm T.s142 (.t n5)) u6 <| k (mk_ T.s79 T.z78 (by omega) (by omega) s0 u7 (.t n6) (.t n6)) <| m (as_ (.t n7)) u3 <| e ?_
 refine sq ?_
 refine sr <| m (as_ (.i rfl)) u4 <| e ?_
 refine bk ?_
 refine lp (fun i : Nat => ⟨[.slice 5 (l.map D.Keeper.V), .any, .nil, .own 0, .int .i64 (i : Int), .any, .any, .own 0, .any, .any, .any, .any, .any, .any, .any, .any, .any, .any, .any, .any, .any, .any, .any], [.row 78 5 (pref D.Keeper.V l [.int .i64 0, .int .i64 0, .int .i64 0, .int .i64 0, .int .i64 0] i)]⟩) (fun i : Nat => i ≤ l.length) (fun i : Nat => l.length - i) (0) (by simp) (le [0] (by decide) (.c (.e rfl rfl) (.c .a (.c (.e rfl rfl) (.c (.w n0) (.c (.e rfl rfl) (.x2 (.c (.w n0) (.x8 (.x4 (.x2 (.c .a .n))))))))))) (.r n0 (pref_0 _ _ _).symm .n)) ?_
 rintro i hJ
 try dsimp only at hJ ⊢
 refine sq ?_
 refine sr <| m (mv (.t n4)) u8 <| m (mv (.t n0)) u9 <| m (lenm T.s142 (.t n9)) u10 <| m (lss (.t n8) (.t n10)) u11 <| e ?_
 refine cnd n11 (fun h1 => ?_) (fun h1 => ?_)
 ·
  replace h1 := of_decide_eq_true h1
  refine skp ?_
  refine sq ?_
  refine bk ?_
  refine rg <| m (mv (.t n3)) u14 <| m (mv (.t n4)) u15 <| m (mv (.t n0)) u16 <| m (mv (.t n4)) u17 <| m (ixm T.s142 (Int.natCast_nonneg _) (gi (by omega)) (.t n16) (.t n17)) u18 <| m (lae T.a141 k5 (.t n18)) u19 <| c (call (sp_laws_toKeeper _) (.c (.t n19) rfl .n)) u20 <| m (oix T.s79 n0 (Int.natCast_nonneg _) (by rw [Int.toNat_natCast, pref_len (by omega)]; omega) (.t n14) (.t n15)) u21 <| k (stoA rfl (by rw [Int.toNat_natCast, pref_len (by omega)]; omega) T.a78 rfl rfl rfl n0 q0 (.t n21) (.t n20)) <| e ?_
  refine rg <| m (mv (.t n4)) u12 <| m (add (.t n12) (.i rfl)) u13 <| m (as_ (.t n13)) u4 <| e ?_
  exact ⟨i + 1, (by omega), (by omega), le [0] (by decide) (.c (.e rfl rfl) (.c .a (.c (.e rfl rfl) (.c (.w n0) (.c (.e (wi (by omega)) rfl) (.x2 (.c (.w n0) (.x8 (.x4 (.x2 (.c .a .n))))))))))) (.r n0 (pref_set (by omega)) .n)⟩
 ·
  replace h1 := of_decide_eq_false h1
  refine ex (x1 ?_)
  refine sr <| m (mv (.t n3)) u22 <| m (as_ (.t n22)) u2 <| e ?_
  refine rt (ret1 (.t n2 (.o n0) .n) ?_)
  show V.slice _ _ = V.slice _ _
  rw [show i = l.length from by omega, pref_full]

theorem sp_laws_toKeeperHost (x : D.KeeperHost) (hl : x.sz ≤ 1048576) : Spec Tryz.prog G0 96 [.agg (D.KeeperHost.V x)] (fun r => r = .agg x.V) := by
 simp only [D.KeeperHost.sz] at hl
 refine enter (l := [.cell 2 81]) Tryz.func96 rfl Tryz.ntmps96 rfl T.en96 fun E => ?_
 simp only [List.length_cons, List.length_nil, List.replicate_succ, List.replicate_zero, List.cons_append, List.nil_append, Nat.reduceAdd, Nat.reduceSub]
 refine sr <| k (bx rfl s0 u1 (.t n0)) <| k (al T.z81 s1 u2) <| e ?_
 refine sr <| k (al T.z81 s2 u3) <| e ?_
 refine sr <| m (fab 0 rfl T.f144_0 (.t n1)) u4 <| m (lab T.a141 n0 d0 k5 (.t n4)) u5 <| c (call (sp_laws_toKeeper _) (.c (.t n5) rfl .n)) u6 <| m (fab 0 rfl T.f81_0 (.t n3)) u7 <| k (sta T.a78 rfl rfl n2 (.z (.z (.z (.z (.z .n))))) q2 (.t n7) (.t n6)) <| e ?_
 refine sr <| m (fab 5 rfl T.f144_1 (.t n1)) u8 <| m (ldb T.o142 n0 n5 (.t n8)) u9 <| c (call (sp_laws_toKeeperS _ (by first | assumption | omega)) (.c (.t n9) rfl .n)) u10 <| m (fab 5 rfl T.f81_1 (.t n3)) u11 <| k (st1 T.o79 rfl n2 u5 q2 (.t n11) (.t n10)) <| e ?_
 refine sr <| m (fab 6 rfl T.f144_2 (.t n1)) u12 <| m (ldb T.o3 n0 n6 (.t n12)) u13 <| m (fab 6 rfl T.f81_2 (.t n3)) u14 <| k (st1 T.o3 rfl n2 u6 q2 (.t n14) (.t n13)) <| e ?_
 refine sr <| m (lab T.a81 n2 d0 k7 (.t n3)) u15 <| k (sta T.a81 rfl rfl n1 (.z (.z (.z (.z (.z (.z (.z .n))))))) q1 (.t n2) (.t n15)) <| e ?_
 refine rt (ret1 (.a n2 T.a81 n1 rfl (.c (.p rfl) (.c (.p rfl) (.c (.p rfl) (.c (.p rfl) (.c (.p rfl) (.c (.p rfl) (.c (.p rfl) .n))))))) .n) ?_)
 rfl

theorem sp_laws_toKeeperHostS (l : List D.KeeperHost) (hl : l.length + (l.map D.KeeperHost.sz).sum ≤ 1048576) : Spec Tryz.prog G0 37 [.slice 7 (l.map D.KeeperHost.V)] (fun r => r = .slice 7 (l.map D.KeeperHost.V)) := by
 have hmem : ∀ (j : Nat) (h : j < l.length), (l[j]'h).sz ≤ (l.map D.KeeperHost.sz).sum := fun j h => sum_mem D.KeeperHost.sz l _ (List.getElem_mem h)
 refine enter (l := [.tmp 2]) Tryz.func37 rfl Tryz.ntmps37 rfl T.en37 fun E => ?_
 simp only [List.length_cons, List.length_nil, List.replicate_succ, List.replicate_zero, List.cons_append, List.nil_append, Nat.reduceAdd, Nat.reduceSub]
 refine sr <| m (as_ .n) u2 <| e ?_
 refine sr <| m (mv (.t n0)) u5 <| m (lenm T.s34 (.t n5)) u6 <| k (mk_ T.s52 T.z81 (by omega) (by omega) s0 u7 (.t n6) (.t n6)) <| m (as_ (.t n7)) u3 <| e ?_
 refine sq ?_
 refine sr <| m (as_ (.i rfl)) u4 <| e ?_
 refine bk ?_
 refine lp (fun i : Nat => ⟨[.slice 7 (l.map D.KeeperHost.V), .any, .nil, .own 0, .int .i64 (i : Int), .any, .any, .own 0, .any, .any, .any, .any, .any, .any, .any, .any, .any, .any, .any, .any, .any, .any, .any], [.row 81 7 (pref D.KeeperHost.V l [.int .i64 0, .int .i64 0, .int .i64 0, .int .i64 0, .int .i64 0, .nil, .int .i64 0] i)]⟩) (fun i : Nat => i ≤ l.length) (fun i : Nat => l.length - i) (0) (by simp) (le [0] (by decide) (.c (.e rfl rfl) (.c .a (.c (.e rfl rfl) (.c (.w n0) (.c (.e rfl rfl) (.x2 (.c (.w n0) (.x8 (.x4 (.x2 (.c .a .n))))))))))) (.r n0 (pref_0 _ _ _).symm .n)) ?_
 rintro i hJ
 try dsimp only at hJ ⊢
 refine sq ?_
 refine sr <| m (mv (.t n4)) u8 <| m (mv (.t n0)) u9 <| m (lenm T.s34 (.t n9)) u10 <| m (lss (.t n8) (.t n10)) u11 <| e ?_
 refine cnd n11 (fun h1 => ?_) (fun h1 => ?_)
 ·
  replace h1 := of_decide_eq_true h1
  refine skp ?_
  refine sq ?_
  refine bk ?_
  refine rg <| m (mv (.t n3)) u14 <| m (mv (.t n4)) u15 <| m (mv (.t n0)) u16 <| m (mv (.t n4)) u17 <| m (ixm T.s34 (Int.natCast_nonneg _) (gi (by omega)) (.t n16) (.t n17)) u18 <| m (lae T.a144 k7 (.t n18)) u19 <| c (call (sp_laws_toKeeperHost _ (by have := hmem i (by omega); omega)) (.c (.t n19) rfl .n)) u20 <| m (oix T.s52 n0 (Int.natCast_nonneg _) (by rw [Int.toNat_natCast, pref_len (by omega)]; omega) (.t n14) (.t n15)) u21 <| k (stoA rfl (by rw [Int.toNat_natCast, pref_len (by omega)]; omega) T.a81 rfl rfl rfl n0 q0 (.t n21) (.t n20)) <| e ?_
  refine rg <| m (mv (.t n4)) u12 <| m (add (.t n12) (.i rfl)) u13 <| m (as_ (.t n13)) u4 <| e ?_
  exact ⟨i + 1, (by omega), (by omega), le [0] (by decide) (.c (.e rfl rfl) (.c .a (.c (.e rfl rfl) (.c (.w n0) (.c (.e (wi (by omega)) rfl) (.x2 (.c (.w n0) (.x8 (.x4 (.x2 (.c .a .n))))))))))) (.r n0 (pref_set (by omega)) .n)⟩
 ·
  replace h1 := of_decide_eq_false h1
  refine ex (x1 ?_)
  refine sr <| m (mv (.t n3)) u22 <| m (as_ (.t n22)) u2 <| e ?_
  refine rt (ret1 (.t n2 (.o n0) .n) ?_)
  show V.slice _ _ = V.slice _ _
  rw [show i = l.length from by omega, pref_full]

theorem sp_laws_toNotice (x : D.Notice) : Spec Tryz.prog G0 190 [.agg (D.Notice.V x)] (fun r => r = .agg x.V) := by
 refine enter (l := [.cell 2 217]) Tryz.func190 rfl Tryz.ntmps190 rfl T.en190 fun E => ?_
 simp only [List.length_cons, List.length_nil, List.replicate_succ, List.replicate_zero, List.cons_append, List.nil_append, Nat.reduceAdd, Nat.reduceSub]
 refine sr <| k (bx rfl s0 u1 (.t n0)) <| k (al T.z217 s1 u2) <| e ?_
 refine sr <| k (al T.z217 s2 u3) <| e ?_
 refine sr <| m (fab 0 rfl T.f234_0 (.t n1)) u4 <| m (ldb T.o3 n0 n0 (.t n4)) u5 <| m (fab 0 rfl T.f217_0 (.t n3)) u6 <| k (st1 T.o3 rfl n2 u0 q2 (.t n6) (.t n5)) <| e ?_
 refine sr <| m (fab 1 rfl T.f234_1 (.t n1)) u7 <| m (ldb T.o3 n0 n1 (.t n7)) u8 <| m (fab 1 rfl T.f217_1 (.t n3)) u9 <| k (st1 T.o3 rfl n2 u1 q2 (.t n9) (.t n8)) <| e ?_
 refine sr <| m (fab 2 rfl T.f234_2 (.t n1)) u10 <| m (ldb T.o3 n0 n2 (.t n10)) u11 <| m (fab 2 rfl T.f217_2 (.t n3)) u12 <| k (st1 T.o3 rfl n2 u2 q2 (.t n12) (.t n11)) <| e ?_
 refine sr <| m (fab 3 rfl T.f234_3 (.t n1)) u13 <| m (ldb T.o4 n0 n3 (.t n13)) u14 <| m (fab 3 rfl T.f217_3 (.t n3)) u15 <| k (st1 T.o4 rfl n2 u3 q2 (.t n15) (.t n14)) <| e ?_
 refine sr <| m (lab T.a217 n2 d0 k4 (.t n3)) u16 <| k (sta T.a217 rfl rfl n1 (.z (.z (.z (.z .n)))) q1 (.t n2) (.t n16)) <| e ?_
 refine rt (ret1 (.a n2 T.a217 n1 rfl (.c (.p rfl) (.c (.p rfl) (.c (.p rfl) (.c (.p rfl) .n)))) .n) ?_)
 rfl

theorem sp_laws_toNoticeS (l : List D.Notice) (hl : l.length ≤ 1048576) : Spec Tryz.prog G0 97 [.slice 4 (l.map D.Notice.V)] (fun r => r = .slice 4 (l.map D.Notice.V)) := by
 refine enter (l := [.tmp 2]) Tryz.func97 rfl Tryz.ntmps97 rfl T.en97 fun E => ?_
 simp only [List.length_cons, List.length_nil, List.replicate_succ, List.replicate_zero, List.cons_append, List.nil_append, Nat.reduceAdd, Nat.reduceSub]
 refine sr <| m (as_ .n) u2 <| e ?_
 refine sr <| m (mv (.t n0)) u5 <| m (lenm T.s35 (.t n5)) u6 <| k (mk_ T.s53 T.z217 (by omega) (by omega) s0 u7 (.t n6) (.t n6)) <| m (as_ (.t n7)) u3 <| e ?_
 refine sq ?_
 refine sr <| m (as_ (.i rfl)) u4 <| e ?_
 refine bk ?_
 refine lp (fun i : Nat => ⟨[.slice 4 (l.map D.Notice.V), .any, .nil, .own 0, .int .i64 (i : Int), .any, .any, .own 0, .any, .any, .any, .any, .any, .any, .any, .any, .any, .any, .any, .any, .any, .any, .any], [.row 217 4 (pref D.Notice.V l [.int .i64 0, .int .i64 0, .int .i64 0, .bool false] i)]⟩) (fun i : Nat => i ≤ l.length) (fun i : Nat => l.length - i) (0) (by simp) (le [0] (by decide) (.c (.e rfl rfl) (.c .a (.c (.e rfl rfl) (.c (.w n0) (.c (.e rfl rfl) (.x2 (.c (.w n0) (.x8 (.x4 (.x2 (.c .a .n))))))))))) (.r n0 (pref_0 _ _ _).symm .n)) ?_
 rintro i hJ
 try dsimp only at hJ ⊢
 refine sq ?_
 refine sr <| m (mv (.t n4)) u8 <| m (mv (.t n0)) u9 <| m (lenm T.s35 (.t n9)) u10 <| m (lss (.t n8) (.t n10)) u11 <| e ?_
 refine cnd n11 (fun h1 => ?_) (fun h1 => ?_)
 ·
  replace h1 := of_decide_eq_true h1
  refine skp ?_
  refine sq ?_
  refine bk ?_
  refine rg <| m (mv (.t n3)) u14 <| m (mv (.t n4)) u15 <| m (mv (.t n0)) u16 <| m (mv (.t n4)) u17 <| m (ixm T.s35 (Int.natCast_nonneg _) (gi (by omega)) (.t n16) (.t n17)) u18 <| m (lae T.a234 k4 (.t n18)) u19 <| c (call (sp_laws_toNotice _) (.c (.t n19) rfl .n)) u20 <| m (oix T.s53 n0 (Int.natCast_nonneg _) (by rw [Int.toNat_natCast, pref_len (by omega)]; omega) (.t n14) (.t n15)) u21 <| k (stoA rfl (by rw [Int.toNat_natCast, pref_len (by omega)]; omega) T.a217 rfl rfl rfl n0 q0 (.t n21) (.t n20)) <| e ?_
  refine rg <| m (mv (.t n4)) u12 <| m (add (.t n12) (.i rfl)) u13 <| m (as_ (.t n13)) u4 <| e ?_
  exact ⟨i + 1, (by omega), (by omega), le [0] (by decide) (.c (.e rfl rfl) (.c .a (.c (.e rfl rfl) (.c (.w n0) (.c (.e (wi (by omega)) rfl) (.x2 (.c (.w n0) (.x8 (.x4 (.x2 (.c .a .n))))))))))) (.r n0 (pref_set (by omega)) .n)⟩
 ·
  replace h1 := of_decide_eq_false h1
  refine ex (x1 ?_)
  refine sr <| m (mv (.t n3)) u22 <| m (as_ (.t n22)) u2 <| e ?_
  refine rt (ret1 (.t n2 (.o n0) .n) ?_)
  show V.slice _ _ = V.slice _ _
  rw [show i = l.length from by omega, pref_full]

theorem sp_laws_toMailbox (x : D.Mailbox) (hl : x.sz ≤ 1048576) : Spec Tryz.prog G0 38 [.agg (D.Mailbox.V x)] (fun r => r = .agg x.V) := by
 simp only [D.Mailbox.sz] at hl
 refine enter (l := [.cell 2 55]) Tryz.func38 rfl Tryz.ntmps38 rfl T.en38 fun E => ?_
 simp only [List.length_cons, List.length_nil, List.replicate_succ, List.replicate_zero, List.cons_append, List.nil_append, Nat.reduceAdd, Nat.reduceSub]
 refine sr <| k (bx rfl s0 u1 (.t n0)) <| k (al T.z55 s1 u2) <| e ?_
 refine sr <| k (al T.z55 s2 u3) <| e ?_
 refine sr <| m (fab 0 rfl T.f37_0 (.t n1)) u4 <| m (ldb T.o35 n0 n0 (.t n4)) u5 <| c (call (sp_laws_toNoticeS _ (by first | assumption | omega)) (.c (.t n5) rfl .n)) u6 <| m (fab 0 rfl T.f55_0 (.t n3)) u7 <| k (st1 T.o53 rfl n2 u0 q2 (.t n7) (.t n6)) <| e ?_
 refine sr <| m (lab T.a55 n2 d0 k1 (.t n3)) u8 <| k (sta T.a55 rfl rfl n1 (.z .n) q1 (.t n2) (.t n8)) <| e ?_
 refine rt (ret1 (.a n2 T.a55 n1 rfl (.c (.p rfl) .n) .n) ?_)
 rfl

theorem sp_laws_toWorld (x : D.World) (hl : x.sz ≤ 1048576) : Spec Tryz.prog G0 10 [.agg (D.World.V x)] (fun r => r = .agg x.V) := by
 simp only [D.World.sz] at hl
 refine enter (l := [.cell 2 57]) Tryz.func10 rfl Tryz.ntmps10 rfl T.en10 fun E => ?_
 simp only [List.length_cons, List.length_nil, List.replicate_succ, List.replicate_zero, List.cons_append, List.nil_append, Nat.reduceAdd, Nat.reduceSub]
 refine sr <| k (bx rfl s0 u1 (.t n0)) <| k (al T.z57 s1 u2) <| e ?_
 refine sr <| k (al T.z57 s2 u3) <| e ?_
 refine sr <| m (fab 0 rfl T.f39_0 (.t n1)) u4 <| m (ldb T.o3 n0 n0 (.t n4)) u5 <| m (fab 0 rfl T.f57_0 (.t n3)) u6 <| k (st1 T.o3 rfl n2 u0 q2 (.t n6) (.t n5)) <| e ?_
 refine sr <| m (fab 1 rfl T.f39_1 (.t n1)) u7 <| m (ldb T.o3 n0 n1 (.t n7)) u8 <| m (fab 1 rfl T.f57_1 (.t n3)) u9 <| k (st1 T.o3 rfl n2 u1 q2 (.t n9) (.t n8)) <| e ?_
 refine sr <| m (fab 2 rfl T.f39_2 (.t n1)) u10 <| m (ldb T.o22 n0 n2 (.t n10)) u11 <| c (call (sp_laws_toDeviceS _ (by first | assumption | omega)) (.c (.t n11) rfl .n)) u12 <| m (fab 2 rfl T.f57_2 (.t n3)) u13 <| k (st1 T.o42 rfl n2 u2 q2 (.t n13) (.t n12)) <| e ?_
 refine sr <| m (fab 3 rfl T.f39_3 (.t n1)) u14 <| m (ldb T.o23 n0 n3 (.t n14)) u15 <| c (call (sp_laws_toBoolS _ (by first | assumption | omega)) (.c (.t n15) rfl .n)) u16 <| m (fab 3 rfl T.f57_3 (.t n3)) u17 <| k (st1 T.o23 rfl n2 u3 q2 (.t n17) (.t n16)) <| e ?_
 refine sr <| m (fab 4 rfl T.f39_4 (.t n1)) u18 <| m (lab T.a30 n0 d4 k4 (.t n18)) u19 <| c (call (sp_laws_toCloud _ (by first | assumption | (simp only [D.Box.sz, D.EpochBoxes.sz, D.LogEntry.sz, D.SealedBundle.sz, D.Cloud.sz, D.Vault.sz, D.Notice.sz, D.Mailbox.sz, D.KeyStore.sz, D.Entry.sz, D.Bundle.sz, D.Device.sz, D.Credential.sz, D.Account.sz, D.Challenge.sz, D.ChallengeBook.sz, D.Site.sz, D.Share.sz, D.Keeper.sz, D.KeeperHost.sz, D.World.sz] at *; omega))) (.c (.t n19) rfl .n)) u20 <| m (fab 4 rfl T.f57_4 (.t n3)) u21 <| k (sta T.a49 rfl rfl n2 (.s (.s (.s (.s (.z (.z (.z (.z .n)))))))) q2 (.t n21) (.t n20)) <| e ?_
 refine sr <| m (fab 8 rfl T.f39_5 (.t n1)) u22 <| m (ldb T.o31 n0 n8 (.t n22)) u23 <| c (call (sp_laws_toSiteS _ (by first | assumption | omega)) (.c (.t n23) rfl .n)) u24 <| m (fab 8 rfl T.f57_5 (.t n3)) u25 <| k (st1 T.o50 rfl n2 u8 q2 (.t n25) (.t n24)) <| e ?_
 refine sr <| m (fab 9 rfl T.f39_6 (.t n1)) u26 <| m (lab T.a33 n0 d9 k4 (.t n26)) u27 <| c (call (sp_laws_toVault _) (.c (.t n27) rfl .n)) u28 <| m (fab 9 rfl T.f57_6 (.t n3)) u29 <| k (sta T.a51 rfl rfl n2 (.s (.s (.s (.s (.s (.s (.s (.s (.s (.z (.z (.z (.z .n))))))))))))) q2 (.t n29) (.t n28)) <| e ?_
 refine sr <| m (fab 13 rfl T.f39_7 (.t n1)) u30 <| m (ldb T.o34 n0 n13 (.t n30)) u31 <| c (call (sp_laws_toKeeperHostS _ (by first | assumption | omega)) (.c (.t n31) rfl .n)) u32 <| m (fab 13 rfl T.f57_7 (.t n3)) u33 <| k (st1 T.o52 rfl n2 u13 q2 (.t n33) (.t n32)) <| e ?_
 refine sr <| m (fab 14 rfl T.f39_8 (.t n1)) u34 <| m (ldb T.o3 n0 n14 (.t n34)) u35 <| m (fab 14 rfl T.f57_8 (.t n3)) u36 <| k (st1 T.o3 rfl n2 u14 q2 (.t n36) (.t n35)) <| e ?_
 refine sr <| m (fab 15 rfl T.f39_9 (.t n1)) u37 <| m (lab T.a37 n0 d15 k1 (.t n37)) u38 <| c (call (sp_laws_toMailbox _ (by first | assumption | (simp only [D.Box.sz, D.EpochBoxes.sz, D.LogEntry.sz, D.SealedBundle.sz, D.Cloud.sz, D.Vault.sz, D.Notice.sz, D.Mailbox.sz, D.KeyStore.sz, D.Entry.sz, D.Bundle.sz, D.Device.sz, D.Credential.sz, D.Account.sz, D.Challenge.sz, D.ChallengeBook.sz, D.Site.sz, D.Share.sz, D.Keeper.sz, D.KeeperHost.sz, D.World.sz] at *; omega))) (.c (.t n38) rfl .n)) u39 <| m (fab 15 rfl T.f57_9 (.t n3)) u40 <| k (sta T.a55 rfl rfl n2 (.s (.s (.s (.s (.s (.s (.s (.s (.s (.s (.s (.s (.s (.s (.s (.z .n)))))))))))))))) q2 (.t n40) (.t n39)) <| e ?_
 refine sr <| m (lab T.a57 n2 d0 k16 (.t n3)) u41 <| k (sta T.a57 rfl rfl n1 (.z (.z (.z (.z (.z (.z (.z (.z (.z (.z (.z (.z (.z (.z (.z (.z .n)))))))))))))))) q1 (.t n2) (.t n41)) <| e ?_
 refine rt (ret1 (.a n2 T.a57 n1 rfl (.c (.p rfl) (.c (.p rfl) (.c (.p rfl) (.c (.p rfl) (.c (.p rfl) (.c (.p rfl) (.c (.p rfl) (.c (.p rfl) (.c (.p rfl) (.c (.p rfl) (.c (.p rfl) (.c (.p rfl) (.c (.p rfl) (.c (.p rfl) (.c (.p rfl) (.c (.p rfl) .n)))))))))))))))) .n) ?_)
 rfl

theorem sp_laws_eqKeyStore (x : D.KeyStore) : Spec Tryz.prog G0 200 [.agg (D.KeyStore.V x), .agg (D.KeyStore.V x)] (fun r => r = .bool true) := by
 refine enter (l := [.tmp 4]) Tryz.func200 rfl Tryz.ntmps200 rfl T.en200 fun E => ?_
 simp only [List.length_cons, List.length_nil, List.replicate_succ, List.replicate_zero, List.cons_append, List.nil_append, Nat.reduceAdd, Nat.reduceSub]
 refine sr <| k (bx rfl s0 u2 (.t n0)) <| k (bx rfl s1 u3 (.t n1)) <| m (as_ .b) u4 <| e ?_
 refine sq ?_
 refine sr <| m (fab 0 rfl T.f113_0 (.t n2)) u5 <| m (ldb T.o3 n0 n0 (.t n5)) u6 <| m (fab 0 rfl T.f113_0 (.t n3)) u7 <| m (ldb T.o3 n1 n0 (.t n7)) u8 <| m (neqs (.t n6) (.t n8)) u9 <| e ?_
 refine cdf n9 ?_
 refine skp ?_
 refine sq ?_
 refine sr <| m (fab 1 rfl T.f113_1 (.t n2)) u10 <| m (ldb T.o3 n0 n1 (.t n10)) u11 <| m (fab 1 rfl T.f113_1 (.t n3)) u12 <| m (ldb T.o3 n1 n1 (.t n12)) u13 <| m (neqs (.t n11) (.t n13)) u14 <| e ?_
 refine cdf n14 ?_
 refine skp ?_
 refine sq ?_
 refine sr <| m (fab 2 rfl T.f113_2 (.t n2)) u15 <| m (ldb T.o3 n0 n2 (.t n15)) u16 <| m (fab 2 rfl T.f113_2 (.t n3)) u17 <| m (ldb T.o3 n1 n2 (.t n17)) u18 <| m (neqs (.t n16) (.t n18)) u19 <| e ?_
 refine cdf n19 ?_
 refine skp ?_
 refine sq ?_
 refine sr <| m (fab 3 rfl T.f113_3 (.t n2)) u20 <| m (ldb T.o3 n0 n3 (.t n20)) u21 <| m (fab 3 rfl T.f113_3 (.t n3)) u22 <| m (ldb T.o3 n1 n3 (.t n22)) u23 <| m (neqs (.t n21) (.t n23)) u24 <| e ?_
 refine cdf n24 ?_
 refine skp ?_
 refine sr <| m (as_ .b) u4 <| e ?_
 refine rt (ret1 (.t n4 (.p rfl) .n) ?_)
 rfl

theorem sp_laws_eqLogEntry (x : D.LogEntry) : Spec Tryz.prog G0 202 [.agg (D.LogEntry.V x), .agg (D.LogEntry.V x)] (fun r => r = .bool true) := by
 refine enter (l := [.tmp 4]) Tryz.func202 rfl Tryz.ntmps202 rfl T.en202 fun E => ?_
 simp only [List.length_cons, List.length_nil, List.replicate_succ, List.replicate_zero, List.cons_append, List.nil_append, Nat.reduceAdd, Nat.reduceSub]
 refine sr <| k (bx rfl s0 u2 (.t n0)) <| k (bx rfl s1 u3 (.t n1)) <| m (as_ .b) u4 <| e ?_
 refine sq ?_
 refine sr <| m (fab 0 rfl T.f220_0 (.t n2)) u5 <| m (ldb T.o3 n0 n0 (.t n5)) u6 <| m (fab 0 rfl T.f220_0 (.t n3)) u7 <| m (ldb T.o3 n1 n0 (.t n7)) u8 <| m (neqs (.t n6) (.t n8)) u9 <| e ?_
 refine cdf n9 ?_
 refine skp ?_
 refine sq ?_
 refine sr <| m (fab 1 rfl T.f220_1 (.t n2)) u10 <| m (ldb T.o3 n0 n1 (.t n10)) u11 <| m (fab 1 rfl T.f220_1 (.t n3)) u12 <| m (ldb T.o3 n1 n1 (.t n12)) u13 <| m (neqs (.t n11) (.t n13)) u14 <| e ?_
 refine cdf n14 ?_
 refine skp ?_
 refine sq ?_
 refine sr <| m (fab 2 rfl T.f220_2 (.t n2)) u15 <| m (ldb T.o3 n0 n2 (.t n15)) u16 <| m (fab 2 rfl T.f220_2 (.t n3)) u17 <| m (ldb T.o3 n1 n2 (.t n17)) u18 <| m (neqs (.t n16) (.t n18)) u19 <| e ?_
 refine cdf n19 ?_
 refine skp ?_
 refine sq ?_
 refine sr <| m (fab 3 rfl T.f220_3 (.t n2)) u20 <| m (ldb T.o3 n0 n3 (.t n20)) u21 <| m (fab 3 rfl T.f220_3 (.t n3)) u22 <| m (ldb T.o3 n1 n3 (.t n22)) u23 <| m (neqs (.t n21) (.t n23)) u24 <| e ?_
 refine cdf n24 ?_
 refine skp ?_
 refine sq ?_
 refine sr <| m (fab 4 rfl T.f220_4 (.t n2)) u25 <| m (ldb T.o3 n0 n4 (.t n25)) u26 <| m (fab 4 rfl T.f220_4 (.t n3)) u27 <| m (ldb T.o3 n1 n4 (.t n27)) u28 <| m (neqs (.t n26) (.t n28)) u29 <| e ?_
 refine cdf n29 ?_
 refine skp ?_
 refine sq ?_
 refine sr <| m (fab 5 rfl T.f220_5 (.t n2)) u30 <| m (ldb T.o3 n0 n5 (.t n30)) u31 <| m (fab 5 rfl T.f220_5 (.t n3)) u32 <| m (ldb T.o3 n1 n5 (.t n32)) u33 <| m (neqs (.t n31) (.t n33)) u34 <| e ?_
 refine cdf n34 ?_
 refine skp ?_
 refine sr <| m (as_ .b) u4 <| e ?_
 refine rt (ret1 (.t n4 (.p rfl) .n) ?_)
 rfl

theorem sp_laws_eqLogEntryS (l : List D.LogEntry) : Spec Tryz.prog G0 105 [.slice 6 (l.map D.LogEntry.V), .slice 6 (l.map D.LogEntry.V)] (fun r => r = .bool true) := by
 refine enter (l := [.tmp 4]) Tryz.func105 rfl Tryz.ntmps105 rfl T.en105 fun E => ?_
 simp only [List.length_cons, List.length_nil, List.replicate_succ, List.replicate_zero, List.cons_append, List.nil_append, Nat.reduceAdd, Nat.reduceSub]
 refine rngl n0 fun hlen => ?_
 simp only [List.length_map, maxLen] at hlen
 refine sr <| m (as_ .b) u4 <| e ?_
 refine sq ?_
 refine sr <| m (mv (.t n0)) u6 <| m (lenm T.s43 (.t n6)) u7 <| m (mv (.t n1)) u8 <| m (lenm T.s43 (.t n8)) u9 <| m (neqs (.t n7) (.t n9)) u10 <| e ?_
 refine cdf n10 ?_
 refine skp ?_
 refine sq ?_
 refine sr <| m (as_ (.i rfl)) u5 <| e ?_
 refine bk ?_
 refine lp (fun i : Nat => ⟨[.slice 6 (l.map D.LogEntry.V), .slice 6 (l.map D.LogEntry.V), .any, .any, .any, .int .i64 (i : Int), .any, .any, .any, .any, .any, .any, .any, .any, .any, .any, .any, .any, .any, .any, .any, .any, .any, .any, .any, .any, .any], []⟩) (fun i : Nat => i ≤ l.length) (fun i : Nat => l.length - i) (0) (by simp) (le [] (by decide) (.c (.e rfl rfl) (.c (.e rfl rfl) (.x2 (.c .a (.c (.e rfl rfl) (.x16 (.x4 (.c .a .n)))))))) .n) ?_
 rintro i hJ
 try dsimp only at hJ ⊢
 refine sq ?_
 refine sr <| m (mv (.t n5)) u11 <| m (mv (.t n0)) u12 <| m (lenm T.s43 (.t n12)) u13 <| m (lss (.t n11) (.t n13)) u14 <| e ?_
 refine cnd n14 (fun h1 => ?_) (fun h1 => ?_)
 ·
  replace h1 := of_decide_eq_true h1
  refine skp ?_
  refine sq ?_
  refine bk ?_
  refine sd none [(0, true), (1, true), (2, true), (3, true), (4, true), (5, true), (6, true), (7, true), (8, false), (9, true)] T.mix (by kernel_rfl) <| om n0 (mv (.t n0)) u17 <| om n1 (mv (.t n5)) u18 <| om n2 (ixm T.s43 (Int.natCast_nonneg _) (gi (by omega)) (.t n17) (.t n18)) u19 <| om n3 (lae T.a220 k6 (.t n19)) u20 <| om n4 (mv (.t n1)) u21 <| om n5 (mv (.t n5)) u22 <| om n6 (ixm T.s43 (Int.natCast_nonneg _) (gi (by omega)) (.t n21) (.t n22)) u23 <| om n7 (lae T.a220 k6 (.t n23)) u24 <| oc n8 (call (sp_laws_eqLogEntry _) (.c (.t n20) rfl (.c (.t n24) rfl .n))) u25 <| om n9 (not_ (.t n25)) u26 <| oe ?_
  refine cdf n26 ?_
  refine skp ?_
  refine rg <| m (mv (.t n5)) u15 <| m (add (.t n15) (.i rfl)) u16 <| m (as_ (.t n16)) u5 <| e ?_
  exact ⟨i + 1, (by omega), (by omega), le [] (by decide) (.c (.e rfl rfl) (.c (.e rfl rfl) (.x2 (.c .a (.c (.e (wi (by omega)) rfl) (.x16 (.x4 (.c .a .n)))))))) .n⟩
 ·
  replace h1 := of_decide_eq_false h1
  refine ex (x1 ?_)
  refine sr <| m (as_ .b) u4 <| e ?_
  refine rt (ret1 (.t n4 (.p rfl) .n) ?_)
  rfl

theorem sp_laws_eqEntry (x : D.Entry) : Spec Tryz.prog G0 306 [.agg (D.Entry.V x), .agg (D.Entry.V x)] (fun r => r = .bool true) := by
 refine enter (l := [.tmp 4]) Tryz.func306 rfl Tryz.ntmps306 rfl T.en306 fun E => ?_
 simp only [List.length_cons, List.length_nil, List.replicate_succ, List.replicate_zero, List.cons_append, List.nil_append, Nat.reduceAdd, Nat.reduceSub]
 refine sr <| k (bx rfl s0 u2 (.t n0)) <| k (bx rfl s1 u3 (.t n1)) <| m (as_ .b) u4 <| e ?_
 refine sq ?_
 refine sr <| m (fab 0 rfl T.f264_0 (.t n2)) u5 <| m (ldb T.o3 n0 n0 (.t n5)) u6 <| m (fab 0 rfl T.f264_0 (.t n3)) u7 <| m (ldb T.o3 n1 n0 (.t n7)) u8 <| m (neqs (.t n6) (.t n8)) u9 <| e ?_
 refine cdf n9 ?_
 refine skp ?_
 refine sq ?_
 refine sr <| m (fab 1 rfl T.f264_1 (.t n2)) u10 <| m (ldb T.o3 n0 n1 (.t n10)) u11 <| m (fab 1 rfl T.f264_1 (.t n3)) u12 <| m (ldb T.o3 n1 n1 (.t n12)) u13 <| m (neqs (.t n11) (.t n13)) u14 <| e ?_
 refine cdf n14 ?_
 refine skp ?_
 refine sq ?_
 refine sr <| m (fab 2 rfl T.f264_2 (.t n2)) u15 <| m (ldb T.o3 n0 n2 (.t n15)) u16 <| m (fab 2 rfl T.f264_2 (.t n3)) u17 <| m (ldb T.o3 n1 n2 (.t n17)) u18 <| m (neqs (.t n16) (.t n18)) u19 <| e ?_
 refine cdf n19 ?_
 refine skp ?_
 refine sq ?_
 refine sr <| m (fab 3 rfl T.f264_3 (.t n2)) u20 <| m (ldb T.o4 n0 n3 (.t n20)) u21 <| m (fab 3 rfl T.f264_3 (.t n3)) u22 <| m (ldb T.o4 n1 n3 (.t n22)) u23 <| m (bnes Tryz.underlying4 (.t n21) (.t n23)) u24 <| e ?_
 refine cdf n24 ?_
 refine skp ?_
 refine sr <| m (as_ .b) u4 <| e ?_
 refine rt (ret1 (.t n4 (.p rfl) .n) ?_)
 rfl

theorem sp_laws_eqEntryS (l : List D.Entry) : Spec Tryz.prog G0 276 [.slice 4 (l.map D.Entry.V), .slice 4 (l.map D.Entry.V)] (fun r => r = .bool true) := by
 refine enter (l := [.tmp 4]) Tryz.func276 rfl Tryz.ntmps276 rfl T.en276 fun E => ?_
 simp only [List.length_cons, List.length_nil, List.replicate_succ, List.replicate_zero, List.cons_append, List.nil_append, Nat.reduceAdd, Nat.reduceSub]
 refine rngl n0 fun hlen => ?_
 simp only [List.length_map, maxLen] at hlen
 refine sr <| m (as_ .b) u4 <| e ?_
 refine sq ?_
 refine sr <| m (mv (.t n0)) u6 <| m (lenm T.s114 (.t n6)) u7 <| m (mv (.t n1)) u8 <| m (lenm T.s114 (.t n8)) u9 <| m (neqs (.t n7) (.t n9)) u10 <| e ?_
 refine cdf n10 ?_
 refine skp ?_
 refine sq ?_
 refine sr <| m (as_ (.i rfl)) u5 <| e ?_
 refine bk ?_
 refine lp (fun i : Nat => ⟨[.slice 4 (l.map D.Entry.V), .slice 4 (l.map D.Entry.V), .any, .any, .any, .int .i64 (i : Int), .any, .any, .any, .any, .any, .any, .any, .any, .any, .any, .any, .any, .any, .any, .any, .any, .any, .any, .any, .any, .any], []⟩) (fun i : Nat => i ≤ l.length) (fun i : Nat => l.length - i) (0) (by simp) (le [] (by decide) (.c (.e rfl rfl) (.c (.e rfl rfl) (.x2 (.c .a (.c (.e rfl rfl) (.x16 (.x4 (.c .a .n)))))))) .n) ?_
 rintro i hJ
 try dsimp only at hJ ⊢
 refine sq ?_
 refine sr <| m (mv (.t n5)) u11 <| m (mv (.t n0)) u12 <| m (lenm T.s114 (.t n12)) u13 <| m (lss (.t n11) (.t n13)) u14 <| e ?_
 refine cnd n14 (fun h1 => ?_) (fun h1 => ?_)
 ·
  replace h1 := of_decide_eq_true h1
  refine skp ?_
  refine sq ?_
  refine bk ?_
  refine sd none [(0, true), (1, true), (2, true), (3, true), (4, true), (5, true), (6, true), (7, true), (8, false), (9, true)] T.mix (by kernel_rfl) <| om n0 (mv (.t n0)) u17 <| om n1 (mv (.t n5)) u18 <| om n2 (ixm T.s114 (Int.natCast_nonneg _) (gi (by omega)) (.t n17) (.t n18)) u19 <| om n3 (lae T.a264 k4 (.t n19)) u20 <| om n4 (mv (.t n1)) u21 <| om n5 (mv (.t n5)) u22 <| om n6 (ixm T.s114 (Int.natCast_nonneg _) (gi (by omega)) (.t n21) (.t n22)) u23 <| om n7 (lae T.a264 k4 (.t n23)) u24 <| oc n8 (call (sp_laws_eqEntry _) (.c (.t n20) rfl (.c (.t n24) rfl .n))) u25 <| om n9 (not_ (.t n25)) u26 <| oe ?_
  refine cdf n26 ?_
  refine skp ?_
  refine rg <| m (mv (.t n5)) u15 <| m (add (.t n15) (.i rfl)) u16 <| m (as_ (.t n16)) u5 <| e ?_
  exact ⟨i + 1, (by omega), (by omega), le [] (by decide) (.c (.e rfl rfl) (.c (.e rfl rfl) (.x2 (.c .a (.c (.e (wi (by omega)) rfl) (.x16 (.x4 (.c .a .n)))))))) .n⟩
 ·
  replace h1 := of_decide_eq_false h1
  refine ex (x1 ?_)
  refine sr <| m (as_ .b) u4 <| e ?_
  refine rt (ret1 (.t n4 (.p rfl) .n) ?_)
  rfl

theorem sp_laws_eqBundle (x : D.Bundle) : Spec Tryz.prog G0 201 [.agg (D.Bundle.V x), .agg (D.Bundle.V x)] (fun r => r = .bool true) := by
 refine enter (l := [.tmp 4]) Tryz.func201 rfl Tryz.ntmps201 rfl T.en201 fun E => ?_
 simp only [List.length_cons, List.length_nil, List.replicate_succ, List.replicate_zero, List.cons_append, List.nil_append, Nat.reduceAdd, Nat.reduceSub]
 refine sr <| k (bx rfl s0 u2 (.t n0)) <| k (bx rfl s1 u3 (.t n1)) <| m (as_ .b) u4 <| e ?_
 refine sq ?_
 refine sr <| m (fab 0 rfl T.f116_0 (.t n2)) u5 <| m (ldb T.o114 n0 n0 (.t n5)) u6 <| m (fab 0 rfl T.f116_0 (.t n3)) u7 <| m (ldb T.o114 n1 n0 (.t n7)) u8 <| c (call (sp_laws_eqEntryS _) (.c (.t n6) rfl (.c (.t n8) rfl .n))) u9 <| m (not_ (.t n9)) u10 <| e ?_
 refine cdf n10 ?_
 refine skp ?_
 refine sr <| m (as_ .b) u4 <| e ?_
 refine rt (ret1 (.t n4 (.p rfl) .n) ?_)
 rfl

theorem sp_laws_eqDevice (x : D.Device) : Spec Tryz.prog G0 104 [.agg (D.Device.V x), .agg (D.Device.V x)] (fun r => r = .bool true) := by
 refine enter (l := [.tmp 4]) Tryz.func104 rfl Tryz.ntmps104 rfl T.en104 fun E => ?_
 simp only [List.length_cons, List.length_nil, List.replicate_succ, List.replicate_zero, List.cons_append, List.nil_append, Nat.reduceAdd, Nat.reduceSub]
 refine sr <| k (bx rfl s0 u2 (.t n0)) <| k (bx rfl s1 u3 (.t n1)) <| m (as_ .b) u4 <| e ?_
 refine sq ?_
 refine sr <| m (fab 0 rfl T.f118_0 (.t n2)) u5 <| m (lab T.a113 n0 d0 k4 (.t n5)) u6 <| m (fab 0 rfl T.f118_0 (.t n3)) u7 <| m (lab T.a113 n1 d0 k4 (.t n7)) u8 <| c (call (sp_laws_eqKeyStore _) (.c (.t n6) rfl (.c (.t n8) rfl .n))) u9 <| m (not_ (.t n9)) u10 <| e ?_
 refine cdf n10 ?_
 refine skp ?_
 refine sq ?_
 refine sr <| m (fab 4 rfl T.f118_1 (.t n2)) u11 <| m (ldb T.o43 n0 n4 (.t n11)) u12 <| m (fab 4 rfl T.f118_1 (.t n3)) u13 <| m (ldb T.o43 n1 n4 (.t n13)) u14 <| c (call (sp_laws_eqLogEntryS _) (.c (.t n12) rfl (.c (.t n14) rfl .n))) u15 <| m (not_ (.t n15)) u16 <| e ?_
 refine cdf n16 ?_
 refine skp ?_
 refine sq ?_
 refine sr <| m (fab 5 rfl T.f118_2 (.t n2)) u17 <| m (ldb T.o3 n0 n5 (.t n17)) u18 <| m (fab 5 rfl T.f118_2 (.t n3)) u19 <| m (ldb T.o3 n1 n5 (.t n19)) u20 <| m (neqs (.t n18) (.t n20)) u21 <| e ?_
 refine cdf n21 ?_
 refine skp ?_
 refine sq ?_
 refine sr <| m (fab 6 rfl T.f118_3 (.t n2)) u22 <| m (ldb T.o3 n0 n6 (.t n22)) u23 <| m (fab 6 rfl T.f118_3 (.t n3)) u24 <| m (ldb T.o3 n1 n6 (.t n24)) u25 <| m (neqs (.t n23) (.t n25)) u26 <| e ?_
 refine cdf n26 ?_
 refine skp ?_
 refine sq ?_
 refine sr <| m (fab 7 rfl T.f118_4 (.t n2)) u27 <| m (ldb T.o3 n0 n7 (.t n27)) u28 <| m (fab 7 rfl T.f118_4 (.t n3)) u29 <| m (ldb T.o3 n1 n7 (.t n29)) u30 <| m (neqs (.t n28) (.t n30)) u31 <| e ?_
 refine cdf n31 ?_
 refine skp ?_
 refine sq ?_
 refine sr <| m (fab 8 rfl T.f118_5 (.t n2)) u32 <| m (lab T.a116 n0 d8 k1 (.t n32)) u33 <| m (fab 8 rfl T.f118_5 (.t n3)) u34 <| m (lab T.a116 n1 d8 k1 (.t n34)) u35 <| c (call (sp_laws_eqBundle _) (.c (.t n33) rfl (.c (.t n35) rfl .n))) u36 <| m (not_ (.t n36)) u37 <| e ?_
 refine cdf n37 ?_
 refine skp ?_
 refine sr <| m (as_ .b) u4 <| e ?_
 refine rt (ret1 (.t n4 (.p rfl) .n) ?_)
 rfl

theorem sp_laws_eqDeviceS (l : List D.Device) : Spec Tryz.prog G0 41 [.slice 9 (l.map D.Device.V), .slice 9 (l.map D.Device.V)] (fun r => r = .bool true) := by
 refine enter (l := [.tmp 4]) Tryz.func41 rfl Tryz.ntmps41 rfl T.en41 fun E => ?_
 simp only [List.length_cons, List.length_nil, List.replicate_succ, List.replicate_zero, List.cons_append, List.nil_append, Nat.reduceAdd, Nat.reduceSub]
 refine rngl n0 fun hlen => ?_
 simp only [List.length_map, maxLen] at hlen
 refine sr <| m (as_ .b) u4 <| e ?_
 refine sq ?_
 refine sr <| m (mv (.t n0)) u6 <| m (lenm T.s42 (.t n6)) u7 <| m (mv (.t n1)) u8 <| m (lenm T.s42 (.t n8)) u9 <| m (neqs (.t n7) (.t n9)) u10 <| e ?_
 refine cdf n10 ?_
 refine skp ?_
 refine sq ?_
 refine sr <| m (as_ (.i rfl)) u5 <| e ?_
 refine bk ?_
 refine lp (fun i : Nat => ⟨[.slice 9 (l.map D.Device.V), .slice 9 (l.map D.Device.V), .any, .any, .any, .int .i64 (i : Int), .any, .any, .any, .any, .any, .any, .any, .any, .any, .any, .any, .any, .any, .any, .any, .any, .any, .any, .any, .any, .any], []⟩) (fun i : Nat => i ≤ l.length) (fun i : Nat => l.length - i) (0) (by simp) (le [] (by decide) (.c (.e rfl rfl) (.c (.e rfl rfl) (.x2 (.c .a (.c (.e rfl rfl) (.x16 (.x4 (.c .a .n)))))))) .n) ?_
 rintro i hJ
 try dsimp only at hJ ⊢
 refine sq ?_
 refine sr <| m (mv (.t n5)) u11 <| m (mv (.t n0)) u12 <| m (lenm T.s42 (.t n12)) u13 <| m (lss (.t n11) (.t n13)) u14 <| e ?_
 refine cnd n14 (fun h1 => ?_) (fun h1 => ?_)
 ·
  replace h1 := of_decide_eq_true h1
  refine skp ?_
  refine sq ?_
  refine bk ?_
  refine sd none [(0, true), (1, true), (2, true), (3, true), (4, true), (5, true), (6, true), (7, true), (8, false), (9, true)] T.mix (by kernel_rfl) <| om n0 (mv (.t n0)) u17 <| om n1 (mv (.t n5)) u18 <| om n2 (ixm T.s42 (Int.natCast_nonneg _) (gi (by omega)) (.t n17) (.t n18)) u19 <| om n3 (lae T.a118 k9 (.t n19)) u20 <| om n4 (mv (.t n1)) u21 <| om n5 (mv (.t n5)) u22 <| om n6 (ixm T.s42 (Int.natCast_nonneg _) (gi (by omega)) (.t n21) (.t n22)) u23 <| om n7 (lae T.a118 k9 (.t n23)) u24 <| oc n8 (call (sp_laws_eqDevice _) (.c (.t n20) rfl (.c (.t n24) rfl .n))) u25 <| om n9 (not_ (.t n25)) u26 <| oe ?_
  refine cdf n26 ?_
  refine skp ?_
  refine rg <| m (mv (.t n5)) u15 <| m (add (.t n15) (.i rfl)) u16 <| m (as_ (.t n16)) u5 <| e ?_
  exact ⟨i + 1, (by omega), (by omega), le [] (by decide) (.c (.e rfl rfl) (.c (.e rfl rfl) (.x2 (.c .a (.c (.e (wi (by omega)) rfl) (.x16 (.x4 (.c .a .n)))))))) .n⟩
 ·
  replace h1 := of_decide_eq_false h1
  refine ex (x1 ?_)
  refine sr <| m (as_ .b) u4 <| e ?_
  refine rt (ret1 (.t n4 (.p rfl) .n) ?_)
  rfl

theorem sp_laws_eqBoolS (l : List Bool) : Spec Tryz.prog G0 42 [.slice 1 (l.map bV), .slice 1 (l.map bV)] (fun r => r = .bool true) := by
 refine enter (l := [.tmp 4]) Tryz.func42 rfl Tryz.ntmps42 rfl T.en42 fun E => ?_
 simp only [List.length_cons, List.length_nil, List.replicate_succ, List.replicate_zero, List.cons_append, List.nil_append, Nat.reduceAdd, Nat.reduceSub]
 refine rngl n0 fun hlen => ?_
 simp only [List.length_map, maxLen] at hlen
 refine sr <| m (as_ .b) u4 <| e ?_
 refine sq ?_
 refine sr <| m (mv (.t n0)) u6 <| m (lenm T.s23 (.t n6)) u7 <| m (mv (.t n1)) u8 <| m (lenm T.s23 (.t n8)) u9 <| m (neqs (.t n7) (.t n9)) u10 <| e ?_
 refine cdf n10 ?_
 refine skp ?_
 refine sq ?_
 refine sr <| m (as_ (.i rfl)) u5 <| e ?_
 refine bk ?_
 refine lp (fun i : Nat => ⟨[.slice 1 (l.map bV), .slice 1 (l.map bV), .any, .any, .any, .int .i64 (i : Int), .any, .any, .any, .any, .any, .any, .any, .any, .any, .any, .any, .any, .any, .any, .any, .any, .any, .any, .any, .any], []⟩) (fun i : Nat => i ≤ l.length) (fun i : Nat => l.length - i) (0) (by simp) (le [] (by decide) (.c (.e rfl rfl) (.c (.e rfl rfl) (.x2 (.c .a (.c (.e rfl rfl) (.x16 (.x4 .n))))))) .n) ?_
 rintro i hJ
 try dsimp only at hJ ⊢
 refine sq ?_
 refine sr <| m (mv (.t n5)) u11 <| m (mv (.t n0)) u12 <| m (lenm T.s23 (.t n12)) u13 <| m (lss (.t n11) (.t n13)) u14 <| e ?_
 refine cnd n14 (fun h1 => ?_) (fun h1 => ?_)
 ·
  replace h1 := of_decide_eq_true h1
  refine skp ?_
  refine sq ?_
  refine bk ?_
  refine sd none [(0, true), (1, true), (2, true), (3, true), (4, true), (5, true), (6, true), (7, true), (8, true)] T.mix (by kernel_rfl) <| om n0 (mv (.t n0)) u17 <| om n1 (mv (.t n5)) u18 <| om n2 (ixm T.s23 (Int.natCast_nonneg _) (gi (by omega)) (.t n17) (.t n18)) u19 <| om n3 (lde T.o4 n0 (.t n19)) u20 <| om n4 (mv (.t n1)) u21 <| om n5 (mv (.t n5)) u22 <| om n6 (ixm T.s23 (Int.natCast_nonneg _) (gi (by omega)) (.t n21) (.t n22)) u23 <| om n7 (lde T.o4 n0 (.t n23)) u24 <| om n8 (bnes Tryz.underlying4 (.t n20) (.t n24)) u25 <| oe ?_
  refine cdf n25 ?_
  refine skp ?_
  refine rg <| m (mv (.t n5)) u15 <| m (add (.t n15) (.i rfl)) u16 <| m (as_ (.t n16)) u5 <| e ?_
  exact ⟨i + 1, (by omega), (by omega), le [] (by decide) (.c (.e rfl rfl) (.c (.e rfl rfl) (.x2 (.c .a (.c (.e (wi (by omega)) rfl) (.x16 (.x4 .n))))))) .n⟩
 ·
  replace h1 := of_decide_eq_false h1
  refine ex (x1 ?_)
  refine sr <| m (as_ .b) u4 <| e ?_
  refine rt (ret1 (.t n4 (.p rfl) .n) ?_)
  rfl

theorem sp_laws_eqByteS (l : List Int) : Spec Tryz.prog G0 278 [.slice 1 (l.map y8), .slice 1 (l.map y8)] (fun r => r = .bool true) := by
 refine enter (l := [.tmp 4]) Tryz.func278 rfl Tryz.ntmps278 rfl T.en278 fun E => ?_
 simp only [List.length_cons, List.length_nil, List.replicate_succ, List.replicate_zero, List.cons_append, List.nil_append, Nat.reduceAdd, Nat.reduceSub]
 refine rngl n0 fun hlen => ?_
 simp only [List.length_map, maxLen] at hlen
 refine sr <| m (as_ .b) u4 <| e ?_
 refine sq ?_
 refine sr <| m (mv (.t n0)) u6 <| m (lenm T.s207 (.t n6)) u7 <| m (mv (.t n1)) u8 <| m (lenm T.s207 (.t n8)) u9 <| m (neqs (.t n7) (.t n9)) u10 <| e ?_
 refine cdf n10 ?_
 refine skp ?_
 refine sq ?_
 refine sr <| m (as_ (.i rfl)) u5 <| e ?_
 refine bk ?_
 refine lp (fun i : Nat => ⟨[.slice 1 (l.map y8), .slice 1 (l.map y8), .any, .any, .any, .int .i64 (i : Int), .any, .any, .any, .any, .any, .any, .any, .any, .any, .any, .any, .any, .any, .any, .any, .any, .any, .any, .any, .any], []⟩) (fun i : Nat => i ≤ l.length) (fun i : Nat => l.length - i) (0) (by simp) (le [] (by decide) (.c (.e rfl rfl) (.c (.e rfl rfl) (.x2 (.c .a (.c (.e rfl rfl) (.x16 (.x4 .n))))))) .n) ?_
 rintro i hJ
 try dsimp only at hJ ⊢
 refine sq ?_
 refine sr <| m (mv (.t n5)) u11 <| m (mv (.t n0)) u12 <| m (lenm T.s207 (.t n12)) u13 <| m (lss (.t n11) (.t n13)) u14 <| e ?_
 refine cnd n14 (fun h1 => ?_) (fun h1 => ?_)
 ·
  replace h1 := of_decide_eq_true h1
  refine skp ?_
  refine sq ?_
  refine bk ?_
  refine sd none [(0, true), (1, true), (2, true), (3, true), (4, true), (5, true), (6, true), (7, true), (8, true)] T.mix (by kernel_rfl) <| om n0 (mv (.t n0)) u17 <| om n1 (mv (.t n5)) u18 <| om n2 (ixm T.s207 (Int.natCast_nonneg _) (gi (by omega)) (.t n17) (.t n18)) u19 <| om n3 (lde T.o5 n0 (.t n19)) u20 <| om n4 (mv (.t n1)) u21 <| om n5 (mv (.t n5)) u22 <| om n6 (ixm T.s207 (Int.natCast_nonneg _) (gi (by omega)) (.t n21) (.t n22)) u23 <| om n7 (lde T.o5 n0 (.t n23)) u24 <| om n8 (neqs (.t n20) (.t n24)) u25 <| oe ?_
  refine cdf n25 ?_
  refine skp ?_
  refine rg <| m (mv (.t n5)) u15 <| m (add (.t n15) (.i rfl)) u16 <| m (as_ (.t n16)) u5 <| e ?_
  exact ⟨i + 1, (by omega), (by omega), le [] (by decide) (.c (.e rfl rfl) (.c (.e rfl rfl) (.x2 (.c .a (.c (.e (wi (by omega)) rfl) (.x16 (.x4 .n))))))) .n⟩
 ·
  replace h1 := of_decide_eq_false h1
  refine ex (x1 ?_)
  refine sr <| m (as_ .b) u4 <| e ?_
  refine rt (ret1 (.t n4 (.p rfl) .n) ?_)
  rfl

theorem sp_laws_eqBox (x : D.Box) : Spec Tryz.prog G0 277 [.agg (D.Box.V x), .agg (D.Box.V x)] (fun r => r = .bool true) := by
 refine enter (l := [.tmp 4]) Tryz.func277 rfl Tryz.ntmps277 rfl T.en277 fun E => ?_
 simp only [List.length_cons, List.length_nil, List.replicate_succ, List.replicate_zero, List.cons_append, List.nil_append, Nat.reduceAdd, Nat.reduceSub]
 refine sr <| k (bx rfl s0 u2 (.t n0)) <| k (bx rfl s1 u3 (.t n1)) <| m (as_ .b) u4 <| e ?_
 refine sq ?_
 refine sr <| m (fab 0 rfl T.f293_0 (.t n2)) u5 <| m (ldb T.o3 n0 n0 (.t n5)) u6 <| m (fab 0 rfl T.f293_0 (.t n3)) u7 <| m (ldb T.o3 n1 n0 (.t n7)) u8 <| m (neqs (.t n6) (.t n8)) u9 <| e ?_
 refine cdf n9 ?_
 refine skp ?_
 refine sq ?_
 refine sr <| m (fab 1 rfl T.f293_1 (.t n2)) u10 <| m (ldb T.o3 n0 n1 (.t n10)) u11 <| m (fab 1 rfl T.f293_1 (.t n3)) u12 <| m (ldb T.o3 n1 n1 (.t n12)) u13 <| m (neqs (.t n11) (.t n13)) u14 <| e ?_
 refine cdf n14 ?_
 refine skp ?_
 refine sq ?_
 refine sr <| m (fab 2 rfl T.f293_2 (.t n2)) u15 <| m (ldb T.o207 n0 n2 (.t n15)) u16 <| m (fab 2 rfl T.f293_2 (.t n3)) u17 <| m (ldb T.o207 n1 n2 (.t n17)) u18 <| c (call (sp_laws_eqByteS _) (.c (.t n16) rfl (.c (.t n18) rfl .n))) u19 <| m (not_ (.t n19)) u20 <| e ?_
 refine cdf n20 ?_
 refine skp ?_
 refine sq ?_
 refine sr <| m (fab 3 rfl T.f293_3 (.t n2)) u21 <| m (ldb T.o3 n0 n3 (.t n21)) u22 <| m (fab 3 rfl T.f293_3 (.t n3)) u23 <| m (ldb T.o3 n1 n3 (.t n23)) u24 <| m (neqs (.t n22) (.t n24)) u25 <| e ?_
 refine cdf n25 ?_
 refine skp ?_
 refine sr <| m (as_ .b) u4 <| e ?_
 refine rt (ret1 (.t n4 (.p rfl) .n) ?_)
 rfl

theorem sp_laws_eqBoxS (l : List D.Box) : Spec Tryz.prog G0 203 [.slice 4 (l.map D.Box.V), .slice 4 (l.map D.Box.V)] (fun r => r = .bool true) := by
 refine enter (l := [.tmp 4]) Tryz.func203 rfl Tryz.ntmps203 rfl T.en203 fun E => ?_
 simp only [List.length_cons, List.length_nil, List.replicate_succ, List.replicate_zero, List.cons_append, List.nil_append, Nat.reduceAdd, Nat.reduceSub]
 refine rngl n0 fun hlen => ?_
 simp only [List.length_map, maxLen] at hlen
 refine sr <| m (as_ .b) u4 <| e ?_
 refine sq ?_
 refine sr <| m (mv (.t n0)) u6 <| m (lenm T.s44 (.t n6)) u7 <| m (mv (.t n1)) u8 <| m (lenm T.s44 (.t n8)) u9 <| m (neqs (.t n7) (.t n9)) u10 <| e ?_
 refine cdf n10 ?_
 refine skp ?_
 refine sq ?_
 refine sr <| m (as_ (.i rfl)) u5 <| e ?_
 refine bk ?_
 refine lp (fun i : Nat => ⟨[.slice 4 (l.map D.Box.V), .slice 4 (l.map D.Box.V), .any, .any, .any, .int .i64 (i : Int), .any, .any, .any, .any, .any, .any, .any, .any, .any, .any, .any, .any, .any, .any, .any, .any, .any, .any, .any, .any, .any], []⟩) (fun i : Nat => i ≤ l.length) (fun i : Nat => l.length - i) (0) (by simp) (le [] (by decide) (.c (.e rfl rfl) (.c (.e rfl rfl) (.x2 (.c .a (.c (.e rfl rfl) (.x16 (.x4 (.c .a .n)))))))) .n) ?_
 rintro i hJ
 try dsimp only at hJ ⊢
 refine sq ?_
 refine sr <| m (mv (.t n5)) u11 <| m (mv (.t n0)) u12 <| m (lenm T.s44 (.t n12)) u13 <| m (lss (.t n11) (.t n13)) u14 <| e ?_
 refine cnd n14 (fun h1 => ?_) (fun h1 => ?_)
 ·
  replace h1 := of_decide_eq_true h1
  refine skp ?_
  refine sq ?_
  refine bk ?_
  refine sd none [(0, true), (1, true), (2, true), (3, true), (4, true), (5, true), (6, true), (7, true), (8, false), (9, true)] T.mix (by kernel_rfl) <| om n0 (mv (.t n0)) u17 <| om n1 (mv (.t n5)) u18 <| om n2 (ixm T.s44 (Int.natCast_nonneg _) (gi (by omega)) (.t n17) (.t n18)) u19 <| om n3 (lae T.a293 k4 (.t n19)) u20 <| om n4 (mv (.t n1)) u21 <| om n5 (mv (.t n5)) u22 <| om n6 (ixm T.s44 (Int.natCast_nonneg _) (gi (by omega)) (.t n21) (.t n22)) u23 <| om n7 (lae T.a293 k4 (.t n23)) u24 <| oc n8 (call (sp_laws_eqBox _) (.c (.t n20) rfl (.c (.t n24) rfl .n))) u25 <| om n9 (not_ (.t n25)) u26 <| oe ?_
  refine cdf n26 ?_
  refine skp ?_
  refine rg <| m (mv (.t n5)) u15 <| m (add (.t n15) (.i rfl)) u16 <| m (as_ (.t n16)) u5 <| e ?_
  exact ⟨i + 1, (by omega), (by omega), le [] (by decide) (.c (.e rfl rfl) (.c (.e rfl rfl) (.x2 (.c .a (.c (.e (wi (by omega)) rfl) (.x16 (.x4 (.c .a .n)))))))) .n⟩
 ·
  replace h1 := of_decide_eq_false h1
  refine ex (x1 ?_)
  refine sr <| m (as_ .b) u4 <| e ?_
  refine rt (ret1 (.t n4 (.p rfl) .n) ?_)
  rfl

theorem sp_laws_eqEpochBoxes (x : D.EpochBoxes) : Spec Tryz.prog G0 106 [.agg (D.EpochBoxes.V x), .agg (D.EpochBoxes.V x)] (fun r => r = .bool true) := by
 refine enter (l := [.tmp 4]) Tryz.func106 rfl Tryz.ntmps106 rfl T.en106 fun E => ?_
 simp only [List.length_cons, List.length_nil, List.replicate_succ, List.replicate_zero, List.cons_append, List.nil_append, Nat.reduceAdd, Nat.reduceSub]
 refine sr <| k (bx rfl s0 u2 (.t n0)) <| k (bx rfl s1 u3 (.t n1)) <| m (as_ .b) u4 <| e ?_
 refine sq ?_
 refine sr <| m (fab 0 rfl T.f46_0 (.t n2)) u5 <| m (ldb T.o3 n0 n0 (.t n5)) u6 <| m (fab 0 rfl T.f46_0 (.t n3)) u7 <| m (ldb T.o3 n1 n0 (.t n7)) u8 <| m (neqs (.t n6) (.t n8)) u9 <| e ?_
 refine cdf n9 ?_
 refine skp ?_
 refine sq ?_
 refine sr <| m (fab 1 rfl T.f46_1 (.t n2)) u10 <| m (ldb T.o44 n0 n1 (.t n10)) u11 <| m (fab 1 rfl T.f46_1 (.t n3)) u12 <| m (ldb T.o44 n1 n1 (.t n12)) u13 <| c (call (sp_laws_eqBoxS _) (.c (.t n11) rfl (.c (.t n13) rfl .n))) u14 <| m (not_ (.t n14)) u15 <| e ?_
 refine cdf n15 ?_
 refine skp ?_
 refine sr <| m (as_ .b) u4 <| e ?_
 refine rt (ret1 (.t n4 (.p rfl) .n) ?_)
 rfl

theorem sp_laws_eqSealedBundle (x : D.SealedBundle) : Spec Tryz.prog G0 204 [.agg (D.SealedBundle.V x), .agg (D.SealedBundle.V x)] (fun r => r = .bool true) := by
 refine enter (l := [.tmp 4]) Tryz.func204 rfl Tryz.ntmps204 rfl T.en204 fun E => ?_
 simp only [List.length_cons, List.length_nil, List.replicate_succ, List.replicate_zero, List.cons_append, List.nil_append, Nat.reduceAdd, Nat.reduceSub]
 refine sr <| k (bx rfl s0 u2 (.t n0)) <| k (bx rfl s1 u3 (.t n1)) <| m (as_ .b) u4 <| e ?_
 refine sq ?_
 refine sr <| m (fab 0 rfl T.f226_0 (.t n2)) u5 <| m (ldb T.o3 n0 n0 (.t n5)) u6 <| m (fab 0 rfl T.f226_0 (.t n3)) u7 <| m (ldb T.o3 n1 n0 (.t n7)) u8 <| m (neqs (.t n6) (.t n8)) u9 <| e ?_
 refine cdf n9 ?_
 refine skp ?_
 refine sq ?_
 refine sr <| m (fab 1 rfl T.f226_1 (.t n2)) u10 <| m (ldb T.o3 n0 n1 (.t n10)) u11 <| m (fab 1 rfl T.f226_1 (.t n3)) u12 <| m (ldb T.o3 n1 n1 (.t n12)) u13 <| m (neqs (.t n11) (.t n13)) u14 <| e ?_
 refine cdf n14 ?_
 refine skp ?_
 refine sq ?_
 refine sr <| m (fab 2 rfl T.f226_2 (.t n2)) u15 <| m (ldb T.o207 n0 n2 (.t n15)) u16 <| m (fab 2 rfl T.f226_2 (.t n3)) u17 <| m (ldb T.o207 n1 n2 (.t n17)) u18 <| c (call (sp_laws_eqByteS _) (.c (.t n16) rfl (.c (.t n18) rfl .n))) u19 <| m (not_ (.t n19)) u20 <| e ?_
 refine cdf n20 ?_
 refine skp ?_
 refine sq ?_
 refine sr <| m (fab 3 rfl T.f226_3 (.t n2)) u21 <| m (ldb T.o3 n0 n3 (.t n21)) u22 <| m (fab 3 rfl T.f226_3 (.t n3)) u23 <| m (ldb T.o3 n1 n3 (.t n23)) u24 <| m (neqs (.t n22) (.t n24)) u25 <| e ?_
 refine cdf n25 ?_
 refine skp ?_
 refine sr <| m (as_ .b) u4 <| e ?_
 refine rt (ret1 (.t n4 (.p rfl) .n) ?_)
 rfl

theorem sp_laws_eqSealedBundleS (l : List D.SealedBundle) : Spec Tryz.prog G0 107 [.slice 4 (l.map D.SealedBundle.V), .slice 4 (l.map D.SealedBundle.V)] (fun r => r = .bool true) := by
 refine enter (l := [.tmp 4]) Tryz.func107 rfl Tryz.ntmps107 rfl T.en107 fun E => ?_
 simp only [List.length_cons, List.length_nil, List.replicate_succ, List.replicate_zero, List.cons_append, List.nil_append, Nat.reduceAdd, Nat.reduceSub]
 refine rngl n0 fun hlen => ?_
 simp only [List.length_map, maxLen] at hlen
 refine sr <| m (as_ .b) u4 <| e ?_
 refine sq ?_
 refine sr <| m (mv (.t n0)) u6 <| m (lenm T.s47 (.t n6)) u7 <| m (mv (.t n1)) u8 <| m (lenm T.s47 (.t n8)) u9 <| m (neqs (.t n7) (.t n9)) u10 <| e ?_
 refine cdf n10 ?_
 refine skp ?_
 refine sq ?_
 refine sr <| m (as_ (.i rfl)) u5 <| e ?_
 refine bk ?_
 refine lp (fun i : Nat => ⟨[.slice 4 (l.map D.SealedBundle.V), .slice 4 (l.map D.SealedBundle.V), .any, .any, .any, .int .i64 (i : Int), .any, .any, .any, .any, .any, .any, .any, .any, .any, .any, .any, .any, .any, .any, .any, .any, .any, .any, .any, .any, .any], []⟩) (fun i : Nat => i ≤ l.length) (fun i : Nat => l.length - i) (0) (by simp) (le [] (by decide) (.c (.e rfl rfl) (.c (.e rfl rfl) (.x2 (.c .a (.c (.e rfl rfl) (.x16 (.x4 (.c .a .n)))))))) .n) ?_
 rintro i hJ
 try dsimp only at hJ ⊢
 refine sq ?_
 refine sr <| m (mv (.t n5)) u11 <| m (mv (.t n0)) u12 <| m (lenm T.s47 (.t n12)) u13 <| m (lss (.t n11) (.t n13)) u14 <| e ?_
 refine cnd n14 (fun h1 => ?_) (fun h1 => ?_)
 ·
  replace h1 := of_decide_eq_true h1
  refine skp ?_
  refine sq ?_
  refine bk ?_
  refine sd none [(0, true), (1, true), (2, true), (3, true), (4, true), (5, true), (6, true), (7, true), (8, false), (9, true)] T.mix (by kernel_rfl) <| om n0 (mv (.t n0)) u17 <| om n1 (mv (.t n5)) u18 <| om n2 (ixm T.s47 (Int.natCast_nonneg _) (gi (by omega)) (.t n17) (.t n18)) u19 <| om n3 (lae T.a226 k4 (.t n19)) u20 <| om n4 (mv (.t n1)) u21 <| om n5 (mv (.t n5)) u22 <| om n6 (ixm T.s47 (Int.natCast_nonneg _) (gi (by omega)) (.t n21) (.t n22)) u23 <| om n7 (lae T.a226 k4 (.t n23)) u24 <| oc n8 (call (sp_laws_eqSealedBundle _) (.c (.t n20) rfl (.c (.t n24) rfl .n))) u25 <| om n9 (not_ (.t n25)) u26 <| oe ?_
  refine cdf n26 ?_
  refine skp ?_
  refine rg <| m (mv (.t n5)) u15 <| m (add (.t n15) (.i rfl)) u16 <| m (as_ (.t n16)) u5 <| e ?_
  exact ⟨i + 1, (by omega), (by omega), le [] (by decide) (.c (.e rfl rfl) (.c (.e rfl rfl) (.x2 (.c .a (.c (.e (wi (by omega)) rfl) (.x16 (.x4 (.c .a .n)))))))) .n⟩
 ·
  replace h1 := of_decide_eq_false h1
  refine ex (x1 ?_)
  refine sr <| m (as_ .b) u4 <| e ?_
  refine rt (ret1 (.t n4 (.p rfl) .n) ?_)
  rfl

theorem sp_laws_eqCloud (x : D.Cloud) : Spec Tryz.prog G0 43 [.agg (D.Cloud.V x), .agg (D.Cloud.V x)] (fun r => r = .bool true) := by
 refine enter (l := [.tmp 4]) Tryz.func43 rfl Tryz.ntmps43 rfl T.en43 fun E => ?_
 simp only [List.length_cons, List.length_nil, List.replicate_succ, List.replicate_zero, List.cons_append, List.nil_append, Nat.reduceAdd, Nat.reduceSub]
 refine sr <| k (bx rfl s0 u2 (.t n0)) <| k (bx rfl s1 u3 (.t n1)) <| m (as_ .b) u4 <| e ?_
 refine sq ?_
 refine sr <| m (fab 0 rfl T.f49_0 (.t n2)) u5 <| m (ldb T.o43 n0 n0 (.t n5)) u6 <| m (fab 0 rfl T.f49_0 (.t n3)) u7 <| m (ldb T.o43 n1 n0 (.t n7)) u8 <| c (call (sp_laws_eqLogEntryS _) (.c (.t n6) rfl (.c (.t n8) rfl .n))) u9 <| m (not_ (.t n9)) u10 <| e ?_
 refine cdf n10 ?_
 refine skp ?_
 refine sq ?_
 refine sr <| m (fab 1 rfl T.f49_1 (.t n2)) u11 <| m (lab T.a46 n0 d1 k2 (.t n11)) u12 <| m (fab 1 rfl T.f49_1 (.t n3)) u13 <| m (lab T.a46 n1 d1 k2 (.t n13)) u14 <| c (call (sp_laws_eqEpochBoxes _) (.c (.t n12) rfl (.c (.t n14) rfl .n))) u15 <| m (not_ (.t n15)) u16 <| e ?_
 refine cdf n16 ?_
 refine skp ?_
 refine sq ?_
 refine sr <| m (fab 3 rfl T.f49_2 (.t n2)) u17 <| m (ldb T.o47 n0 n3 (.t n17)) u18 <| m (fab 3 rfl T.f49_2 (.t n3)) u19 <| m (ldb T.o47 n1 n3 (.t n19)) u20 <| c (call (sp_laws_eqSealedBundleS _) (.c (.t n18) rfl (.c (.t n20) rfl .n))) u21 <| m (not_ (.t n21)) u22 <| e ?_
 refine cdf n22 ?_
 refine skp ?_
 refine sr <| m (as_ .b) u4 <| e ?_
 refine rt (ret1 (.t n4 (.p rfl) .n) ?_)
 rfl

theorem sp_laws_eqCredential (x : D.Credential) : Spec Tryz.prog G0 320 [.agg (D.Credential.V x), .agg (D.Credential.V x)] (fun r => r = .bool true) := by
 refine enter (l := [.tmp 4]) Tryz.func320 rfl Tryz.ntmps320 rfl T.en320 fun E => ?_
 simp only [List.length_cons, List.length_nil, List.replicate_succ, List.replicate_zero, List.cons_append, List.nil_append, Nat.reduceAdd, Nat.reduceSub]
 refine sr <| k (bx rfl s0 u2 (.t n0)) <| k (bx rfl s1 u3 (.t n1)) <| m (as_ .b) u4 <| e ?_
 refine sq ?_
 refine sr <| m (fab 0 rfl T.f176_0 (.t n2)) u5 <| m (ldb T.o3 n0 n0 (.t n5)) u6 <| m (fab 0 rfl T.f176_0 (.t n3)) u7 <| m (ldb T.o3 n1 n0 (.t n7)) u8 <| m (neqs (.t n6) (.t n8)) u9 <| e ?_
 refine cdf n9 ?_
 refine skp ?_
 refine sq ?_
 refine sr <| m (fab 1 rfl T.f176_1 (.t n2)) u10 <| m (ldb T.o3 n0 n1 (.t n10)) u11 <| m (fab 1 rfl T.f176_1 (.t n3)) u12 <| m (ldb T.o3 n1 n1 (.t n12)) u13 <| m (neqs (.t n11) (.t n13)) u14 <| e ?_
 refine cdf n14 ?_
 refine skp ?_
 refine sq ?_
 refine sr <| m (fab 2 rfl T.f176_2 (.t n2)) u15 <| m (ldb T.o3 n0 n2 (.t n15)) u16 <| m (fab 2 rfl T.f176_2 (.t n3)) u17 <| m (ldb T.o3 n1 n2 (.t n17)) u18 <| m (neqs (.t n16) (.t n18)) u19 <| e ?_
 refine cdf n19 ?_
 refine skp ?_
 refine sq ?_
 refine sr <| m (fab 3 rfl T.f176_3 (.t n2)) u20 <| m (ldb T.o4 n0 n3 (.t n20)) u21 <| m (fab 3 rfl T.f176_3 (.t n3)) u22 <| m (ldb T.o4 n1 n3 (.t n22)) u23 <| m (bnes Tryz.underlying4 (.t n21) (.t n23)) u24 <| e ?_
 refine cdf n24 ?_
 refine skp ?_
 refine sr <| m (as_ .b) u4 <| e ?_
 refine rt (ret1 (.t n4 (.p rfl) .n) ?_)
 rfl

theorem sp_laws_eqCredentialS (l : List D.Credential) : Spec Tryz.prog G0 307 [.slice 4 (l.map D.Credential.V), .slice 4 (l.map D.Credential.V)] (fun r => r = .bool true) := by
 refine enter (l := [.tmp 4]) Tryz.func307 rfl Tryz.ntmps307 rfl T.en307 fun E => ?_
 simp only [List.length_cons, List.length_nil, List.replicate_succ, List.replicate_zero, List.cons_append, List.nil_append, Nat.reduceAdd, Nat.reduceSub]
 refine rngl n0 fun hlen => ?_
 simp only [List.length_map, maxLen] at hlen
 refine sr <| m (as_ .b) u4 <| e ?_
 refine sq ?_
 refine sr <| m (mv (.t n0)) u6 <| m (lenm T.s172 (.t n6)) u7 <| m (mv (.t n1)) u8 <| m (lenm T.s172 (.t n8)) u9 <| m (neqs (.t n7) (.t n9)) u10 <| e ?_
 refine cdf n10 ?_
 refine skp ?_
 refine sq ?_
 refine sr <| m (as_ (.i rfl)) u5 <| e ?_
 refine bk ?_
 refine lp (fun i : Nat => ⟨[.slice 4 (l.map D.Credential.V), .slice 4 (l.map D.Credential.V), .any, .any, .any, .int .i64 (i : Int), .any, .any, .any, .any, .any, .any, .any, .any, .any, .any, .any, .any, .any, .any, .any, .any, .any, .any, .any, .any, .any], []⟩) (fun i : Nat => i ≤ l.length) (fun i : Nat => l.length - i) (0) (by simp) (le [] (by decide) (.c (.e rfl rfl) (.c (.e rfl rfl) (.x2 (.c .a (.c (.e rfl rfl) (.x16 (.x4 (.c .a .n)))))))) .n) ?_
 rintro i hJ
 try dsimp only at hJ ⊢
 refine sq ?_
 refine sr <| m (mv (.t n5)) u11 <| m (mv (.t n0)) u12 <| m (lenm T.s172 (.t n12)) u13 <| m (lss (.t n11) (.t n13)) u14 <| e ?_
 refine cnd n14 (fun h1 => ?_) (fun h1 => ?_)
 ·
  replace h1 := of_decide_eq_true h1
  refine skp ?_
  refine sq ?_
  refine bk ?_
  refine sd none [(0, true), (1, true), (2, true), (3, true), (4, true), (5, true), (6, true), (7, true), (8, false), (9, true)] T.mix (by kernel_rfl) <| om n0 (mv (.t n0)) u17 <| om n1 (mv (.t n5)) u18 <| om n2 (ixm T.s172 (Int.natCast_nonneg _) (gi (by omega)) (.t n17) (.t n18)) u19 <| om n3 (lae T.a176 k4 (.t n19)) u20 <| om n4 (mv (.t n1)) u21 <| om n5 (mv (.t n5)) u22 <| om n6 (ixm T.s172 (Int.natCast_nonneg _) (gi (by omega)) (.t n21) (.t n22)) u23 <| om n7 (lae T.a176 k4 (.t n23)) u24 <| oc n8 (call (sp_laws_eqCredential _) (.c (.t n20) rfl (.c (.t n24) rfl .n))) u25 <| om n9 (not_ (.t n25)) u26 <| oe ?_
  refine cdf n26 ?_
  refine skp ?_
  refine rg <| m (mv (.t n5)) u15 <| m (add (.t n15) (.i rfl)) u16 <| m (as_ (.t n16)) u5 <| e ?_
  exact ⟨i + 1, (by omega), (by omega), le [] (by decide) (.c (.e rfl rfl) (.c (.e rfl rfl) (.x2 (.c .a (.c (.e (wi (by omega)) rfl) (.x16 (.x4 (.c .a .n)))))))) .n⟩
 ·
  replace h1 := of_decide_eq_false h1
  refine ex (x1 ?_)
  refine sr <| m (as_ .b) u4 <| e ?_
  refine rt (ret1 (.t n4 (.p rfl) .n) ?_)
  rfl

theorem sp_laws_eqAccount (x : D.Account) : Spec Tryz.prog G0 279 [.agg (D.Account.V x), .agg (D.Account.V x)] (fun r => r = .bool true) := by
 refine enter (l := [.tmp 4]) Tryz.func279 rfl Tryz.ntmps279 rfl T.en279 fun E => ?_
 simp only [List.length_cons, List.length_nil, List.replicate_succ, List.replicate_zero, List.cons_append, List.nil_append, Nat.reduceAdd, Nat.reduceSub]
 refine sr <| k (bx rfl s0 u2 (.t n0)) <| k (bx rfl s1 u3 (.t n1)) <| m (as_ .b) u4 <| e ?_
 refine sq ?_
 refine sr <| m (fab 0 rfl T.f174_0 (.t n2)) u5 <| m (ldb T.o3 n0 n0 (.t n5)) u6 <| m (fab 0 rfl T.f174_0 (.t n3)) u7 <| m (ldb T.o3 n1 n0 (.t n7)) u8 <| m (neqs (.t n6) (.t n8)) u9 <| e ?_
 refine cdf n9 ?_
 refine skp ?_
 refine sq ?_
 refine sr <| m (fab 1 rfl T.f174_1 (.t n2)) u10 <| m (ldb T.o3 n0 n1 (.t n10)) u11 <| m (fab 1 rfl T.f174_1 (.t n3)) u12 <| m (ldb T.o3 n1 n1 (.t n12)) u13 <| m (neqs (.t n11) (.t n13)) u14 <| e ?_
 refine cdf n14 ?_
 refine skp ?_
 refine sq ?_
 refine sr <| m (fab 2 rfl T.f174_2 (.t n2)) u15 <| m (ldb T.o172 n0 n2 (.t n15)) u16 <| m (fab 2 rfl T.f174_2 (.t n3)) u17 <| m (ldb T.o172 n1 n2 (.t n17)) u18 <| c (call (sp_laws_eqCredentialS _) (.c (.t n16) rfl (.c (.t n18) rfl .n))) u19 <| m (not_ (.t n19)) u20 <| e ?_
 refine cdf n20 ?_
 refine skp ?_
 refine sr <| m (as_ .b) u4 <| e ?_
 refine rt (ret1 (.t n4 (.p rfl) .n) ?_)
 rfl

theorem sp_laws_eqAccountS (l : List D.Account) : Spec Tryz.prog G0 205 [.slice 3 (l.map D.Account.V), .slice 3 (l.map D.Account.V)] (fun r => r = .bool true) := by
 refine enter (l := [.tmp 4]) Tryz.func205 rfl Tryz.ntmps205 rfl T.en205 fun E => ?_
 simp only [List.length_cons, List.length_nil, List.replicate_succ, List.replicate_zero, List.cons_append, List.nil_append, Nat.reduceAdd, Nat.reduceSub]
 refine rngl n0 fun hlen => ?_
 simp only [List.length_map, maxLen] at hlen
 refine sr <| m (as_ .b) u4 <| e ?_
 refine sq ?_
 refine sr <| m (mv (.t n0)) u6 <| m (lenm T.s147 (.t n6)) u7 <| m (mv (.t n1)) u8 <| m (lenm T.s147 (.t n8)) u9 <| m (neqs (.t n7) (.t n9)) u10 <| e ?_
 refine cdf n10 ?_
 refine skp ?_
 refine sq ?_
 refine sr <| m (as_ (.i rfl)) u5 <| e ?_
 refine bk ?_
 refine lp (fun i : Nat => ⟨[.slice 3 (l.map D.Account.V), .slice 3 (l.map D.Account.V), .any, .any, .any, .int .i64 (i : Int), .any, .any, .any, .any, .any, .any, .any, .any, .any, .any, .any, .any, .any, .any, .any, .any, .any, .any, .any, .any, .any], []⟩) (fun i : Nat => i ≤ l.length) (fun i : Nat => l.length - i) (0) (by simp) (le [] (by decide) (.c (.e rfl rfl) (.c (.e rfl rfl) (.x2 (.c .a (.c (.e rfl rfl) (.x16 (.x4 (.c .a .n)))))))) .n) ?_
 rintro i hJ
 try dsimp only at hJ ⊢
 refine sq ?_
 refine sr <| m (mv (.t n5)) u11 <| m (mv (.t n0)) u12 <| m (lenm T.s147 (.t n12)) u13 <| m (lss (.t n11) (.t n13)) u14 <| e ?_
 refine cnd n14 (fun h1 => ?_) (fun h1 => ?_)
 ·
  replace h1 := of_decide_eq_true h1
  refine skp ?_
  refine sq ?_
  refine bk ?_
  refine sd none [(0, true), (1, true), (2, true), (3, true), (4, true), (5, true), (6, true), (7, true), (8, false), (9, true)] T.mix (by kernel_rfl) <| om n0 (mv (.t n0)) u17 <| om n1 (mv (.t n5)) u18 <| om n2 (ixm T.s147 (Int.natCast_nonneg _) (gi (by omega)) (.t n17) (.t n18)) u19 <| om n3 (lae T.a174 k3 (.t n19)) u20 <| om n4 (mv (.t n1)) u21 <| om n5 (mv (.t n5)) u22 <| om n6 (ixm T.s147 (Int.natCast_nonneg _) (gi (by omega)) (.t n21) (.t n22)) u23 <| om n7 (lae T.a174 k3 (.t n23)) u24 <| oc n8 (call (sp_laws_eqAccount _) (.c (.t n20) rfl (.c (.t n24) rfl .n))) u25 <| om n9 (not_ (.t n25)) u26 <| oe ?_
  refine cdf n26 ?_
  refine skp ?_
  refine rg <| m (mv (.t n5)) u15 <| m (add (.t n15) (.i rfl)) u16 <| m (as_ (.t n16)) u5 <| e ?_
  exact ⟨i + 1, (by omega), (by omega), le [] (by decide) (.c (.e rfl rfl) (.c (.e rfl rfl) (.x2 (.c .a (.c (.e (wi (by omega)) rfl) (.x16 (.x4 (.c .a .n)))))))) .n⟩
 ·
  replace h1 := of_decide_eq_false h1
  refine ex (x1 ?_)
  refine sr <| m (as_ .b) u4 <| e ?_
  refine rt (ret1 (.t n4 (.p rfl) .n) ?_)
  rfl

theorem sp_laws_eqChallenge (x : D.Challenge) : Spec Tryz.prog G0 308 [.agg (D.Challenge.V x), .agg (D.Challenge.V x)] (fun r => r = .bool true) := by
 refine enter (l := [.tmp 4]) Tryz.func308 rfl Tryz.ntmps308 rfl T.en308 fun E => ?_
 simp only [List.length_cons, List.length_nil, List.replicate_succ, List.replicate_zero, List.cons_append, List.nil_append, Nat.reduceAdd, Nat.reduceSub]
 refine sr <| k (bx rfl s0 u2 (.t n0)) <| k (bx rfl s1 u3 (.t n1)) <| m (as_ .b) u4 <| e ?_
 refine sq ?_
 refine sr <| m (fab 0 rfl T.f269_0 (.t n2)) u5 <| m (ldb T.o3 n0 n0 (.t n5)) u6 <| m (fab 0 rfl T.f269_0 (.t n3)) u7 <| m (ldb T.o3 n1 n0 (.t n7)) u8 <| m (neqs (.t n6) (.t n8)) u9 <| e ?_
 refine cdf n9 ?_
 refine skp ?_
 refine sq ?_
 refine sr <| m (fab 1 rfl T.f269_1 (.t n2)) u10 <| m (ldb T.o3 n0 n1 (.t n10)) u11 <| m (fab 1 rfl T.f269_1 (.t n3)) u12 <| m (ldb T.o3 n1 n1 (.t n12)) u13 <| m (neqs (.t n11) (.t n13)) u14 <| e ?_
 refine cdf n14 ?_
 refine skp ?_
 refine sq ?_
 refine sr <| m (fab 2 rfl T.f269_2 (.t n2)) u15 <| m (ldb T.o3 n0 n2 (.t n15)) u16 <| m (fab 2 rfl T.f269_2 (.t n3)) u17 <| m (ldb T.o3 n1 n2 (.t n17)) u18 <| m (neqs (.t n16) (.t n18)) u19 <| e ?_
 refine cdf n19 ?_
 refine skp ?_
 refine sr <| m (as_ .b) u4 <| e ?_
 refine rt (ret1 (.t n4 (.p rfl) .n) ?_)
 rfl

theorem sp_laws_eqChallengeS (l : List D.Challenge) : Spec Tryz.prog G0 280 [.slice 3 (l.map D.Challenge.V), .slice 3 (l.map D.Challenge.V)] (fun r => r = .bool true) := by
 refine enter (l := [.tmp 4]) Tryz.func280 rfl Tryz.ntmps280 rfl T.en280 fun E => ?_
 simp only [List.length_cons, List.length_nil, List.replicate_succ, List.replicate_zero, List.cons_append, List.nil_append, Nat.reduceAdd, Nat.reduceSub]
 refine rngl n0 fun hlen => ?_
 simp only [List.length_map, maxLen] at hlen
 refine sr <| m (as_ .b) u4 <| e ?_
 refine sq ?_
 refine sr <| m (mv (.t n0)) u6 <| m (lenm T.s148 (.t n6)) u7 <| m (mv (.t n1)) u8 <| m (lenm T.s148 (.t n8)) u9 <| m (neqs (.t n7) (.t n9)) u10 <| e ?_
 refine cdf n10 ?_
 refine skp ?_
 refine sq ?_
 refine sr <| m (as_ (.i rfl)) u5 <| e ?_
 refine bk ?_
 refine lp (fun i : Nat => ⟨[.slice 3 (l.map D.Challenge.V), .slice 3 (l.map D.Challenge.V), .any, .any, .any, .int .i64 (i : Int), .any, .any, .any, .any, .any, .any, .any, .any, .any, .any, .any, .any, .any, .any, .any, .any, .any, .any, .any, .any, .any], []⟩) (fun i : Nat => i ≤ l.length) (fun i : Nat => l.length - i) (0) (by simp) (le [] (by decide) (.c (.e rfl rfl) (.c (.e rfl rfl) (.x2 (.c .a (.c (.e rfl rfl) (.x16 (.x4 (.c .a .n)))))))) .n) ?_
 rintro i hJ
 try dsimp only at hJ ⊢
 refine sq ?_
 refine sr <| m (mv (.t n5)) u11 <| m (mv (.t n0)) u12 <| m (lenm T.s148 (.t n12)) u13 <| m (lss (.t n11) (.t n13)) u14 <| e ?_
 refine cnd n14 (fun h1 => ?_) (fun h1 => ?_)
 ·
  replace h1 := of_decide_eq_true h1
  refine skp ?_
  refine sq ?_
  refine bk ?_
  refine sd none [(0, true), (1, true), (2, true), (3, true), (4, true), (5, true), (6, true), (7, true), (8, false), (9, true)] T.mix (by kernel_rfl) <| om n0 (mv (.t n0)) u17 <| om n1 (mv (.t n5)) u18 <| om n2 (ixm T.s148 (Int.natCast_nonneg _) (gi (by omega)) (.t n17) (.t n18)) u19 <| om n3 (lae T.a269 k3 (.t n19)) u20 <| om n4 (mv (.t n1)) u21 <| om n5 (mv (.t n5)) u22 <| om n6 (ixm T.s148 (Int.natCast_nonneg _) (gi (by omega)) (.t n21) (.t n22)) u23 <| om n7 (lae T.a269 k3 (.t n23)) u24 <| oc n8 (call (sp_laws_eqChallenge _) (.c (.t n20) rfl (.c (.t n24) rfl .n))) u25 <| om n9 (not_ (.t n25)) u26 <| oe ?_
  refine cdf n26 ?_
  refine skp ?_
  refine rg <| m (mv (.t n5)) u15 <| m (add (.t n15) (.i rfl)) u16 <| m (as_ (.t n16)) u5 <| e ?_
  exact ⟨i + 1, (by omega), (by omega), le [] (by decide) (.c (.e rfl rfl) (.c (.e rfl rfl) (.x2 (.c .a (.c (.e (wi (by omega)) rfl) (.x16 (.x4 (.c .a .n)))))))) .n⟩
 ·
  replace h1 := of_decide_eq_false h1
  refine ex (x1 ?_)
  refine sr <| m (as_ .b) u4 <| e ?_
  refine rt (ret1 (.t n4 (.p rfl) .n) ?_)
  rfl

theorem sp_laws_eqChallengeBook (x : D.ChallengeBook) : Spec Tryz.prog G0 206 [.agg (D.ChallengeBook.V x), .agg (D.ChallengeBook.V x)] (fun r => r = .bool true) := by
 refine enter (l := [.tmp 4]) Tryz.func206 rfl Tryz.ntmps206 rfl T.en206 fun E => ?_
 simp only [List.length_cons, List.length_nil, List.replicate_succ, List.replicate_zero, List.cons_append, List.nil_append, Nat.reduceAdd, Nat.reduceSub]
 refine sr <| k (bx rfl s0 u2 (.t n0)) <| k (bx rfl s1 u3 (.t n1)) <| m (as_ .b) u4 <| e ?_
 refine sq ?_
 refine sr <| m (fab 0 rfl T.f150_0 (.t n2)) u5 <| m (ldb T.o3 n0 n0 (.t n5)) u6 <| m (fab 0 rfl T.f150_0 (.t n3)) u7 <| m (ldb T.o3 n1 n0 (.t n7)) u8 <| m (neqs (.t n6) (.t n8)) u9 <| e ?_
 refine cdf n9 ?_
 refine skp ?_
 refine sq ?_
 refine sr <| m (fab 1 rfl T.f150_1 (.t n2)) u10 <| m (ldb T.o3 n0 n1 (.t n10)) u11 <| m (fab 1 rfl T.f150_1 (.t n3)) u12 <| m (ldb T.o3 n1 n1 (.t n12)) u13 <| m (neqs (.t n11) (.t n13)) u14 <| e ?_
 refine cdf n14 ?_
 refine skp ?_
 refine sq ?_
 refine sr <| m (fab 2 rfl T.f150_2 (.t n2)) u15 <| m (ldb T.o148 n0 n2 (.t n15)) u16 <| m (fab 2 rfl T.f150_2 (.t n3)) u17 <| m (ldb T.o148 n1 n2 (.t n17)) u18 <| c (call (sp_laws_eqChallengeS _) (.c (.t n16) rfl (.c (.t n18) rfl .n))) u19 <| m (not_ (.t n19)) u20 <| e ?_
 refine cdf n20 ?_
 refine skp ?_
 refine sr <| m (as_ .b) u4 <| e ?_
 refine rt (ret1 (.t n4 (.p rfl) .n) ?_)
 rfl

theorem sp_laws_eqIntS (l : List Int) : Spec Tryz.prog G0 207 [.slice 1 (l.map iV), .slice 1 (l.map iV)] (fun r => r = .bool true) := by
 refine enter (l := [.tmp 4]) Tryz.func207 rfl Tryz.ntmps207 rfl T.en207 fun E => ?_
 simp only [List.length_cons, List.length_nil, List.replicate_succ, List.replicate_zero, List.cons_append, List.nil_append, Nat.reduceAdd, Nat.reduceSub]
 refine rngl n0 fun hlen => ?_
 simp only [List.length_map, maxLen] at hlen
 refine sr <| m (as_ .b) u4 <| e ?_
 refine sq ?_
 refine sr <| m (mv (.t n0)) u6 <| m (lenm T.s108 (.t n6)) u7 <| m (mv (.t n1)) u8 <| m (lenm T.s108 (.t n8)) u9 <| m (neqs (.t n7) (.t n9)) u10 <| e ?_
 refine cdf n10 ?_
 refine skp ?_
 refine sq ?_
 refine sr <| m (as_ (.i rfl)) u5 <| e ?_
 refine bk ?_
 refine lp (fun i : Nat => ⟨[.slice 1 (l.map iV), .slice 1 (l.map iV), .any, .any, .any, .int .i64 (i : Int), .any, .any, .any, .any, .any, .any, .any, .any, .any, .any, .any, .any, .any, .any, .any, .any, .any, .any, .any, .any], []⟩) (fun i : Nat => i ≤ l.length) (fun i : Nat => l.length - i) (0) (by simp) (le [] (by decide) (.c (.e rfl rfl) (.c (.e rfl rfl) (.x2 (.c .a (.c (.e rfl rfl) (.x16 (.x4 .n))))))) .n) ?_
 rintro i hJ
 try dsimp only at hJ ⊢
 refine sq ?_
 refine sr <| m (mv (.t n5)) u11 <| m (mv (.t n0)) u12 <| m (lenm T.s108 (.t n12)) u13 <| m (lss (.t n11) (.t n13)) u14 <| e ?_
 refine cnd n14 (fun h1 => ?_) (fun h1 => ?_)
 ·
  replace h1 := of_decide_eq_true h1
  refine skp ?_
  refine sq ?_
  refine bk ?_
  refine sd none [(0, true), (1, true), (2, true), (3, true), (4, true), (5, true), (6, true), (7, true), (8, true)] T.mix (by kernel_rfl) <| om n0 (mv (.t n0)) u17 <| om n1 (mv (.t n5)) u18 <| om n2 (ixm T.s108 (Int.natCast_nonneg _) (gi (by omega)) (.t n17) (.t n18)) u19 <| om n3 (lde T.o3 n0 (.t n19)) u20 <| om n4 (mv (.t n1)) u21 <| om n5 (mv (.t n5)) u22 <| om n6 (ixm T.s108 (Int.natCast_nonneg _) (gi (by omega)) (.t n21) (.t n22)) u23 <| om n7 (lde T.o3 n0 (.t n23)) u24 <| om n8 (neqs (.t n20) (.t n24)) u25 <| oe ?_
  refine cdf n25 ?_
  refine skp ?_
  refine rg <| m (mv (.t n5)) u15 <| m (add (.t n15) (.i rfl)) u16 <| m (as_ (.t n16)) u5 <| e ?_
  exact ⟨i + 1, (by omega), (by omega), le [] (by decide) (.c (.e rfl rfl) (.c (.e rfl rfl) (.x2 (.c .a (.c (.e (wi (by omega)) rfl) (.x16 (.x4 .n))))))) .n⟩
 ·
  replace h1 := of_decide_eq_false h1
  refine ex (x1 ?_)
  refine sr <| m (as_ .b) u4 <| e ?_
  refine rt (ret1 (.t n4 (.p rfl) .n) ?_)
  rfl

theorem sp_laws_eqSite (x : D.Site) : Spec Tryz.prog G0 108 [.agg (D.Site.V x), .agg (D.Site.V x)] (fun r => r = .bool true) := by
 refine enter (l := [.tmp 4]) Tryz.func108 rfl Tryz.ntmps108 rfl T.en108 fun E => ?_
 simp only [List.length_cons, List.length_nil, List.replicate_succ, List.replicate_zero, List.cons_append, List.nil_append, Nat.reduceAdd, Nat.reduceSub]
 refine sr <| k (bx rfl s0 u2 (.t n0)) <| k (bx rfl s1 u3 (.t n1)) <| m (as_ .b) u4 <| e ?_
 refine sq ?_
 refine sr <| m (fab 0 rfl T.f152_0 (.t n2)) u5 <| m (ldb T.o9 n0 n0 (.t n5)) u6 <| m (fab 0 rfl T.f152_0 (.t n3)) u7 <| m (ldb T.o9 n1 n0 (.t n7)) u8 <| m (snes (.t n6) (.t n8)) u9 <| e ?_
 refine cdf n9 ?_
 refine skp ?_
 refine sq ?_
 refine sr <| m (fab 1 rfl T.f152_1 (.t n2)) u10 <| m (ldb T.o147 n0 n1 (.t n10)) u11 <| m (fab 1 rfl T.f152_1 (.t n3)) u12 <| m (ldb T.o147 n1 n1 (.t n12)) u13 <| c (call (sp_laws_eqAccountS _) (.c (.t n11) rfl (.c (.t n13) rfl .n))) u14 <| m (not_ (.t n14)) u15 <| e ?_
 refine cdf n15 ?_
 refine skp ?_
 refine sq ?_
 refine sr <| m (fab 2 rfl T.f152_2 (.t n2)) u16 <| m (lab T.a150 n0 d2 k3 (.t n16)) u17 <| m (fab 2 rfl T.f152_2 (.t n3)) u18 <| m (lab T.a150 n1 d2 k3 (.t n18)) u19 <| c (call (sp_laws_eqChallengeBook _) (.c (.t n17) rfl (.c (.t n19) rfl .n))) u20 <| m (not_ (.t n20)) u21 <| e ?_
 refine cdf n21 ?_
 refine skp ?_
 refine sq ?_
 refine sr <| m (fab 5 rfl T.f152_3 (.t n2)) u22 <| m (ldb T.o108 n0 n5 (.t n22)) u23 <| m (fab 5 rfl T.f152_3 (.t n3)) u24 <| m (ldb T.o108 n1 n5 (.t n24)) u25 <| c (call (sp_laws_eqIntS _) (.c (.t n23) rfl (.c (.t n25) rfl .n))) u26 <| m (not_ (.t n26)) u27 <| e ?_
 refine cdf n27 ?_
 refine skp ?_
 refine sr <| m (as_ .b) u4 <| e ?_
 refine rt (ret1 (.t n4 (.p rfl) .n) ?_)
 rfl

theorem sp_laws_eqSiteS (l : List D.Site) : Spec Tryz.prog G0 44 [.slice 6 (l.map D.Site.V), .slice 6 (l.map D.Site.V)] (fun r => r = .bool true) := by
 refine enter (l := [.tmp 4]) Tryz.func44 rfl Tryz.ntmps44 rfl T.en44 fun E => ?_
 simp only [List.length_cons, List.length_nil, List.replicate_succ, List.replicate_zero, List.cons_append, List.nil_append, Nat.reduceAdd, Nat.reduceSub]
 refine rngl n0 fun hlen => ?_
 simp only [List.length_map, maxLen] at hlen
 refine sr <| m (as_ .b) u4 <| e ?_
 refine sq ?_
 refine sr <| m (mv (.t n0)) u6 <| m (lenm T.s50 (.t n6)) u7 <| m (mv (.t n1)) u8 <| m (lenm T.s50 (.t n8)) u9 <| m (neqs (.t n7) (.t n9)) u10 <| e ?_
 refine cdf n10 ?_
 refine skp ?_
 refine sq ?_
 refine sr <| m (as_ (.i rfl)) u5 <| e ?_
 refine bk ?_
 refine lp (fun i : Nat => ⟨[.slice 6 (l.map D.Site.V), .slice 6 (l.map D.Site.V), .any, .any, .any, .int .i64 (i : Int), .any, .any, .any, .any, .any, .any, .any, .any, .any, .any, .any, .any, .any, .any, .any, .any, .any, .any, .any, .any, .any], []⟩) (fun i : Nat => i ≤ l.length) (fun i : Nat => l.length - i) (0) (by simp) (le [] (by decide) (.c (.e rfl rfl) (.c (.e rfl rfl) (.x2 (.c .a (.c (.e rfl rfl) (.x16 (.x4 (.c .a .n)))))))) .n) ?_
 rintro i hJ
 try dsimp only at hJ ⊢
 refine sq ?_
 refine sr <| m (mv (.t n5)) u11 <| m (mv (.t n0)) u12 <| m (lenm T.s50 (.t n12)) u13 <| m (lss (.t n11) (.t n13)) u14 <| e ?_
 refine cnd n14 (fun h1 => ?_) (fun h1 => ?_)
 ·
  replace h1 := of_decide_eq_true h1
  refine skp ?_
  refine sq ?_
  refine bk ?_
  refine sd none [(0, true), (1, true), (2, true), (3, true), (4, true), (5, true), (6, true), (7, true), (8, false), (9, true)] T.mix (by kernel_rfl) <| om n0 (mv (.t n0)) u17 <| om n1 (mv (.t n5)) u18 <| om n2 (ixm T.s50 (Int.natCast_nonneg _) (gi (by omega)) (.t n17) (.t n18)) u19 <| om n3 (lae T.a152 k6 (.t n19)) u20 <| om n4 (mv (.t n1)) u21 <| om n5 (mv (.t n5)) u22 <| om n6 (ixm T.s50 (Int.natCast_nonneg _) (gi (by omega)) (.t n21) (.t n22)) u23 <| om n7 (lae T.a152 k6 (.t n23)) u24 <| oc n8 (call (sp_laws_eqSite _) (.c (.t n20) rfl (.c (.t n24) rfl .n))) u25 <| om n9 (not_ (.t n25)) u26 <| oe ?_
  refine cdf n26 ?_
  refine skp ?_
  refine rg <| m (mv (.t n5)) u15 <| m (add (.t n15) (.i rfl)) u16 <| m (as_ (.t n16)) u5 <| e ?_
  exact ⟨i + 1, (by omega), (by omega), le [] (by decide) (.c (.e rfl rfl) (.c (.e rfl rfl) (.x2 (.c .a (.c (.e (wi (by omega)) rfl) (.x16 (.x4 (.c .a .n)))))))) .n⟩
 ·
  replace h1 := of_decide_eq_false h1
  refine ex (x1 ?_)
  refine sr <| m (as_ .b) u4 <| e ?_
  refine rt (ret1 (.t n4 (.p rfl) .n) ?_)
  rfl

theorem sp_laws_eqVault (x : D.Vault) : Spec Tryz.prog G0 45 [.agg (D.Vault.V x), .agg (D.Vault.V x)] (fun r => r = .bool true) := by
 refine enter (l := [.tmp 4]) Tryz.func45 rfl Tryz.ntmps45 rfl T.en45 fun E => ?_
 simp only [List.length_cons, List.length_nil, List.replicate_succ, List.replicate_zero, List.cons_append, List.nil_append, Nat.reduceAdd, Nat.reduceSub]
 refine sr <| k (bx rfl s0 u2 (.t n0)) <| k (bx rfl s1 u3 (.t n1)) <| m (as_ .b) u4 <| e ?_
 refine sq ?_
 refine sr <| m (fab 0 rfl T.f51_0 (.t n2)) u5 <| m (ldb T.o3 n0 n0 (.t n5)) u6 <| m (fab 0 rfl T.f51_0 (.t n3)) u7 <| m (ldb T.o3 n1 n0 (.t n7)) u8 <| m (neqs (.t n6) (.t n8)) u9 <| e ?_
 refine cdf n9 ?_
 refine skp ?_
 refine sq ?_
 refine sr <| m (fab 1 rfl T.f51_1 (.t n2)) u10 <| m (ldb T.o3 n0 n1 (.t n10)) u11 <| m (fab 1 rfl T.f51_1 (.t n3)) u12 <| m (ldb T.o3 n1 n1 (.t n12)) u13 <| m (neqs (.t n11) (.t n13)) u14 <| e ?_
 refine cdf n14 ?_
 refine skp ?_
 refine sq ?_
 refine sr <| m (fab 2 rfl T.f51_2 (.t n2)) u15 <| m (ldb T.o3 n0 n2 (.t n15)) u16 <| m (fab 2 rfl T.f51_2 (.t n3)) u17 <| m (ldb T.o3 n1 n2 (.t n17)) u18 <| m (neqs (.t n16) (.t n18)) u19 <| e ?_
 refine cdf n19 ?_
 refine skp ?_
 refine sq ?_
 refine sr <| m (fab 3 rfl T.f51_3 (.t n2)) u20 <| m (ldb T.o3 n0 n3 (.t n20)) u21 <| m (fab 3 rfl T.f51_3 (.t n3)) u22 <| m (ldb T.o3 n1 n3 (.t n22)) u23 <| m (neqs (.t n21) (.t n23)) u24 <| e ?_
 refine cdf n24 ?_
 refine skp ?_
 refine sr <| m (as_ .b) u4 <| e ?_
 refine rt (ret1 (.t n4 (.p rfl) .n) ?_)
 rfl

theorem sp_laws_eqShare (x : D.Share) : Spec Tryz.prog G0 281 [.agg (D.Share.V x), .agg (D.Share.V x)] (fun r => r = .bool true) := by
 refine enter (l := [.tmp 4]) Tryz.func281 rfl Tryz.ntmps281 rfl T.en281 fun E => ?_
 simp only [List.length_cons, List.length_nil, List.replicate_succ, List.replicate_zero, List.cons_append, List.nil_append, Nat.reduceAdd, Nat.reduceSub]
 refine sr <| k (bx rfl s0 u2 (.t n0)) <| k (bx rfl s1 u3 (.t n1)) <| m (as_ .b) u4 <| e ?_
 refine sq ?_
 refine sr <| m (fab 0 rfl T.f76_0 (.t n2)) u5 <| m (ldb T.o3 n0 n0 (.t n5)) u6 <| m (fab 0 rfl T.f76_0 (.t n3)) u7 <| m (ldb T.o3 n1 n0 (.t n7)) u8 <| m (neqs (.t n6) (.t n8)) u9 <| e ?_
 refine cdf n9 ?_
 refine skp ?_
 refine sq ?_
 refine sr <| m (fab 1 rfl T.f76_1 (.t n2)) u10 <| m (ldb T.o3 n0 n1 (.t n10)) u11 <| m (fab 1 rfl T.f76_1 (.t n3)) u12 <| m (ldb T.o3 n1 n1 (.t n12)) u13 <| m (neqs (.t n11) (.t n13)) u14 <| e ?_
 refine cdf n14 ?_
 refine skp ?_
 refine sr <| m (as_ .b) u4 <| e ?_
 refine rt (ret1 (.t n4 (.p rfl) .n) ?_)
 rfl

theorem sp_laws_eqKeeper (x : D.Keeper) : Spec Tryz.prog G0 208 [.agg (D.Keeper.V x), .agg (D.Keeper.V x)] (fun r => r = .bool true) := by
 refine enter (l := [.tmp 4]) Tryz.func208 rfl Tryz.ntmps208 rfl T.en208 fun E => ?_
 simp only [List.length_cons, List.length_nil, List.replicate_succ, List.replicate_zero, List.cons_append, List.nil_append, Nat.reduceAdd, Nat.reduceSub]
 refine sr <| k (bx rfl s0 u2 (.t n0)) <| k (bx rfl s1 u3 (.t n1)) <| m (as_ .b) u4 <| e ?_
 refine sq ?_
 refine sr <| m (fab 0 rfl T.f78_0 (.t n2)) u5 <| m (lab T.a76 n0 d0 k2 (.t n5)) u6 <| m (fab 0 rfl T.f78_0 (.t n3)) u7 <| m (lab T.a76 n1 d0 k2 (.t n7)) u8 <| c (call (sp_laws_eqShare _) (.c (.t n6) rfl (.c (.t n8) rfl .n))) u9 <| m (not_ (.t n9)) u10 <| e ?_
 refine cdf n10 ?_
 refine skp ?_
 refine sq ?_
 refine sr <| m (fab 2 rfl T.f78_1 (.t n2)) u11 <| m (ldb T.o3 n0 n2 (.t n11)) u12 <| m (fab 2 rfl T.f78_1 (.t n3)) u13 <| m (ldb T.o3 n1 n2 (.t n13)) u14 <| m (neqs (.t n12) (.t n14)) u15 <| e ?_
 refine cdf n15 ?_
 refine skp ?_
 refine sq ?_
 refine sr <| m (fab 3 rfl T.f78_2 (.t n2)) u16 <| m (ldb T.o3 n0 n3 (.t n16)) u17 <| m (fab 3 rfl T.f78_2 (.t n3)) u18 <| m (ldb T.o3 n1 n3 (.t n18)) u19 <| m (neqs (.t n17) (.t n19)) u20 <| e ?_
 refine cdf n20 ?_
 refine skp ?_
 refine sq ?_
 refine sr <| m (fab 4 rfl T.f78_3 (.t n2)) u21 <| m (ldb T.o3 n0 n4 (.t n21)) u22 <| m (fab 4 rfl T.f78_3 (.t n3)) u23 <| m (ldb T.o3 n1 n4 (.t n23)) u24 <| m (neqs (.t n22) (.t n24)) u25 <| e ?_
 refine cdf n25 ?_
 refine skp ?_
 refine sr <| m (as_ .b) u4 <| e ?_
 refine rt (ret1 (.t n4 (.p rfl) .n) ?_)
 rfl

theorem sp_laws_eqKeeperS (l : List D.Keeper) : Spec Tryz.prog G0 209 [.slice 5 (l.map D.Keeper.V), .slice 5 (l.map D.Keeper.V)] (fun r => r = .bool true) := by
 refine enter (l := [.tmp 4]) Tryz.func209 rfl Tryz.ntmps209 rfl T.en209 fun E => ?_
 simp only [List.length_cons, List.length_nil, List.replicate_succ, List.replicate_zero, List.cons_append, List.nil_append, Nat.reduceAdd, Nat.reduceSub]
 refine rngl n0 fun hlen => ?_
 simp only [List.length_map, maxLen] at hlen
 refine sr <| m (as_ .b) u4 <| e ?_
 refine sq ?_
 refine sr <| m (mv (.t n0)) u6 <| m (lenm T.s79 (.t n6)) u7 <| m (mv (.t n1)) u8 <| m (lenm T.s79 (.t n8)) u9 <| m (neqs (.t n7) (.t n9)) u10 <| e ?_
 refine cdf n10 ?_
 refine skp ?_
 refine sq ?_
 refine sr <| m (as_ (.i rfl)) u5 <| e ?_
 refine bk ?_
 refine lp (fun i : Nat => ⟨[.slice 5 (l.map D.Keeper.V), .slice 5 (l.map D.Keeper.V), .any, .any, .any, .int .i64 (i : Int), .any, .any, .any, .any, .any, .any, .any, .any, .any, .any, .any, .any, .any, .any, .any, .any, .any, .any, .any, .any, .any], []⟩) (fun i : Nat => i ≤ l.length) (fun i : Nat => l.length - i) (0) (by simp) (le [] (by decide) (.c (.e rfl rfl) (.c (.e rfl rfl) (.x2 (.c .a (.c (.e rfl rfl) (.x16 (.x4 (.c .a .n)))))))) .n) ?_
 rintro i hJ
 try dsimp only at hJ ⊢
 refine sq ?_
 refine sr <| m (mv (.t n5)) u11 <| m (mv (.t n0)) u12 <| m (lenm T.s79 (.t n12)) u13 <| m (lss (.t n11) (.t n13)) u14 <| e ?_
 refine cnd n14 (fun h1 => ?_) (fun h1 => ?_)
 ·
  replace h1 := of_decide_eq_true h1
  refine skp ?_
  refine sq ?_
  refine bk ?_
  refine sd none [(0, true), (1, true), (2, true), (3, true), (4, true), (5, true), (6, true), (7, true), (8, false), (9, true)] T.mix (by kernel_rfl) <| om n0 (mv (.t n0)) u17 <| om n1 (mv (.t n5)) u18 <| om n2 (ixm T.s79 (Int.natCast_nonneg _) (gi (by omega)) (.t n17) (.t n18)) u19 <| om n3 (lae T.a78 k5 (.t n19)) u20 <| om n4 (mv (.t n1)) u21 <| om n5 (mv (.t n5)) u22 <| om n6 (ixm T.s79 (Int.natCast_nonneg _) (gi (by omega)) (.t n21) (.t n22)) u23 <| om n7 (lae T.a78 k5 (.t n23)) u24 <| oc n8 (call (sp_laws_eqKeeper _) (.c (.t n20) rfl (.c (.t n24) rfl .n))) u25 <| om n9 (not_ (.t n25)) u26 <| oe ?_
  refine cdf n26 ?_
  refine skp ?_
  refine rg <| m (mv (.t n5)) u15 <| m (add (.t n15) (.i rfl)) u16 <| m (as_ (.t n16)) u5 <| e ?_
  exact ⟨i + 1, (by omega), (by omega), le [] (by decide) (.c (.e rfl rfl) (.c (.e rfl rfl) (.x2 (.c .a (.c (.e (wi (by omega)) rfl) (.x16 (.x4 (.c .a .n)))))))) .n⟩
 ·
  replace h1 := of_decide_eq_false h1
  refine ex (x1 ?_)
  refine sr <| m (as_ .b) u4 <| e ?_
  refine rt (ret1 (.t n4 (.p rfl) .n) ?_)
  rfl

theorem sp_laws_eqKeeperHost (x : D.KeeperHost) : Spec Tryz.prog G0 109 [.agg (D.KeeperHost.V x), .agg (D.KeeperHost.V x)] (fun r => r = .bool true) := by
 refine enter (l := [.tmp 4]) Tryz.func109 rfl Tryz.ntmps109 rfl T.en109 fun E => ?_
 simp only [List.length_cons, List.length_nil, List.replicate_succ, List.replicate_zero, List.cons_append, List.nil_append, Nat.reduceAdd, Nat.reduceSub]
 refine sr <| k (bx rfl s0 u2 (.t n0)) <| k (bx rfl s1 u3 (.t n1)) <| m (as_ .b) u4 <| e ?_
 refine sq ?_
 refine sr <| m (fab 0 rfl T.f81_0 (.t n2)) u5 <| m (lab T.a78 n0 d0 k5 (.t n5)) u6 <| m (fab 0 rfl T.f81_0 (.t n3)) u7 <| m (lab T.a78 n1 d0 k5 (.t n7)) u8 <| c (call (sp_laws_eqKeeper _) (.c (.t n6) rfl (.c (.t n8) rfl .n))) u9 <| m (not_ (.t n9)) u10 <| e ?_
 refine cdf n10 ?_
 refine skp ?_
 refine sq ?_
 refine sr <| m (fab 5 rfl T.f81_1 (.t n2)) u11 <| m (ldb T.o79 n0 n5 (.t n11)) u12 <| m (fab 5 rfl T.f81_1 (.t n3)) u13 <| m (ldb T.o79 n1 n5 (.t n13)) u14 <| c (call (sp_laws_eqKeeperS _) (.c (.t n12) rfl (.c (.t n14) rfl .n))) u15 <| m (not_ (.t n15)) u16 <| e ?_
 refine cdf n16 ?_
 refine skp ?_
 refine sq ?_
 refine sr <| m (fab 6 rfl T.f81_2 (.t n2)) u17 <| m (ldb T.o3 n0 n6 (.t n17)) u18 <| m (fab 6 rfl T.f81_2 (.t n3)) u19 <| m (ldb T.o3 n1 n6 (.t n19)) u20 <| m (neqs (.t n18) (.t n20)) u21 <| e ?_
 refine cdf n21 ?_
 refine skp ?_
 refine sr <| m (as_ .b) u4 <| e ?_
 refine rt (ret1 (.t n4 (.p rfl) .n) ?_)
 rfl

theorem sp_laws_eqKeeperHostS (l : List D.KeeperHost) : Spec Tryz.prog G0 46 [.slice 7 (l.map D.KeeperHost.V), .slice 7 (l.map D.KeeperHost.V)] (fun r => r = .bool true) := by
 refine enter (l := [.tmp 4]) Tryz.func46 rfl Tryz.ntmps46 rfl T.en46 fun E => ?_
 simp only [List.length_cons, List.length_nil, List.replicate_succ, List.replicate_zero, List.cons_append, List.nil_append, Nat.reduceAdd, Nat.reduceSub]
 refine rngl n0 fun hlen => ?_
 simp only [List.length_map, maxLen] at hlen
 refine sr <| m (as_ .b) u4 <| e ?_
 refine sq ?_
 refine sr <| m (mv (.t n0)) u6 <| m (lenm T.s52 (.t n6)) u7 <| m (mv (.t n1)) u8 <| m (lenm T.s52 (.t n8)) u9 <| m (neqs (.t n7) (.t n9)) u10 <| e ?_
 refine cdf n10 ?_
 refine skp ?_
 refine sq ?_
 refine sr <| m (as_ (.i rfl)) u5 <| e ?_
 refine bk ?_
 refine lp (fun i : Nat => ⟨[.slice 7 (l.map D.KeeperHost.V), .slice 7 (l.map D.KeeperHost.V), .any, .any, .any, .int .i64 (i : Int), .any, .any, .any, .any, .any, .any, .any, .any, .any, .any, .any, .any, .any, .any, .any, .any, .any, .any, .any, .any, .any], []⟩) (fun i : Nat => i ≤ l.length) (fun i : Nat => l.length - i) (0) (by simp) (le [] (by decide) (.c (.e rfl rfl) (.c (.e rfl rfl) (.x2 (.c .a (.c (.e rfl rfl) (.x16 (.x4 (.c .a .n)))))))) .n) ?_
 rintro i hJ
 try dsimp only at hJ ⊢
 refine sq ?_
 refine sr <| m (mv (.t n5)) u11 <| m (mv (.t n0)) u12 <| m (lenm T.s52 (.t n12)) u13 <| m (lss (.t n11) (.t n13)) u14 <| e ?_
 refine cnd n14 (fun h1 => ?_) (fun h1 => ?_)
 ·
  replace h1 := of_decide_eq_true h1
  refine skp ?_
  refine sq ?_
  refine bk ?_
  refine sd none [(0, true), (1, true), (2, true), (3, true), (4, true), (5, true), (6, true), (7, true), (8, false), (9, true)] T.mix (by kernel_rfl) <| om n0 (mv (.t n0)) u17 <| om n1 (mv (.t n5)) u18 <| om n2 (ixm T.s52 (Int.natCast_nonneg _) (gi (by omega)) (.t n17) (.t n18)) u19 <| om n3 (lae T.a81 k7 (.t n19)) u20 <| om n4 (mv (.t n1)) u21 <| om n5 (mv (.t n5)) u22 <| om n6 (ixm T.s52 (Int.natCast_nonneg _) (gi (by omega)) (.t n21) (.t n22)) u23 <| om n7 (lae T.a81 k7 (.t n23)) u24 <| oc n8 (call (sp_laws_eqKeeperHost _) (.c (.t n20) rfl (.c (.t n24) rfl .n))) u25 <| om n9 (not_ (.t n25)) u26 <| oe ?_
  refine cdf n26 ?_
  refine skp ?_
  refine rg <| m (mv (.t n5)) u15 <| m (add (.t n15) (.i rfl)) u16 <| m (as_ (.t n16)) u5 <| e ?_
  exact ⟨i + 1, (by omega), (by omega), le [] (by decide) (.c (.e rfl rfl) (.c (.e rfl rfl) (.x2 (.c .a (.c (.e (wi (by omega)) rfl) (.x16 (.x4 (.c .a .n)))))))) .n⟩
 ·
  replace h1 := of_decide_eq_false h1
  refine ex (x1 ?_)
  refine sr <| m (as_ .b) u4 <| e ?_
  refine rt (ret1 (.t n4 (.p rfl) .n) ?_)
  rfl

theorem sp_laws_eqNotice (x : D.Notice) : Spec Tryz.prog G0 210 [.agg (D.Notice.V x), .agg (D.Notice.V x)] (fun r => r = .bool true) := by
 refine enter (l := [.tmp 4]) Tryz.func210 rfl Tryz.ntmps210 rfl T.en210 fun E => ?_
 simp only [List.length_cons, List.length_nil, List.replicate_succ, List.replicate_zero, List.cons_append, List.nil_append, Nat.reduceAdd, Nat.reduceSub]
 refine sr <| k (bx rfl s0 u2 (.t n0)) <| k (bx rfl s1 u3 (.t n1)) <| m (as_ .b) u4 <| e ?_
 refine sq ?_
 refine sr <| m (fab 0 rfl T.f217_0 (.t n2)) u5 <| m (ldb T.o3 n0 n0 (.t n5)) u6 <| m (fab 0 rfl T.f217_0 (.t n3)) u7 <| m (ldb T.o3 n1 n0 (.t n7)) u8 <| m (neqs (.t n6) (.t n8)) u9 <| e ?_
 refine cdf n9 ?_
 refine skp ?_
 refine sq ?_
 refine sr <| m (fab 1 rfl T.f217_1 (.t n2)) u10 <| m (ldb T.o3 n0 n1 (.t n10)) u11 <| m (fab 1 rfl T.f217_1 (.t n3)) u12 <| m (ldb T.o3 n1 n1 (.t n12)) u13 <| m (neqs (.t n11) (.t n13)) u14 <| e ?_
 refine cdf n14 ?_
 refine skp ?_
 refine sq ?_
 refine sr <| m (fab 2 rfl T.f217_2 (.t n2)) u15 <| m (ldb T.o3 n0 n2 (.t n15)) u16 <| m (fab 2 rfl T.f217_2 (.t n3)) u17 <| m (ldb T.o3 n1 n2 (.t n17)) u18 <| m (neqs (.t n16) (.t n18)) u19 <| e ?_
 refine cdf n19 ?_
 refine skp ?_
 refine sq ?_
 refine sr <| m (fab 3 rfl T.f217_3 (.t n2)) u20 <| m (ldb T.o4 n0 n3 (.t n20)) u21 <| m (fab 3 rfl T.f217_3 (.t n3)) u22 <| m (ldb T.o4 n1 n3 (.t n22)) u23 <| m (bnes Tryz.underlying4 (.t n21) (.t n23)) u24 <| e ?_
 refine cdf n24 ?_
 refine skp ?_
 refine sr <| m (as_ .b) u4 <| e ?_
 refine rt (ret1 (.t n4 (.p rfl) .n) ?_)
 rfl

theorem sp_laws_eqNoticeS (l : List D.Notice) : Spec Tryz.prog G0 110 [.slice 4 (l.map D.Notice.V), .slice 4 (l.map D.Notice.V)] (fun r => r = .bool true) := by
 refine enter (l := [.tmp 4]) Tryz.func110 rfl Tryz.ntmps110 rfl T.en110 fun E => ?_
 simp only [List.length_cons, List.length_nil, List.replicate_succ, List.replicate_zero, List.cons_append, List.nil_append, Nat.reduceAdd, Nat.reduceSub]
 refine rngl n0 fun hlen => ?_
 simp only [List.length_map, maxLen] at hlen
 refine sr <| m (as_ .b) u4 <| e ?_
 refine sq ?_
 refine sr <| m (mv (.t n0)) u6 <| m (lenm T.s53 (.t n6)) u7 <| m (mv (.t n1)) u8 <| m (lenm T.s53 (.t n8)) u9 <| m (neqs (.t n7) (.t n9)) u10 <| e ?_
 refine cdf n10 ?_
 refine skp ?_
 refine sq ?_
 refine sr <| m (as_ (.i rfl)) u5 <| e ?_
 refine bk ?_
 refine lp (fun i : Nat => ⟨[.slice 4 (l.map D.Notice.V), .slice 4 (l.map D.Notice.V), .any, .any, .any, .int .i64 (i : Int), .any, .any, .any, .any, .any, .any, .any, .any, .any, .any, .any, .any, .any, .any, .any, .any, .any, .any, .any, .any, .any], []⟩) (fun i : Nat => i ≤ l.length) (fun i : Nat => l.length - i) (0) (by simp) (le [] (by decide) (.c (.e rfl rfl) (.c (.e rfl rfl) (.x2 (.c .a (.c (.e rfl rfl) (.x16 (.x4 (.c .a .n)))))))) .n) ?_
 rintro i hJ
 try dsimp only at hJ ⊢
 refine sq ?_
 refine sr <| m (mv (.t n5)) u11 <| m (mv (.t n0)) u12 <| m (lenm T.s53 (.t n12)) u13 <| m (lss (.t n11) (.t n13)) u14 <| e ?_
 refine cnd n14 (fun h1 => ?_) (fun h1 => ?_)
 ·
  replace h1 := of_decide_eq_true h1
  refine skp ?_
  refine sq ?_
  refine bk ?_
  refine sd none [(0, true), (1, true), (2, true), (3, true), (4, true), (5, true), (6, true), (7, true), (8, false), (9, true)] T.mix (by kernel_rfl) <| om n0 (mv (.t n0)) u17 <| om n1 (mv (.t n5)) u18 <| om n2 (ixm T.s53 (Int.natCast_nonneg _) (gi (by omega)) (.t n17) (.t n18)) u19 <| om n3 (lae T.a217 k4 (.t n19)) u20 <| om n4 (mv (.t n1)) u21 <| om n5 (mv (.t n5)) u22 <| om n6 (ixm T.s53 (Int.natCast_nonneg _) (gi (by omega)) (.t n21) (.t n22)) u23 <| om n7 (lae T.a217 k4 (.t n23)) u24 <| oc n8 (call (sp_laws_eqNotice _) (.c (.t n20) rfl (.c (.t n24) rfl .n))) u25 <| om n9 (not_ (.t n25)) u26 <| oe ?_
  refine cdf n26 ?_
  refine skp ?_
  refine rg <| m (mv (.t n5)) u15 <| m (add (.t n15) (.i rfl)) u16 <| m (as_ (.t n16)) u5 <| e ?_
  exact ⟨i + 1, (by omega), (by omega), le [] (by decide) (.c (.e rfl rfl) (.c (.e rfl rfl) (.x2 (.c .a (.c (.e (wi (by omega)) rfl) (.x16 (.x4 (.c .a .n)))))))) .n⟩
 ·
  replace h1 := of_decide_eq_false h1
  refine ex (x1 ?_)
  refine sr <| m (as_ .b) u4 <| e ?_
  refine rt (ret1 (.t n4 (.p rfl) .n) ?_)
  rfl

theorem sp_laws_eqMailbox (x : D.Mailbox) : Spec Tryz.prog G0 47 [.agg (D.Mailbox.V x), .agg (D.Mailbox.V x)] (fun r => r = .bool true) := by
 refine enter (l := [.tmp 4]) Tryz.func47 rfl Tryz.ntmps47 rfl T.en47 fun E => ?_
 simp only [List.length_cons, List.length_nil, List.replicate_succ, List.replicate_zero, List.cons_append, List.nil_append, Nat.reduceAdd, Nat.reduceSub]
 refine sr <| k (bx rfl s0 u2 (.t n0)) <| k (bx rfl s1 u3 (.t n1)) <| m (as_ .b) u4 <| e ?_
 refine sq ?_
 refine sr <| m (fab 0 rfl T.f55_0 (.t n2)) u5 <| m (ldb T.o53 n0 n0 (.t n5)) u6 <| m (fab 0 rfl T.f55_0 (.t n3)) u7 <| m (ldb T.o53 n1 n0 (.t n7)) u8 <| c (call (sp_laws_eqNoticeS _) (.c (.t n6) rfl (.c (.t n8) rfl .n))) u9 <| m (not_ (.t n9)) u10 <| e ?_
 refine cdf n10 ?_
 refine skp ?_
 refine sr <| m (as_ .b) u4 <| e ?_
 refine rt (ret1 (.t n4 (.p rfl) .n) ?_)
 rfl

theorem sp_laws_eqWorld (x : D.World) : Spec Tryz.prog G0 12 [.agg (D.World.V x), .agg (D.World.V x)] (fun r => r = .bool true) := by
 refine enter (l := [.tmp 4]) Tryz.func12 rfl Tryz.ntmps12 rfl T.en12 fun E => ?_
 simp only [List.length_cons, List.length_nil, List.replicate_succ, List.replicate_zero, List.cons_append, List.nil_append, Nat.reduceAdd, Nat.reduceSub]
 refine sr <| k (bx rfl s0 u2 (.t n0)) <| k (bx rfl s1 u3 (.t n1)) <| m (as_ .b) u4 <| e ?_
 refine sq ?_
 refine sr <| m (fab 0 rfl T.f57_0 (.t n2)) u5 <| m (ldb T.o3 n0 n0 (.t n5)) u6 <| m (fab 0 rfl T.f57_0 (.t n3)) u7 <| m (ldb T.o3 n1 n0 (.t n7)) u8 <| m (neqs (.t n6) (.t n8)) u9 <| e ?_
 refine cdf n9 ?_
 refine skp ?_
 refine sq ?_
 refine sr <| m (fab 1 rfl T.f57_1 (.t n2)) u10 <| m (ldb T.o3 n0 n1 (.t n10)) u11 <| m (fab 1 rfl T.f57_1 (.t n3)) u12 <| m (ldb T.o3 n1 n1 (.t n12)) u13 <| m (neqs (.t n11) (.t n13)) u14 <| e ?_
 refine cdf n14 ?_
 refine skp ?_
 refine sq ?_
 refine sr <| m (fab 2 rfl T.f57_2 (.t n2)) u15 <| m (ldb T.o42 n0 n2 (.t n15)) u16 <| m (fab 2 rfl T.f57_2 (.t n3)) u17 <| m (ldb T.o42 n1 n2 (.t n17)) u18 <| c (call (sp_laws_eqDeviceS _) (.c (.t n16) rfl (.c (.t n18) rfl .n))) u19 <| m (not_ (.t n19)) u20 <| e ?_
 refine cdf n20 ?_
 refine skp ?_
 refine sq ?_
 refine sr <| m (fab 3 rfl T.f57_3 (.t n2)) u21 <| m (ldb T.o23 n0 n3 (.t n21)) u22 <| m (fab 3 rfl T.f57_3 (.t n3)) u23 <| m (ldb T.o23 n1 n3 (.t n23)) u24 <| c (call (sp_laws_eqBoolS _) (.c (.t n22) rfl (.c (.t n24) rfl .n))) u25 <| m (not_ (.t n25)) u26 <| e ?_
 refine cdf n26 ?_
 refine skp ?_
 refine sq ?_
 refine sr <| m (fab 4 rfl T.f57_4 (.t n2)) u27 <| m (lab T.a49 n0 d4 k4 (.t n27)) u28 <| m (fab 4 rfl T.f57_4 (.t n3)) u29 <| m (lab T.a49 n1 d4 k4 (.t n29)) u30 <| c (call (sp_laws_eqCloud _) (.c (.t n28) rfl (.c (.t n30) rfl .n))) u31 <| m (not_ (.t n31)) u32 <| e ?_
 refine cdf n32 ?_
 refine skp ?_
 refine sq ?_
 refine sr <| m (fab 8 rfl T.f57_5 (.t n2)) u33 <| m (ldb T.o50 n0 n8 (.t n33)) u34 <| m (fab 8 rfl T.f57_5 (.t n3)) u35 <| m (ldb T.o50 n1 n8 (.t n35)) u36 <| c (call (sp_laws_eqSiteS _) (.c (.t n34) rfl (.c (.t n36) rfl .n))) u37 <| m (not_ (.t n37)) u38 <| e ?_
 refine cdf n38 ?_
 refine skp ?_
 refine sq ?_
 refine sr <| m (fab 9 rfl T.f57_6 (.t n2)) u39 <| m (lab T.a51 n0 d9 k4 (.t n39)) u40 <| m (fab 9 rfl T.f57_6 (.t n3)) u41 <| m (lab T.a51 n1 d9 k4 (.t n41)) u42 <| c (call (sp_laws_eqVault _) (.c (.t n40) rfl (.c (.t n42) rfl .n))) u43 <| m (not_ (.t n43)) u44 <| e ?_
 refine cdf n44 ?_
 refine skp ?_
 refine sq ?_
 refine sr <| m (fab 13 rfl T.f57_7 (.t n2)) u45 <| m (ldb T.o52 n0 n13 (.t n45)) u46 <| m (fab 13 rfl T.f57_7 (.t n3)) u47 <| m (ldb T.o52 n1 n13 (.t n47)) u48 <| c (call (sp_laws_eqKeeperHostS _) (.c (.t n46) rfl (.c (.t n48) rfl .n))) u49 <| m (not_ (.t n49)) u50 <| e ?_
 refine cdf n50 ?_
 refine skp ?_
 refine sq ?_
 refine sr <| m (fab 14 rfl T.f57_8 (.t n2)) u51 <| m (ldb T.o3 n0 n14 (.t n51)) u52 <| m (fab 14 rfl T.f57_8 (.t n3)) u53 <| m (ldb T.o3 n1 n14 (.t n53)) u54 <| m (neqs (.t n52) (.t n54)) u55 <| e ?_
 refine cdf n55 ?_
 refine skp ?_
 refine sq ?_
 refine sr <| m (fab 15 rfl T.f57_9 (.t n2)) u56 <| m (lab T.a55 n0 d15 k1 (.t n56)) u57 <| m (fab 15 rfl T.f57_9 (.t n3)) u58 <| m (lab T.a55 n1 d15 k1 (.t n58)) u59 <| c (call (sp_laws_eqMailbox _) (.c (.t n57) rfl (.c (.t n59) rfl .n))) u60 <| m (not_ (.t n60)) u61 <| e ?_
 refine cdf n61 ?_
 refine skp ?_
 refine sr <| m (as_ .b) u4 <| e ?_
 refine rt (ret1 (.t n4 (.p rfl) .n) ?_)
 rfl

theorem sp_laws_FnExactAuditWorld (x0 : D.World) : Spec Tryz.prog G0 4 [.agg (D.World.V x0)] (fun r => r = .bool true) := by
 refine enter (l := [.tmp 2]) Tryz.func4 rfl Tryz.ntmps4 rfl T.en4 fun E => ?_
 simp only [List.length_cons, List.length_nil, List.replicate_succ, List.replicate_zero, List.cons_append, List.nil_append, Nat.reduceAdd, Nat.reduceSub]
 refine sr <| k (bx rfl s0 u1 (.t n0)) <| m (as_ .b) u2 <| e ?_
 refine sr <| m (as_ (.i rfl)) u3 <| e ?_
 refine sr <| m (lab T.a39 n0 d0 k16 (.t n1)) u7 <| m (mv (.t n3)) u8 <| cI (call (sp_laws_szWorld _ _ (by omega) (by first | omega | (simp only [IntKind.wrap_i64] at *; omega))) (.c (.t n7) rfl (.c (.t n8) rfl .n))) (fun _ => u9) (fun r1 hr1 => ?_)
 refine m (as_ (.t n9)) u3 <| e ?_
 refine sq ?_
 refine sr <| m (mv (.t n3)) u10 <| m (lss (.t n10) (.i rfl)) u11 <| e ?_
 refine cnd n11 (fun h2 => ?_) (fun h2 => ?_)
 ·
  replace h2 := of_decide_eq_true h2
  refine sr <| m (as_ .b) u2 <| e ?_
  refine rt (ret1 (.t n2 (.p rfl) .n) ?_)
  rfl
 ·
  replace h2 := of_decide_eq_false h2
  have hsz0 : x0.sz ≤ 1048576 := by
   have := hr1 (by omega)
   omega
  refine skp ?_
  refine sr <| m (lab T.a39 n0 d0 k16 (.t n1)) u12 <| c (call (sp_laws_toWorld _ (by first | assumption | (simp only [D.Box.sz, D.EpochBoxes.sz, D.LogEntry.sz, D.SealedBundle.sz, D.Cloud.sz, D.Vault.sz, D.Notice.sz, D.Mailbox.sz, D.KeyStore.sz, D.Entry.sz, D.Bundle.sz, D.Device.sz, D.Credential.sz, D.Account.sz, D.Challenge.sz, D.ChallengeBook.sz, D.Site.sz, D.Share.sz, D.Keeper.sz, D.KeeperHost.sz, D.World.sz] at *; omega))) (.c (.t n12) rfl .n)) u13 <| c (call (tot_spec_AuditWorld _ (WOk2.of hsz0)) (.c (.t n13) rfl .n)) u14 <| m (as_ (.t n14)) u4 <| e ?_
  refine sr <| m (lab T.a39 n0 d0 k16 (.t n1)) u15 <| c (call (sp_laws_toWorld _ (by first | assumption | (simp only [D.Box.sz, D.EpochBoxes.sz, D.LogEntry.sz, D.SealedBundle.sz, D.Cloud.sz, D.Vault.sz, D.Notice.sz, D.Mailbox.sz, D.KeyStore.sz, D.Entry.sz, D.Bundle.sz, D.Device.sz, D.Credential.sz, D.Account.sz, D.Challenge.sz, D.ChallengeBook.sz, D.Site.sz, D.Share.sz, D.Keeper.sz, D.KeeperHost.sz, D.World.sz] at *; omega))) (.c (.t n15) rfl .n)) u16 <| k (al T.z57 s1 u5) <| k (sta T.a57 rfl rfl n1 (.z (.z (.z (.z (.z (.z (.z (.z (.z (.z (.z (.z (.z (.z (.z (.z .n)))))))))))))))) q1 (.t n5) (.t n16)) <| e ?_
  refine sr <| m (lab T.a57 n1 d0 k16 (.t n5)) u17 <| c (call (tot_impl_AuditWorld _ (WOk2.of hsz0)) (.c (.t n17) rfl .n)) u18 <| m (as_ (.t n18)) u6 <| e ?_
  refine sq ?_
  refine sr <| m (mv (.t n6)) u19 <| m (mv (.t n4)) u20 <| m (bnes Tryz.underlying4 (.t n19) (.t n20)) u21 <| e ?_
  refine cdf n21 ?_
  refine skp ?_
  refine sq ?_
  refine sd none [(0, true), (1, true), (2, false), (3, false), (4, true)] T.mix (by kernel_rfl) <| om n0 (lab T.a57 n1 d0 k16 (.t n5)) u22 <| om n1 (lab T.a39 n0 d0 k16 (.t n1)) u23 <| oc n2 (call (sp_laws_toWorld _ (by first | assumption | (simp only [D.Box.sz, D.EpochBoxes.sz, D.LogEntry.sz, D.SealedBundle.sz, D.Cloud.sz, D.Vault.sz, D.Notice.sz, D.Mailbox.sz, D.KeyStore.sz, D.Entry.sz, D.Bundle.sz, D.Device.sz, D.Credential.sz, D.Account.sz, D.Challenge.sz, D.ChallengeBook.sz, D.Site.sz, D.Share.sz, D.Keeper.sz, D.KeeperHost.sz, D.World.sz] at *; omega))) (.c (.t n23) rfl .n)) u24 <| oc n3 (call (sp_laws_eqWorld _) (.c (.t n22) rfl (.c (.t n24) rfl .n))) u25 <| om n4 (not_ (.t n25)) u26 <| oe ?_
  refine cdf n26 ?_
  refine skp ?_
  refine sr <| m (as_ .b) u2 <| e ?_
  refine rt (ret1 (.t n2 (.p rfl) .n) ?_)
  rfl
end Go.VK
