import Derived.Test.YtiojlennpdmapaaGreatXzC
import Derived.Test.YtiojlennpdmapaaGreatEWptoq
/-
  Printed by wip/tools (own work of this part): models of functions, walks over the value kit, and proofs.
-/
set_option linter.unusedVariables false
set_option linter.unusedSimpArgs false
set_option maxRecDepth 100000
set_option maxHeartbeats 4000000
namespace Go.VK
open Go.RowKit Go.Proofs
noncomputable section
theorem T.hd3 : HasData Tryz.prog 3 Int iV := hd_int Tryz.underlying3
theorem T.hd109 : HasData Tryz.prog 109 D.KeyStore D.KeyStore.V := hd_struct (t := 109) Tryz.underlying109 (by kernel_rfl) (hf_cons (k := 1) T.hd3 rfl (by kernel_rfl) (hf_cons (k := 1) T.hd3 rfl (by kernel_rfl) (hf_cons (k := 1) T.hd3 rfl (by kernel_rfl) (hf_cons (k := 1) T.hd3 rfl (by kernel_rfl) hf_nil)))) (fun p => ⟨p.1, p.2.1, p.2.2.1, p.2.2.2.1⟩) (fun p => rfl)
theorem T.hd198 : HasData Tryz.prog 198 D.LogEntry D.LogEntry.V := hd_struct (t := 198) Tryz.underlying198 (by kernel_rfl) (hf_cons (k := 1) T.hd3 rfl (by kernel_rfl) (hf_cons (k := 1) T.hd3 rfl (by kernel_rfl) (hf_cons (k := 1) T.hd3 rfl (by kernel_rfl) (hf_cons (k := 1) T.hd3 rfl (by kernel_rfl) (hf_cons (k := 1) T.hd3 rfl (by kernel_rfl) (hf_cons (k := 1) T.hd3 rfl (by kernel_rfl) hf_nil)))))) (fun p => ⟨p.1, p.2.1, p.2.2.1, p.2.2.2.1, p.2.2.2.2.1, p.2.2.2.2.2.1⟩) (fun p => rfl)
theorem T.hd24 : HasData Tryz.prog 24 (List D.LogEntry) (fun l => [.slice 6 (l.map D.LogEntry.V)]) := hd_slice Tryz.underlying24 (by kernel_rfl) (by decide) (fun _ => rfl) T.hd198
theorem T.hd4 : HasData Tryz.prog 4 Bool bV := hd_bool Tryz.underlying4
theorem T.hd253 : HasData Tryz.prog 253 D.Entry D.Entry.V := hd_struct (t := 253) Tryz.underlying253 (by kernel_rfl) (hf_cons (k := 1) T.hd3 rfl (by kernel_rfl) (hf_cons (k := 1) T.hd3 rfl (by kernel_rfl) (hf_cons (k := 1) T.hd3 rfl (by kernel_rfl) (hf_cons (k := 1) T.hd4 rfl (by kernel_rfl) hf_nil)))) (fun p => ⟨p.1, p.2.1, p.2.2.1, p.2.2.2.1⟩) (fun p => rfl)
theorem T.hd110 : HasData Tryz.prog 110 (List D.Entry) (fun l => [.slice 4 (l.map D.Entry.V)]) := hd_slice Tryz.underlying110 (by kernel_rfl) (by decide) (fun _ => rfl) T.hd253
theorem T.hd112 : HasData Tryz.prog 112 D.Bundle D.Bundle.V := hd_struct (t := 112) Tryz.underlying112 (by kernel_rfl) (hf_cons (k := 1) T.hd110 rfl (by kernel_rfl) hf_nil) (fun p => ⟨p.1⟩) (fun p => rfl)
theorem T.hd114 : HasData Tryz.prog 114 D.Device D.Device.V := hd_struct (t := 114) Tryz.underlying114 (by kernel_rfl) (hf_cons (k := 4) T.hd109 rfl (by kernel_rfl) (hf_cons (k := 1) T.hd24 rfl (by kernel_rfl) (hf_cons (k := 1) T.hd3 rfl (by kernel_rfl) (hf_cons (k := 1) T.hd3 rfl (by kernel_rfl) (hf_cons (k := 1) T.hd3 rfl (by kernel_rfl) (hf_cons (k := 1) T.hd112 rfl (by kernel_rfl) hf_nil)))))) (fun p => ⟨p.1, p.2.1, p.2.2.1, p.2.2.2.1, p.2.2.2.2.1, p.2.2.2.2.2.1⟩) (fun p => rfl)
theorem T.hd22 : HasData Tryz.prog 22 (List D.Device) (fun l => [.slice 9 (l.map D.Device.V)]) := hd_slice Tryz.underlying22 (by kernel_rfl) (by decide) (fun _ => rfl) T.hd114
theorem T.hd23 : HasData Tryz.prog 23 (List Bool) (fun l => [.slice 1 (l.map bV)]) := hd_slice Tryz.underlying23 (by kernel_rfl) (by decide) (fun _ => rfl) T.hd4
theorem T.hd5 : HasData Tryz.prog 5 Int y8 := hd_u8 Tryz.underlying5
theorem T.hd187 : HasData Tryz.prog 187 (List Int) (fun l => [.slice 1 (l.map y8)]) := hd_slice Tryz.underlying187 (by kernel_rfl) (by decide) (fun _ => rfl) T.hd5
theorem T.hd231 : HasData Tryz.prog 231 D.Box D.Box.V := hd_struct (t := 231) Tryz.underlying231 (by kernel_rfl) (hf_cons (k := 1) T.hd3 rfl (by kernel_rfl) (hf_cons (k := 1) T.hd3 rfl (by kernel_rfl) (hf_cons (k := 1) T.hd187 rfl (by kernel_rfl) (hf_cons (k := 1) T.hd3 rfl (by kernel_rfl) hf_nil)))) (fun p => ⟨p.1, p.2.1, p.2.2.1, p.2.2.2.1⟩) (fun p => rfl)
theorem T.hd25 : HasData Tryz.prog 25 (List D.Box) (fun l => [.slice 4 (l.map D.Box.V)]) := hd_slice Tryz.underlying25 (by kernel_rfl) (by decide) (fun _ => rfl) T.hd231
theorem T.hd27 : HasData Tryz.prog 27 D.EpochBoxes D.EpochBoxes.V := hd_struct (t := 27) Tryz.underlying27 (by kernel_rfl) (hf_cons (k := 1) T.hd3 rfl (by kernel_rfl) (hf_cons (k := 1) T.hd25 rfl (by kernel_rfl) hf_nil)) (fun p => ⟨p.1, p.2.1⟩) (fun p => rfl)
theorem T.hd189 : HasData Tryz.prog 189 D.SealedBundle D.SealedBundle.V := hd_struct (t := 189) Tryz.underlying189 (by kernel_rfl) (hf_cons (k := 1) T.hd3 rfl (by kernel_rfl) (hf_cons (k := 1) T.hd3 rfl (by kernel_rfl) (hf_cons (k := 1) T.hd187 rfl (by kernel_rfl) (hf_cons (k := 1) T.hd3 rfl (by kernel_rfl) hf_nil)))) (fun p => ⟨p.1, p.2.1, p.2.2.1, p.2.2.2.1⟩) (fun p => rfl)
theorem T.hd28 : HasData Tryz.prog 28 (List D.SealedBundle) (fun l => [.slice 4 (l.map D.SealedBundle.V)]) := hd_slice Tryz.underlying28 (by kernel_rfl) (by decide) (fun _ => rfl) T.hd189
theorem T.hd30 : HasData Tryz.prog 30 D.Cloud D.Cloud.V := hd_struct (t := 30) Tryz.underlying30 (by kernel_rfl) (hf_cons (k := 1) T.hd24 rfl (by kernel_rfl) (hf_cons (k := 2) T.hd27 rfl (by kernel_rfl) (hf_cons (k := 1) T.hd28 rfl (by kernel_rfl) hf_nil))) (fun p => ⟨p.1, p.2.1, p.2.2.1⟩) (fun p => rfl)
theorem T.hd9 : HasData Tryz.prog 9 ByteArray sV := hd_str Tryz.underlying9
theorem T.hd263 : HasData Tryz.prog 263 D.Credential D.Credential.V := hd_struct (t := 263) Tryz.underlying263 (by kernel_rfl) (hf_cons (k := 1) T.hd3 rfl (by kernel_rfl) (hf_cons (k := 1) T.hd3 rfl (by kernel_rfl) (hf_cons (k := 1) T.hd3 rfl (by kernel_rfl) (hf_cons (k := 1) T.hd4 rfl (by kernel_rfl) hf_nil)))) (fun p => ⟨p.1, p.2.1, p.2.2.1, p.2.2.2.1⟩) (fun p => rfl)
theorem T.hd233 : HasData Tryz.prog 233 (List D.Credential) (fun l => [.slice 4 (l.map D.Credential.V)]) := hd_slice Tryz.underlying233 (by kernel_rfl) (by decide) (fun _ => rfl) T.hd263
theorem T.hd235 : HasData Tryz.prog 235 D.Account D.Account.V := hd_struct (t := 235) Tryz.underlying235 (by kernel_rfl) (hf_cons (k := 1) T.hd3 rfl (by kernel_rfl) (hf_cons (k := 1) T.hd3 rfl (by kernel_rfl) (hf_cons (k := 1) T.hd233 rfl (by kernel_rfl) hf_nil))) (fun p => ⟨p.1, p.2.1, p.2.2.1⟩) (fun p => rfl)
theorem T.hd119 : HasData Tryz.prog 119 (List D.Account) (fun l => [.slice 3 (l.map D.Account.V)]) := hd_slice Tryz.underlying119 (by kernel_rfl) (by decide) (fun _ => rfl) T.hd235
theorem T.hd256 : HasData Tryz.prog 256 D.Challenge D.Challenge.V := hd_struct (t := 256) Tryz.underlying256 (by kernel_rfl) (hf_cons (k := 1) T.hd3 rfl (by kernel_rfl) (hf_cons (k := 1) T.hd3 rfl (by kernel_rfl) (hf_cons (k := 1) T.hd3 rfl (by kernel_rfl) hf_nil))) (fun p => ⟨p.1, p.2.1, p.2.2.1⟩) (fun p => rfl)
theorem T.hd120 : HasData Tryz.prog 120 (List D.Challenge) (fun l => [.slice 3 (l.map D.Challenge.V)]) := hd_slice Tryz.underlying120 (by kernel_rfl) (by decide) (fun _ => rfl) T.hd256
theorem T.hd122 : HasData Tryz.prog 122 D.ChallengeBook D.ChallengeBook.V := hd_struct (t := 122) Tryz.underlying122 (by kernel_rfl) (hf_cons (k := 1) T.hd3 rfl (by kernel_rfl) (hf_cons (k := 1) T.hd3 rfl (by kernel_rfl) (hf_cons (k := 1) T.hd120 rfl (by kernel_rfl) hf_nil))) (fun p => ⟨p.1, p.2.1, p.2.2.1⟩) (fun p => rfl)
theorem T.hd41 : HasData Tryz.prog 41 (List Int) (fun l => [.slice 1 (l.map iV)]) := hd_slice Tryz.underlying41 (by kernel_rfl) (by decide) (fun _ => rfl) T.hd3
theorem T.hd124 : HasData Tryz.prog 124 D.Site D.Site.V := hd_struct (t := 124) Tryz.underlying124 (by kernel_rfl) (hf_cons (k := 1) T.hd9 rfl (by kernel_rfl) (hf_cons (k := 1) T.hd119 rfl (by kernel_rfl) (hf_cons (k := 3) T.hd122 rfl (by kernel_rfl) (hf_cons (k := 1) T.hd41 rfl (by kernel_rfl) hf_nil)))) (fun p => ⟨p.1, p.2.1, p.2.2.1, p.2.2.2.1⟩) (fun p => rfl)
theorem T.hd31 : HasData Tryz.prog 31 (List D.Site) (fun l => [.slice 6 (l.map D.Site.V)]) := hd_slice Tryz.underlying31 (by kernel_rfl) (by decide) (fun _ => rfl) T.hd124
theorem T.hd33 : HasData Tryz.prog 33 D.Vault D.Vault.V := hd_struct (t := 33) Tryz.underlying33 (by kernel_rfl) (hf_cons (k := 1) T.hd3 rfl (by kernel_rfl) (hf_cons (k := 1) T.hd3 rfl (by kernel_rfl) (hf_cons (k := 1) T.hd3 rfl (by kernel_rfl) (hf_cons (k := 1) T.hd3 rfl (by kernel_rfl) hf_nil)))) (fun p => ⟨p.1, p.2.1, p.2.2.1, p.2.2.2.1⟩) (fun p => rfl)
theorem T.hd127 : HasData Tryz.prog 127 D.Share D.Share.V := hd_struct (t := 127) Tryz.underlying127 (by kernel_rfl) (hf_cons (k := 1) T.hd3 rfl (by kernel_rfl) (hf_cons (k := 1) T.hd3 rfl (by kernel_rfl) hf_nil)) (fun p => ⟨p.1, p.2.1⟩) (fun p => rfl)
theorem T.hd129 : HasData Tryz.prog 129 D.Keeper D.Keeper.V := hd_struct (t := 129) Tryz.underlying129 (by kernel_rfl) (hf_cons (k := 2) T.hd127 rfl (by kernel_rfl) (hf_cons (k := 1) T.hd3 rfl (by kernel_rfl) (hf_cons (k := 1) T.hd3 rfl (by kernel_rfl) (hf_cons (k := 1) T.hd3 rfl (by kernel_rfl) hf_nil)))) (fun p => ⟨p.1, p.2.1, p.2.2.1, p.2.2.2.1⟩) (fun p => rfl)
theorem T.hd130 : HasData Tryz.prog 130 (List D.Keeper) (fun l => [.slice 5 (l.map D.Keeper.V)]) := hd_slice Tryz.underlying130 (by kernel_rfl) (by decide) (fun _ => rfl) T.hd129
theorem T.hd132 : HasData Tryz.prog 132 D.KeeperHost D.KeeperHost.V := hd_struct (t := 132) Tryz.underlying132 (by kernel_rfl) (hf_cons (k := 5) T.hd129 rfl (by kernel_rfl) (hf_cons (k := 1) T.hd130 rfl (by kernel_rfl) (hf_cons (k := 1) T.hd3 rfl (by kernel_rfl) hf_nil))) (fun p => ⟨p.1, p.2.1, p.2.2.1⟩) (fun p => rfl)
theorem T.hd34 : HasData Tryz.prog 34 (List D.KeeperHost) (fun l => [.slice 7 (l.map D.KeeperHost.V)]) := hd_slice Tryz.underlying34 (by kernel_rfl) (by decide) (fun _ => rfl) T.hd132
theorem T.hd210 : HasData Tryz.prog 210 D.Notice D.Notice.V := hd_struct (t := 210) Tryz.underlying210 (by kernel_rfl) (hf_cons (k := 1) T.hd3 rfl (by kernel_rfl) (hf_cons (k := 1) T.hd3 rfl (by kernel_rfl) (hf_cons (k := 1) T.hd3 rfl (by kernel_rfl) (hf_cons (k := 1) T.hd4 rfl (by kernel_rfl) hf_nil)))) (fun p => ⟨p.1, p.2.1, p.2.2.1, p.2.2.2.1⟩) (fun p => rfl)
theorem T.hd35 : HasData Tryz.prog 35 (List D.Notice) (fun l => [.slice 4 (l.map D.Notice.V)]) := hd_slice Tryz.underlying35 (by kernel_rfl) (by decide) (fun _ => rfl) T.hd210
theorem T.hd37 : HasData Tryz.prog 37 D.Mailbox D.Mailbox.V := hd_struct (t := 37) Tryz.underlying37 (by kernel_rfl) (hf_cons (k := 1) T.hd35 rfl (by kernel_rfl) hf_nil) (fun p => ⟨p.1⟩) (fun p => rfl)
theorem T.hd39 : HasData Tryz.prog 39 D.World D.World.V := hd_struct (t := 39) Tryz.underlying39 (by kernel_rfl) (hf_cons (k := 1) T.hd3 rfl (by kernel_rfl) (hf_cons (k := 1) T.hd3 rfl (by kernel_rfl) (hf_cons (k := 1) T.hd22 rfl (by kernel_rfl) (hf_cons (k := 1) T.hd23 rfl (by kernel_rfl) (hf_cons (k := 4) T.hd30 rfl (by kernel_rfl) (hf_cons (k := 1) T.hd31 rfl (by kernel_rfl) (hf_cons (k := 4) T.hd33 rfl (by kernel_rfl) (hf_cons (k := 1) T.hd34 rfl (by kernel_rfl) (hf_cons (k := 1) T.hd3 rfl (by kernel_rfl) (hf_cons (k := 1) T.hd37 rfl (by kernel_rfl) hf_nil)))))))))) (fun p => ⟨p.1, p.2.1, p.2.2.1, p.2.2.2.1, p.2.2.2.2.1, p.2.2.2.2.2.1, p.2.2.2.2.2.2.1, p.2.2.2.2.2.2.2.1, p.2.2.2.2.2.2.2.2.1, p.2.2.2.2.2.2.2.2.2.1⟩) (fun p => rfl)
theorem D.Box.ok_of {w : Go.World} {X : Nat → Prop} {x : D.Box} (h : RdA w X x.V) : x.ok := okL_of h.2.2.1 (fun _ _ => trivial)
theorem D.EpochBoxes.ok_of {w : Go.World} {X : Nat → Prop} {x : D.EpochBoxes} (h : RdA w X x.V) : x.ok := okL_of h.2.1 (fun y h => D.Box.ok_of h)
theorem D.SealedBundle.ok_of {w : Go.World} {X : Nat → Prop} {x : D.SealedBundle} (h : RdA w X x.V) : x.ok := okL_of h.2.2.1 (fun _ _ => trivial)
theorem D.Cloud.ok_of {w : Go.World} {X : Nat → Prop} {x : D.Cloud} (h : RdA w X x.V) : x.ok := ⟨okL_of h.1 (fun _ _ => trivial), D.EpochBoxes.ok_of ⟨h.2.1, h.2.2.1, trivial⟩, okL_of h.2.2.2.1 (fun y h => D.SealedBundle.ok_of h)⟩
theorem D.Mailbox.ok_of {w : Go.World} {X : Nat → Prop} {x : D.Mailbox} (h : RdA w X x.V) : x.ok := okL_of h.1 (fun _ _ => trivial)
theorem D.Bundle.ok_of {w : Go.World} {X : Nat → Prop} {x : D.Bundle} (h : RdA w X x.V) : x.ok := okL_of h.1 (fun _ _ => trivial)
theorem D.Device.ok_of {w : Go.World} {X : Nat → Prop} {x : D.Device} (h : RdA w X x.V) : x.ok := ⟨okL_of h.2.2.2.2.1 (fun _ _ => trivial), D.Bundle.ok_of ⟨h.2.2.2.2.2.2.2.2.1, trivial⟩⟩
theorem D.Account.ok_of {w : Go.World} {X : Nat → Prop} {x : D.Account} (h : RdA w X x.V) : x.ok := okL_of h.2.2.1 (fun _ _ => trivial)
theorem D.ChallengeBook.ok_of {w : Go.World} {X : Nat → Prop} {x : D.ChallengeBook} (h : RdA w X x.V) : x.ok := okL_of h.2.2.1 (fun _ _ => trivial)
theorem D.Site.ok_of {w : Go.World} {X : Nat → Prop} {x : D.Site} (h : RdA w X x.V) : x.ok := ⟨okS_of h.1, okL_of h.2.1 (fun y h => D.Account.ok_of h), D.ChallengeBook.ok_of ⟨h.2.2.1, h.2.2.2.1, h.2.2.2.2.1, trivial⟩, okL_of h.2.2.2.2.2.1 (fun _ _ => trivial)⟩
theorem D.KeeperHost.ok_of {w : Go.World} {X : Nat → Prop} {x : D.KeeperHost} (h : RdA w X x.V) : x.ok := okL_of h.2.2.2.2.2.1 (fun _ _ => trivial)
theorem D.World.ok_of {w : Go.World} {X : Nat → Prop} {x : D.World} (h : RdA w X x.V) : x.ok := ⟨okL_of h.2.2.1 (fun y h => D.Device.ok_of h), okL_of h.2.2.2.1 (fun _ _ => trivial), D.Cloud.ok_of ⟨h.2.2.2.2.1, h.2.2.2.2.2.1, h.2.2.2.2.2.2.1, h.2.2.2.2.2.2.2.1, trivial⟩, okL_of h.2.2.2.2.2.2.2.2.1 (fun y h => D.Site.ok_of h), okL_of h.2.2.2.2.2.2.2.2.2.2.2.2.2.1 (fun y h => D.KeeperHost.ok_of h), D.Mailbox.ok_of ⟨h.2.2.2.2.2.2.2.2.2.2.2.2.2.2.2.1, trivial⟩⟩
theorem v_laws_FnExactUnionBundle (x0 : D.World) : (EV.toCps Yn S_laws_FnExactUnionBundle.ar (x0)).map EV.cpV = [.agg (D.World.V x0)] := by kernel_rfl
theorem k_laws_FnExactUnionBundle (x0 : D.World) (h : x0.ok) : Spec Tryz.prog G0 5 [.agg (D.World.V x0)] (fun v => v = .bool true) := by
  rw [← v_laws_FnExactUnionBundle]
  exact (s_laws_FnExactUnionBundle (x0) true (gd_t h)).1 rfl rfl
theorem sp_laws_FnExactUnionBundle (x0 : D.World) : Spec Tryz.prog G0 5 [.agg (D.World.V x0)] (fun v => v = .bool true) := spec_of (en_laws_FnExactUnionBundle) (k_laws_FnExactUnionBundle x0) (fun w X h => D.World.ok_of (RdA.agg h.1))
end
end Go.VK
