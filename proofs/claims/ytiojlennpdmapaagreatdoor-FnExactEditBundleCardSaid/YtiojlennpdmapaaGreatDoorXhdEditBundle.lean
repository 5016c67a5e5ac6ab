import Derived.Test.YtiojlennpdmapaaGreatDoorXdC
import Derived.Test.YtiojlennpdmapaaGreatDoorEVztot
/-
  Printed by wip/tools (own work of this part): models of functions, walks over the value kit, and proofs.
-/
set_option linter.unusedVariables false
set_option linter.unusedSimpArgs false
set_option maxRecDepth 100000
set_option maxHeartbeats 4000000
namespace Go.VK
open Go.RowKit Go.Proofs
noncomputable section
theorem T.hd3 : HasData Tryz.prog 3 Int iV := hd_int Tryz.underlying3
theorem T.hd119 : HasData Tryz.prog 119 D.KeyStore D.KeyStore.V := hd_struct (t := 119) Tryz.underlying119 (by kernel_rfl) (hf_cons (k := 1) T.hd3 rfl (by kernel_rfl) (hf_cons (k := 1) T.hd3 rfl (by kernel_rfl) (hf_cons (k := 1) T.hd3 rfl (by kernel_rfl) (hf_cons (k := 1) T.hd3 rfl (by kernel_rfl) hf_nil)))) (fun p => ⟨p.1, p.2.1, p.2.2.1, p.2.2.2.1⟩) (fun p => rfl)
theorem T.hd223 : HasData Tryz.prog 223 D.LogEntry D.LogEntry.V := hd_struct (t := 223) Tryz.underlying223 (by kernel_rfl) (hf_cons (k := 1) T.hd3 rfl (by kernel_rfl) (hf_cons (k := 1) T.hd3 rfl (by kernel_rfl) (hf_cons (k := 1) T.hd3 rfl (by kernel_rfl) (hf_cons (k := 1) T.hd3 rfl (by kernel_rfl) (hf_cons (k := 1) T.hd3 rfl (by kernel_rfl) (hf_cons (k := 1) T.hd3 rfl (by kernel_rfl) hf_nil)))))) (fun p => ⟨p.1, p.2.1, p.2.2.1, p.2.2.2.1, p.2.2.2.2.1, p.2.2.2.2.2.1⟩) (fun p => rfl)
theorem T.hd24 : HasData Tryz.prog 24 (List D.LogEntry) (fun l => [.slice 6 (l.map D.LogEntry.V)]) := hd_slice Tryz.underlying24 (by kernel_rfl) (by decide) (fun _ => rfl) T.hd223
theorem T.hd4 : HasData Tryz.prog 4 Bool bV := hd_bool Tryz.underlying4
theorem T.hd303 : HasData Tryz.prog 303 D.Entry D.Entry.V := hd_struct (t := 303) Tryz.underlying303 (by kernel_rfl) (hf_cons (k := 1) T.hd3 rfl (by kernel_rfl) (hf_cons (k := 1) T.hd3 rfl (by kernel_rfl) (hf_cons (k := 1) T.hd3 rfl (by kernel_rfl) (hf_cons (k := 1) T.hd4 rfl (by kernel_rfl) hf_nil)))) (fun p => ⟨p.1, p.2.1, p.2.2.1, p.2.2.2.1⟩) (fun p => rfl)
theorem T.hd120 : HasData Tryz.prog 120 (List D.Entry) (fun l => [.slice 4 (l.map D.Entry.V)]) := hd_slice Tryz.underlying120 (by kernel_rfl) (by decide) (fun _ => rfl) T.hd303
theorem T.hd122 : HasData Tryz.prog 122 D.Bundle D.Bundle.V := hd_struct (t := 122) Tryz.underlying122 (by kernel_rfl) (hf_cons (k := 1) T.hd120 rfl (by kernel_rfl) hf_nil) (fun p => ⟨p.1⟩) (fun p => rfl)
theorem T.hd124 : HasData Tryz.prog 124 D.Device D.Device.V := hd_struct (t := 124) Tryz.underlying124 (by kernel_rfl) (hf_cons (k := 4) T.hd119 rfl (by kernel_rfl) (hf_cons (k := 1) T.hd24 rfl (by kernel_rfl) (hf_cons (k := 1) T.hd3 rfl (by kernel_rfl) (hf_cons (k := 1) T.hd3 rfl (by kernel_rfl) (hf_cons (k := 1) T.hd3 rfl (by kernel_rfl) (hf_cons (k := 1) T.hd122 rfl (by kernel_rfl) hf_nil)))))) (fun p => ⟨p.1, p.2.1, p.2.2.1, p.2.2.2.1, p.2.2.2.2.1, p.2.2.2.2.2.1⟩) (fun p => rfl)
theorem T.hd22 : HasData Tryz.prog 22 (List D.Device) (fun l => [.slice 9 (l.map D.Device.V)]) := hd_slice Tryz.underlying22 (by kernel_rfl) (by decide) (fun _ => rfl) T.hd124
theorem T.hd23 : HasData Tryz.prog 23 (List Bool) (fun l => [.slice 1 (l.map bV)]) := hd_slice Tryz.underlying23 (by kernel_rfl) (by decide) (fun _ => rfl) T.hd4
theorem T.hd5 : HasData Tryz.prog 5 Int y8 := hd_u8 Tryz.underlying5
theorem T.hd196 : HasData Tryz.prog 196 (List Int) (fun l => [.slice 1 (l.map y8)]) := hd_slice Tryz.underlying196 (by kernel_rfl) (by decide) (fun _ => rfl) T.hd5
theorem T.hd272 : HasData Tryz.prog 272 D.Box D.Box.V := hd_struct (t := 272) Tryz.underlying272 (by kernel_rfl) (hf_cons (k := 1) T.hd3 rfl (by kernel_rfl) (hf_cons (k := 1) T.hd3 rfl (by kernel_rfl) (hf_cons (k := 1) T.hd196 rfl (by kernel_rfl) (hf_cons (k := 1) T.hd3 rfl (by kernel_rfl) hf_nil)))) (fun p => ⟨p.1, p.2.1, p.2.2.1, p.2.2.2.1⟩) (fun p => rfl)
theorem T.hd25 : HasData Tryz.prog 25 (List D.Box) (fun l => [.slice 4 (l.map D.Box.V)]) := hd_slice Tryz.underlying25 (by kernel_rfl) (by decide) (fun _ => rfl) T.hd272
theorem T.hd27 : HasData Tryz.prog 27 D.EpochBoxes D.EpochBoxes.V := hd_struct (t := 27) Tryz.underlying27 (by kernel_rfl) (hf_cons (k := 1) T.hd3 rfl (by kernel_rfl) (hf_cons (k := 1) T.hd25 rfl (by kernel_rfl) hf_nil)) (fun p => ⟨p.1, p.2.1⟩) (fun p => rfl)
theorem T.hd198 : HasData Tryz.prog 198 D.SealedBundle D.SealedBundle.V := hd_struct (t := 198) Tryz.underlying198 (by kernel_rfl) (hf_cons (k := 1) T.hd3 rfl (by kernel_rfl) (hf_cons (k := 1) T.hd3 rfl (by kernel_rfl) (hf_cons (k := 1) T.hd196 rfl (by kernel_rfl) (hf_cons (k := 1) T.hd3 rfl (by kernel_rfl) hf_nil)))) (fun p => ⟨p.1, p.2.1, p.2.2.1, p.2.2.2.1⟩) (fun p => rfl)
theorem T.hd28 : HasData Tryz.prog 28 (List D.SealedBundle) (fun l => [.slice 4 (l.map D.SealedBundle.V)]) := hd_slice Tryz.underlying28 (by kernel_rfl) (by decide) (fun _ => rfl) T.hd198
theorem T.hd30 : HasData Tryz.prog 30 D.Cloud D.Cloud.V := hd_struct (t := 30) Tryz.underlying30 (by kernel_rfl) (hf_cons (k := 1) T.hd24 rfl (by kernel_rfl) (hf_cons (k := 2) T.hd27 rfl (by kernel_rfl) (hf_cons (k := 1) T.hd28 rfl (by kernel_rfl) hf_nil))) (fun p => ⟨p.1, p.2.1, p.2.2.1⟩) (fun p => rfl)
theorem T.hd9 : HasData Tryz.prog 9 ByteArray sV := hd_str Tryz.underlying9
theorem T.hd314 : HasData Tryz.prog 314 D.Credential D.Credential.V := hd_struct (t := 314) Tryz.underlying314 (by kernel_rfl) (hf_cons (k := 1) T.hd3 rfl (by kernel_rfl) (hf_cons (k := 1) T.hd3 rfl (by kernel_rfl) (hf_cons (k := 1) T.hd3 rfl (by kernel_rfl) (hf_cons (k := 1) T.hd4 rfl (by kernel_rfl) hf_nil)))) (fun p => ⟨p.1, p.2.1, p.2.2.1, p.2.2.2.1⟩) (fun p => rfl)
theorem T.hd274 : HasData Tryz.prog 274 (List D.Credential) (fun l => [.slice 4 (l.map D.Credential.V)]) := hd_slice Tryz.underlying274 (by kernel_rfl) (by decide) (fun _ => rfl) T.hd314
theorem T.hd276 : HasData Tryz.prog 276 D.Account D.Account.V := hd_struct (t := 276) Tryz.underlying276 (by kernel_rfl) (hf_cons (k := 1) T.hd3 rfl (by kernel_rfl) (hf_cons (k := 1) T.hd3 rfl (by kernel_rfl) (hf_cons (k := 1) T.hd274 rfl (by kernel_rfl) hf_nil))) (fun p => ⟨p.1, p.2.1, p.2.2.1⟩) (fun p => rfl)
theorem T.hd129 : HasData Tryz.prog 129 (List D.Account) (fun l => [.slice 3 (l.map D.Account.V)]) := hd_slice Tryz.underlying129 (by kernel_rfl) (by decide) (fun _ => rfl) T.hd276
theorem T.hd306 : HasData Tryz.prog 306 D.Challenge D.Challenge.V := hd_struct (t := 306) Tryz.underlying306 (by kernel_rfl) (hf_cons (k := 1) T.hd3 rfl (by kernel_rfl) (hf_cons (k := 1) T.hd3 rfl (by kernel_rfl) (hf_cons (k := 1) T.hd3 rfl (by kernel_rfl) hf_nil))) (fun p => ⟨p.1, p.2.1, p.2.2.1⟩) (fun p => rfl)
theorem T.hd130 : HasData Tryz.prog 130 (List D.Challenge) (fun l => [.slice 3 (l.map D.Challenge.V)]) := hd_slice Tryz.underlying130 (by kernel_rfl) (by decide) (fun _ => rfl) T.hd306
theorem T.hd132 : HasData Tryz.prog 132 D.ChallengeBook D.ChallengeBook.V := hd_struct (t := 132) Tryz.underlying132 (by kernel_rfl) (hf_cons (k := 1) T.hd3 rfl (by kernel_rfl) (hf_cons (k := 1) T.hd3 rfl (by kernel_rfl) (hf_cons (k := 1) T.hd130 rfl (by kernel_rfl) hf_nil))) (fun p => ⟨p.1, p.2.1, p.2.2.1⟩) (fun p => rfl)
theorem T.hd104 : HasData Tryz.prog 104 (List Int) (fun l => [.slice 1 (l.map iV)]) := hd_slice Tryz.underlying104 (by kernel_rfl) (by decide) (fun _ => rfl) T.hd3
theorem T.hd134 : HasData Tryz.prog 134 D.Site D.Site.V := hd_struct (t := 134) Tryz.underlying134 (by kernel_rfl) (hf_cons (k := 1) T.hd9 rfl (by kernel_rfl) (hf_cons (k := 1) T.hd129 rfl (by kernel_rfl) (hf_cons (k := 3) T.hd132 rfl (by kernel_rfl) (hf_cons (k := 1) T.hd104 rfl (by kernel_rfl) hf_nil)))) (fun p => ⟨p.1, p.2.1, p.2.2.1, p.2.2.2.1⟩) (fun p => rfl)
theorem T.hd31 : HasData Tryz.prog 31 (List D.Site) (fun l => [.slice 6 (l.map D.Site.V)]) := hd_slice Tryz.underlying31 (by kernel_rfl) (by decide) (fun _ => rfl) T.hd134
theorem T.hd33 : HasData Tryz.prog 33 D.Vault D.Vault.V := hd_struct (t := 33) Tryz.underlying33 (by kernel_rfl) (hf_cons (k := 1) T.hd3 rfl (by kernel_rfl) (hf_cons (k := 1) T.hd3 rfl (by kernel_rfl) (hf_cons (k := 1) T.hd3 rfl (by kernel_rfl) (hf_cons (k := 1) T.hd3 rfl (by kernel_rfl) hf_nil)))) (fun p => ⟨p.1, p.2.1, p.2.2.1, p.2.2.2.1⟩) (fun p => rfl)
theorem T.hd136 : HasData Tryz.prog 136 D.Share D.Share.V := hd_struct (t := 136) Tryz.underlying136 (by kernel_rfl) (hf_cons (k := 1) T.hd3 rfl (by kernel_rfl) (hf_cons (k := 1) T.hd3 rfl (by kernel_rfl) hf_nil)) (fun p => ⟨p.1, p.2.1⟩) (fun p => rfl)
theorem T.hd138 : HasData Tryz.prog 138 D.Keeper D.Keeper.V := hd_struct (t := 138) Tryz.underlying138 (by kernel_rfl) (hf_cons (k := 2) T.hd136 rfl (by kernel_rfl) (hf_cons (k := 1) T.hd3 rfl (by kernel_rfl) (hf_cons (k := 1) T.hd3 rfl (by kernel_rfl) (hf_cons (k := 1) T.hd3 rfl (by kernel_rfl) hf_nil)))) (fun p => ⟨p.1, p.2.1, p.2.2.1, p.2.2.2.1⟩) (fun p => rfl)
theorem T.hd139 : HasData Tryz.prog 139 (List D.Keeper) (fun l => [.slice 5 (l.map D.Keeper.V)]) := hd_slice Tryz.underlying139 (by kernel_rfl) (by decide) (fun _ => rfl) T.hd138
theorem T.hd141 : HasData Tryz.prog 141 D.KeeperHost D.KeeperHost.V := hd_struct (t := 141) Tryz.underlying141 (by kernel_rfl) (hf_cons (k := 5) T.hd138 rfl (by kernel_rfl) (hf_cons (k := 1) T.hd139 rfl (by kernel_rfl) (hf_cons (k := 1) T.hd3 rfl (by kernel_rfl) hf_nil))) (fun p => ⟨p.1, p.2.1, p.2.2.1⟩) (fun p => rfl)
theorem T.hd34 : HasData Tryz.prog 34 (List D.KeeperHost) (fun l => [.slice 7 (l.map D.KeeperHost.V)]) := hd_slice Tryz.underlying34 (by kernel_rfl) (by decide) (fun _ => rfl) T.hd141
theorem T.hd232 : HasData Tryz.prog 232 D.Notice D.Notice.V := hd_struct (t := 232) Tryz.underlying232 (by kernel_rfl) (hf_cons (k := 1) T.hd3 rfl (by kernel_rfl) (hf_cons (k := 1) T.hd3 rfl (by kernel_rfl) (hf_cons (k := 1) T.hd3 rfl (by kernel_rfl) (hf_cons (k := 1) T.hd4 rfl (by kernel_rfl) hf_nil)))) (fun p => ⟨p.1, p.2.1, p.2.2.1, p.2.2.2.1⟩) (fun p => rfl)
theorem T.hd35 : HasData Tryz.prog 35 (List D.Notice) (fun l => [.slice 4 (l.map D.Notice.V)]) := hd_slice Tryz.underlying35 (by kernel_rfl) (by decide) (fun _ => rfl) T.hd232
theorem T.hd37 : HasData Tryz.prog 37 D.Mailbox D.Mailbox.V := hd_struct (t := 37) Tryz.underlying37 (by kernel_rfl) (hf_cons (k := 1) T.hd35 rfl (by kernel_rfl) hf_nil) (fun p => ⟨p.1⟩) (fun p => rfl)
theorem T.hd39 : HasData Tryz.prog 39 D.World D.World.V := hd_struct (t := 39) Tryz.underlying39 (by kernel_rfl) (hf_cons (k := 1) T.hd3 rfl (by kernel_rfl) (hf_cons (k := 1) T.hd3 rfl (by kernel_rfl) (hf_cons (k := 1) T.hd22 rfl (by kernel_rfl) (hf_cons (k := 1) T.hd23 rfl (by kernel_rfl) (hf_cons (k := 4) T.hd30 rfl (by kernel_rfl) (hf_cons (k := 1) T.hd31 rfl (by kernel_rfl) (hf_cons (k := 4) T.hd33 rfl (by kernel_rfl) (hf_cons (k := 1) T.hd34 rfl (by kernel_rfl) (hf_cons (k := 1) T.hd3 rfl (by kernel_rfl) (hf_cons (k := 1) T.hd37 rfl (by kernel_rfl) hf_nil)))))))))) (fun p => ⟨p.1, p.2.1, p.2.2.1, p.2.2.2.1, p.2.2.2.2.1, p.2.2.2.2.2.1, p.2.2.2.2.2.2.1, p.2.2.2.2.2.2.2.1, p.2.2.2.2.2.2.2.2.1, p.2.2.2.2.2.2.2.2.2.1⟩) (fun p => rfl)
theorem D.Box.ok_of {w : Go.World} {X : Nat → Prop} {x : D.Box} (h : RdA w X x.V) : x.ok := okL_of h.2.2.1 (fun _ _ => trivial)
theorem D.EpochBoxes.ok_of {w : Go.World} {X : Nat → Prop} {x : D.EpochBoxes} (h : RdA w X x.V) : x.ok := okL_of h.2.1 (fun y h => D.Box.ok_of h)
theorem D.SealedBundle.ok_of {w : Go.World} {X : Nat → Prop} {x : D.SealedBundle} (h : RdA w X x.V) : x.ok := okL_of h.2.2.1 (fun _ _ => trivial)
theorem D.Cloud.ok_of {w : Go.World} {X : Nat → Prop} {x : D.Cloud} (h : RdA w X x.V) : x.ok := ⟨okL_of h.1 (fun _ _ => trivial), D.EpochBoxes.ok_of ⟨h.2.1, h.2.2.1, trivial⟩, okL_of h.2.2.2.1 (fun y h => D.SealedBundle.ok_of h)⟩
theorem D.Mailbox.ok_of {w : Go.World} {X : Nat → Prop} {x : D.Mailbox} (h : RdA w X x.V) : x.ok := okL_of h.1 (fun _ _ => trivial)
theorem D.Bundle.ok_of {w : Go.World} {X : Nat → Prop} {x : D.Bundle} (h : RdA w X x.V) : x.ok := okL_of h.1 (fun _ _ => trivial)
theorem D.Device.ok_of {w : Go.World} {X : Nat → Prop} {x : D.Device} (h : RdA w X x.V) : x.ok := ⟨okL_of h.2.2.2.2.1 (fun _ _ => trivial), D.Bundle.ok_of ⟨h.2.2.2.2.2.2.2.2.1, trivial⟩⟩
theorem D.Account.ok_of {w : Go.World} {X : Nat → Prop} {x : D.Account} (h : RdA w X x.V) : x.ok := okL_of h.2.2.1 (fun _ _ => trivial)
theorem D.ChallengeBook.ok_of {w : Go.World} {X : Nat → Prop} {x : D.ChallengeBook} (h : RdA w X x.V) : x.ok := okL_of h.2.2.1 (fun _ _ => trivial)
theorem D.Site.ok_of {w : Go.World} {X : Nat → Prop} {x : D.Site} (h : RdA w X x.V) : x.ok := ⟨okS_of h.1, okL_of h.2.1 (fun y h => D.Account.ok_of h), D.ChallengeBook.ok_of ⟨h.2.2.1, h.2.2.2.1, h.2.2.2.2.1, trivial⟩, okL_of h.2.2.2.2.2.1 (fun _ _ => trivial)⟩
theorem D.KeeperHost.ok_of {w : Go.World} {X : Nat → Prop} {x : D.KeeperHost} (h : RdA w X x.V) : x.ok := okL_of h.2.2.2.2.2.1 (fun _ _ => trivial)
theorem D.World.ok_of {w : Go.World} {X : Nat → Prop} {x : D.World} (h : RdA w X x.V) : x.ok := ⟨okL_of h.2.2.1 (fun y h => D.Device.ok_of h), okL_of h.2.2.2.1 (fun _ _ => trivial), D.Cloud.ok_of ⟨h.2.2.2.2.1, h.2.2.2.2.2.1, h.2.2.2.2.2.2.1, h.2.2.2.2.2.2.2.1, trivial⟩, okL_of h.2.2.2.2.2.2.2.2.1 (fun y h => D.Site.ok_of h), okL_of h.2.2.2.2.2.2.2.2.2.2.2.2.2.1 (fun y h => D.KeeperHost.ok_of h), D.Mailbox.ok_of ⟨h.2.2.2.2.2.2.2.2.2.2.2.2.2.2.2.1, trivial⟩⟩
theorem v_laws_FnExactEditBundle (x0 : D.World) (x1 : Int) (x2 : ByteArray) (x3 : Int) (x4 : Bool) : (EV.toCps Yn S_laws_FnExactEditBundle.ar (x0, x1, x2, x3, x4)).map EV.cpV = [.agg (D.World.V x0), .int .i64 x1, .str x2, .int .i64 x3, .bool x4] := by kernel_rfl
theorem en_laws_FnExactEditBundle (args : Array Value) (w : Go.World) : (callFunc 5 args).run Tryz.prog w = .ok (.enter 5 args) w := by kernel_rfl
theorem k_laws_FnExactEditBundle (x0 : D.World) (x1 : Int) (x2 : ByteArray) (x3 : Int) (x4 : Bool) (h : x0.ok) : Spec Tryz.prog G0 5 [.agg (D.World.V x0), .int .i64 x1, .str x2, .int .i64 x3, .bool x4] (fun v => v = .bool true) := by
  rw [← v_laws_FnExactEditBundle]
  exact (s_laws_FnExactEditBundle (x0, x1, x2, x3, x4) true (gd_t h)).1 rfl rfl
theorem sp_laws_FnExactEditBundle (x0 : D.World) (x1 : Int) (x2 : ByteArray) (x3 : Int) (x4 : Bool) : Spec Tryz.prog G0 5 [.agg (D.World.V x0), .int .i64 x1, .str x2, .int .i64 x3, .bool x4] (fun v => v = .bool true) := spec_of (en_laws_FnExactEditBundle) (k_laws_FnExactEditBundle x0 x1 x2 x3 x4) (fun w X h => D.World.ok_of (RdA.agg h.1))
end
end Go.VK
