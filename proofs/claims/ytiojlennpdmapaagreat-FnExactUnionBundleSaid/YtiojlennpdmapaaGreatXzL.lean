import Derived.Test.YtiojlennpdmapaaGreatXzFF
import Derived.Test.YtiojlennpdmapaaGreatProg
/-
  Printed by wip/tools (own work of this part): models of functions, walks over the value kit, and proofs.
-/
set_option linter.unusedVariables false
set_option linter.unusedSimpArgs false
set_option maxRecDepth 100000
set_option maxHeartbeats 4000000
namespace Go.VK
open Go.RowKit Go.Proofs
noncomputable section
abbrev G0 : GI := GTriv
def El : Nat → Type
  | 109 => D.KeyStore
  | 198 => D.LogEntry
  | 253 => D.Entry
  | 112 => D.Bundle
  | 114 => D.Device
  | 4 => Bool
  | 5 => Int
  | 231 => D.Box
  | 27 => D.EpochBoxes
  | 189 => D.SealedBundle
  | 30 => D.Cloud
  | 263 => D.Credential
  | 235 => D.Account
  | 256 => D.Challenge
  | 122 => D.ChallengeBook
  | 3 => Int
  | 124 => D.Site
  | 33 => D.Vault
  | 127 => D.Share
  | 129 => D.Keeper
  | 132 => D.KeeperHost
  | 210 => D.Notice
  | 37 => D.Mailbox
  | 39 => D.World
  | 103 => D.KeyStore
  | 196 => D.LogEntry
  | 180 => D.Entry
  | 69 => D.Bundle
  | 105 => D.Device
  | 238 => D.Box
  | 48 => D.EpochBoxes
  | 200 => D.SealedBundle
  | 51 => D.Cloud
  | 145 => D.Credential
  | 143 => D.Account
  | 224 => D.Challenge
  | 138 => D.ChallengeBook
  | 140 => D.Site
  | 53 => D.Vault
  | 151 => D.Share
  | 153 => D.Keeper
  | 156 => D.KeeperHost
  | 208 => D.Notice
  | 57 => D.Mailbox
  | 59 => D.World
  | 41 => List Int
  | _ => Empty
def encE : (τ : Nat) → El τ → List V
  | 109 => D.KeyStore.V
  | 198 => D.LogEntry.V
  | 253 => D.Entry.V
  | 112 => D.Bundle.V
  | 114 => D.Device.V
  | 4 => bV
  | 5 => y8
  | 231 => D.Box.V
  | 27 => D.EpochBoxes.V
  | 189 => D.SealedBundle.V
  | 30 => D.Cloud.V
  | 263 => D.Credential.V
  | 235 => D.Account.V
  | 256 => D.Challenge.V
  | 122 => D.ChallengeBook.V
  | 3 => iV
  | 124 => D.Site.V
  | 33 => D.Vault.V
  | 127 => D.Share.V
  | 129 => D.Keeper.V
  | 132 => D.KeeperHost.V
  | 210 => D.Notice.V
  | 37 => D.Mailbox.V
  | 39 => D.World.V
  | 103 => D.KeyStore.V
  | 196 => D.LogEntry.V
  | 180 => D.Entry.V
  | 69 => D.Bundle.V
  | 105 => D.Device.V
  | 238 => D.Box.V
  | 48 => D.EpochBoxes.V
  | 200 => D.SealedBundle.V
  | 51 => D.Cloud.V
  | 145 => D.Credential.V
  | 143 => D.Account.V
  | 224 => D.Challenge.V
  | 138 => D.ChallengeBook.V
  | 140 => D.Site.V
  | 53 => D.Vault.V
  | 151 => D.Share.V
  | 153 => D.Keeper.V
  | 156 => D.KeeperHost.V
  | 208 => D.Notice.V
  | 57 => D.Mailbox.V
  | 59 => D.World.V
  | 41 => (fun l => [V.slice 1 (l.map iV)])
  | _ => fun _ => []
def Un : EV.Uni := ⟨El, fun | 109 => 4 | 198 => 6 | 253 => 4 | 112 => 1 | 114 => 9 | 4 => 1 | 5 => 1 | 231 => 4 | 27 => 2 | 189 => 4 | 30 => 4 | 263 => 4 | 235 => 3 | 256 => 3 | 122 => 3 | 3 => 1 | 124 => 6 | 33 => 4 | 127 => 2 | 129 => 5 | 132 => 7 | 210 => 4 | 37 => 1 | 39 => 16 | 103 => 4 | 196 => 6 | 180 => 4 | 69 => 1 | 105 => 9 | 238 => 4 | 48 => 2 | 200 => 4 | 51 => 4 | 145 => 4 | 143 => 3 | 224 => 3 | 138 => 3 | 140 => 6 | 53 => 4 | 151 => 2 | 153 => 5 | 156 => 7 | 208 => 4 | 57 => 1 | 59 => 16 | 41 => 1 | _ => 0, encE⟩
def celE : (τ : Nat) → El τ → List (EV.Lf Un)
  | 109 => fun x => [.int .i64 x.Vendor, .int .i64 x.Serial, .int .i64 x.Seed, .int .i64 x.Counter]
  | 198 => fun x => [.int .i64 x.Index, .int .i64 x.Kind, .int .i64 x.Device, .int .i64 x.By, .int .i64 x.Previous, .int .i64 x.Signature]
  | 253 => fun x => [.int .i64 x.Site, .int .i64 x.Handle, .int .i64 x.Version, .bool x.Deleted]
  | 112 => fun x => [.sl 253 x.Entries]
  | 114 => fun x => [.int .i64 x.Store.Vendor, .int .i64 x.Store.Serial, .int .i64 x.Store.Seed, .int .i64 x.Store.Counter, .sl 198 x.Log, .int .i64 x.Key, .int .i64 x.Epoch, .int .i64 x.Version, .sl 253 x.Bundle.Entries]
  | 4 => fun x => [.bool x]
  | 5 => fun x => [.int .u8 x]
  | 231 => fun x => [.int .i64 x.To, .int .i64 x.Ephemeral, .sl 5 x.Data, .int .i64 x.MAC]
  | 27 => fun x => [.int .i64 x.Epoch, .sl 231 x.Boxes]
  | 189 => fun x => [.int .i64 x.Epoch, .int .i64 x.Version, .sl 5 x.Data, .int .i64 x.MAC]
  | 30 => fun x => [.sl 198 x.Log, .int .i64 x.Boxes.Epoch, .sl 231 x.Boxes.Boxes, .sl 189 x.History]
  | 263 => fun x => [.int .i64 x.Handle, .int .i64 x.Public, .int .i64 x.Counter, .bool x.Cut]
  | 235 => fun x => [.int .i64 x.Id, .int .i64 x.Minimum, .sl 263 x.Credentials]
  | 256 => fun x => [.int .i64 x.Id, .int .i64 x.Account, .int .i64 x.Until]
  | 122 => fun x => [.int .i64 x.Seed, .int .i64 x.Next, .sl 256 x.Open]
  | 3 => fun x => [.int .i64 x]
  | 124 => fun x => [.str x.Name, .sl 235 x.Accounts, .int .i64 x.Book.Seed, .int .i64 x.Book.Next, .sl 256 x.Book.Open, .sl 3 x.Logins]
  | 33 => fun x => [.int .i64 x.Salt, .int .i64 x.Threshold, .int .i64 x.Check, .int .i64 x.Masked]
  | 127 => fun x => [.int .i64 x.Index, .int .i64 x.Value]
  | 129 => fun x => [.int .i64 x.Share.Index, .int .i64 x.Share.Value, .int .i64 x.Epoch, .int .i64 x.Guesses, .int .i64 x.Limit]
  | 132 => fun x => [.int .i64 x.State.Share.Index, .int .i64 x.State.Share.Value, .int .i64 x.State.Epoch, .int .i64 x.State.Guesses, .int .i64 x.State.Limit, .sl 129 x.Saved, .int .i64 x.Monotonic]
  | 210 => fun x => [.int .i64 x.Kind, .int .i64 x.Account, .int .i64 x.Time, .bool x.Seen]
  | 37 => fun x => [.sl 210 x.Notices]
  | 39 => fun x => [.int .i64 x.Now, .int .i64 x.Seed, .sl 114 x.Devices, .sl 4 x.Stolen, .sl 198 x.Cloud.Log, .int .i64 x.Cloud.Boxes.Epoch, .sl 231 x.Cloud.Boxes.Boxes, .sl 189 x.Cloud.History, .sl 124 x.Sites, .int .i64 x.Vault.Salt, .int .i64 x.Vault.Threshold, .int .i64 x.Vault.Check, .int .i64 x.Vault.Masked, .sl 132 x.Hosts, .int .i64 x.Pin, .sl 210 x.Mail.Notices]
  | 103 => fun x => [.int .i64 x.Vendor, .int .i64 x.Serial, .int .i64 x.Seed, .int .i64 x.Counter]
  | 196 => fun x => [.int .i64 x.Index, .int .i64 x.Kind, .int .i64 x.Device, .int .i64 x.By, .int .i64 x.Previous, .int .i64 x.Signature]
  | 180 => fun x => [.int .i64 x.Site, .int .i64 x.Handle, .int .i64 x.Version, .bool x.Deleted]
  | 69 => fun x => [.sl 180 x.Entries]
  | 105 => fun x => [.int .i64 x.Store.Vendor, .int .i64 x.Store.Serial, .int .i64 x.Store.Seed, .int .i64 x.Store.Counter, .sl 196 x.Log, .int .i64 x.Key, .int .i64 x.Epoch, .int .i64 x.Version, .sl 180 x.Bundle.Entries]
  | 238 => fun x => [.int .i64 x.To, .int .i64 x.Ephemeral, .sl 5 x.Data, .int .i64 x.MAC]
  | 48 => fun x => [.int .i64 x.Epoch, .sl 238 x.Boxes]
  | 200 => fun x => [.int .i64 x.Epoch, .int .i64 x.Version, .sl 5 x.Data, .int .i64 x.MAC]
  | 51 => fun x => [.sl 196 x.Log, .int .i64 x.Boxes.Epoch, .sl 238 x.Boxes.Boxes, .sl 200 x.History]
  | 145 => fun x => [.int .i64 x.Handle, .int .i64 x.Public, .int .i64 x.Counter, .bool x.Cut]
  | 143 => fun x => [.int .i64 x.Id, .int .i64 x.Minimum, .sl 145 x.Credentials]
  | 224 => fun x => [.int .i64 x.Id, .int .i64 x.Account, .int .i64 x.Until]
  | 138 => fun x => [.int .i64 x.Seed, .int .i64 x.Next, .sl 224 x.Open]
  | 140 => fun x => [.str x.Name, .sl 143 x.Accounts, .int .i64 x.Book.Seed, .int .i64 x.Book.Next, .sl 224 x.Book.Open, .sl 3 x.Logins]
  | 53 => fun x => [.int .i64 x.Salt, .int .i64 x.Threshold, .int .i64 x.Check, .int .i64 x.Masked]
  | 151 => fun x => [.int .i64 x.Index, .int .i64 x.Value]
  | 153 => fun x => [.int .i64 x.Share.Index, .int .i64 x.Share.Value, .int .i64 x.Epoch, .int .i64 x.Guesses, .int .i64 x.Limit]
  | 156 => fun x => [.int .i64 x.State.Share.Index, .int .i64 x.State.Share.Value, .int .i64 x.State.Epoch, .int .i64 x.State.Guesses, .int .i64 x.State.Limit, .sl 153 x.Saved, .int .i64 x.Monotonic]
  | 208 => fun x => [.int .i64 x.Kind, .int .i64 x.Account, .int .i64 x.Time, .bool x.Seen]
  | 57 => fun x => [.sl 208 x.Notices]
  | 59 => fun x => [.int .i64 x.Now, .int .i64 x.Seed, .sl 105 x.Devices, .sl 4 x.Stolen, .sl 196 x.Cloud.Log, .int .i64 x.Cloud.Boxes.Epoch, .sl 238 x.Cloud.Boxes.Boxes, .sl 200 x.Cloud.History, .sl 140 x.Sites, .int .i64 x.Vault.Salt, .int .i64 x.Vault.Threshold, .int .i64 x.Vault.Check, .int .i64 x.Vault.Masked, .sl 156 x.Hosts, .int .i64 x.Pin, .sl 208 x.Mail.Notices]
  | 41 => fun x => [.sl 3 x]
  | _ => fun _ => []
def kdE : Nat → List EV.Kd
  | 109 => [.int .i64, .int .i64, .int .i64, .int .i64]
  | 198 => [.int .i64, .int .i64, .int .i64, .int .i64, .int .i64, .int .i64]
  | 253 => [.int .i64, .int .i64, .int .i64, .bool]
  | 112 => [.sl 253]
  | 114 => [.int .i64, .int .i64, .int .i64, .int .i64, .sl 198, .int .i64, .int .i64, .int .i64, .sl 253]
  | 4 => [.bool]
  | 5 => [.int .u8]
  | 231 => [.int .i64, .int .i64, .sl 5, .int .i64]
  | 27 => [.int .i64, .sl 231]
  | 189 => [.int .i64, .int .i64, .sl 5, .int .i64]
  | 30 => [.sl 198, .int .i64, .sl 231, .sl 189]
  | 263 => [.int .i64, .int .i64, .int .i64, .bool]
  | 235 => [.int .i64, .int .i64, .sl 263]
  | 256 => [.int .i64, .int .i64, .int .i64]
  | 122 => [.int .i64, .int .i64, .sl 256]
  | 3 => [.int .i64]
  | 124 => [.str, .sl 235, .int .i64, .int .i64, .sl 256, .sl 3]
  | 33 => [.int .i64, .int .i64, .int .i64, .int .i64]
  | 127 => [.int .i64, .int .i64]
  | 129 => [.int .i64, .int .i64, .int .i64, .int .i64, .int .i64]
  | 132 => [.int .i64, .int .i64, .int .i64, .int .i64, .int .i64, .sl 129, .int .i64]
  | 210 => [.int .i64, .int .i64, .int .i64, .bool]
  | 37 => [.sl 210]
  | 39 => [.int .i64, .int .i64, .sl 114, .sl 4, .sl 198, .int .i64, .sl 231, .sl 189, .sl 124, .int .i64, .int .i64, .int .i64, .int .i64, .sl 132, .int .i64, .sl 210]
  | 103 => [.int .i64, .int .i64, .int .i64, .int .i64]
  | 196 => [.int .i64, .int .i64, .int .i64, .int .i64, .int .i64, .int .i64]
  | 180 => [.int .i64, .int .i64, .int .i64, .bool]
  | 69 => [.sl 180]
  | 105 => [.int .i64, .int .i64, .int .i64, .int .i64, .sl 196, .int .i64, .int .i64, .int .i64, .sl 180]
  | 238 => [.int .i64, .int .i64, .sl 5, .int .i64]
  | 48 => [.int .i64, .sl 238]
  | 200 => [.int .i64, .int .i64, .sl 5, .int .i64]
  | 51 => [.sl 196, .int .i64, .sl 238, .sl 200]
  | 145 => [.int .i64, .int .i64, .int .i64, .bool]
  | 143 => [.int .i64, .int .i64, .sl 145]
  | 224 => [.int .i64, .int .i64, .int .i64]
  | 138 => [.int .i64, .int .i64, .sl 224]
  | 140 => [.str, .sl 143, .int .i64, .int .i64, .sl 224, .sl 3]
  | 53 => [.int .i64, .int .i64, .int .i64, .int .i64]
  | 151 => [.int .i64, .int .i64]
  | 153 => [.int .i64, .int .i64, .int .i64, .int .i64, .int .i64]
  | 156 => [.int .i64, .int .i64, .int .i64, .int .i64, .int .i64, .sl 153, .int .i64]
  | 208 => [.int .i64, .int .i64, .int .i64, .bool]
  | 57 => [.sl 208]
  | 59 => [.int .i64, .int .i64, .sl 105, .sl 4, .sl 196, .int .i64, .sl 238, .sl 200, .sl 140, .int .i64, .int .i64, .int .i64, .int .i64, .sl 156, .int .i64, .sl 208]
  | 41 => [.sl 3]
  | _ => []
def bldE : (τ : Nat) → List (EV.Lf Un) → Option (El τ)
  | 109 => fun | [c0, c1, c2, c3] => bd (EV.lfTy (.int .i64) c0) fun a0 => bd (EV.lfTy (.int .i64) c1) fun a1 => bd (EV.lfTy (.int .i64) c2) fun a2 => bd (EV.lfTy (.int .i64) c3) fun a3 => some ⟨a0, a1, a2, a3⟩ | _ => none
  | 198 => fun | [c0, c1, c2, c3, c4, c5] => bd (EV.lfTy (.int .i64) c0) fun a0 => bd (EV.lfTy (.int .i64) c1) fun a1 => bd (EV.lfTy (.int .i64) c2) fun a2 => bd (EV.lfTy (.int .i64) c3) fun a3 => bd (EV.lfTy (.int .i64) c4) fun a4 => bd (EV.lfTy (.int .i64) c5) fun a5 => some ⟨a0, a1, a2, a3, a4, a5⟩ | _ => none
  | 253 => fun | [c0, c1, c2, c3] => bd (EV.lfTy (.int .i64) c0) fun a0 => bd (EV.lfTy (.int .i64) c1) fun a1 => bd (EV.lfTy (.int .i64) c2) fun a2 => bd (EV.lfTy (.bool) c3) fun a3 => some ⟨a0, a1, a2, a3⟩ | _ => none
  | 112 => fun | [c0] => bd (EV.lfTy (.sl 253) c0) fun a0 => some ⟨a0⟩ | _ => none
  | 114 => fun | [c0, c1, c2, c3, c4, c5, c6, c7, c8] => bd (EV.lfTy (.int .i64) c0) fun a0 => bd (EV.lfTy (.int .i64) c1) fun a1 => bd (EV.lfTy (.int .i64) c2) fun a2 => bd (EV.lfTy (.int .i64) c3) fun a3 => bd (EV.lfTy (.sl 198) c4) fun a4 => bd (EV.lfTy (.int .i64) c5) fun a5 => bd (EV.lfTy (.int .i64) c6) fun a6 => bd (EV.lfTy (.int .i64) c7) fun a7 => bd (EV.lfTy (.sl 253) c8) fun a8 => some ⟨⟨a0, a1, a2, a3⟩, a4, a5, a6, a7, ⟨a8⟩⟩ | _ => none
  | 4 => fun | [c0] => bd (EV.lfTy (.bool) c0) fun a0 => some a0 | _ => none
  | 5 => fun | [c0] => bd (EV.lfTy (.int .u8) c0) fun a0 => some a0 | _ => none
  | 231 => fun | [c0, c1, c2, c3] => bd (EV.lfTy (.int .i64) c0) fun a0 => bd (EV.lfTy (.int .i64) c1) fun a1 => bd (EV.lfTy (.sl 5) c2) fun a2 => bd (EV.lfTy (.int .i64) c3) fun a3 => some ⟨a0, a1, a2, a3⟩ | _ => none
  | 27 => fun | [c0, c1] => bd (EV.lfTy (.int .i64) c0) fun a0 => bd (EV.lfTy (.sl 231) c1) fun a1 => some ⟨a0, a1⟩ | _ => none
  | 189 => fun | [c0, c1, c2, c3] => bd (EV.lfTy (.int .i64) c0) fun a0 => bd (EV.lfTy (.int .i64) c1) fun a1 => bd (EV.lfTy (.sl 5) c2) fun a2 => bd (EV.lfTy (.int .i64) c3) fun a3 => some ⟨a0, a1, a2, a3⟩ | _ => none
  | 30 => fun | [c0, c1, c2, c3] => bd (EV.lfTy (.sl 198) c0) fun a0 => bd (EV.lfTy (.int .i64) c1) fun a1 => bd (EV.lfTy (.sl 231) c2) fun a2 => bd (EV.lfTy (.sl 189) c3) fun a3 => some ⟨a0, ⟨a1, a2⟩, a3⟩ | _ => none
  | 263 => fun | [c0, c1, c2, c3] => bd (EV.lfTy (.int .i64) c0) fun a0 => bd (EV.lfTy (.int .i64) c1) fun a1 => bd (EV.lfTy (.int .i64) c2) fun a2 => bd (EV.lfTy (.bool) c3) fun a3 => some ⟨a0, a1, a2, a3⟩ | _ => none
  | 235 => fun | [c0, c1, c2] => bd (EV.lfTy (.int .i64) c0) fun a0 => bd (EV.lfTy (.int .i64) c1) fun a1 => bd (EV.lfTy (.sl 263) c2) fun a2 => some ⟨a0, a1, a2⟩ | _ => none
  | 256 => fun | [c0, c1, c2] => bd (EV.lfTy (.int .i64) c0) fun a0 => bd (EV.lfTy (.int .i64) c1) fun a1 => bd (EV.lfTy (.int .i64) c2) fun a2 => some ⟨a0, a1, a2⟩ | _ => none
  | 122 => fun | [c0, c1, c2] => bd (EV.lfTy (.int .i64) c0) fun a0 => bd (EV.lfTy (.int .i64) c1) fun a1 => bd (EV.lfTy (.sl 256) c2) fun a2 => some ⟨a0, a1, a2⟩ | _ => none
  | 3 => fun | [c0] => bd (EV.lfTy (.int .i64) c0) fun a0 => some a0 | _ => none
  | 124 => fun | [c0, c1, c2, c3, c4, c5] => bd (EV.lfTy (.str) c0) fun a0 => bd (EV.lfTy (.sl 235) c1) fun a1 => bd (EV.lfTy (.int .i64) c2) fun a2 => bd (EV.lfTy (.int .i64) c3) fun a3 => bd (EV.lfTy (.sl 256) c4) fun a4 => bd (EV.lfTy (.sl 3) c5) fun a5 => some ⟨a0, a1, ⟨a2, a3, a4⟩, a5⟩ | _ => none
  | 33 => fun | [c0, c1, c2, c3] => bd (EV.lfTy (.int .i64) c0) fun a0 => bd (EV.lfTy (.int .i64) c1) fun a1 => bd (EV.lfTy (.int .i64) c2) fun a2 => bd (EV.lfTy (.int .i64) c3) fun a3 => some ⟨a0, a1, a2, a3⟩ | _ => none
  | 127 => fun | [c0, c1] => bd (EV.lfTy (.int .i64) c0) fun a0 => bd (EV.lfTy (.int .i64) c1) fun a1 => some ⟨a0, a1⟩ | _ => none
  | 129 => fun | [c0, c1, c2, c3, c4] => bd (EV.lfTy (.int .i64) c0) fun a0 => bd (EV.lfTy (.int .i64) c1) fun a1 => bd (EV.lfTy (.int .i64) c2) fun a2 => bd (EV.lfTy (.int .i64) c3) fun a3 => bd (EV.lfTy (.int .i64) c4) fun a4 => some ⟨⟨a0, a1⟩, a2, a3, a4⟩ | _ => none
  | 132 => fun | [c0, c1, c2, c3, c4, c5, c6] => bd (EV.lfTy (.int .i64) c0) fun a0 => bd (EV.lfTy (.int .i64) c1) fun a1 => bd (EV.lfTy (.int .i64) c2) fun a2 => bd (EV.lfTy (.int .i64) c3) fun a3 => bd (EV.lfTy (.int .i64) c4) fun a4 => bd (EV.lfTy (.sl 129) c5) fun a5 => bd (EV.lfTy (.int .i64) c6) fun a6 => some ⟨⟨⟨a0, a1⟩, a2, a3, a4⟩, a5, a6⟩ | _ => none
  | 210 => fun | [c0, c1, c2, c3] => bd (EV.lfTy (.int .i64) c0) fun a0 => bd (EV.lfTy (.int .i64) c1) fun a1 => bd (EV.lfTy (.int .i64) c2) fun a2 => bd (EV.lfTy (.bool) c3) fun a3 => some ⟨a0, a1, a2, a3⟩ | _ => none
  | 37 => fun | [c0] => bd (EV.lfTy (.sl 210) c0) fun a0 => some ⟨a0⟩ | _ => none
  | 39 => fun | [c0, c1, c2, c3, c4, c5, c6, c7, c8, c9, c10, c11, c12, c13, c14, c15] => bd (EV.lfTy (.int .i64) c0) fun a0 => bd (EV.lfTy (.int .i64) c1) fun a1 => bd (EV.lfTy (.sl 114) c2) fun a2 => bd (EV.lfTy (.sl 4) c3) fun a3 => bd (EV.lfTy (.sl 198) c4) fun a4 => bd (EV.lfTy (.int .i64) c5) fun a5 => bd (EV.lfTy (.sl 231) c6) fun a6 => bd (EV.lfTy (.sl 189) c7) fun a7 => bd (EV.lfTy (.sl 124) c8) fun a8 => bd (EV.lfTy (.int .i64) c9) fun a9 => bd (EV.lfTy (.int .i64) c10) fun a10 => bd (EV.lfTy (.int .i64) c11) fun a11 => bd (EV.lfTy (.int .i64) c12) fun a12 => bd (EV.lfTy (.sl 132) c13) fun a13 => bd (EV.lfTy (.int .i64) c14) fun a14 => bd (EV.lfTy (.sl 210) c15) fun a15 => some ⟨a0, a1, a2, a3, ⟨a4, ⟨a5, a6⟩, a7⟩, a8, ⟨a9, a10, a11, a12⟩, a13, a14, ⟨a15⟩⟩ | _ => none
  | 103 => fun | [c0, c1, c2, c3] => bd (EV.lfTy (.int .i64) c0) fun a0 => bd (EV.lfTy (.int .i64) c1) fun a1 => bd (EV.lfTy (.int .i64) c2) fun a2 => bd (EV.lfTy (.int .i64) c3) fun a3 => some ⟨a0, a1, a2, a3⟩ | _ => none
  | 196 => fun | [c0, c1, c2, c3, c4, c5] => bd (EV.lfTy (.int .i64) c0) fun a0 => bd (EV.lfTy (.int .i64) c1) fun a1 => bd (EV.lfTy (.int .i64) c2) fun a2 => bd (EV.lfTy (.int .i64) c3) fun a3 => bd (EV.lfTy (.int .i64) c4) fun a4 => bd (EV.lfTy (.int .i64) c5) fun a5 => some ⟨a0, a1, a2, a3, a4, a5⟩ | _ => none
  | 180 => fun | [c0, c1, c2, c3] => bd (EV.lfTy (.int .i64) c0) fun a0 => bd (EV.lfTy (.int .i64) c1) fun a1 => bd (EV.lfTy (.int .i64) c2) fun a2 => bd (EV.lfTy (.bool) c3) fun a3 => some ⟨a0, a1, a2, a3⟩ | _ => none
  | 69 => fun | [c0] => bd (EV.lfTy (.sl 180) c0) fun a0 => some ⟨a0⟩ | _ => none
  | 105 => fun | [c0, c1, c2, c3, c4, c5, c6, c7, c8] => bd (EV.lfTy (.int .i64) c0) fun a0 => bd (EV.lfTy (.int .i64) c1) fun a1 => bd (EV.lfTy (.int .i64) c2) fun a2 => bd (EV.lfTy (.int .i64) c3) fun a3 => bd (EV.lfTy (.sl 196) c4) fun a4 => bd (EV.lfTy (.int .i64) c5) fun a5 => bd (EV.lfTy (.int .i64) c6) fun a6 => bd (EV.lfTy (.int .i64) c7) fun a7 => bd (EV.lfTy (.sl 180) c8) fun a8 => some ⟨⟨a0, a1, a2, a3⟩, a4, a5, a6, a7, ⟨a8⟩⟩ | _ => none
  | 238 => fun | [c0, c1, c2, c3] => bd (EV.lfTy (.int .i64) c0) fun a0 => bd (EV.lfTy (.int .i64) c1) fun a1 => bd (EV.lfTy (.sl 5) c2) fun a2 => bd (EV.lfTy (.int .i64) c3) fun a3 => some ⟨a0, a1, a2, a3⟩ | _ => none
  | 48 => fun | [c0, c1] => bd (EV.lfTy (.int .i64) c0) fun a0 => bd (EV.lfTy (.sl 238) c1) fun a1 => some ⟨a0, a1⟩ | _ => none
  | 200 => fun | [c0, c1, c2, c3] => bd (EV.lfTy (.int .i64) c0) fun a0 => bd (EV.lfTy (.int .i64) c1) fun a1 => bd (EV.lfTy (.sl 5) c2) fun a2 => bd (EV.lfTy (.int .i64) c3) fun a3 => some ⟨a0, a1, a2, a3⟩ | _ => none
  | 51 => fun | [c0, c1, c2, c3] => bd (EV.lfTy (.sl 196) c0) fun a0 => bd (EV.lfTy (.int .i64) c1) fun a1 => bd (EV.lfTy (.sl 238) c2) fun a2 => bd (EV.lfTy (.sl 200) c3) fun a3 => some ⟨a0, ⟨a1, a2⟩, a3⟩ | _ => none
  | 145 => fun | [c0, c1, c2, c3] => bd (EV.lfTy (.int .i64) c0) fun a0 => bd (EV.lfTy (.int .i64) c1) fun a1 => bd (EV.lfTy (.int .i64) c2) fun a2 => bd (EV.lfTy (.bool) c3) fun a3 => some ⟨a0, a1, a2, a3⟩ | _ => none
  | 143 => fun | [c0, c1, c2] => bd (EV.lfTy (.int .i64) c0) fun a0 => bd (EV.lfTy (.int .i64) c1) fun a1 => bd (EV.lfTy (.sl 145) c2) fun a2 => some ⟨a0, a1, a2⟩ | _ => none
  | 224 => fun | [c0, c1, c2] => bd (EV.lfTy (.int .i64) c0) fun a0 => bd (EV.lfTy (.int .i64) c1) fun a1 => bd (EV.lfTy (.int .i64) c2) fun a2 => some ⟨a0, a1, a2⟩ | _ => none
  | 138 => fun | [c0, c1, c2] => bd (EV.lfTy (.int .i64) c0) fun a0 => bd (EV.lfTy (.int .i64) c1) fun a1 => bd (EV.lfTy (.sl 224) c2) fun a2 => some ⟨a0, a1, a2⟩ | _ => none
  | 140 => fun | [c0, c1, c2, c3, c4, c5] => bd (EV.lfTy (.str) c0) fun a0 => bd (EV.lfTy (.sl 143) c1) fun a1 => bd (EV.lfTy (.int .i64) c2) fun a2 => bd (EV.lfTy (.int .i64) c3) fun a3 => bd (EV.lfTy (.sl 224) c4) fun a4 => bd (EV.lfTy (.sl 3) c5) fun a5 => some ⟨a0, a1, ⟨a2, a3, a4⟩, a5⟩ | _ => none
  | 53 => fun | [c0, c1, c2, c3] => bd (EV.lfTy (.int .i64) c0) fun a0 => bd (EV.lfTy (.int .i64) c1) fun a1 => bd (EV.lfTy (.int .i64) c2) fun a2 => bd (EV.lfTy (.int .i64) c3) fun a3 => some ⟨a0, a1, a2, a3⟩ | _ => none
  | 151 => fun | [c0, c1] => bd (EV.lfTy (.int .i64) c0) fun a0 => bd (EV.lfTy (.int .i64) c1) fun a1 => some ⟨a0, a1⟩ | _ => none
  | 153 => fun | [c0, c1, c2, c3, c4] => bd (EV.lfTy (.int .i64) c0) fun a0 => bd (EV.lfTy (.int .i64) c1) fun a1 => bd (EV.lfTy (.int .i64) c2) fun a2 => bd (EV.lfTy (.int .i64) c3) fun a3 => bd (EV.lfTy (.int .i64) c4) fun a4 => some ⟨⟨a0, a1⟩, a2, a3, a4⟩ | _ => none
  | 156 => fun | [c0, c1, c2, c3, c4, c5, c6] => bd (EV.lfTy (.int .i64) c0) fun a0 => bd (EV.lfTy (.int .i64) c1) fun a1 => bd (EV.lfTy (.int .i64) c2) fun a2 => bd (EV.lfTy (.int .i64) c3) fun a3 => bd (EV.lfTy (.int .i64) c4) fun a4 => bd (EV.lfTy (.sl 153) c5) fun a5 => bd (EV.lfTy (.int .i64) c6) fun a6 => some ⟨⟨⟨a0, a1⟩, a2, a3, a4⟩, a5, a6⟩ | _ => none
  | 208 => fun | [c0, c1, c2, c3] => bd (EV.lfTy (.int .i64) c0) fun a0 => bd (EV.lfTy (.int .i64) c1) fun a1 => bd (EV.lfTy (.int .i64) c2) fun a2 => bd (EV.lfTy (.bool) c3) fun a3 => some ⟨a0, a1, a2, a3⟩ | _ => none
  | 57 => fun | [c0] => bd (EV.lfTy (.sl 208) c0) fun a0 => some ⟨a0⟩ | _ => none
  | 59 => fun | [c0, c1, c2, c3, c4, c5, c6, c7, c8, c9, c10, c11, c12, c13, c14, c15] => bd (EV.lfTy (.int .i64) c0) fun a0 => bd (EV.lfTy (.int .i64) c1) fun a1 => bd (EV.lfTy (.sl 105) c2) fun a2 => bd (EV.lfTy (.sl 4) c3) fun a3 => bd (EV.lfTy (.sl 196) c4) fun a4 => bd (EV.lfTy (.int .i64) c5) fun a5 => bd (EV.lfTy (.sl 238) c6) fun a6 => bd (EV.lfTy (.sl 200) c7) fun a7 => bd (EV.lfTy (.sl 140) c8) fun a8 => bd (EV.lfTy (.int .i64) c9) fun a9 => bd (EV.lfTy (.int .i64) c10) fun a10 => bd (EV.lfTy (.int .i64) c11) fun a11 => bd (EV.lfTy (.int .i64) c12) fun a12 => bd (EV.lfTy (.sl 156) c13) fun a13 => bd (EV.lfTy (.int .i64) c14) fun a14 => bd (EV.lfTy (.sl 208) c15) fun a15 => some ⟨a0, a1, a2, a3, ⟨a4, ⟨a5, a6⟩, a7⟩, a8, ⟨a9, a10, a11, a12⟩, a13, a14, ⟨a15⟩⟩ | _ => none
  | 41 => fun | [c0] => bd (EV.lfTy (.sl 3) c0) fun a0 => some a0 | _ => none
  | _ => fun _ => none
def TI : List (Nat × EV.TInfo) := [
  (3, ⟨.int .i64, 1, [.int .i64]⟩),
  (4, ⟨.bool, 1, [.bool]⟩),
  (5, ⟨.int .u8, 1, [.int .u8]⟩),
  (9, ⟨.str, 1, [.str]⟩),
  (22, ⟨.sl 114 9 104, 1, [.nil]⟩),
  (23, ⟨.sl 4 1 1, 1, [.nil]⟩),
  (24, ⟨.sl 198 6 48, 1, [.nil]⟩),
  (25, ⟨.sl 231 4 48, 1, [.nil]⟩),
  (27, ⟨.st [(0, 3, 1), (1, 25, 1)], 2, [.int .i64, .nil]⟩),
  (28, ⟨.sl 189 4 48, 1, [.nil]⟩),
  (30, ⟨.st [(0, 24, 1), (1, 27, 2), (3, 28, 1)], 4, [.nil, .int .i64, .nil, .nil]⟩),
  (31, ⟨.sl 124 6 104, 1, [.nil]⟩),
  (33, ⟨.st [(0, 3, 1), (1, 3, 1), (2, 3, 1), (3, 3, 1)], 4, [.int .i64, .int .i64, .int .i64, .int .i64]⟩),
  (34, ⟨.sl 132 7 72, 1, [.nil]⟩),
  (35, ⟨.sl 210 4 32, 1, [.nil]⟩),
  (37, ⟨.st [(0, 35, 1)], 1, [.nil]⟩),
  (39, ⟨.st [(0, 3, 1), (1, 3, 1), (2, 22, 1), (3, 23, 1), (4, 30, 4), (8, 31, 1), (9, 33, 4), (13, 34, 1), (14, 3, 1), (15, 37, 1)], 16, [.int .i64, .int .i64, .nil, .nil, .nil, .int .i64, .nil, .nil, .nil, .int .i64, .int .i64, .int .i64, .int .i64, .nil, .int .i64, .nil]⟩),
  (41, ⟨.sl 3 1 8, 1, [.nil]⟩),
  (44, ⟨.sl 105 9 104, 1, [.nil]⟩),
  (45, ⟨.sl 196 6 48, 1, [.nil]⟩),
  (46, ⟨.sl 238 4 48, 1, [.nil]⟩),
  (48, ⟨.st [(0, 3, 1), (1, 46, 1)], 2, [.int .i64, .nil]⟩),
  (49, ⟨.sl 200 4 48, 1, [.nil]⟩),
  (51, ⟨.st [(0, 45, 1), (1, 48, 2), (3, 49, 1)], 4, [.nil, .int .i64, .nil, .nil]⟩),
  (52, ⟨.sl 140 6 104, 1, [.nil]⟩),
  (53, ⟨.st [(0, 3, 1), (1, 3, 1), (2, 3, 1), (3, 3, 1)], 4, [.int .i64, .int .i64, .int .i64, .int .i64]⟩),
  (54, ⟨.sl 156 7 72, 1, [.nil]⟩),
  (55, ⟨.sl 208 4 32, 1, [.nil]⟩),
  (57, ⟨.st [(0, 55, 1)], 1, [.nil]⟩),
  (59, ⟨.st [(0, 3, 1), (1, 3, 1), (2, 44, 1), (3, 23, 1), (4, 51, 4), (8, 52, 1), (9, 53, 4), (13, 54, 1), (14, 3, 1), (15, 57, 1)], 16, [.int .i64, .int .i64, .nil, .nil, .nil, .int .i64, .nil, .nil, .nil, .int .i64, .int .i64, .int .i64, .int .i64, .nil, .int .i64, .nil]⟩),
  (67, ⟨.sl 180 4 32, 1, [.nil]⟩),
  (69, ⟨.st [(0, 67, 1)], 1, [.nil]⟩),
  (103, ⟨.st [(0, 3, 1), (1, 3, 1), (2, 3, 1), (3, 3, 1)], 4, [.int .i64, .int .i64, .int .i64, .int .i64]⟩),
  (105, ⟨.st [(0, 103, 4), (4, 45, 1), (5, 3, 1), (6, 3, 1), (7, 3, 1), (8, 69, 1)], 9, [.int .i64, .int .i64, .int .i64, .int .i64, .nil, .int .i64, .int .i64, .int .i64, .nil]⟩),
  (109, ⟨.st [(0, 3, 1), (1, 3, 1), (2, 3, 1), (3, 3, 1)], 4, [.int .i64, .int .i64, .int .i64, .int .i64]⟩),
  (110, ⟨.sl 253 4 32, 1, [.nil]⟩),
  (112, ⟨.st [(0, 110, 1)], 1, [.nil]⟩),
  (114, ⟨.st [(0, 109, 4), (4, 24, 1), (5, 3, 1), (6, 3, 1), (7, 3, 1), (8, 112, 1)], 9, [.int .i64, .int .i64, .int .i64, .int .i64, .nil, .int .i64, .int .i64, .int .i64, .nil]⟩),
  (119, ⟨.sl 235 3 40, 1, [.nil]⟩),
  (120, ⟨.sl 256 3 24, 1, [.nil]⟩),
  (122, ⟨.st [(0, 3, 1), (1, 3, 1), (2, 120, 1)], 3, [.int .i64, .int .i64, .nil]⟩),
  (124, ⟨.st [(0, 9, 1), (1, 119, 1), (2, 122, 3), (5, 41, 1)], 6, [.str, .nil, .int .i64, .int .i64, .nil, .nil]⟩),
  (127, ⟨.st [(0, 3, 1), (1, 3, 1)], 2, [.int .i64, .int .i64]⟩),
  (129, ⟨.st [(0, 127, 2), (2, 3, 1), (3, 3, 1), (4, 3, 1)], 5, [.int .i64, .int .i64, .int .i64, .int .i64, .int .i64]⟩),
  (130, ⟨.sl 129 5 40, 1, [.nil]⟩),
  (132, ⟨.st [(0, 129, 5), (5, 130, 1), (6, 3, 1)], 7, [.int .i64, .int .i64, .int .i64, .int .i64, .int .i64, .nil, .int .i64]⟩),
  (135, ⟨.sl 143 3 40, 1, [.nil]⟩),
  (136, ⟨.sl 224 3 24, 1, [.nil]⟩),
  (138, ⟨.st [(0, 3, 1), (1, 3, 1), (2, 136, 1)], 3, [.int .i64, .int .i64, .nil]⟩),
  (140, ⟨.st [(0, 9, 1), (1, 135, 1), (2, 138, 3), (5, 41, 1)], 6, [.str, .nil, .int .i64, .int .i64, .nil, .nil]⟩),
  (141, ⟨.sl 145 4 32, 1, [.nil]⟩),
  (143, ⟨.st [(0, 3, 1), (1, 3, 1), (2, 141, 1)], 3, [.int .i64, .int .i64, .nil]⟩),
  (145, ⟨.st [(0, 3, 1), (1, 3, 1), (2, 3, 1), (3, 4, 1)], 4, [.int .i64, .int .i64, .int .i64, .bool]⟩),
  (151, ⟨.st [(0, 3, 1), (1, 3, 1)], 2, [.int .i64, .int .i64]⟩),
  (153, ⟨.st [(0, 151, 2), (2, 3, 1), (3, 3, 1), (4, 3, 1)], 5, [.int .i64, .int .i64, .int .i64, .int .i64, .int .i64]⟩),
  (154, ⟨.sl 153 5 40, 1, [.nil]⟩),
  (156, ⟨.st [(0, 153, 5), (5, 154, 1), (6, 3, 1)], 7, [.int .i64, .int .i64, .int .i64, .int .i64, .int .i64, .nil, .int .i64]⟩),
  (180, ⟨.st [(0, 3, 1), (1, 3, 1), (2, 3, 1), (3, 4, 1)], 4, [.int .i64, .int .i64, .int .i64, .bool]⟩),
  (187, ⟨.sl 5 1 1, 1, [.nil]⟩),
  (189, ⟨.st [(0, 3, 1), (1, 3, 1), (2, 187, 1), (3, 3, 1)], 4, [.int .i64, .int .i64, .nil, .int .i64]⟩),
  (196, ⟨.st [(0, 3, 1), (1, 3, 1), (2, 3, 1), (3, 3, 1), (4, 3, 1), (5, 3, 1)], 6, [.int .i64, .int .i64, .int .i64, .int .i64, .int .i64, .int .i64]⟩),
  (198, ⟨.st [(0, 3, 1), (1, 3, 1), (2, 3, 1), (3, 3, 1), (4, 3, 1), (5, 3, 1)], 6, [.int .i64, .int .i64, .int .i64, .int .i64, .int .i64, .int .i64]⟩),
  (200, ⟨.st [(0, 3, 1), (1, 3, 1), (2, 187, 1), (3, 3, 1)], 4, [.int .i64, .int .i64, .nil, .int .i64]⟩),
  (208, ⟨.st [(0, 3, 1), (1, 3, 1), (2, 3, 1), (3, 4, 1)], 4, [.int .i64, .int .i64, .int .i64, .bool]⟩),
  (210, ⟨.st [(0, 3, 1), (1, 3, 1), (2, 3, 1), (3, 4, 1)], 4, [.int .i64, .int .i64, .int .i64, .bool]⟩),
  (224, ⟨.st [(0, 3, 1), (1, 3, 1), (2, 3, 1)], 3, [.int .i64, .int .i64, .int .i64]⟩),
  (231, ⟨.st [(0, 3, 1), (1, 3, 1), (2, 187, 1), (3, 3, 1)], 4, [.int .i64, .int .i64, .nil, .int .i64]⟩),
  (233, ⟨.sl 263 4 32, 1, [.nil]⟩),
  (235, ⟨.st [(0, 3, 1), (1, 3, 1), (2, 233, 1)], 3, [.int .i64, .int .i64, .nil]⟩),
  (238, ⟨.st [(0, 3, 1), (1, 3, 1), (2, 187, 1), (3, 3, 1)], 4, [.int .i64, .int .i64, .nil, .int .i64]⟩),
  (253, ⟨.st [(0, 3, 1), (1, 3, 1), (2, 3, 1), (3, 4, 1)], 4, [.int .i64, .int .i64, .int .i64, .bool]⟩),
  (256, ⟨.st [(0, 3, 1), (1, 3, 1), (2, 3, 1)], 3, [.int .i64, .int .i64, .int .i64]⟩),
  (261, ⟨.sl 41 1 24, 1, [.nil]⟩),
  (263, ⟨.st [(0, 3, 1), (1, 3, 1), (2, 3, 1), (3, 4, 1)], 4, [.int .i64, .int .i64, .int .i64, .bool]⟩)]
theorem El_none (n : Nat) (h109 : n ≠ 109) (h198 : n ≠ 198) (h253 : n ≠ 253) (h112 : n ≠ 112) (h114 : n ≠ 114) (h4 : n ≠ 4) (h5 : n ≠ 5) (h231 : n ≠ 231) (h27 : n ≠ 27) (h189 : n ≠ 189) (h30 : n ≠ 30) (h263 : n ≠ 263) (h235 : n ≠ 235) (h256 : n ≠ 256) (h122 : n ≠ 122) (h3 : n ≠ 3) (h124 : n ≠ 124) (h33 : n ≠ 33) (h127 : n ≠ 127) (h129 : n ≠ 129) (h132 : n ≠ 132) (h210 : n ≠ 210) (h37 : n ≠ 37) (h39 : n ≠ 39) (h103 : n ≠ 103) (h196 : n ≠ 196) (h180 : n ≠ 180) (h69 : n ≠ 69) (h105 : n ≠ 105) (h238 : n ≠ 238) (h48 : n ≠ 48) (h200 : n ≠ 200) (h51 : n ≠ 51) (h145 : n ≠ 145) (h143 : n ≠ 143) (h224 : n ≠ 224) (h138 : n ≠ 138) (h140 : n ≠ 140) (h53 : n ≠ 53) (h151 : n ≠ 151) (h153 : n ≠ 153) (h156 : n ≠ 156) (h208 : n ≠ 208) (h57 : n ≠ 57) (h59 : n ≠ 59) (h41 : n ≠ 41) : El n = Empty := by
  unfold El
  split <;> first | contradiction | rfl
theorem hc1 : ∀ (τ : Nat) (x : El τ), (celE τ x).map EV.Lf.toV = encE τ x := by
  intro τ x
  by_cases h109 : τ = 109
  · subst h109; rfl
  by_cases h198 : τ = 198
  · subst h198; rfl
  by_cases h253 : τ = 253
  · subst h253; rfl
  by_cases h112 : τ = 112
  · subst h112; rfl
  by_cases h114 : τ = 114
  · subst h114; rfl
  by_cases h4 : τ = 4
  · subst h4; rfl
  by_cases h5 : τ = 5
  · subst h5; rfl
  by_cases h231 : τ = 231
  · subst h231; rfl
  by_cases h27 : τ = 27
  · subst h27; rfl
  by_cases h189 : τ = 189
  · subst h189; rfl
  by_cases h30 : τ = 30
  · subst h30; rfl
  by_cases h263 : τ = 263
  · subst h263; rfl
  by_cases h235 : τ = 235
  · subst h235; rfl
  by_cases h256 : τ = 256
  · subst h256; rfl
  by_cases h122 : τ = 122
  · subst h122; rfl
  by_cases h3 : τ = 3
  · subst h3; rfl
  by_cases h124 : τ = 124
  · subst h124; rfl
  by_cases h33 : τ = 33
  · subst h33; rfl
  by_cases h127 : τ = 127
  · subst h127; rfl
  by_cases h129 : τ = 129
  · subst h129; rfl
  by_cases h132 : τ = 132
  · subst h132; rfl
  by_cases h210 : τ = 210
  · subst h210; rfl
  by_cases h37 : τ = 37
  · subst h37; rfl
  by_cases h39 : τ = 39
  · subst h39; rfl
  by_cases h103 : τ = 103
  · subst h103; rfl
  by_cases h196 : τ = 196
  · subst h196; rfl
  by_cases h180 : τ = 180
  · subst h180; rfl
  by_cases h69 : τ = 69
  · subst h69; rfl
  by_cases h105 : τ = 105
  · subst h105; rfl
  by_cases h238 : τ = 238
  · subst h238; rfl
  by_cases h48 : τ = 48
  · subst h48; rfl
  by_cases h200 : τ = 200
  · subst h200; rfl
  by_cases h51 : τ = 51
  · subst h51; rfl
  by_cases h145 : τ = 145
  · subst h145; rfl
  by_cases h143 : τ = 143
  · subst h143; rfl
  by_cases h224 : τ = 224
  · subst h224; rfl
  by_cases h138 : τ = 138
  · subst h138; rfl
  by_cases h140 : τ = 140
  · subst h140; rfl
  by_cases h53 : τ = 53
  · subst h53; rfl
  by_cases h151 : τ = 151
  · subst h151; rfl
  by_cases h153 : τ = 153
  · subst h153; rfl
  by_cases h156 : τ = 156
  · subst h156; rfl
  by_cases h208 : τ = 208
  · subst h208; rfl
  by_cases h57 : τ = 57
  · subst h57; rfl
  by_cases h59 : τ = 59
  · subst h59; rfl
  by_cases h41 : τ = 41
  · subst h41; rfl
  exact (cast (El_none τ h109 h198 h253 h112 h114 h4 h5 h231 h27 h189 h30 h263 h235 h256 h122 h3 h124 h33 h127 h129 h132 h210 h37 h39 h103 h196 h180 h69 h105 h238 h48 h200 h51 h145 h143 h224 h138 h140 h53 h151 h153 h156 h208 h57 h59 h41) x).elim
theorem hc2 : ∀ (τ : Nat) (x : El τ), (celE τ x).length = Un.K τ := by
  intro τ x
  by_cases h109 : τ = 109
  · subst h109; rfl
  by_cases h198 : τ = 198
  · subst h198; rfl
  by_cases h253 : τ = 253
  · subst h253; rfl
  by_cases h112 : τ = 112
  · subst h112; rfl
  by_cases h114 : τ = 114
  · subst h114; rfl
  by_cases h4 : τ = 4
  · subst h4; rfl
  by_cases h5 : τ = 5
  · subst h5; rfl
  by_cases h231 : τ = 231
  · subst h231; rfl
  by_cases h27 : τ = 27
  · subst h27; rfl
  by_cases h189 : τ = 189
  · subst h189; rfl
  by_cases h30 : τ = 30
  · subst h30; rfl
  by_cases h263 : τ = 263
  · subst h263; rfl
  by_cases h235 : τ = 235
  · subst h235; rfl
  by_cases h256 : τ = 256
  · subst h256; rfl
  by_cases h122 : τ = 122
  · subst h122; rfl
  by_cases h3 : τ = 3
  · subst h3; rfl
  by_cases h124 : τ = 124
  · subst h124; rfl
  by_cases h33 : τ = 33
  · subst h33; rfl
  by_cases h127 : τ = 127
  · subst h127; rfl
  by_cases h129 : τ = 129
  · subst h129; rfl
  by_cases h132 : τ = 132
  · subst h132; rfl
  by_cases h210 : τ = 210
  · subst h210; rfl
  by_cases h37 : τ = 37
  · subst h37; rfl
  by_cases h39 : τ = 39
  · subst h39; rfl
  by_cases h103 : τ = 103
  · subst h103; rfl
  by_cases h196 : τ = 196
  · subst h196; rfl
  by_cases h180 : τ = 180
  · subst h180; rfl
  by_cases h69 : τ = 69
  · subst h69; rfl
  by_cases h105 : τ = 105
  · subst h105; rfl
  by_cases h238 : τ = 238
  · subst h238; rfl
  by_cases h48 : τ = 48
  · subst h48; rfl
  by_cases h200 : τ = 200
  · subst h200; rfl
  by_cases h51 : τ = 51
  · subst h51; rfl
  by_cases h145 : τ = 145
  · subst h145; rfl
  by_cases h143 : τ = 143
  · subst h143; rfl
  by_cases h224 : τ = 224
  · subst h224; rfl
  by_cases h138 : τ = 138
  · subst h138; rfl
  by_cases h140 : τ = 140
  · subst h140; rfl
  by_cases h53 : τ = 53
  · subst h53; rfl
  by_cases h151 : τ = 151
  · subst h151; rfl
  by_cases h153 : τ = 153
  · subst h153; rfl
  by_cases h156 : τ = 156
  · subst h156; rfl
  by_cases h208 : τ = 208
  · subst h208; rfl
  by_cases h57 : τ = 57
  · subst h57; rfl
  by_cases h59 : τ = 59
  · subst h59; rfl
  by_cases h41 : τ = 41
  · subst h41; rfl
  exact (cast (El_none τ h109 h198 h253 h112 h114 h4 h5 h231 h27 h189 h30 h263 h235 h256 h122 h3 h124 h33 h127 h129 h132 h210 h37 h39 h103 h196 h180 h69 h105 h238 h48 h200 h51 h145 h143 h224 h138 h140 h53 h151 h153 h156 h208 h57 h59 h41) x).elim
theorem hc3 : ∀ (τ : Nat) (x : El τ) (c : EV.Lf Un), c ∈ celE τ x → c.isData = true := by
  intro τ x c hc
  by_cases h109 : τ = 109
  · subst h109; simp only [celE, List.mem_cons, List.not_mem_nil, or_false] at hc; rcases hc with rfl | rfl | rfl | rfl <;> rfl
  by_cases h198 : τ = 198
  · subst h198; simp only [celE, List.mem_cons, List.not_mem_nil, or_false] at hc; rcases hc with rfl | rfl | rfl | rfl | rfl | rfl <;> rfl
  by_cases h253 : τ = 253
  · subst h253; simp only [celE, List.mem_cons, List.not_mem_nil, or_false] at hc; rcases hc with rfl | rfl | rfl | rfl <;> rfl
  by_cases h112 : τ = 112
  · subst h112; simp only [celE, List.mem_cons, List.not_mem_nil, or_false] at hc; rcases hc with rfl <;> rfl
  by_cases h114 : τ = 114
  · subst h114; simp only [celE, List.mem_cons, List.not_mem_nil, or_false] at hc; rcases hc with rfl | rfl | rfl | rfl | rfl | rfl | rfl | rfl | rfl <;> rfl
  by_cases h4 : τ = 4
  · subst h4; simp only [celE, List.mem_cons, List.not_mem_nil, or_false] at hc; rcases hc with rfl <;> rfl
  by_cases h5 : τ = 5
  · subst h5; simp only [celE, List.mem_cons, List.not_mem_nil, or_false] at hc; rcases hc with rfl <;> rfl
  by_cases h231 : τ = 231
  · subst h231; simp only [celE, List.mem_cons, List.not_mem_nil, or_false] at hc; rcases hc with rfl | rfl | rfl | rfl <;> rfl
  by_cases h27 : τ = 27
  · subst h27; simp only [celE, List.mem_cons, List.not_mem_nil, or_false] at hc; rcases hc with rfl | rfl <;> rfl
  by_cases h189 : τ = 189
  · subst h189; simp only [celE, List.mem_cons, List.not_mem_nil, or_false] at hc; rcases hc with rfl | rfl | rfl | rfl <;> rfl
  by_cases h30 : τ = 30
  · subst h30; simp only [celE, List.mem_cons, List.not_mem_nil, or_false] at hc; rcases hc with rfl | rfl | rfl | rfl <;> rfl
  by_cases h263 : τ = 263
  · subst h263; simp only [celE, List.mem_cons, List.not_mem_nil, or_false] at hc; rcases hc with rfl | rfl | rfl | rfl <;> rfl
  by_cases h235 : τ = 235
  · subst h235; simp only [celE, List.mem_cons, List.not_mem_nil, or_false] at hc; rcases hc with rfl | rfl | rfl <;> rfl
  by_cases h256 : τ = 256
  · subst h256; simp only [celE, List.mem_cons, List.not_mem_nil, or_false] at hc; rcases hc with rfl | rfl | rfl <;> rfl
  by_cases h122 : τ = 122
  · subst h122; simp only [celE, List.mem_cons, List.not_mem_nil, or_false] at hc; rcases hc with rfl | rfl | rfl <;> rfl
  by_cases h3 : τ = 3
  · subst h3; simp only [celE, List.mem_cons, List.not_mem_nil, or_false] at hc; rcases hc with rfl <;> rfl
  by_cases h124 : τ = 124
  · subst h124; simp only [celE, List.mem_cons, List.not_mem_nil, or_false] at hc; rcases hc with rfl | rfl | rfl | rfl | rfl | rfl <;> rfl
  by_cases h33 : τ = 33
  · subst h33; simp only [celE, List.mem_cons, List.not_mem_nil, or_false] at hc; rcases hc with rfl | rfl | rfl | rfl <;> rfl
  by_cases h127 : τ = 127
  · subst h127; simp only [celE, List.mem_cons, List.not_mem_nil, or_false] at hc; rcases hc with rfl | rfl <;> rfl
  by_cases h129 : τ = 129
  · subst h129; simp only [celE, List.mem_cons, List.not_mem_nil, or_false] at hc; rcases hc with rfl | rfl | rfl | rfl | rfl <;> rfl
  by_cases h132 : τ = 132
  · subst h132; simp only [celE, List.mem_cons, List.not_mem_nil, or_false] at hc; rcases hc with rfl | rfl | rfl | rfl | rfl | rfl | rfl <;> rfl
  by_cases h210 : τ = 210
  · subst h210; simp only [celE, List.mem_cons, List.not_mem_nil, or_false] at hc; rcases hc with rfl | rfl | rfl | rfl <;> rfl
  by_cases h37 : τ = 37
  · subst h37; simp only [celE, List.mem_cons, List.not_mem_nil, or_false] at hc; rcases hc with rfl <;> rfl
  by_cases h39 : τ = 39
  · subst h39; simp only [celE, List.mem_cons, List.not_mem_nil, or_false] at hc; rcases hc with rfl | rfl | rfl | rfl | rfl | rfl | rfl | rfl | rfl | rfl | rfl | rfl | rfl | rfl | rfl | rfl <;> rfl
  by_cases h103 : τ = 103
  · subst h103; simp only [celE, List.mem_cons, List.not_mem_nil, or_false] at hc; rcases hc with rfl | rfl | rfl | rfl <;> rfl
  by_cases h196 : τ = 196
  · subst h196; simp only [celE, List.mem_cons, List.not_mem_nil, or_false] at hc; rcases hc with rfl | rfl | rfl | rfl | rfl | rfl <;> rfl
  by_cases h180 : τ = 180
  · subst h180; simp only [celE, List.mem_cons, List.not_mem_nil, or_false] at hc; rcases hc with rfl | rfl | rfl | rfl <;> rfl
  by_cases h69 : τ = 69
  · subst h69; simp only [celE, List.mem_cons, List.not_mem_nil, or_false] at hc; rcases hc with rfl <;> rfl
  by_cases h105 : τ = 105
  · subst h105; simp only [celE, List.mem_cons, List.not_mem_nil, or_false] at hc; rcases hc with rfl | rfl | rfl | rfl | rfl | rfl | rfl | rfl | rfl <;> rfl
  by_cases h238 : τ = 238
  · subst h238; simp only [celE, List.mem_cons, List.not_mem_nil, or_false] at hc; rcases hc with rfl | rfl | rfl | rfl <;> rfl
  by_cases h48 : τ = 48
  · subst h48; simp only [celE, List.mem_cons, List.not_mem_nil, or_false] at hc; rcases hc with rfl | rfl <;> rfl
  by_cases h200 : τ = 200
  · subst h200; simp only [celE, List.mem_cons, List.not_mem_nil, or_false] at hc; rcases hc with rfl | rfl | rfl | rfl <;> rfl
  by_cases h51 : τ = 51
  · subst h51; simp only [celE, List.mem_cons, List.not_mem_nil, or_false] at hc; rcases hc with rfl | rfl | rfl | rfl <;> rfl
  by_cases h145 : τ = 145
  · subst h145; simp only [celE, List.mem_cons, List.not_mem_nil, or_false] at hc; rcases hc with rfl | rfl | rfl | rfl <;> rfl
  by_cases h143 : τ = 143
  · subst h143; simp only [celE, List.mem_cons, List.not_mem_nil, or_false] at hc; rcases hc with rfl | rfl | rfl <;> rfl
  by_cases h224 : τ = 224
  · subst h224; simp only [celE, List.mem_cons, List.not_mem_nil, or_false] at hc; rcases hc with rfl | rfl | rfl <;> rfl
  by_cases h138 : τ = 138
  · subst h138; simp only [celE, List.mem_cons, List.not_mem_nil, or_false] at hc; rcases hc with rfl | rfl | rfl <;> rfl
  by_cases h140 : τ = 140
  · subst h140; simp only [celE, List.mem_cons, List.not_mem_nil, or_false] at hc; rcases hc with rfl | rfl | rfl | rfl | rfl | rfl <;> rfl
  by_cases h53 : τ = 53
  · subst h53; simp only [celE, List.mem_cons, List.not_mem_nil, or_false] at hc; rcases hc with rfl | rfl | rfl | rfl <;> rfl
  by_cases h151 : τ = 151
  · subst h151; simp only [celE, List.mem_cons, List.not_mem_nil, or_false] at hc; rcases hc with rfl | rfl <;> rfl
  by_cases h153 : τ = 153
  · subst h153; simp only [celE, List.mem_cons, List.not_mem_nil, or_false] at hc; rcases hc with rfl | rfl | rfl | rfl | rfl <;> rfl
  by_cases h156 : τ = 156
  · subst h156; simp only [celE, List.mem_cons, List.not_mem_nil, or_false] at hc; rcases hc with rfl | rfl | rfl | rfl | rfl | rfl | rfl <;> rfl
  by_cases h208 : τ = 208
  · subst h208; simp only [celE, List.mem_cons, List.not_mem_nil, or_false] at hc; rcases hc with rfl | rfl | rfl | rfl <;> rfl
  by_cases h57 : τ = 57
  · subst h57; simp only [celE, List.mem_cons, List.not_mem_nil, or_false] at hc; rcases hc with rfl <;> rfl
  by_cases h59 : τ = 59
  · subst h59; simp only [celE, List.mem_cons, List.not_mem_nil, or_false] at hc; rcases hc with rfl | rfl | rfl | rfl | rfl | rfl | rfl | rfl | rfl | rfl | rfl | rfl | rfl | rfl | rfl | rfl <;> rfl
  by_cases h41 : τ = 41
  · subst h41; simp only [celE, List.mem_cons, List.not_mem_nil, or_false] at hc; rcases hc with rfl <;> rfl
  exact (cast (El_none τ h109 h198 h253 h112 h114 h4 h5 h231 h27 h189 h30 h263 h235 h256 h122 h3 h124 h33 h127 h129 h132 h210 h37 h39 h103 h196 h180 h69 h105 h238 h48 h200 h51 h145 h143 h224 h138 h140 h53 h151 h153 h156 h208 h57 h59 h41) x).elim
theorem hc4 : ∀ (τ : Nat) (cs : List (EV.Lf Un)) (x : El τ), bldE τ cs = some x → cs = celE τ x := by
  intro τ cs x h
  by_cases h109 : τ = 109
  · subst h109; 
    obtain ⟨c0, c1, c2, c3, rfl⟩ : ∃ c0 c1 c2 c3 : EV.Lf Un, cs = [c0, c1, c2, c3] := by
      match cs, h with
      | [c0, c1, c2, c3], _ => exact ⟨c0, c1, c2, c3, rfl⟩
    obtain ⟨a0, g0, h⟩ := bd_some h
    obtain ⟨a1, g1, h⟩ := bd_some h
    obtain ⟨a2, g2, h⟩ := bd_some h
    obtain ⟨a3, g3, h⟩ := bd_some h
    have h := Option.some.inj h; subst h
    rw [EV.lfTy_some g0, EV.lfTy_some g1, EV.lfTy_some g2, EV.lfTy_some g3]
    rfl
  by_cases h198 : τ = 198
  · subst h198; 
    obtain ⟨c0, c1, c2, c3, c4, c5, rfl⟩ : ∃ c0 c1 c2 c3 c4 c5 : EV.Lf Un, cs = [c0, c1, c2, c3, c4, c5] := by
      match cs, h with
      | [c0, c1, c2, c3, c4, c5], _ => exact ⟨c0, c1, c2, c3, c4, c5, rfl⟩
    obtain ⟨a0, g0, h⟩ := bd_some h
    obtain ⟨a1, g1, h⟩ := bd_some h
    obtain ⟨a2, g2, h⟩ := bd_some h
    obtain ⟨a3, g3, h⟩ := bd_some h
    obtain ⟨a4, g4, h⟩ := bd_some h
    obtain ⟨a5, g5, h⟩ := bd_some h
    have h := Option.some.inj h; subst h
    rw [EV.lfTy_some g0, EV.lfTy_some g1, EV.lfTy_some g2, EV.lfTy_some g3, EV.lfTy_some g4, EV.lfTy_some g5]
    rfl
  by_cases h253 : τ = 253
  · subst h253; 
    obtain ⟨c0, c1, c2, c3, rfl⟩ : ∃ c0 c1 c2 c3 : EV.Lf Un, cs = [c0, c1, c2, c3] := by
      match cs, h with
      | [c0, c1, c2, c3], _ => exact ⟨c0, c1, c2, c3, rfl⟩
    obtain ⟨a0, g0, h⟩ := bd_some h
    obtain ⟨a1, g1, h⟩ := bd_some h
    obtain ⟨a2, g2, h⟩ := bd_some h
    obtain ⟨a3, g3, h⟩ := bd_some h
    have h := Option.some.inj h; subst h
    rw [EV.lfTy_some g0, EV.lfTy_some g1, EV.lfTy_some g2, EV.lfTy_some g3]
    rfl
  by_cases h112 : τ = 112
  · subst h112; 
    obtain ⟨c0, rfl⟩ : ∃ c0 : EV.Lf Un, cs = [c0] := by
      match cs, h with
      | [c0], _ => exact ⟨c0, rfl⟩
    obtain ⟨a0, g0, h⟩ := bd_some h
    have h := Option.some.inj h; subst h
    rw [EV.lfTy_some g0]
    rfl
  by_cases h114 : τ = 114
  · subst h114; 
    obtain ⟨c0, c1, c2, c3, c4, c5, c6, c7, c8, rfl⟩ : ∃ c0 c1 c2 c3 c4 c5 c6 c7 c8 : EV.Lf Un, cs = [c0, c1, c2, c3, c4, c5, c6, c7, c8] := by
      match cs, h with
      | [c0, c1, c2, c3, c4, c5, c6, c7, c8], _ => exact ⟨c0, c1, c2, c3, c4, c5, c6, c7, c8, rfl⟩
    obtain ⟨a0, g0, h⟩ := bd_some h
    obtain ⟨a1, g1, h⟩ := bd_some h
    obtain ⟨a2, g2, h⟩ := bd_some h
    obtain ⟨a3, g3, h⟩ := bd_some h
    obtain ⟨a4, g4, h⟩ := bd_some h
    obtain ⟨a5, g5, h⟩ := bd_some h
    obtain ⟨a6, g6, h⟩ := bd_some h
    obtain ⟨a7, g7, h⟩ := bd_some h
    obtain ⟨a8, g8, h⟩ := bd_some h
    have h := Option.some.inj h; subst h
    rw [EV.lfTy_some g0, EV.lfTy_some g1, EV.lfTy_some g2, EV.lfTy_some g3, EV.lfTy_some g4, EV.lfTy_some g5, EV.lfTy_some g6, EV.lfTy_some g7, EV.lfTy_some g8]
    rfl
  by_cases h4 : τ = 4
  · subst h4; 
    obtain ⟨c0, rfl⟩ : ∃ c0 : EV.Lf Un, cs = [c0] := by
      match cs, h with
      | [c0], _ => exact ⟨c0, rfl⟩
    obtain ⟨a0, g0, h⟩ := bd_some h
    have h := Option.some.inj h; subst h
    rw [EV.lfTy_some g0]
    rfl
  by_cases h5 : τ = 5
  · subst h5; 
    obtain ⟨c0, rfl⟩ : ∃ c0 : EV.Lf Un, cs = [c0] := by
      match cs, h with
      | [c0], _ => exact ⟨c0, rfl⟩
    obtain ⟨a0, g0, h⟩ := bd_some h
    have h := Option.some.inj h; subst h
    rw [EV.lfTy_some g0]
    rfl
  by_cases h231 : τ = 231
  · subst h231; 
    obtain ⟨c0, c1, c2, c3, rfl⟩ : ∃ c0 c1 c2 c3 : EV.Lf Un, cs = [c0, c1, c2, c3] := by
      match cs, h with
      | [c0, c1, c2, c3], _ => exact ⟨c0, c1, c2, c3, rfl⟩
    obtain ⟨a0, g0, h⟩ := bd_some h
    obtain ⟨a1, g1, h⟩ := bd_some h
    obtain ⟨a2, g2, h⟩ := bd_some h
    obtain ⟨a3, g3, h⟩ := bd_some h
    have h := Option.some.inj h; subst h
    rw [EV.lfTy_some g0, EV.lfTy_some g1, EV.lfTy_some g2, EV.lfTy_some g3]
    rfl
  by_cases h27 : τ = 27
  · subst h27; 
    obtain ⟨c0, c1, rfl⟩ : ∃ c0 c1 : EV.Lf Un, cs = [c0, c1] := by
      match cs, h with
      | [c0, c1], _ => exact ⟨c0, c1, rfl⟩
    obtain ⟨a0, g0, h⟩ := bd_some h
    obtain ⟨a1, g1, h⟩ := bd_some h
    have h := Option.some.inj h; subst h
    rw [EV.lfTy_some g0, EV.lfTy_some g1]
    rfl
  by_cases h189 : τ = 189
  · subst h189; 
    obtain ⟨c0, c1, c2, c3, rfl⟩ : ∃ c0 c1 c2 c3 : EV.Lf Un, cs = [c0, c1, c2, c3] := by
      match cs, h with
      | [c0, c1, c2, c3], _ => exact ⟨c0, c1, c2, c3, rfl⟩
    obtain ⟨a0, g0, h⟩ := bd_some h
    obtain ⟨a1, g1, h⟩ := bd_some h
    obtain ⟨a2, g2, h⟩ := bd_some h
    obtain ⟨a3, g3, h⟩ := bd_some h
    have h := Option.some.inj h; subst h
    rw [EV.lfTy_some g0, EV.lfTy_some g1, EV.lfTy_some g2, EV.lfTy_some g3]
    rfl
  by_cases h30 : τ = 30
  · subst h30; 
    obtain ⟨c0, c1, c2, c3, rfl⟩ : ∃ c0 c1 c2 c3 : EV.Lf Un, cs = [c0, c1, c2, c3] := by
      match cs, h with
      | [c0, c1, c2, c3], _ => exact ⟨c0, c1, c2, c3, rfl⟩
    obtain ⟨a0, g0, h⟩ := bd_some h
    obtain ⟨a1, g1, h⟩ := bd_some h
    obtain ⟨a2, g2, h⟩ := bd_some h
    obtain ⟨a3, g3, h⟩ := bd_some h
    have h := Option.some.inj h; subst h
    rw [EV.lfTy_some g0, EV.lfTy_some g1, EV.lfTy_some g2, EV.lfTy_some g3]
    rfl
  by_cases h263 : τ = 263
  · subst h263; 
    obtain ⟨c0, c1, c2, c3, rfl⟩ : ∃ c0 c1 c2 c3 : EV.Lf Un, cs = [c0, c1, c2, c3] := by
      match cs, h with
      | [c0, c1, c2, c3], _ => exact ⟨c0, c1, c2, c3, rfl⟩
    obtain ⟨a0, g0, h⟩ := bd_some h
    obtain ⟨a1, g1, h⟩ := bd_some h
    obtain ⟨a2, g2, h⟩ := bd_some h
    obtain ⟨a3, g3, h⟩ := bd_some h
    have h := Option.some.inj h; subst h
    rw [EV.lfTy_some g0, EV.lfTy_some g1, EV.lfTy_some g2, EV.lfTy_some g3]
    rfl
  by_cases h235 : τ = 235
  · subst h235; 
    obtain ⟨c0, c1, c2, rfl⟩ : ∃ c0 c1 c2 : EV.Lf Un, cs = [c0, c1, c2] := by
      match cs, h with
      | [c0, c1, c2], _ => exact ⟨c0, c1, c2, rfl⟩
    obtain ⟨a0, g0, h⟩ := bd_some h
    obtain ⟨a1, g1, h⟩ := bd_some h
    obtain ⟨a2, g2, h⟩ := bd_some h
    have h := Option.some.inj h; subst h
    rw [EV.lfTy_some g0, EV.lfTy_some g1, EV.lfTy_some g2]
    rfl
  by_cases h256 : τ = 256
  · subst h256; 
    obtain ⟨c0, c1, c2, rfl⟩ : ∃ c0 c1 c2 : EV.Lf Un, cs = [c0, c1, c2] := by
      match cs, h with
      | [c0, c1, c2], _ => exact ⟨c0, c1, c2, rfl⟩
    obtain ⟨a0, g0, h⟩ := bd_some h
    obtain ⟨a1, g1, h⟩ := bd_some h
    obtain ⟨a2, g2, h⟩ := bd_some h
    have h := Option.some.inj h; subst h
    rw [EV.lfTy_some g0, EV.lfTy_some g1, EV.lfTy_some g2]
    rfl
  by_cases h122 : τ = 122
  · subst h122; 
    obtain ⟨c0, c1, c2, rfl⟩ : ∃ c0 c1 c2 : EV.Lf Un, cs = [c0, c1, c2] := by
      match cs, h with
      | [c0, c1, c2], _ => exact ⟨c0, c1, c2, rfl⟩
    obtain ⟨a0, g0, h⟩ := bd_some h
    obtain ⟨a1, g1, h⟩ := bd_some h
    obtain ⟨a2, g2, h⟩ := bd_some h
    have h := Option.some.inj h; subst h
    rw [EV.lfTy_some g0, EV.lfTy_some g1, EV.lfTy_some g2]
    rfl
  by_cases h3 : τ = 3
  · subst h3; 
    obtain ⟨c0, rfl⟩ : ∃ c0 : EV.Lf Un, cs = [c0] := by
      match cs, h with
      | [c0], _ => exact ⟨c0, rfl⟩
    obtain ⟨a0, g0, h⟩ := bd_some h
    have h := Option.some.inj h; subst h
    rw [EV.lfTy_some g0]
    rfl
  by_cases h124 : τ = 124
  · subst h124; 
    obtain ⟨c0, c1, c2, c3, c4, c5, rfl⟩ : ∃ c0 c1 c2 c3 c4 c5 : EV.Lf Un, cs = [c0, c1, c2, c3, c4, c5] := by
      match cs, h with
      | [c0, c1, c2, c3, c4, c5], _ => exact ⟨c0, c1, c2, c3, c4, c5, rfl⟩
    obtain ⟨a0, g0, h⟩ := bd_some h
    obtain ⟨a1, g1, h⟩ := bd_some h
    obtain ⟨a2, g2, h⟩ := bd_some h
    obtain ⟨a3, g3, h⟩ := bd_some h
    obtain ⟨a4, g4, h⟩ := bd_some h
    obtain ⟨a5, g5, h⟩ := bd_some h
    have h := Option.some.inj h; subst h
    rw [EV.lfTy_some g0, EV.lfTy_some g1, EV.lfTy_some g2, EV.lfTy_some g3, EV.lfTy_some g4, EV.lfTy_some g5]
    rfl
  by_cases h33 : τ = 33
  · subst h33; 
    obtain ⟨c0, c1, c2, c3, rfl⟩ : ∃ c0 c1 c2 c3 : EV.Lf Un, cs = [c0, c1, c2, c3] := by
      match cs, h with
      | [c0, c1, c2, c3], _ => exact ⟨c0, c1, c2, c3, rfl⟩
    obtain ⟨a0, g0, h⟩ := bd_some h
    obtain ⟨a1, g1, h⟩ := bd_some h
    obtain ⟨a2, g2, h⟩ := bd_some h
    obtain ⟨a3, g3, h⟩ := bd_some h
    have h := Option.some.inj h; subst h
    rw [EV.lfTy_some g0, EV.lfTy_some g1, EV.lfTy_some g2, EV.lfTy_some g3]
    rfl
  by_cases h127 : τ = 127
  · subst h127; 
    obtain ⟨c0, c1, rfl⟩ : ∃ c0 c1 : EV.Lf Un, cs = [c0, c1] := by
      match cs, h with
      | [c0, c1], _ => exact ⟨c0, c1, rfl⟩
    obtain ⟨a0, g0, h⟩ := bd_some h
    obtain ⟨a1, g1, h⟩ := bd_some h
    have h := Option.some.inj h; subst h
    rw [EV.lfTy_some g0, EV.lfTy_some g1]
    rfl
  by_cases h129 : τ = 129
  · subst h129; 
    obtain ⟨c0, c1, c2, c3, c4, rfl⟩ : ∃ c0 c1 c2 c3 c4 : EV.Lf Un, cs = [c0, c1, c2, c3, c4] := by
      match cs, h with
      | [c0, c1, c2, c3, c4], _ => exact ⟨c0, c1, c2, c3, c4, rfl⟩
    obtain ⟨a0, g0, h⟩ := bd_some h
    obtain ⟨a1, g1, h⟩ := bd_some h
    obtain ⟨a2, g2, h⟩ := bd_some h
    obtain ⟨a3, g3, h⟩ := bd_some h
    obtain ⟨a4, g4, h⟩ := bd_some h
    have h := Option.some.inj h; subst h
    rw [EV.lfTy_some g0, EV.lfTy_some g1, EV.lfTy_some g2, EV.lfTy_some g3, EV.lfTy_some g4]
    rfl
  by_cases h132 : τ = 132
  · subst h132; 
    obtain ⟨c0, c1, c2, c3, c4, c5, c6, rfl⟩ : ∃ c0 c1 c2 c3 c4 c5 c6 : EV.Lf Un, cs = [c0, c1, c2, c3, c4, c5, c6] := by
      match cs, h with
      | [c0, c1, c2, c3, c4, c5, c6], _ => exact ⟨c0, c1, c2, c3, c4, c5, c6, rfl⟩
    obtain ⟨a0, g0, h⟩ := bd_some h
    obtain ⟨a1, g1, h⟩ := bd_some h
    obtain ⟨a2, g2, h⟩ := bd_some h
    obtain ⟨a3, g3, h⟩ := bd_some h
    obtain ⟨a4, g4, h⟩ := bd_some h
    obtain ⟨a5, g5, h⟩ := bd_some h
    obtain ⟨a6, g6, h⟩ := bd_some h
    have h := Option.some.inj h; subst h
    rw [EV.lfTy_some g0, EV.lfTy_some g1, EV.lfTy_some g2, EV.lfTy_some g3, EV.lfTy_some g4, EV.lfTy_some g5, EV.lfTy_some g6]
    rfl
  by_cases h210 : τ = 210
  · subst h210; 
    obtain ⟨c0, c1, c2, c3, rfl⟩ : ∃ c0 c1 c2 c3 : EV.Lf Un, cs = [c0, c1, c2, c3] := by
      match cs, h with
      | [c0, c1, c2, c3], _ => exact ⟨c0, c1, c2, c3, rfl⟩
    obtain ⟨a0, g0, h⟩ := bd_some h
    obtain ⟨a1, g1, h⟩ := bd_some h
    obtain ⟨a2, g2, h⟩ := bd_some h
    obtain ⟨a3, g3, h⟩ := bd_some h
    have h := Option.some.inj h; subst h
    rw [EV.lfTy_some g0, EV.lfTy_some g1, EV.lfTy_some g2, EV.lfTy_some g3]
    rfl
  by_cases h37 : τ = 37
  · subst h37; 
    obtain ⟨c0, rfl⟩ : ∃ c0 : EV.Lf Un, cs = [c0] := by
      match cs, h with
      | [c0], _ => exact ⟨c0, rfl⟩
    obtain ⟨a0, g0, h⟩ := bd_some h
    have h := Option.some.inj h; subst h
    rw [EV.lfTy_some g0]
    rfl
  by_cases h39 : τ = 39
  · subst h39; 
    obtain ⟨c0, c1, c2, c3, c4, c5, c6, c7, c8, c9, c10, c11, c12, c13, c14, c15, rfl⟩ : ∃ c0 c1 c2 c3 c4 c5 c6 c7 c8 c9 c10 c11 c12 c13 c14 c15 : EV.Lf Un, cs = [c0, c1, c2, c3, c4, c5, c6, c7, c8, c9, c10, c11, c12, c13, c14, c15] := by
      match cs, h with
      | [c0, c1, c2, c3, c4, c5, c6, c7, c8, c9, c10, c11, c12, c13, c14, c15], _ => exact ⟨c0, c1, c2, c3, c4, c5, c6, c7, c8, c9, c10, c11, c12, c13, c14, c15, rfl⟩
    obtain ⟨a0, g0, h⟩ := bd_some h
    obtain ⟨a1, g1, h⟩ := bd_some h
    obtain ⟨a2, g2, h⟩ := bd_some h
    obtain ⟨a3, g3, h⟩ := bd_some h
    obtain ⟨a4, g4, h⟩ := bd_some h
    obtain ⟨a5, g5, h⟩ := bd_some h
    obtain ⟨a6, g6, h⟩ := bd_some h
    obtain ⟨a7, g7, h⟩ := bd_some h
    obtain ⟨a8, g8, h⟩ := bd_some h
    obtain ⟨a9, g9, h⟩ := bd_some h
    obtain ⟨a10, g10, h⟩ := bd_some h
    obtain ⟨a11, g11, h⟩ := bd_some h
    obtain ⟨a12, g12, h⟩ := bd_some h
    obtain ⟨a13, g13, h⟩ := bd_some h
    obtain ⟨a14, g14, h⟩ := bd_some h
    obtain ⟨a15, g15, h⟩ := bd_some h
    have h := Option.some.inj h; subst h
    rw [EV.lfTy_some g0, EV.lfTy_some g1, EV.lfTy_some g2, EV.lfTy_some g3, EV.lfTy_some g4, EV.lfTy_some g5, EV.lfTy_some g6, EV.lfTy_some g7, EV.lfTy_some g8, EV.lfTy_some g9, EV.lfTy_some g10, EV.lfTy_some g11, EV.lfTy_some g12, EV.lfTy_some g13, EV.lfTy_some g14, EV.lfTy_some g15]
    rfl
  by_cases h103 : τ = 103
  · subst h103; 
    obtain ⟨c0, c1, c2, c3, rfl⟩ : ∃ c0 c1 c2 c3 : EV.Lf Un, cs = [c0, c1, c2, c3] := by
      match cs, h with
      | [c0, c1, c2, c3], _ => exact ⟨c0, c1, c2, c3, rfl⟩
    obtain ⟨a0, g0, h⟩ := bd_some h
    obtain ⟨a1, g1, h⟩ := bd_some h
    obtain ⟨a2, g2, h⟩ := bd_some h
    obtain ⟨a3, g3, h⟩ := bd_some h
    have h := Option.some.inj h; subst h
    rw [EV.lfTy_some g0, EV.lfTy_some g1, EV.lfTy_some g2, EV.lfTy_some g3]
    rfl
  by_cases h196 : τ = 196
  · subst h196; 
    obtain ⟨c0, c1, c2, c3, c4, c5, rfl⟩ : ∃ c0 c1 c2 c3 c4 c5 : EV.Lf Un, cs = [c0, c1, c2, c3, c4, c5] := by
      match cs, h with
      | [c0, c1, c2, c3, c4, c5], _ => exact ⟨c0, c1, c2, c3, c4, c5, rfl⟩
    obtain ⟨a0, g0, h⟩ := bd_some h
    obtain ⟨a1, g1, h⟩ := bd_some h
    obtain ⟨a2, g2, h⟩ := bd_some h
    obtain ⟨a3, g3, h⟩ := bd_some h
    obtain ⟨a4, g4, h⟩ := bd_some h
    obtain ⟨a5, g5, h⟩ := bd_some h
    have h := Option.some.inj h; subst h
    rw [EV.lfTy_some g0, EV.lfTy_some g1, EV.lfTy_some g2, EV.lfTy_some g3, EV.lfTy_some g4, EV.lfTy_some g5]
    rfl
  by_cases h180 : τ = 180
  · subst h180; 
    obtain ⟨c0, c1, c2, c3, rfl⟩ : ∃ c0 c1 c2 c3 : EV.Lf Un, cs = [c0, c1, c2, c3] := by
      match cs, h with
      | [c0, c1, c2, c3], _ => exact ⟨c0, c1, c2, c3, rfl⟩
    obtain ⟨a0, g0, h⟩ := bd_some h
    obtain ⟨a1, g1, h⟩ := bd_some h
    obtain ⟨a2, g2, h⟩ := bd_some h
    obtain ⟨a3, g3, h⟩ := bd_some h
    have h := Option.some.inj h; subst h
    rw [EV.lfTy_some g0, EV.lfTy_some g1, EV.lfTy_some g2, EV.lfTy_some g3]
    rfl
  by_cases h69 : τ = 69
  · subst h69; 
    obtain ⟨c0, rfl⟩ : ∃ c0 : EV.Lf Un, cs = [c0] := by
      match cs, h with
      | [c0], _ => exact ⟨c0, rfl⟩
    obtain ⟨a0, g0, h⟩ := bd_some h
    have h := Option.some.inj h; subst h
    rw [EV.lfTy_some g0]
    rfl
  by_cases h105 : τ = 105
  · subst h105; 
    obtain ⟨c0, c1, c2, c3, c4, c5, c6, c7, c8, rfl⟩ : ∃ c0 c1 c2 c3 c4 c5 c6 c7 c8 : EV.Lf Un, cs = [c0, c1, c2, c3, c4, c5, c6, c7, c8] := by
      match cs, h with
      | [c0, c1, c2, c3, c4, c5, c6, c7, c8], _ => exact ⟨c0, c1, c2, c3, c4, c5, c6, c7, c8, rfl⟩
    obtain ⟨a0, g0, h⟩ := bd_some h
    obtain ⟨a1, g1, h⟩ := bd_some h
    obtain ⟨a2, g2, h⟩ := bd_some h
    obtain ⟨a3, g3, h⟩ := bd_some h
    obtain ⟨a4, g4, h⟩ := bd_some h
    obtain ⟨a5, g5, h⟩ := bd_some h
    obtain ⟨a6, g6, h⟩ := bd_some h
    obtain ⟨a7, g7, h⟩ := bd_some h
    obtain ⟨a8, g8, h⟩ := bd_some h
    have h := Option.some.inj h; subst h
    rw [EV.lfTy_some g0, EV.lfTy_some g1, EV.lfTy_some g2, EV.lfTy_some g3, EV.lfTy_some g4, EV.lfTy_some g5, EV.lfTy_some g6, EV.lfTy_some g7, EV.lfTy_some g8]
    rfl
  by_cases h238 : τ = 238
  · subst h238; 
    obtain ⟨c0, c1, c2, c3, rfl⟩ : ∃ c0 c1 c2 c3 : EV.Lf Un, cs = [c0, c1, c2, c3] := by
      match cs, h with
      | [c0, c1, c2, c3], _ => exact ⟨c0, c1, c2, c3, rfl⟩
    obtain ⟨a0, g0, h⟩ := bd_some h
    obtain ⟨a1, g1, h⟩ := bd_some h
    obtain ⟨a2, g2, h⟩ := bd_some h
    obtain ⟨a3, g3, h⟩ := bd_some h
    have h := Option.some.inj h; subst h
    rw [EV.lfTy_some g0, EV.lfTy_some g1, EV.lfTy_some g2, EV.lfTy_some g3]
    rfl
  by_cases h48 : τ = 48
  · subst h48; 
    obtain ⟨c0, c1, rfl⟩ : ∃ c0 c1 : EV.Lf Un, cs = [c0, c1] := by
      match cs, h with
      | [c0, c1], _ => exact ⟨c0, c1, rfl⟩
    obtain ⟨a0, g0, h⟩ := bd_some h
    obtain ⟨a1, g1, h⟩ := bd_some h
    have h := Option.some.inj h; subst h
    rw [EV.lfTy_some g0, EV.lfTy_some g1]
    rfl
  by_cases h200 : τ = 200
  · subst h200; 
    obtain ⟨c0, c1, c2, c3, rfl⟩ : ∃ c0 c1 c2 c3 : EV.Lf Un, cs = [c0, c1, c2, c3] := by
      match cs, h with
      | [c0, c1, c2, c3], _ => exact ⟨c0, c1, c2, c3, rfl⟩
    obtain ⟨a0, g0, h⟩ := bd_some h
    obtain ⟨a1, g1, h⟩ := bd_some h
    obtain ⟨a2, g2, h⟩ := bd_some h
    obtain ⟨a3, g3, h⟩ := bd_some h
    have h := Option.some.inj h; subst h
    rw [EV.lfTy_some g0, EV.lfTy_some g1, EV.lfTy_some g2, EV.lfTy_some g3]
    rfl
  by_cases h51 : τ = 51
  · subst h51; 
    obtain ⟨c0, c1, c2, c3, rfl⟩ : ∃ c0 c1 c2 c3 : EV.Lf Un, cs = [c0, c1, c2, c3] := by
      match cs, h with
      | [c0, c1, c2, c3], _ => exact ⟨c0, c1, c2, c3, rfl⟩
    obtain ⟨a0, g0, h⟩ := bd_some h
    obtain ⟨a1, g1, h⟩ := bd_some h
    obtain ⟨a2, g2, h⟩ := bd_some h
    obtain ⟨a3, g3, h⟩ := bd_some h
    have h := Option.some.inj h; subst h
    rw [EV.lfTy_some g0, EV.lfTy_some g1, EV.lfTy_some g2, EV.lfTy_some g3]
    rfl
  by_cases h145 : τ = 145
  · subst h145; 
    obtain ⟨c0, c1, c2, c3, rfl⟩ : ∃ c0 c1 c2 c3 : EV.Lf Un, cs = [c0, c1, c2, c3] := by
      match cs, h with
      | [c0, c1, c2, c3], _ => exact ⟨c0, c1, c2, c3, rfl⟩
    obtain ⟨a0, g0, h⟩ := bd_some h
    obtain ⟨a1, g1, h⟩ := bd_some h
    obtain ⟨a2, g2, h⟩ := bd_some h
    obtain ⟨a3, g3, h⟩ := bd_some h
    have h := Option.some.inj h; subst h
    rw [EV.lfTy_some g0, EV.lfTy_some g1, EV.lfTy_some g2, EV.lfTy_some g3]
    rfl
  by_cases h143 : τ = 143
  · subst h143; 
    obtain ⟨c0, c1, c2, rfl⟩ : ∃ c0 c1 c2 : EV.Lf Un, cs = [c0, c1, c2] := by
      match cs, h with
      | [c0, c1, c2], _ => exact ⟨c0, c1, c2, rfl⟩
    obtain ⟨a0, g0, h⟩ := bd_some h
    obtain ⟨a1, g1, h⟩ := bd_some h
    obtain ⟨a2, g2, h⟩ := bd_some h
    have h := Option.some.inj h; subst h
    rw [EV.lfTy_some g0, EV.lfTy_some g1, EV.lfTy_some g2]
    rfl
  by_cases h224 : τ = 224
  · subst h224; 
    obtain ⟨c0, c1, c2, rfl⟩ : ∃ c0 c1 c2 : EV.Lf Un, cs = [c0, c1, c2] := by
      match cs, h with
      | [c0, c1, c2], _ => exact ⟨c0, c1, c2, rfl⟩
    obtain ⟨a0, g0, h⟩ := bd_some h
    obtain ⟨a1, g1, h⟩ := bd_some h
    obtain ⟨a2, g2, h⟩ := bd_some h
    have h := Option.some.inj h; subst h
    rw [EV.lfTy_some g0, EV.lfTy_some g1, EV.lfTy_some g2]
    rfl
  by_cases h138 : τ = 138
  · subst h138; 
    obtain ⟨c0, c1, c2, rfl⟩ : ∃ c0 c1 c2 : EV.Lf Un, cs = [c0, c1, c2] := by
      match cs, h with
      | [c0, c1, c2], _ => exact ⟨c0, c1, c2, rfl⟩
    obtain ⟨a0, g0, h⟩ := bd_some h
    obtain ⟨a1, g1, h⟩ := bd_some h
    obtain ⟨a2, g2, h⟩ := bd_some h
    have h := Option.some.inj h; subst h
    rw [EV.lfTy_some g0, EV.lfTy_some g1, EV.lfTy_some g2]
    rfl
  by_cases h140 : τ = 140
  · subst h140; 
    obtain ⟨c0, c1, c2, c3, c4, c5, rfl⟩ : ∃ c0 c1 c2 c3 c4 c5 : EV.Lf Un, cs = [c0, c1, c2, c3, c4, c5] := by
      match cs, h with
      | [c0, c1, c2, c3, c4, c5], _ => exact ⟨c0, c1, c2, c3, c4, c5, rfl⟩
    obtain ⟨a0, g0, h⟩ := bd_some h
    obtain ⟨a1, g1, h⟩ := bd_some h
    obtain ⟨a2, g2, h⟩ := bd_some h
    obtain ⟨a3, g3, h⟩ := bd_some h
    obtain ⟨a4, g4, h⟩ := bd_some h
    obtain ⟨a5, g5, h⟩ := bd_some h
    have h := Option.some.inj h; subst h
    rw [EV.lfTy_some g0, EV.lfTy_some g1, EV.lfTy_some g2, EV.lfTy_some g3, EV.lfTy_some g4, EV.lfTy_some g5]
    rfl
  by_cases h53 : τ = 53
  · subst h53; 
    obtain ⟨c0, c1, c2, c3, rfl⟩ : ∃ c0 c1 c2 c3 : EV.Lf Un, cs = [c0, c1, c2, c3] := by
      match cs, h with
      | [c0, c1, c2, c3], _ => exact ⟨c0, c1, c2, c3, rfl⟩
    obtain ⟨a0, g0, h⟩ := bd_some h
    obtain ⟨a1, g1, h⟩ := bd_some h
    obtain ⟨a2, g2, h⟩ := bd_some h
    obtain ⟨a3, g3, h⟩ := bd_some h
    have h := Option.some.inj h; subst h
    rw [EV.lfTy_some g0, EV.lfTy_some g1, EV.lfTy_some g2, EV.lfTy_some g3]
    rfl
  by_cases h151 : τ = 151
  · subst h151; 
    obtain ⟨c0, c1, rfl⟩ : ∃ c0 c1 : EV.Lf Un, cs = [c0, c1] := by
      match cs, h with
      | [c0, c1], _ => exact ⟨c0, c1, rfl⟩
    obtain ⟨a0, g0, h⟩ := bd_some h
    obtain ⟨a1, g1, h⟩ := bd_some h
    have h := Option.some.inj h; subst h
    rw [EV.lfTy_some g0, EV.lfTy_some g1]
    rfl
  by_cases h153 : τ = 153
  · subst h153; 
    obtain ⟨c0, c1, c2, c3, c4, rfl⟩ : ∃ c0 c1 c2 c3 c4 : EV.Lf Un, cs = [c0, c1, c2, c3, c4] := by
      match cs, h with
      | [c0, c1, c2, c3, c4], _ => exact ⟨c0, c1, c2, c3, c4, rfl⟩
    obtain ⟨a0, g0, h⟩ := bd_some h
    obtain ⟨a1, g1, h⟩ := bd_some h
    obtain ⟨a2, g2, h⟩ := bd_some h
    obtain ⟨a3, g3, h⟩ := bd_some h
    obtain ⟨a4, g4, h⟩ := bd_some h
    have h := Option.some.inj h; subst h
    rw [EV.lfTy_some g0, EV.lfTy_some g1, EV.lfTy_some g2, EV.lfTy_some g3, EV.lfTy_some g4]
    rfl
  by_cases h156 : τ = 156
  · subst h156; 
    obtain ⟨c0, c1, c2, c3, c4, c5, c6, rfl⟩ : ∃ c0 c1 c2 c3 c4 c5 c6 : EV.Lf Un, cs = [c0, c1, c2, c3, c4, c5, c6] := by
      match cs, h with
      | [c0, c1, c2, c3, c4, c5, c6], _ => exact ⟨c0, c1, c2, c3, c4, c5, c6, rfl⟩
    obtain ⟨a0, g0, h⟩ := bd_some h
    obtain ⟨a1, g1, h⟩ := bd_some h
    obtain ⟨a2, g2, h⟩ := bd_some h
    obtain ⟨a3, g3, h⟩ := bd_some h
    obtain ⟨a4, g4, h⟩ := bd_some h
    obtain ⟨a5, g5, h⟩ := bd_some h
    obtain ⟨a6, g6, h⟩ := bd_some h
    have h := Option.some.inj h; subst h
    rw [EV.lfTy_some g0, EV.lfTy_some g1, EV.lfTy_some g2, EV.lfTy_some g3, EV.lfTy_some g4, EV.lfTy_some g5, EV.lfTy_some g6]
    rfl
  by_cases h208 : τ = 208
  · subst h208; 
    obtain ⟨c0, c1, c2, c3, rfl⟩ : ∃ c0 c1 c2 c3 : EV.Lf Un, cs = [c0, c1, c2, c3] := by
      match cs, h with
      | [c0, c1, c2, c3], _ => exact ⟨c0, c1, c2, c3, rfl⟩
    obtain ⟨a0, g0, h⟩ := bd_some h
    obtain ⟨a1, g1, h⟩ := bd_some h
    obtain ⟨a2, g2, h⟩ := bd_some h
    obtain ⟨a3, g3, h⟩ := bd_some h
    have h := Option.some.inj h; subst h
    rw [EV.lfTy_some g0, EV.lfTy_some g1, EV.lfTy_some g2, EV.lfTy_some g3]
    rfl
  by_cases h57 : τ = 57
  · subst h57; 
    obtain ⟨c0, rfl⟩ : ∃ c0 : EV.Lf Un, cs = [c0] := by
      match cs, h with
      | [c0], _ => exact ⟨c0, rfl⟩
    obtain ⟨a0, g0, h⟩ := bd_some h
    have h := Option.some.inj h; subst h
    rw [EV.lfTy_some g0]
    rfl
  by_cases h59 : τ = 59
  · subst h59; 
    obtain ⟨c0, c1, c2, c3, c4, c5, c6, c7, c8, c9, c10, c11, c12, c13, c14, c15, rfl⟩ : ∃ c0 c1 c2 c3 c4 c5 c6 c7 c8 c9 c10 c11 c12 c13 c14 c15 : EV.Lf Un, cs = [c0, c1, c2, c3, c4, c5, c6, c7, c8, c9, c10, c11, c12, c13, c14, c15] := by
      match cs, h with
      | [c0, c1, c2, c3, c4, c5, c6, c7, c8, c9, c10, c11, c12, c13, c14, c15], _ => exact ⟨c0, c1, c2, c3, c4, c5, c6, c7, c8, c9, c10, c11, c12, c13, c14, c15, rfl⟩
    obtain ⟨a0, g0, h⟩ := bd_some h
    obtain ⟨a1, g1, h⟩ := bd_some h
    obtain ⟨a2, g2, h⟩ := bd_some h
    obtain ⟨a3, g3, h⟩ := bd_some h
    obtain ⟨a4, g4, h⟩ := bd_some h
    obtain ⟨a5, g5, h⟩ := bd_some h
    obtain ⟨a6, g6, h⟩ := bd_some h
    obtain ⟨a7, g7, h⟩ := bd_some h
    obtain ⟨a8, g8, h⟩ := bd_some h
    obtain ⟨a9, g9, h⟩ := bd_some h
    obtain ⟨a10, g10, h⟩ := bd_some h
    obtain ⟨a11, g11, h⟩ := bd_some h
    obtain ⟨a12, g12, h⟩ := bd_some h
    obtain ⟨a13, g13, h⟩ := bd_some h
    obtain ⟨a14, g14, h⟩ := bd_some h
    obtain ⟨a15, g15, h⟩ := bd_some h
    have h := Option.some.inj h; subst h
    rw [EV.lfTy_some g0, EV.lfTy_some g1, EV.lfTy_some g2, EV.lfTy_some g3, EV.lfTy_some g4, EV.lfTy_some g5, EV.lfTy_some g6, EV.lfTy_some g7, EV.lfTy_some g8, EV.lfTy_some g9, EV.lfTy_some g10, EV.lfTy_some g11, EV.lfTy_some g12, EV.lfTy_some g13, EV.lfTy_some g14, EV.lfTy_some g15]
    rfl
  by_cases h41 : τ = 41
  · subst h41; 
    obtain ⟨c0, rfl⟩ : ∃ c0 : EV.Lf Un, cs = [c0] := by
      match cs, h with
      | [c0], _ => exact ⟨c0, rfl⟩
    obtain ⟨a0, g0, h⟩ := bd_some h
    have h := Option.some.inj h; subst h
    rw [EV.lfTy_some g0]
    rfl
  exact (cast (El_none τ h109 h198 h253 h112 h114 h4 h5 h231 h27 h189 h30 h263 h235 h256 h122 h3 h124 h33 h127 h129 h132 h210 h37 h39 h103 h196 h180 h69 h105 h238 h48 h200 h51 h145 h143 h224 h138 h140 h53 h151 h153 h156 h208 h57 h59 h41) x).elim
def Yn : EV.Lay Un := ⟨⟨celE, bldE, hc1, hc2, hc3, hc4⟩, kdE, 5, fun n => n, fun n => n, fun _ => rfl, fun _ => rfl⟩
theorem ly1 : ∀ (τ : Nat) (x : El τ), (celE τ x).map EV.kdL = (kdE τ).map some := by
  intro τ x
  by_cases h109 : τ = 109
  · subst h109; rfl
  by_cases h198 : τ = 198
  · subst h198; rfl
  by_cases h253 : τ = 253
  · subst h253; rfl
  by_cases h112 : τ = 112
  · subst h112; rfl
  by_cases h114 : τ = 114
  · subst h114; rfl
  by_cases h4 : τ = 4
  · subst h4; rfl
  by_cases h5 : τ = 5
  · subst h5; rfl
  by_cases h231 : τ = 231
  · subst h231; rfl
  by_cases h27 : τ = 27
  · subst h27; rfl
  by_cases h189 : τ = 189
  · subst h189; rfl
  by_cases h30 : τ = 30
  · subst h30; rfl
  by_cases h263 : τ = 263
  · subst h263; rfl
  by_cases h235 : τ = 235
  · subst h235; rfl
  by_cases h256 : τ = 256
  · subst h256; rfl
  by_cases h122 : τ = 122
  · subst h122; rfl
  by_cases h3 : τ = 3
  · subst h3; rfl
  by_cases h124 : τ = 124
  · subst h124; rfl
  by_cases h33 : τ = 33
  · subst h33; rfl
  by_cases h127 : τ = 127
  · subst h127; rfl
  by_cases h129 : τ = 129
  · subst h129; rfl
  by_cases h132 : τ = 132
  · subst h132; rfl
  by_cases h210 : τ = 210
  · subst h210; rfl
  by_cases h37 : τ = 37
  · subst h37; rfl
  by_cases h39 : τ = 39
  · subst h39; rfl
  by_cases h103 : τ = 103
  · subst h103; rfl
  by_cases h196 : τ = 196
  · subst h196; rfl
  by_cases h180 : τ = 180
  · subst h180; rfl
  by_cases h69 : τ = 69
  · subst h69; rfl
  by_cases h105 : τ = 105
  · subst h105; rfl
  by_cases h238 : τ = 238
  · subst h238; rfl
  by_cases h48 : τ = 48
  · subst h48; rfl
  by_cases h200 : τ = 200
  · subst h200; rfl
  by_cases h51 : τ = 51
  · subst h51; rfl
  by_cases h145 : τ = 145
  · subst h145; rfl
  by_cases h143 : τ = 143
  · subst h143; rfl
  by_cases h224 : τ = 224
  · subst h224; rfl
  by_cases h138 : τ = 138
  · subst h138; rfl
  by_cases h140 : τ = 140
  · subst h140; rfl
  by_cases h53 : τ = 53
  · subst h53; rfl
  by_cases h151 : τ = 151
  · subst h151; rfl
  by_cases h153 : τ = 153
  · subst h153; rfl
  by_cases h156 : τ = 156
  · subst h156; rfl
  by_cases h208 : τ = 208
  · subst h208; rfl
  by_cases h57 : τ = 57
  · subst h57; rfl
  by_cases h59 : τ = 59
  · subst h59; rfl
  by_cases h41 : τ = 41
  · subst h41; rfl
  exact (cast (El_none τ h109 h198 h253 h112 h114 h4 h5 h231 h27 h189 h30 h263 h235 h256 h122 h3 h124 h33 h127 h129 h132 h210 h37 h39 h103 h196 h180 h69 h105 h238 h48 h200 h51 h145 h143 h224 h138 h140 h53 h151 h153 h156 h208 h57 h59 h41) x).elim
theorem ly2 : ∀ (τ τ' : Nat), EV.Kd.sl τ' ∈ kdE τ → 0 < Un.K τ' := by
  intro τ τ' h
  unfold kdE at h
  split at h <;> simp only [List.mem_cons, List.not_mem_nil, or_false, reduceCtorEq, false_or, or_self, EV.Kd.sl.injEq] at h <;> first | exact h.elim | (subst h; exact Nat.le_of_ble_eq_true rfl) | (rcases h with h | h | h | h | h | h | h | h <;> (subst h; exact Nat.le_of_ble_eq_true rfl)) | (rcases h with h | h | h | h | h | h | h <;> (subst h; exact Nat.le_of_ble_eq_true rfl)) | (rcases h with h | h | h | h | h | h <;> (subst h; exact Nat.le_of_ble_eq_true rfl)) | (rcases h with h | h | h | h | h <;> (subst h; exact Nat.le_of_ble_eq_true rfl)) | (rcases h with h | h | h | h <;> (subst h; exact Nat.le_of_ble_eq_true rfl)) | (rcases h with h | h | h <;> (subst h; exact Nat.le_of_ble_eq_true rfl)) | (rcases h with h | h <;> (subst h; exact Nat.le_of_ble_eq_true rfl))
theorem layOk : EV.LayOk Yn := ⟨ly1, ly2⟩
def bodyOf (f : Func) : Code := match f.body with | some c => c | none => .skip
theorem T.mix : Tryz.prog.follows .mixedOrders = true := by kernel_rfl
theorem good0 : EV.Good Tryz.prog G0 Yn TI [] := ⟨by kernel_rfl, layOk, fun f S h => by simp at h⟩
end
end Go.VK
