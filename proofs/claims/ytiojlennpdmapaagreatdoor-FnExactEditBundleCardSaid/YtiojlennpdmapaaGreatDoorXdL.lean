import Derived.Test.YtiojlennpdmapaaGreatDoorXdFF
import Derived.Test.YtiojlennpdmapaaGreatDoorProg
import Derived.Test.YtiojlennpdmapaaGreatDoorTryzShelf
/-
  Printed by wip/tools (own work of this part): models of functions, walks over the value kit, and proofs.
-/
set_option linter.unusedVariables false
set_option linter.unusedSimpArgs false
set_option maxRecDepth 100000
set_option maxHeartbeats 4000000
namespace Go.VK
open Go.RowKit Go.Proofs
noncomputable section
abbrev G0 : GI := GMax 0
def El : Nat → Type
  | 119 => D.KeyStore
  | 223 => D.LogEntry
  | 303 => D.Entry
  | 122 => D.Bundle
  | 124 => D.Device
  | 4 => Bool
  | 5 => Int
  | 272 => D.Box
  | 27 => D.EpochBoxes
  | 198 => D.SealedBundle
  | 30 => D.Cloud
  | 314 => D.Credential
  | 276 => D.Account
  | 306 => D.Challenge
  | 132 => D.ChallengeBook
  | 3 => Int
  | 134 => D.Site
  | 33 => D.Vault
  | 136 => D.Share
  | 138 => D.Keeper
  | 141 => D.KeeperHost
  | 232 => D.Notice
  | 37 => D.Mailbox
  | 39 => D.World
  | 110 => D.KeyStore
  | 219 => D.LogEntry
  | 252 => D.Entry
  | 113 => D.Bundle
  | 115 => D.Device
  | 278 => D.Box
  | 45 => D.EpochBoxes
  | 205 => D.SealedBundle
  | 48 => D.Cloud
  | 280 => D.Credential
  | 209 => D.Account
  | 257 => D.Challenge
  | 148 => D.ChallengeBook
  | 150 => D.Site
  | 50 => D.Vault
  | 77 => D.Share
  | 79 => D.Keeper
  | 82 => D.KeeperHost
  | 216 => D.Notice
  | 54 => D.Mailbox
  | 56 => D.World
  | 104 => List Int
  | 9 => ByteArray
  | _ => Empty
def encE : (τ : Nat) → El τ → List V
  | 119 => D.KeyStore.V
  | 223 => D.LogEntry.V
  | 303 => D.Entry.V
  | 122 => D.Bundle.V
  | 124 => D.Device.V
  | 4 => bV
  | 5 => y8
  | 272 => D.Box.V
  | 27 => D.EpochBoxes.V
  | 198 => D.SealedBundle.V
  | 30 => D.Cloud.V
  | 314 => D.Credential.V
  | 276 => D.Account.V
  | 306 => D.Challenge.V
  | 132 => D.ChallengeBook.V
  | 3 => iV
  | 134 => D.Site.V
  | 33 => D.Vault.V
  | 136 => D.Share.V
  | 138 => D.Keeper.V
  | 141 => D.KeeperHost.V
  | 232 => D.Notice.V
  | 37 => D.Mailbox.V
  | 39 => D.World.V
  | 110 => D.KeyStore.V
  | 219 => D.LogEntry.V
  | 252 => D.Entry.V
  | 113 => D.Bundle.V
  | 115 => D.Device.V
  | 278 => D.Box.V
  | 45 => D.EpochBoxes.V
  | 205 => D.SealedBundle.V
  | 48 => D.Cloud.V
  | 280 => D.Credential.V
  | 209 => D.Account.V
  | 257 => D.Challenge.V
  | 148 => D.ChallengeBook.V
  | 150 => D.Site.V
  | 50 => D.Vault.V
  | 77 => D.Share.V
  | 79 => D.Keeper.V
  | 82 => D.KeeperHost.V
  | 216 => D.Notice.V
  | 54 => D.Mailbox.V
  | 56 => D.World.V
  | 104 => (fun l => [V.slice 1 (l.map iV)])
  | 9 => sV
  | _ => fun _ => []
def Un : EV.Uni := ⟨El, fun | 119 => 4 | 223 => 6 | 303 => 4 | 122 => 1 | 124 => 9 | 4 => 1 | 5 => 1 | 272 => 4 | 27 => 2 | 198 => 4 | 30 => 4 | 314 => 4 | 276 => 3 | 306 => 3 | 132 => 3 | 3 => 1 | 134 => 6 | 33 => 4 | 136 => 2 | 138 => 5 | 141 => 7 | 232 => 4 | 37 => 1 | 39 => 16 | 110 => 4 | 219 => 6 | 252 => 4 | 113 => 1 | 115 => 9 | 278 => 4 | 45 => 2 | 205 => 4 | 48 => 4 | 280 => 4 | 209 => 3 | 257 => 3 | 148 => 3 | 150 => 6 | 50 => 4 | 77 => 2 | 79 => 5 | 82 => 7 | 216 => 4 | 54 => 1 | 56 => 16 | 104 => 1 | 9 => 1 | _ => 0, encE⟩
def celE : (τ : Nat) → El τ → List (EV.Lf Un)
  | 119 => fun x => [.int .i64 x.Vendor, .int .i64 x.Serial, .int .i64 x.Seed, .int .i64 x.Counter]
  | 223 => fun x => [.int .i64 x.Index, .int .i64 x.Kind, .int .i64 x.Device, .int .i64 x.By, .int .i64 x.Previous, .int .i64 x.Signature]
  | 303 => fun x => [.int .i64 x.Site, .int .i64 x.Handle, .int .i64 x.Version, .bool x.Deleted]
  | 122 => fun x => [.sl 303 x.Entries]
  | 124 => fun x => [.int .i64 x.Store.Vendor, .int .i64 x.Store.Serial, .int .i64 x.Store.Seed, .int .i64 x.Store.Counter, .sl 223 x.Log, .int .i64 x.Key, .int .i64 x.Epoch, .int .i64 x.Version, .sl 303 x.Bundle.Entries]
  | 4 => fun x => [.bool x]
  | 5 => fun x => [.int .u8 x]
  | 272 => fun x => [.int .i64 x.To, .int .i64 x.Ephemeral, .sl 5 x.Data, .int .i64 x.MAC]
  | 27 => fun x => [.int .i64 x.Epoch, .sl 272 x.Boxes]
  | 198 => fun x => [.int .i64 x.Epoch, .int .i64 x.Version, .sl 5 x.Data, .int .i64 x.MAC]
  | 30 => fun x => [.sl 223 x.Log, .int .i64 x.Boxes.Epoch, .sl 272 x.Boxes.Boxes, .sl 198 x.History]
  | 314 => fun x => [.int .i64 x.Handle, .int .i64 x.Public, .int .i64 x.Counter, .bool x.Cut]
  | 276 => fun x => [.int .i64 x.Id, .int .i64 x.Minimum, .sl 314 x.Credentials]
  | 306 => fun x => [.int .i64 x.Id, .int .i64 x.Account, .int .i64 x.Until]
  | 132 => fun x => [.int .i64 x.Seed, .int .i64 x.Next, .sl 306 x.Open]
  | 3 => fun x => [.int .i64 x]
  | 134 => fun x => [.str x.Name, .sl 276 x.Accounts, .int .i64 x.Book.Seed, .int .i64 x.Book.Next, .sl 306 x.Book.Open, .sl 3 x.Logins]
  | 33 => fun x => [.int .i64 x.Salt, .int .i64 x.Threshold, .int .i64 x.Check, .int .i64 x.Masked]
  | 136 => fun x => [.int .i64 x.Index, .int .i64 x.Value]
  | 138 => fun x => [.int .i64 x.Share.Index, .int .i64 x.Share.Value, .int .i64 x.Epoch, .int .i64 x.Guesses, .int .i64 x.Limit]
  | 141 => fun x => [.int .i64 x.State.Share.Index, .int .i64 x.State.Share.Value, .int .i64 x.State.Epoch, .int .i64 x.State.Guesses, .int .i64 x.State.Limit, .sl 138 x.Saved, .int .i64 x.Monotonic]
  | 232 => fun x => [.int .i64 x.Kind, .int .i64 x.Account, .int .i64 x.Time, .bool x.Seen]
  | 37 => fun x => [.sl 232 x.Notices]
  | 39 => fun x => [.int .i64 x.Now, .int .i64 x.Seed, .sl 124 x.Devices, .sl 4 x.Stolen, .sl 223 x.Cloud.Log, .int .i64 x.Cloud.Boxes.Epoch, .sl 272 x.Cloud.Boxes.Boxes, .sl 198 x.Cloud.History, .sl 134 x.Sites, .int .i64 x.Vault.Salt, .int .i64 x.Vault.Threshold, .int .i64 x.Vault.Check, .int .i64 x.Vault.Masked, .sl 141 x.Hosts, .int .i64 x.Pin, .sl 232 x.Mail.Notices]
  | 110 => fun x => [.int .i64 x.Vendor, .int .i64 x.Serial, .int .i64 x.Seed, .int .i64 x.Counter]
  | 219 => fun x => [.int .i64 x.Index, .int .i64 x.Kind, .int .i64 x.Device, .int .i64 x.By, .int .i64 x.Previous, .int .i64 x.Signature]
  | 252 => fun x => [.int .i64 x.Site, .int .i64 x.Handle, .int .i64 x.Version, .bool x.Deleted]
  | 113 => fun x => [.sl 252 x.Entries]
  | 115 => fun x => [.int .i64 x.Store.Vendor, .int .i64 x.Store.Serial, .int .i64 x.Store.Seed, .int .i64 x.Store.Counter, .sl 219 x.Log, .int .i64 x.Key, .int .i64 x.Epoch, .int .i64 x.Version, .sl 252 x.Bundle.Entries]
  | 278 => fun x => [.int .i64 x.To, .int .i64 x.Ephemeral, .sl 5 x.Data, .int .i64 x.MAC]
  | 45 => fun x => [.int .i64 x.Epoch, .sl 278 x.Boxes]
  | 205 => fun x => [.int .i64 x.Epoch, .int .i64 x.Version, .sl 5 x.Data, .int .i64 x.MAC]
  | 48 => fun x => [.sl 219 x.Log, .int .i64 x.Boxes.Epoch, .sl 278 x.Boxes.Boxes, .sl 205 x.History]
  | 280 => fun x => [.int .i64 x.Handle, .int .i64 x.Public, .int .i64 x.Counter, .bool x.Cut]
  | 209 => fun x => [.int .i64 x.Id, .int .i64 x.Minimum, .sl 280 x.Credentials]
  | 257 => fun x => [.int .i64 x.Id, .int .i64 x.Account, .int .i64 x.Until]
  | 148 => fun x => [.int .i64 x.Seed, .int .i64 x.Next, .sl 257 x.Open]
  | 150 => fun x => [.str x.Name, .sl 209 x.Accounts, .int .i64 x.Book.Seed, .int .i64 x.Book.Next, .sl 257 x.Book.Open, .sl 3 x.Logins]
  | 50 => fun x => [.int .i64 x.Salt, .int .i64 x.Threshold, .int .i64 x.Check, .int .i64 x.Masked]
  | 77 => fun x => [.int .i64 x.Index, .int .i64 x.Value]
  | 79 => fun x => [.int .i64 x.Share.Index, .int .i64 x.Share.Value, .int .i64 x.Epoch, .int .i64 x.Guesses, .int .i64 x.Limit]
  | 82 => fun x => [.int .i64 x.State.Share.Index, .int .i64 x.State.Share.Value, .int .i64 x.State.Epoch, .int .i64 x.State.Guesses, .int .i64 x.State.Limit, .sl 79 x.Saved, .int .i64 x.Monotonic]
  | 216 => fun x => [.int .i64 x.Kind, .int .i64 x.Account, .int .i64 x.Time, .bool x.Seen]
  | 54 => fun x => [.sl 216 x.Notices]
  | 56 => fun x => [.int .i64 x.Now, .int .i64 x.Seed, .sl 115 x.Devices, .sl 4 x.Stolen, .sl 219 x.Cloud.Log, .int .i64 x.Cloud.Boxes.Epoch, .sl 278 x.Cloud.Boxes.Boxes, .sl 205 x.Cloud.History, .sl 150 x.Sites, .int .i64 x.Vault.Salt, .int .i64 x.Vault.Threshold, .int .i64 x.Vault.Check, .int .i64 x.Vault.Masked, .sl 82 x.Hosts, .int .i64 x.Pin, .sl 216 x.Mail.Notices]
  | 104 => fun x => [.sl 3 x]
  | 9 => fun x => [.str x]
  | _ => fun _ => []
def kdE : Nat → List EV.Kd
  | 119 => [.int .i64, .int .i64, .int .i64, .int .i64]
  | 223 => [.int .i64, .int .i64, .int .i64, .int .i64, .int .i64, .int .i64]
  | 303 => [.int .i64, .int .i64, .int .i64, .bool]
  | 122 => [.sl 303]
  | 124 => [.int .i64, .int .i64, .int .i64, .int .i64, .sl 223, .int .i64, .int .i64, .int .i64, .sl 303]
  | 4 => [.bool]
  | 5 => [.int .u8]
  | 272 => [.int .i64, .int .i64, .sl 5, .int .i64]
  | 27 => [.int .i64, .sl 272]
  | 198 => [.int .i64, .int .i64, .sl 5, .int .i64]
  | 30 => [.sl 223, .int .i64, .sl 272, .sl 198]
  | 314 => [.int .i64, .int .i64, .int .i64, .bool]
  | 276 => [.int .i64, .int .i64, .sl 314]
  | 306 => [.int .i64, .int .i64, .int .i64]
  | 132 => [.int .i64, .int .i64, .sl 306]
  | 3 => [.int .i64]
  | 134 => [.str, .sl 276, .int .i64, .int .i64, .sl 306, .sl 3]
  | 33 => [.int .i64, .int .i64, .int .i64, .int .i64]
  | 136 => [.int .i64, .int .i64]
  | 138 => [.int .i64, .int .i64, .int .i64, .int .i64, .int .i64]
  | 141 => [.int .i64, .int .i64, .int .i64, .int .i64, .int .i64, .sl 138, .int .i64]
  | 232 => [.int .i64, .int .i64, .int .i64, .bool]
  | 37 => [.sl 232]
  | 39 => [.int .i64, .int .i64, .sl 124, .sl 4, .sl 223, .int .i64, .sl 272, .sl 198, .sl 134, .int .i64, .int .i64, .int .i64, .int .i64, .sl 141, .int .i64, .sl 232]
  | 110 => [.int .i64, .int .i64, .int .i64, .int .i64]
  | 219 => [.int .i64, .int .i64, .int .i64, .int .i64, .int .i64, .int .i64]
  | 252 => [.int .i64, .int .i64, .int .i64, .bool]
  | 113 => [.sl 252]
  | 115 => [.int .i64, .int .i64, .int .i64, .int .i64, .sl 219, .int .i64, .int .i64, .int .i64, .sl 252]
  | 278 => [.int .i64, .int .i64, .sl 5, .int .i64]
  | 45 => [.int .i64, .sl 278]
  | 205 => [.int .i64, .int .i64, .sl 5, .int .i64]
  | 48 => [.sl 219, .int .i64, .sl 278, .sl 205]
  | 280 => [.int .i64, .int .i64, .int .i64, .bool]
  | 209 => [.int .i64, .int .i64, .sl 280]
  | 257 => [.int .i64, .int .i64, .int .i64]
  | 148 => [.int .i64, .int .i64, .sl 257]
  | 150 => [.str, .sl 209, .int .i64, .int .i64, .sl 257, .sl 3]
  | 50 => [.int .i64, .int .i64, .int .i64, .int .i64]
  | 77 => [.int .i64, .int .i64]
  | 79 => [.int .i64, .int .i64, .int .i64, .int .i64, .int .i64]
  | 82 => [.int .i64, .int .i64, .int .i64, .int .i64, .int .i64, .sl 79, .int .i64]
  | 216 => [.int .i64, .int .i64, .int .i64, .bool]
  | 54 => [.sl 216]
  | 56 => [.int .i64, .int .i64, .sl 115, .sl 4, .sl 219, .int .i64, .sl 278, .sl 205, .sl 150, .int .i64, .int .i64, .int .i64, .int .i64, .sl 82, .int .i64, .sl 216]
  | 104 => [.sl 3]
  | 9 => [.str]
  | _ => []
def bldE : (τ : Nat) → List (EV.Lf Un) → Option (El τ)
  | 119 => fun | [c0, c1, c2, c3] => bd (EV.lfTy (.int .i64) c0) fun a0 => bd (EV.lfTy (.int .i64) c1) fun a1 => bd (EV.lfTy (.int .i64) c2) fun a2 => bd (EV.lfTy (.int .i64) c3) fun a3 => some ⟨a0, a1, a2, a3⟩ | _ => none
  | 223 => fun | [c0, c1, c2, c3, c4, c5] => bd (EV.lfTy (.int .i64) c0) fun a0 => bd (EV.lfTy (.int .i64) c1) fun a1 => bd (EV.lfTy (.int .i64) c2) fun a2 => bd (EV.lfTy (.int .i64) c3) fun a3 => bd (EV.lfTy (.int .i64) c4) fun a4 => bd (EV.lfTy (.int .i64) c5) fun a5 => some ⟨a0, a1, a2, a3, a4, a5⟩ | _ => none
  | 303 => fun | [c0, c1, c2, c3] => bd (EV.lfTy (.int .i64) c0) fun a0 => bd (EV.lfTy (.int .i64) c1) fun a1 => bd (EV.lfTy (.int .i64) c2) fun a2 => bd (EV.lfTy (.bool) c3) fun a3 => some ⟨a0, a1, a2, a3⟩ | _ => none
  | 122 => fun | [c0] => bd (EV.lfTy (.sl 303) c0) fun a0 => some ⟨a0⟩ | _ => none
  | 124 => fun | [c0, c1, c2, c3, c4, c5, c6, c7, c8] => bd (EV.lfTy (.int .i64) c0) fun a0 => bd (EV.lfTy (.int .i64) c1) fun a1 => bd (EV.lfTy (.int .i64) c2) fun a2 => bd (EV.lfTy (.int .i64) c3) fun a3 => bd (EV.lfTy (.sl 223) c4) fun a4 => bd (EV.lfTy (.int .i64) c5) fun a5 => bd (EV.lfTy (.int .i64) c6) fun a6 => bd (EV.lfTy (.int .i64) c7) fun a7 => bd (EV.lfTy (.sl 303) c8) fun a8 => some ⟨⟨a0, a1, a2, a3⟩, a4, a5, a6, a7, ⟨a8⟩⟩ | _ => none
  | 4 => fun | [c0] => bd (EV.lfTy (.bool) c0) fun a0 => some a0 | _ => none
  | 5 => fun | [c0] => bd (EV.lfTy (.int .u8) c0) fun a0 => some a0 | _ => none
  | 272 => fun | [c0, c1, c2, c3] => bd (EV.lfTy (.int .i64) c0) fun a0 => bd (EV.lfTy (.int .i64) c1) fun a1 => bd (EV.lfTy (.sl 5) c2) fun a2 => bd (EV.lfTy (.int .i64) c3) fun a3 => some ⟨a0, a1, a2, a3⟩ | _ => none
  | 27 => fun | [c0, c1] => bd (EV.lfTy (.int .i64) c0) fun a0 => bd (EV.lfTy (.sl 272) c1) fun a1 => some ⟨a0, a1⟩ | _ => none
  | 198 => fun | [c0, c1, c2, c3] => bd (EV.lfTy (.int .i64) c0) fun a0 => bd (EV.lfTy (.int .i64) c1) fun a1 => bd (EV.lfTy (.sl 5) c2) fun a2 => bd (EV.lfTy (.int .i64) c3) fun a3 => some ⟨a0, a1, a2, a3⟩ | _ => none
  | 30 => fun | [c0, c1, c2, c3] => bd (EV.lfTy (.sl 223) c0) fun a0 => bd (EV.lfTy (.int .i64) c1) fun a1 => bd (EV.lfTy (.sl 272) c2) fun a2 => bd (EV.lfTy (.sl 198) c3) fun a3 => some ⟨a0, ⟨a1, a2⟩, a3⟩ | _ => none
  | 314 => fun | [c0, c1, c2, c3] => bd (EV.lfTy (.int .i64) c0) fun a0 => bd (EV.lfTy (.int .i64) c1) fun a1 => bd (EV.lfTy (.int .i64) c2) fun a2 => bd (EV.lfTy (.bool) c3) fun a3 => some ⟨a0, a1, a2, a3⟩ | _ => none
  | 276 => fun | [c0, c1, c2] => bd (EV.lfTy (.int .i64) c0) fun a0 => bd (EV.lfTy (.int .i64) c1) fun a1 => bd (EV.lfTy (.sl 314) c2) fun a2 => some ⟨a0, a1, a2⟩ | _ => none
  | 306 => fun | [c0, c1, c2] => bd (EV.lfTy (.int .i64) c0) fun a0 => bd (EV.lfTy (.int .i64) c1) fun a1 => bd (EV.lfTy (.int .i64) c2) fun a2 => some ⟨a0, a1, a2⟩ | _ => none
  | 132 => fun | [c0, c1, c2] => bd (EV.lfTy (.int .i64) c0) fun a0 => bd (EV.lfTy (.int .i64) c1) fun a1 => bd (EV.lfTy (.sl 306) c2) fun a2 => some ⟨a0, a1, a2⟩ | _ => none
  | 3 => fun | [c0] => bd (EV.lfTy (.int .i64) c0) fun a0 => some a0 | _ => none
  | 134 => fun | [c0, c1, c2, c3, c4, c5] => bd (EV.lfTy (.str) c0) fun a0 => bd (EV.lfTy (.sl 276) c1) fun a1 => bd (EV.lfTy (.int .i64) c2) fun a2 => bd (EV.lfTy (.int .i64) c3) fun a3 => bd (EV.lfTy (.sl 306) c4) fun a4 => bd (EV.lfTy (.sl 3) c5) fun a5 => some ⟨a0, a1, ⟨a2, a3, a4⟩, a5⟩ | _ => none
  | 33 => fun | [c0, c1, c2, c3] => bd (EV.lfTy (.int .i64) c0) fun a0 => bd (EV.lfTy (.int .i64) c1) fun a1 => bd (EV.lfTy (.int .i64) c2) fun a2 => bd (EV.lfTy (.int .i64) c3) fun a3 => some ⟨a0, a1, a2, a3⟩ | _ => none
  | 136 => fun | [c0, c1] => bd (EV.lfTy (.int .i64) c0) fun a0 => bd (EV.lfTy (.int .i64) c1) fun a1 => some ⟨a0, a1⟩ | _ => none
  | 138 => fun | [c0, c1, c2, c3, c4] => bd (EV.lfTy (.int .i64) c0) fun a0 => bd (EV.lfTy (.int .i64) c1) fun a1 => bd (EV.lfTy (.int .i64) c2) fun a2 => bd (EV.lfTy (.int .i64) c3) fun a3 => bd (EV.lfTy (.int .i64) c4) fun a4 => some ⟨⟨a0, a1⟩, a2, a3, a4⟩ | _ => none
  | 141 => fun | [c0, c1, c2, c3, c4, c5, c6] => bd (EV.lfTy (.int .i64) c0) fun a0 => bd (EV.lfTy (.int .i64) c1) fun a1 => bd (EV.lfTy (.int .i64) c2) fun a2 => bd (EV.lfTy (.int .i64) c3) fun a3 => bd (EV.lfTy (.int .i64) c4) fun a4 => bd (EV.lfTy (.sl 138) c5) fun a5 => bd (EV.lfTy (.int .i64) c6) fun a6 => some ⟨⟨⟨a0, a1⟩, a2, a3, a4⟩, a5, a6⟩ | _ => none
  | 232 => fun | [c0, c1, c2, c3] => bd (EV.lfTy (.int .i64) c0) fun a0 => bd (EV.lfTy (.int .i64) c1) fun a1 => bd (EV.lfTy (.int .i64) c2) fun a2 => bd (EV.lfTy (.bool) c3) fun a3 => some ⟨a0, a1, a2, a3⟩ | _ => none
  | 37 => fun | [c0] => bd (EV.lfTy (.sl 232) c0) fun a0 => some ⟨a0⟩ | _ => none
  | 39 => fun | [c0, c1, c2, c3, c4, c5, c6, c7, c8, c9, c10, c11, c12, c13, c14, c15] => bd (EV.lfTy (.int .i64) c0) fun a0 => bd (EV.lfTy (.int .i64) c1) fun a1 => bd (EV.lfTy (.sl 124) c2) fun a2 => bd (EV.lfTy (.sl 4) c3) fun a3 => bd (EV.lfTy (.sl 223) c4) fun a4 => bd (EV.lfTy (.int .i64) c5) fun a5 => bd (EV.lfTy (.sl 272) c6) fun a6 => bd (EV.lfTy (.sl 198) c7) fun a7 => bd (EV.lfTy (.sl 134) c8) fun a8 => bd (EV.lfTy (.int .i64) c9) fun a9 => bd (EV.lfTy (.int .i64) c10) fun a10 => bd (EV.lfTy (.int .i64) c11) fun a11 => bd (EV.lfTy (.int .i64) c12) fun a12 => bd (EV.lfTy (.sl 141) c13) fun a13 => bd (EV.lfTy (.int .i64) c14) fun a14 => bd (EV.lfTy (.sl 232) c15) fun a15 => some ⟨a0, a1, a2, a3, ⟨a4, ⟨a5, a6⟩, a7⟩, a8, ⟨a9, a10, a11, a12⟩, a13, a14, ⟨a15⟩⟩ | _ => none
  | 110 => fun | [c0, c1, c2, c3] => bd (EV.lfTy (.int .i64) c0) fun a0 => bd (EV.lfTy (.int .i64) c1) fun a1 => bd (EV.lfTy (.int .i64) c2) fun a2 => bd (EV.lfTy (.int .i64) c3) fun a3 => some ⟨a0, a1, a2, a3⟩ | _ => none
  | 219 => fun | [c0, c1, c2, c3, c4, c5] => bd (EV.lfTy (.int .i64) c0) fun a0 => bd (EV.lfTy (.int .i64) c1) fun a1 => bd (EV.lfTy (.int .i64) c2) fun a2 => bd (EV.lfTy (.int .i64) c3) fun a3 => bd (EV.lfTy (.int .i64) c4) fun a4 => bd (EV.lfTy (.int .i64) c5) fun a5 => some ⟨a0, a1, a2, a3, a4, a5⟩ | _ => none
  | 252 => fun | [c0, c1, c2, c3] => bd (EV.lfTy (.int .i64) c0) fun a0 => bd (EV.lfTy (.int .i64) c1) fun a1 => bd (EV.lfTy (.int .i64) c2) fun a2 => bd (EV.lfTy (.bool) c3) fun a3 => some ⟨a0, a1, a2, a3⟩ | _ => none
  | 113 => fun | [c0] => bd (EV.lfTy (.sl 252) c0) fun a0 => some ⟨a0⟩ | _ => none
  | 115 => fun | [c0, c1, c2, c3, c4, c5, c6, c7, c8] => bd (EV.lfTy (.int .i64) c0) fun a0 => bd (EV.lfTy (.int .i64) c1) fun a1 => bd (EV.lfTy (.int .i64) c2) fun a2 => bd (EV.lfTy (.int .i64) c3) fun a3 => bd (EV.lfTy (.sl 219) c4) fun a4 => bd (EV.lfTy (.int .i64) c5) fun a5 => bd (EV.lfTy (.int .i64) c6) fun a6 => bd (EV.lfTy (.int .i64) c7) fun a7 => bd (EV.lfTy (.sl 252) c8) fun a8 => some ⟨⟨a0, a1, a2, a3⟩, a4, a5, a6, a7, ⟨a8⟩⟩ | _ => none
  | 278 => fun | [c0, c1, c2, c3] => bd (EV.lfTy (.int .i64) c0) fun a0 => bd (EV.lfTy (.int .i64) c1) fun a1 => bd (EV.lfTy (.sl 5) c2) fun a2 => bd (EV.lfTy (.int .i64) c3) fun a3 => some ⟨a0, a1, a2, a3⟩ | _ => none
  | 45 => fun | [c0, c1] => bd (EV.lfTy (.int .i64) c0) fun a0 => bd (EV.lfTy (.sl 278) c1) fun a1 => some ⟨a0, a1⟩ | _ => none
  | 205 => fun | [c0, c1, c2, c3] => bd (EV.lfTy (.int .i64) c0) fun a0 => bd (EV.lfTy (.int .i64) c1) fun a1 => bd (EV.lfTy (.sl 5) c2) fun a2 => bd (EV.lfTy (.int .i64) c3) fun a3 => some ⟨a0, a1, a2, a3⟩ | _ => none
  | 48 => fun | [c0, c1, c2, c3] => bd (EV.lfTy (.sl 219) c0) fun a0 => bd (EV.lfTy (.int .i64) c1) fun a1 => bd (EV.lfTy (.sl 278) c2) fun a2 => bd (EV.lfTy (.sl 205) c3) fun a3 => some ⟨a0, ⟨a1, a2⟩, a3⟩ | _ => none
  | 280 => fun | [c0, c1, c2, c3] => bd (EV.lfTy (.int .i64) c0) fun a0 => bd (EV.lfTy (.int .i64) c1) fun a1 => bd (EV.lfTy (.int .i64) c2) fun a2 => bd (EV.lfTy (.bool) c3) fun a3 => some ⟨a0, a1, a2, a3⟩ | _ => none
  | 209 => fun | [c0, c1, c2] => bd (EV.lfTy (.int .i64) c0) fun a0 => bd (EV.lfTy (.int .i64) c1) fun a1 => bd (EV.lfTy (.sl 280) c2) fun a2 => some ⟨a0, a1, a2⟩ | _ => none
  | 257 => fun | [c0, c1, c2] => bd (EV.lfTy (.int .i64) c0) fun a0 => bd (EV.lfTy (.int .i64) c1) fun a1 => bd (EV.lfTy (.int .i64) c2) fun a2 => some ⟨a0, a1, a2⟩ | _ => none
  | 148 => fun | [c0, c1, c2] => bd (EV.lfTy (.int .i64) c0) fun a0 => bd (EV.lfTy (.int .i64) c1) fun a1 => bd (EV.lfTy (.sl 257) c2) fun a2 => some ⟨a0, a1, a2⟩ | _ => none
  | 150 => fun | [c0, c1, c2, c3, c4, c5] => bd (EV.lfTy (.str) c0) fun a0 => bd (EV.lfTy (.sl 209) c1) fun a1 => bd (EV.lfTy (.int .i64) c2) fun a2 => bd (EV.lfTy (.int .i64) c3) fun a3 => bd (EV.lfTy (.sl 257) c4) fun a4 => bd (EV.lfTy (.sl 3) c5) fun a5 => some ⟨a0, a1, ⟨a2, a3, a4⟩, a5⟩ | _ => none
  | 50 => fun | [c0, c1, c2, c3] => bd (EV.lfTy (.int .i64) c0) fun a0 => bd (EV.lfTy (.int .i64) c1) fun a1 => bd (EV.lfTy (.int .i64) c2) fun a2 => bd (EV.lfTy (.int .i64) c3) fun a3 => some ⟨a0, a1, a2, a3⟩ | _ => none
  | 77 => fun | [c0, c1] => bd (EV.lfTy (.int .i64) c0) fun a0 => bd (EV.lfTy (.int .i64) c1) fun a1 => some ⟨a0, a1⟩ | _ => none
  | 79 => fun | [c0, c1, c2, c3, c4] => bd (EV.lfTy (.int .i64) c0) fun a0 => bd (EV.lfTy (.int .i64) c1) fun a1 => bd (EV.lfTy (.int .i64) c2) fun a2 => bd (EV.lfTy (.int .i64) c3) fun a3 => bd (EV.lfTy (.int .i64) c4) fun a4 => some ⟨⟨a0, a1⟩, a2, a3, a4⟩ | _ => none
  | 82 => fun | [c0, c1, c2, c3, c4, c5, c6] => bd (EV.lfTy (.int .i64) c0) fun a0 => bd (EV.lfTy (.int .i64) c1) fun a1 => bd (EV.lfTy (.int .i64) c2) fun a2 => bd (EV.lfTy (.int .i64) c3) fun a3 => bd (EV.lfTy (.int .i64) c4) fun a4 => bd (EV.lfTy (.sl 79) c5) fun a5 => bd (EV.lfTy (.int .i64) c6) fun a6 => some ⟨⟨⟨a0, a1⟩, a2, a3, a4⟩, a5, a6⟩ | _ => none
  | 216 => fun | [c0, c1, c2, c3] => bd (EV.lfTy (.int .i64) c0) fun a0 => bd (EV.lfTy (.int .i64) c1) fun a1 => bd (EV.lfTy (.int .i64) c2) fun a2 => bd (EV.lfTy (.bool) c3) fun a3 => some ⟨a0, a1, a2, a3⟩ | _ => none
  | 54 => fun | [c0] => bd (EV.lfTy (.sl 216) c0) fun a0 => some ⟨a0⟩ | _ => none
  | 56 => fun | [c0, c1, c2, c3, c4, c5, c6, c7, c8, c9, c10, c11, c12, c13, c14, c15] => bd (EV.lfTy (.int .i64) c0) fun a0 => bd (EV.lfTy (.int .i64) c1) fun a1 => bd (EV.lfTy (.sl 115) c2) fun a2 => bd (EV.lfTy (.sl 4) c3) fun a3 => bd (EV.lfTy (.sl 219) c4) fun a4 => bd (EV.lfTy (.int .i64) c5) fun a5 => bd (EV.lfTy (.sl 278) c6) fun a6 => bd (EV.lfTy (.sl 205) c7) fun a7 => bd (EV.lfTy (.sl 150) c8) fun a8 => bd (EV.lfTy (.int .i64) c9) fun a9 => bd (EV.lfTy (.int .i64) c10) fun a10 => bd (EV.lfTy (.int .i64) c11) fun a11 => bd (EV.lfTy (.int .i64) c12) fun a12 => bd (EV.lfTy (.sl 82) c13) fun a13 => bd (EV.lfTy (.int .i64) c14) fun a14 => bd (EV.lfTy (.sl 216) c15) fun a15 => some ⟨a0, a1, a2, a3, ⟨a4, ⟨a5, a6⟩, a7⟩, a8, ⟨a9, a10, a11, a12⟩, a13, a14, ⟨a15⟩⟩ | _ => none
  | 104 => fun | [c0] => bd (EV.lfTy (.sl 3) c0) fun a0 => some a0 | _ => none
  | 9 => fun | [c0] => bd (EV.lfTy (.str) c0) fun a0 => some a0 | _ => none
  | _ => fun _ => none
def TI : List (Nat × EV.TInfo) := [
  (3, ⟨.int .i64, 1, [.int .i64]⟩),
  (4, ⟨.bool, 1, [.bool]⟩),
  (5, ⟨.int .u8, 1, [.int .u8]⟩),
  (9, ⟨.str, 1, [.str]⟩),
  (22, ⟨.sl 124 9 104, 1, [.nil]⟩),
  (23, ⟨.sl 4 1 1, 1, [.nil]⟩),
  (24, ⟨.sl 223 6 48, 1, [.nil]⟩),
  (25, ⟨.sl 272 4 48, 1, [.nil]⟩),
  (27, ⟨.st [(0, 3, 1), (1, 25, 1)], 2, [.int .i64, .nil]⟩),
  (28, ⟨.sl 198 4 48, 1, [.nil]⟩),
  (30, ⟨.st [(0, 24, 1), (1, 27, 2), (3, 28, 1)], 4, [.nil, .int .i64, .nil, .nil]⟩),
  (31, ⟨.sl 134 6 104, 1, [.nil]⟩),
  (33, ⟨.st [(0, 3, 1), (1, 3, 1), (2, 3, 1), (3, 3, 1)], 4, [.int .i64, .int .i64, .int .i64, .int .i64]⟩),
  (34, ⟨.sl 141 7 72, 1, [.nil]⟩),
  (35, ⟨.sl 232 4 32, 1, [.nil]⟩),
  (37, ⟨.st [(0, 35, 1)], 1, [.nil]⟩),
  (39, ⟨.st [(0, 3, 1), (1, 3, 1), (2, 22, 1), (3, 23, 1), (4, 30, 4), (8, 31, 1), (9, 33, 4), (13, 34, 1), (14, 3, 1), (15, 37, 1)], 16, [.int .i64, .int .i64, .nil, .nil, .nil, .int .i64, .nil, .nil, .nil, .int .i64, .int .i64, .int .i64, .int .i64, .nil, .int .i64, .nil]⟩),
  (41, ⟨.sl 115 9 104, 1, [.nil]⟩),
  (42, ⟨.sl 219 6 48, 1, [.nil]⟩),
  (43, ⟨.sl 278 4 48, 1, [.nil]⟩),
  (45, ⟨.st [(0, 3, 1), (1, 43, 1)], 2, [.int .i64, .nil]⟩),
  (46, ⟨.sl 205 4 48, 1, [.nil]⟩),
  (48, ⟨.st [(0, 42, 1), (1, 45, 2), (3, 46, 1)], 4, [.nil, .int .i64, .nil, .nil]⟩),
  (49, ⟨.sl 150 6 104, 1, [.nil]⟩),
  (50, ⟨.st [(0, 3, 1), (1, 3, 1), (2, 3, 1), (3, 3, 1)], 4, [.int .i64, .int .i64, .int .i64, .int .i64]⟩),
  (51, ⟨.sl 82 7 72, 1, [.nil]⟩),
  (52, ⟨.sl 216 4 32, 1, [.nil]⟩),
  (54, ⟨.st [(0, 52, 1)], 1, [.nil]⟩),
  (56, ⟨.st [(0, 3, 1), (1, 3, 1), (2, 41, 1), (3, 23, 1), (4, 48, 4), (8, 49, 1), (9, 50, 4), (13, 51, 1), (14, 3, 1), (15, 54, 1)], 16, [.int .i64, .int .i64, .nil, .nil, .nil, .int .i64, .nil, .nil, .nil, .int .i64, .int .i64, .int .i64, .int .i64, .nil, .int .i64, .nil]⟩),
  (77, ⟨.st [(0, 3, 1), (1, 3, 1)], 2, [.int .i64, .int .i64]⟩),
  (79, ⟨.st [(0, 77, 2), (2, 3, 1), (3, 3, 1), (4, 3, 1)], 5, [.int .i64, .int .i64, .int .i64, .int .i64, .int .i64]⟩),
  (80, ⟨.sl 79 5 40, 1, [.nil]⟩),
  (82, ⟨.st [(0, 79, 5), (5, 80, 1), (6, 3, 1)], 7, [.int .i64, .int .i64, .int .i64, .int .i64, .int .i64, .nil, .int .i64]⟩),
  (104, ⟨.sl 3 1 8, 1, [.nil]⟩),
  (110, ⟨.st [(0, 3, 1), (1, 3, 1), (2, 3, 1), (3, 3, 1)], 4, [.int .i64, .int .i64, .int .i64, .int .i64]⟩),
  (111, ⟨.sl 252 4 32, 1, [.nil]⟩),
  (113, ⟨.st [(0, 111, 1)], 1, [.nil]⟩),
  (115, ⟨.st [(0, 110, 4), (4, 42, 1), (5, 3, 1), (6, 3, 1), (7, 3, 1), (8, 113, 1)], 9, [.int .i64, .int .i64, .int .i64, .int .i64, .nil, .int .i64, .int .i64, .int .i64, .nil]⟩),
  (119, ⟨.st [(0, 3, 1), (1, 3, 1), (2, 3, 1), (3, 3, 1)], 4, [.int .i64, .int .i64, .int .i64, .int .i64]⟩),
  (120, ⟨.sl 303 4 32, 1, [.nil]⟩),
  (122, ⟨.st [(0, 120, 1)], 1, [.nil]⟩),
  (124, ⟨.st [(0, 119, 4), (4, 24, 1), (5, 3, 1), (6, 3, 1), (7, 3, 1), (8, 122, 1)], 9, [.int .i64, .int .i64, .int .i64, .int .i64, .nil, .int .i64, .int .i64, .int .i64, .nil]⟩),
  (129, ⟨.sl 276 3 40, 1, [.nil]⟩),
  (130, ⟨.sl 306 3 24, 1, [.nil]⟩),
  (132, ⟨.st [(0, 3, 1), (1, 3, 1), (2, 130, 1)], 3, [.int .i64, .int .i64, .nil]⟩),
  (134, ⟨.st [(0, 9, 1), (1, 129, 1), (2, 132, 3), (5, 104, 1)], 6, [.str, .nil, .int .i64, .int .i64, .nil, .nil]⟩),
  (136, ⟨.st [(0, 3, 1), (1, 3, 1)], 2, [.int .i64, .int .i64]⟩),
  (138, ⟨.st [(0, 136, 2), (2, 3, 1), (3, 3, 1), (4, 3, 1)], 5, [.int .i64, .int .i64, .int .i64, .int .i64, .int .i64]⟩),
  (139, ⟨.sl 138 5 40, 1, [.nil]⟩),
  (141, ⟨.st [(0, 138, 5), (5, 139, 1), (6, 3, 1)], 7, [.int .i64, .int .i64, .int .i64, .int .i64, .int .i64, .nil, .int .i64]⟩),
  (145, ⟨.sl 209 3 40, 1, [.nil]⟩),
  (146, ⟨.sl 257 3 24, 1, [.nil]⟩),
  (148, ⟨.st [(0, 3, 1), (1, 3, 1), (2, 146, 1)], 3, [.int .i64, .int .i64, .nil]⟩),
  (150, ⟨.st [(0, 9, 1), (1, 145, 1), (2, 148, 3), (5, 104, 1)], 6, [.str, .nil, .int .i64, .int .i64, .nil, .nil]⟩),
  (184, ⟨.sl 77 2 16, 1, [.nil]⟩),
  (196, ⟨.sl 5 1 1, 1, [.nil]⟩),
  (198, ⟨.st [(0, 3, 1), (1, 3, 1), (2, 196, 1), (3, 3, 1)], 4, [.int .i64, .int .i64, .nil, .int .i64]⟩),
  (205, ⟨.st [(0, 3, 1), (1, 3, 1), (2, 196, 1), (3, 3, 1)], 4, [.int .i64, .int .i64, .nil, .int .i64]⟩),
  (207, ⟨.sl 280 4 32, 1, [.nil]⟩),
  (209, ⟨.st [(0, 3, 1), (1, 3, 1), (2, 207, 1)], 3, [.int .i64, .int .i64, .nil]⟩),
  (216, ⟨.st [(0, 3, 1), (1, 3, 1), (2, 3, 1), (3, 4, 1)], 4, [.int .i64, .int .i64, .int .i64, .bool]⟩),
  (219, ⟨.st [(0, 3, 1), (1, 3, 1), (2, 3, 1), (3, 3, 1), (4, 3, 1), (5, 3, 1)], 6, [.int .i64, .int .i64, .int .i64, .int .i64, .int .i64, .int .i64]⟩),
  (223, ⟨.st [(0, 3, 1), (1, 3, 1), (2, 3, 1), (3, 3, 1), (4, 3, 1), (5, 3, 1)], 6, [.int .i64, .int .i64, .int .i64, .int .i64, .int .i64, .int .i64]⟩),
  (232, ⟨.st [(0, 3, 1), (1, 3, 1), (2, 3, 1), (3, 4, 1)], 4, [.int .i64, .int .i64, .int .i64, .bool]⟩),
  (252, ⟨.st [(0, 3, 1), (1, 3, 1), (2, 3, 1), (3, 4, 1)], 4, [.int .i64, .int .i64, .int .i64, .bool]⟩),
  (257, ⟨.st [(0, 3, 1), (1, 3, 1), (2, 3, 1)], 3, [.int .i64, .int .i64, .int .i64]⟩),
  (263, ⟨.sl 104 1 24, 1, [.nil]⟩),
  (272, ⟨.st [(0, 3, 1), (1, 3, 1), (2, 196, 1), (3, 3, 1)], 4, [.int .i64, .int .i64, .nil, .int .i64]⟩),
  (274, ⟨.sl 314 4 32, 1, [.nil]⟩),
  (276, ⟨.st [(0, 3, 1), (1, 3, 1), (2, 274, 1)], 3, [.int .i64, .int .i64, .nil]⟩),
  (278, ⟨.st [(0, 3, 1), (1, 3, 1), (2, 196, 1), (3, 3, 1)], 4, [.int .i64, .int .i64, .nil, .int .i64]⟩),
  (280, ⟨.st [(0, 3, 1), (1, 3, 1), (2, 3, 1), (3, 4, 1)], 4, [.int .i64, .int .i64, .int .i64, .bool]⟩),
  (282, ⟨.sl 9 1 16, 1, [.nil]⟩),
  (298, ⟨.st [], 8, [.bool, .bool, .bool, .bool, .bool, .bool, .bool, .bool]⟩),
  (303, ⟨.st [(0, 3, 1), (1, 3, 1), (2, 3, 1), (3, 4, 1)], 4, [.int .i64, .int .i64, .int .i64, .bool]⟩),
  (306, ⟨.st [(0, 3, 1), (1, 3, 1), (2, 3, 1)], 3, [.int .i64, .int .i64, .int .i64]⟩),
  (314, ⟨.st [(0, 3, 1), (1, 3, 1), (2, 3, 1), (3, 4, 1)], 4, [.int .i64, .int .i64, .int .i64, .bool]⟩)]
theorem El_none (n : Nat) (h119 : n ≠ 119) (h223 : n ≠ 223) (h303 : n ≠ 303) (h122 : n ≠ 122) (h124 : n ≠ 124) (h4 : n ≠ 4) (h5 : n ≠ 5) (h272 : n ≠ 272) (h27 : n ≠ 27) (h198 : n ≠ 198) (h30 : n ≠ 30) (h314 : n ≠ 314) (h276 : n ≠ 276) (h306 : n ≠ 306) (h132 : n ≠ 132) (h3 : n ≠ 3) (h134 : n ≠ 134) (h33 : n ≠ 33) (h136 : n ≠ 136) (h138 : n ≠ 138) (h141 : n ≠ 141) (h232 : n ≠ 232) (h37 : n ≠ 37) (h39 : n ≠ 39) (h110 : n ≠ 110) (h219 : n ≠ 219) (h252 : n ≠ 252) (h113 : n ≠ 113) (h115 : n ≠ 115) (h278 : n ≠ 278) (h45 : n ≠ 45) (h205 : n ≠ 205) (h48 : n ≠ 48) (h280 : n ≠ 280) (h209 : n ≠ 209) (h257 : n ≠ 257) (h148 : n ≠ 148) (h150 : n ≠ 150) (h50 : n ≠ 50) (h77 : n ≠ 77) (h79 : n ≠ 79) (h82 : n ≠ 82) (h216 : n ≠ 216) (h54 : n ≠ 54) (h56 : n ≠ 56) (h104 : n ≠ 104) (h9 : n ≠ 9) : El n = Empty := by
  unfold El
  split <;> first | contradiction | rfl
theorem hc1 : ∀ (τ : Nat) (x : El τ), (celE τ x).map EV.Lf.toV = encE τ x := by
  intro τ x
  by_cases h119 : τ = 119
  · subst h119; rfl
  by_cases h223 : τ = 223
  · subst h223; rfl
  by_cases h303 : τ = 303
  · subst h303; rfl
  by_cases h122 : τ = 122
  · subst h122; rfl
  by_cases h124 : τ = 124
  · subst h124; rfl
  by_cases h4 : τ = 4
  · subst h4; rfl
  by_cases h5 : τ = 5
  · subst h5; rfl
  by_cases h272 : τ = 272
  · subst h272; rfl
  by_cases h27 : τ = 27
  · subst h27; rfl
  by_cases h198 : τ = 198
  · subst h198; rfl
  by_cases h30 : τ = 30
  · subst h30; rfl
  by_cases h314 : τ = 314
  · subst h314; rfl
  by_cases h276 : τ = 276
  · subst h276; rfl
  by_cases h306 : τ = 306
  · subst h306; rfl
  by_cases h132 : τ = 132
  · subst h132; rfl
  by_cases h3 : τ = 3
  · subst h3; rfl
  by_cases h134 : τ = 134
  · subst h134; rfl
  by_cases h33 : τ = 33
  · subst h33; rfl
  by_cases h136 : τ = 136
  · subst h136; rfl
  by_cases h138 : τ = 138
  · subst h138; rfl
  by_cases h141 : τ = 141
  · subst h141; rfl
  by_cases h232 : τ = 232
  · subst h232; rfl
  by_cases h37 : τ = 37
  · subst h37; rfl
  by_cases h39 : τ = 39
  · subst h39; rfl
  by_cases h110 : τ = 110
  · subst h110; rfl
  by_cases h219 : τ = 219
  · subst h219; rfl
  by_cases h252 : τ = 252
  · subst h252; rfl
  by_cases h113 : τ = 113
  · subst h113; rfl
  by_cases h115 : τ = 115
  · subst h115; rfl
  by_cases h278 : τ = 278
  · subst h278; rfl
  by_cases h45 : τ = 45
  · subst h45; rfl
  by_cases h205 : τ = 205
  · subst h205; rfl
  by_cases h48 : τ = 48
  · subst h48; rfl
  by_cases h280 : τ = 280
  · subst h280; rfl
  by_cases h209 : τ = 209
  · subst h209; rfl
  by_cases h257 : τ = 257
  · subst h257; rfl
  by_cases h148 : τ = 148
  · subst h148; rfl
  by_cases h150 : τ = 150
  · subst h150; rfl
  by_cases h50 : τ = 50
  · subst h50; rfl
  by_cases h77 : τ = 77
  · subst h77; rfl
  by_cases h79 : τ = 79
  · subst h79; rfl
  by_cases h82 : τ = 82
  · subst h82; rfl
  by_cases h216 : τ = 216
  · subst h216; rfl
  by_cases h54 : τ = 54
  · subst h54; rfl
  by_cases h56 : τ = 56
  · subst h56; rfl
  by_cases h104 : τ = 104
  · subst h104; rfl
  by_cases h9 : τ = 9
  · subst h9; rfl
  exact (cast (El_none τ h119 h223 h303 h122 h124 h4 h5 h272 h27 h198 h30 h314 h276 h306 h132 h3 h134 h33 h136 h138 h141 h232 h37 h39 h110 h219 h252 h113 h115 h278 h45 h205 h48 h280 h209 h257 h148 h150 h50 h77 h79 h82 h216 h54 h56 h104 h9) x).elim
theorem hc2 : ∀ (τ : Nat) (x : El τ), (celE τ x).length = Un.K τ := by
  intro τ x
  by_cases h119 : τ = 119
  · subst h119; rfl
  by_cases h223 : τ = 223
  · subst h223; rfl
  by_cases h303 : τ = 303
  · subst h303; rfl
  by_cases h122 : τ = 122
  · subst h122; rfl
  by_cases h124 : τ = 124
  · subst h124; rfl
  by_cases h4 : τ = 4
  · subst h4; rfl
  by_cases h5 : τ = 5
  · subst h5; rfl
  by_cases h272 : τ = 272
  · subst h272; rfl
  by_cases h27 : τ = 27
  · subst h27; rfl
  by_cases h198 : τ = 198
  · subst h198; rfl
  by_cases h30 : τ = 30
  · subst h30; rfl
  by_cases h314 : τ = 314
  · subst h314; rfl
  by_cases h276 : τ = 276
  · subst h276; rfl
  by_cases h306 : τ = 306
  · subst h306; rfl
  by_cases h132 : τ = 132
  · subst h132; rfl
  by_cases h3 : τ = 3
  · subst h3; rfl
  by_cases h134 : τ = 134
  · subst h134; rfl
  by_cases h33 : τ = 33
  · subst h33; rfl
  by_cases h136 : τ = 136
  · subst h136; rfl
  by_cases h138 : τ = 138
  · subst h138; rfl
  by_cases h141 : τ = 141
  · subst h141; rfl
  by_cases h232 : τ = 232
  · subst h232; rfl
  by_cases h37 : τ = 37
  · subst h37; rfl
  by_cases h39 : τ = 39
  · subst h39; rfl
  by_cases h110 : τ = 110
  · subst h110; rfl
  by_cases h219 : τ = 219
  · subst h219; rfl
  by_cases h252 : τ = 252
  · subst h252; rfl
  by_cases h113 : τ = 113
  · subst h113; rfl
  by_cases h115 : τ = 115
  · subst h115; rfl
  by_cases h278 : τ = 278
  · subst h278; rfl
  by_cases h45 : τ = 45
  · subst h45; rfl
  by_cases h205 : τ = 205
  · subst h205; rfl
  by_cases h48 : τ = 48
  · subst h48; rfl
  by_cases h280 : τ = 280
  · subst h280; rfl
  by_cases h209 : τ = 209
  · subst h209; rfl
  by_cases h257 : τ = 257
  · subst h257; rfl
  by_cases h148 : τ = 148
  · subst h148; rfl
  by_cases h150 : τ = 150
  · subst h150; rfl
  by_cases h50 : τ = 50
  · subst h50; rfl
  by_cases h77 : τ = 77
  · subst h77; rfl
  by_cases h79 : τ = 79
  · subst h79; rfl
  by_cases h82 : τ = 82
  · subst h82; rfl
  by_cases h216 : τ = 216
  · subst h216; rfl
  by_cases h54 : τ = 54
  · subst h54; rfl
  by_cases h56 : τ = 56
  · subst h56; rfl
  by_cases h104 : τ = 104
  · subst h104; rfl
  by_cases h9 : τ = 9
  · subst h9; rfl
  exact (cast (El_none τ h119 h223 h303 h122 h124 h4 h5 h272 h27 h198 h30 h314 h276 h306 h132 h3 h134 h33 h136 h138 h141 h232 h37 h39 h110 h219 h252 h113 h115 h278 h45 h205 h48 h280 h209 h257 h148 h150 h50 h77 h79 h82 h216 h54 h56 h104 h9) x).elim
theorem hc3 : ∀ (τ : Nat) (x : El τ) (c : EV.Lf Un), c ∈ celE τ x → c.isData = true := by
  intro τ x c hc
  by_cases h119 : τ = 119
  · subst h119; simp only [celE, List.mem_cons, List.not_mem_nil, or_false] at hc; rcases hc with rfl | rfl | rfl | rfl <;> rfl
  by_cases h223 : τ = 223
  · subst h223; simp only [celE, List.mem_cons, List.not_mem_nil, or_false] at hc; rcases hc with rfl | rfl | rfl | rfl | rfl | rfl <;> rfl
  by_cases h303 : τ = 303
  · subst h303; simp only [celE, List.mem_cons, List.not_mem_nil, or_false] at hc; rcases hc with rfl | rfl | rfl | rfl <;> rfl
  by_cases h122 : τ = 122
  · subst h122; simp only [celE, List.mem_cons, List.not_mem_nil, or_false] at hc; rcases hc with rfl <;> rfl
  by_cases h124 : τ = 124
  · subst h124; simp only [celE, List.mem_cons, List.not_mem_nil, or_false] at hc; rcases hc with rfl | rfl | rfl | rfl | rfl | rfl | rfl | rfl | rfl <;> rfl
  by_cases h4 : τ = 4
  · subst h4; simp only [celE, List.mem_cons, List.not_mem_nil, or_false] at hc; rcases hc with rfl <;> rfl
  by_cases h5 : τ = 5
  · subst h5; simp only [celE, List.mem_cons, List.not_mem_nil, or_false] at hc; rcases hc with rfl <;> rfl
  by_cases h272 : τ = 272
  · subst h272; simp only [celE, List.mem_cons, List.not_mem_nil, or_false] at hc; rcases hc with rfl | rfl | rfl | rfl <;> rfl
  by_cases h27 : τ = 27
  · subst h27; simp only [celE, List.mem_cons, List.not_mem_nil, or_false] at hc; rcases hc with rfl | rfl <;> rfl
  by_cases h198 : τ = 198
  · subst h198; simp only [celE, List.mem_cons, List.not_mem_nil, or_false] at hc; rcases hc with rfl | rfl | rfl | rfl <;> rfl
  by_cases h30 : τ = 30
  · subst h30; simp only [celE, List.mem_cons, List.not_mem_nil, or_false] at hc; rcases hc with rfl | rfl | rfl | rfl <;> rfl
  by_cases h314 : τ = 314
  · subst h314; simp only [celE, List.mem_cons, List.not_mem_nil, or_false] at hc; rcases hc with rfl | rfl | rfl | rfl <;> rfl
  by_cases h276 : τ = 276
  · subst h276; simp only [celE, List.mem_cons, List.not_mem_nil, or_false] at hc; rcases hc with rfl | rfl | rfl <;> rfl
  by_cases h306 : τ = 306
  · subst h306; simp only [celE, List.mem_cons, List.not_mem_nil, or_false] at hc; rcases hc with rfl | rfl | rfl <;> rfl
  by_cases h132 : τ = 132
  · subst h132; simp only [celE, List.mem_cons, List.not_mem_nil, or_false] at hc; rcases hc with rfl | rfl | rfl <;> rfl
  by_cases h3 : τ = 3
  · subst h3; simp only [celE, List.mem_cons, List.not_mem_nil, or_false] at hc; rcases hc with rfl <;> rfl
  by_cases h134 : τ = 134
  · subst h134; simp only [celE, List.mem_cons, List.not_mem_nil, or_false] at hc; rcases hc with rfl | rfl | rfl | rfl | rfl | rfl <;> rfl
  by_cases h33 : τ = 33
  · subst h33; simp only [celE, List.mem_cons, List.not_mem_nil, or_false] at hc; rcases hc with rfl | rfl | rfl | rfl <;> rfl
  by_cases h136 : τ = 136
  · subst h136; simp only [celE, List.mem_cons, List.not_mem_nil, or_false] at hc; rcases hc with rfl | rfl <;> rfl
  by_cases h138 : τ = 138
  · subst h138; simp only [celE, List.mem_cons, List.not_mem_nil, or_false] at hc; rcases hc with rfl | rfl | rfl | rfl | rfl <;> rfl
  by_cases h141 : τ = 141
  · subst h141; simp only [celE, List.mem_cons, List.not_mem_nil, or_false] at hc; rcases hc with rfl | rfl | rfl | rfl | rfl | rfl | rfl <;> rfl
  by_cases h232 : τ = 232
  · subst h232; simp only [celE, List.mem_cons, List.not_mem_nil, or_false] at hc; rcases hc with rfl | rfl | rfl | rfl <;> rfl
  by_cases h37 : τ = 37
  · subst h37; simp only [celE, List.mem_cons, List.not_mem_nil, or_false] at hc; rcases hc with rfl <;> rfl
  by_cases h39 : τ = 39
  · subst h39; simp only [celE, List.mem_cons, List.not_mem_nil, or_false] at hc; rcases hc with rfl | rfl | rfl | rfl | rfl | rfl | rfl | rfl | rfl | rfl | rfl | rfl | rfl | rfl | rfl | rfl <;> rfl
  by_cases h110 : τ = 110
  · subst h110; simp only [celE, List.mem_cons, List.not_mem_nil, or_false] at hc; rcases hc with rfl | rfl | rfl | rfl <;> rfl
  by_cases h219 : τ = 219
  · subst h219; simp only [celE, List.mem_cons, List.not_mem_nil, or_false] at hc; rcases hc with rfl | rfl | rfl | rfl | rfl | rfl <;> rfl
  by_cases h252 : τ = 252
  · subst h252; simp only [celE, List.mem_cons, List.not_mem_nil, or_false] at hc; rcases hc with rfl | rfl | rfl | rfl <;> rfl
  by_cases h113 : τ = 113
  · subst h113; simp only [celE, List.mem_cons, List.not_mem_nil, or_false] at hc; rcases hc with rfl <;> rfl
  by_cases h115 : τ = 115
  · subst h115; simp only [celE, List.mem_cons, List.not_mem_nil, or_false] at hc; rcases hc with rfl | rfl | rfl | rfl | rfl | rfl | rfl | rfl | rfl <;> rfl
  by_cases h278 : τ = 278
  · subst h278; simp only [celE, List.mem_cons, List.not_mem_nil, or_false] at hc; rcases hc with rfl | rfl | rfl | rfl <;> rfl
  by_cases h45 : τ = 45
  · subst h45; simp only [celE, List.mem_cons, List.not_mem_nil, or_false] at hc; rcases hc with rfl | rfl <;> rfl
  by_cases h205 : τ = 205
  · subst h205; simp only [celE, List.mem_cons, List.not_mem_nil, or_false] at hc; rcases hc with rfl | rfl | rfl | rfl <;> rfl
  by_cases h48 : τ = 48
  · subst h48; simp only [celE, List.mem_cons, List.not_mem_nil, or_false] at hc; rcases hc with rfl | rfl | rfl | rfl <;> rfl
  by_cases h280 : τ = 280
  · subst h280; simp only [celE, List.mem_cons, List.not_mem_nil, or_false] at hc; rcases hc with rfl | rfl | rfl | rfl <;> rfl
  by_cases h209 : τ = 209
  · subst h209; simp only [celE, List.mem_cons, List.not_mem_nil, or_false] at hc; rcases hc with rfl | rfl | rfl <;> rfl
  by_cases h257 : τ = 257
  · subst h257; simp only [celE, List.mem_cons, List.not_mem_nil, or_false] at hc; rcases hc with rfl | rfl | rfl <;> rfl
  by_cases h148 : τ = 148
  · subst h148; simp only [celE, List.mem_cons, List.not_mem_nil, or_false] at hc; rcases hc with rfl | rfl | rfl <;> rfl
  by_cases h150 : τ = 150
  · subst h150; simp only [celE, List.mem_cons, List.not_mem_nil, or_false] at hc; rcases hc with rfl | rfl | rfl | rfl | rfl | rfl <;> rfl
  by_cases h50 : τ = 50
  · subst h50; simp only [celE, List.mem_cons, List.not_mem_nil, or_false] at hc; rcases hc with rfl | rfl | rfl | rfl <;> rfl
  by_cases h77 : τ = 77
  · subst h77; simp only [celE, List.mem_cons, List.not_mem_nil, or_false] at hc; rcases hc with rfl | rfl <;> rfl
  by_cases h79 : τ = 79
  · subst h79; simp only [celE, List.mem_cons, List.not_mem_nil, or_false] at hc; rcases hc with rfl | rfl | rfl | rfl | rfl <;> rfl
  by_cases h82 : τ = 82
  · subst h82; simp only [celE, List.mem_cons, List.not_mem_nil, or_false] at hc; rcases hc with rfl | rfl | rfl | rfl | rfl | rfl | rfl <;> rfl
  by_cases h216 : τ = 216
  · subst h216; simp only [celE, List.mem_cons, List.not_mem_nil, or_false] at hc; rcases hc with rfl | rfl | rfl | rfl <;> rfl
  by_cases h54 : τ = 54
  · subst h54; simp only [celE, List.mem_cons, List.not_mem_nil, or_false] at hc; rcases hc with rfl <;> rfl
  by_cases h56 : τ = 56
  · subst h56; simp only [celE, List.mem_cons, List.not_mem_nil, or_false] at hc; rcases hc with rfl | rfl | rfl | rfl | rfl | rfl | rfl | rfl | rfl | rfl | rfl | rfl | rfl | rfl | rfl | rfl <;> rfl
  by_cases h104 : τ = 104
  · subst h104; simp only [celE, List.mem_cons, List.not_mem_nil, or_false] at hc; rcases hc with rfl <;> rfl
  by_cases h9 : τ = 9
  · subst h9; simp only [celE, List.mem_cons, List.not_mem_nil, or_false] at hc; rcases hc with rfl <;> rfl
  exact (cast (El_none τ h119 h223 h303 h122 h124 h4 h5 h272 h27 h198 h30 h314 h276 h306 h132 h3 h134 h33 h136 h138 h141 h232 h37 h39 h110 h219 h252 h113 h115 h278 h45 h205 h48 h280 h209 h257 h148 h150 h50 h77 h79 h82 h216 h54 h56 h104 h9) x).elim
theorem hc4 : ∀ (τ : Nat) (cs : List (EV.Lf Un)) (x : El τ), bldE τ cs = some x → cs = celE τ x := by
  intro τ cs x h
  by_cases h119 : τ = 119
  · subst h119; 
    obtain ⟨c0, c1, c2, c3, rfl⟩ : ∃ c0 c1 c2 c3 : EV.Lf Un, cs = [c0, c1, c2, c3] := by
      match cs, h with
      | [c0, c1, c2, c3], _ => exact ⟨c0, c1, c2, c3, rfl⟩
    obtain ⟨a0, g0, h⟩ := bd_some h
    obtain ⟨a1, g1, h⟩ := bd_some h
    obtain ⟨a2, g2, h⟩ := bd_some h
    obtain ⟨a3, g3, h⟩ := bd_some h
    have h := Option.some.inj h; subst h
    rw [EV.lfTy_some g0, EV.lfTy_some g1, EV.lfTy_some g2, EV.lfTy_some g3]
    rfl
  by_cases h223 : τ = 223
  · subst h223; 
    obtain ⟨c0, c1, c2, c3, c4, c5, rfl⟩ : ∃ c0 c1 c2 c3 c4 c5 : EV.Lf Un, cs = [c0, c1, c2, c3, c4, c5] := by
      match cs, h with
      | [c0, c1, c2, c3, c4, c5], _ => exact ⟨c0, c1, c2, c3, c4, c5, rfl⟩
    obtain ⟨a0, g0, h⟩ := bd_some h
    obtain ⟨a1, g1, h⟩ := bd_some h
    obtain ⟨a2, g2, h⟩ := bd_some h
    obtain ⟨a3, g3, h⟩ := bd_some h
    obtain ⟨a4, g4, h⟩ := bd_some h
    obtain ⟨a5, g5, h⟩ := bd_some h
    have h := Option.some.inj h; subst h
    rw [EV.lfTy_some g0, EV.lfTy_some g1, EV.lfTy_some g2, EV.lfTy_some g3, EV.lfTy_some g4, EV.lfTy_some g5]
    rfl
  by_cases h303 : τ = 303
  · subst h303; 
    obtain ⟨c0, c1, c2, c3, rfl⟩ : ∃ c0 c1 c2 c3 : EV.Lf Un, cs = [c0, c1, c2, c3] := by
      match cs, h with
      | [c0, c1, c2, c3], _ => exact ⟨c0, c1, c2, c3, rfl⟩
    obtain ⟨a0, g0, h⟩ := bd_some h
    obtain ⟨a1, g1, h⟩ := bd_some h
    obtain ⟨a2, g2, h⟩ := bd_some h
    obtain ⟨a3, g3, h⟩ := bd_some h
    have h := Option.some.inj h; subst h
    rw [EV.lfTy_some g0, EV.lfTy_some g1, EV.lfTy_some g2, EV.lfTy_some g3]
    rfl
  by_cases h122 : τ = 122
  · subst h122; 
    obtain ⟨c0, rfl⟩ : ∃ c0 : EV.Lf Un, cs = [c0] := by
      match cs, h with
      | [c0], _ => exact ⟨c0, rfl⟩
    obtain ⟨a0, g0, h⟩ := bd_some h
    have h := Option.some.inj h; subst h
    rw [EV.lfTy_some g0]
    rfl
  by_cases h124 : τ = 124
  · subst h124; 
    obtain ⟨c0, c1, c2, c3, c4, c5, c6, c7, c8, rfl⟩ : ∃ c0 c1 c2 c3 c4 c5 c6 c7 c8 : EV.Lf Un, cs = [c0, c1, c2, c3, c4, c5, c6, c7, c8] := by
      match cs, h with
      | [c0, c1, c2, c3, c4, c5, c6, c7, c8], _ => exact ⟨c0, c1, c2, c3, c4, c5, c6, c7, c8, rfl⟩
    obtain ⟨a0, g0, h⟩ := bd_some h
    obtain ⟨a1, g1, h⟩ := bd_some h
    obtain ⟨a2, g2, h⟩ := bd_some h
    obtain ⟨a3, g3, h⟩ := bd_some h
    obtain ⟨a4, g4, h⟩ := bd_some h
    obtain ⟨a5, g5, h⟩ := bd_some h
    obtain ⟨a6, g6, h⟩ := bd_some h
    obtain ⟨a7, g7, h⟩ := bd_some h
    obtain ⟨a8, g8, h⟩ := bd_some h
    have h := Option.some.inj h; subst h
    rw [EV.lfTy_some g0, EV.lfTy_some g1, EV.lfTy_some g2, EV.lfTy_some g3, EV.lfTy_some g4, EV.lfTy_some g5, EV.lfTy_some g6, EV.lfTy_some g7, EV.lfTy_some g8]
    rfl
  by_cases h4 : τ = 4
  · subst h4; 
    obtain ⟨c0, rfl⟩ : ∃ c0 : EV.Lf Un, cs = [c0] := by
      match cs, h with
      | [c0], _ => exact ⟨c0, rfl⟩
    obtain ⟨a0, g0, h⟩ := bd_some h
    have h := Option.some.inj h; subst h
    rw [EV.lfTy_some g0]
    rfl
  by_cases h5 : τ = 5
  · subst h5; 
    obtain ⟨c0, rfl⟩ : ∃ c0 : EV.Lf Un, cs = [c0] := by
      match cs, h with
      | [c0], _ => exact ⟨c0, rfl⟩
    obtain ⟨a0, g0, h⟩ := bd_some h
    have h := Option.some.inj h; subst h
    rw [EV.lfTy_some g0]
    rfl
  by_cases h272 : τ = 272
  · subst h272; 
    obtain ⟨c0, c1, c2, c3, rfl⟩ : ∃ c0 c1 c2 c3 : EV.Lf Un, cs = [c0, c1, c2, c3] := by
      match cs, h with
      | [c0, c1, c2, c3], _ => exact ⟨c0, c1, c2, c3, rfl⟩
    obtain ⟨a0, g0, h⟩ := bd_some h
    obtain ⟨a1, g1, h⟩ := bd_some h
    obtain ⟨a2, g2, h⟩ := bd_some h
    obtain ⟨a3, g3, h⟩ := bd_some h
    have h := Option.some.inj h; subst h
    rw [EV.lfTy_some g0, EV.lfTy_some g1, EV.lfTy_some g2, EV.lfTy_some g3]
    rfl
  by_cases h27 : τ = 27
  · subst h27; 
    obtain ⟨c0, c1, rfl⟩ : ∃ c0 c1 : EV.Lf Un, cs = [c0, c1] := by
      match cs, h with
      | [c0, c1], _ => exact ⟨c0, c1, rfl⟩
    obtain ⟨a0, g0, h⟩ := bd_some h
    obtain ⟨a1, g1, h⟩ := bd_some h
    have h := Option.some.inj h; subst h
    rw [EV.lfTy_some g0, EV.lfTy_some g1]
    rfl
  by_cases h198 : τ = 198
  · subst h198; 
    obtain ⟨c0, c1, c2, c3, rfl⟩ : ∃ c0 c1 c2 c3 : EV.Lf Un, cs = [c0, c1, c2, c3] := by
      match cs, h with
      | [c0, c1, c2, c3], _ => exact ⟨c0, c1, c2, c3, rfl⟩
    obtain ⟨a0, g0, h⟩ := bd_some h
    obtain ⟨a1, g1, h⟩ := bd_some h
    obtain ⟨a2, g2, h⟩ := bd_some h
    obtain ⟨a3, g3, h⟩ := bd_some h
    have h := Option.some.inj h; subst h
    rw [EV.lfTy_some g0, EV.lfTy_some g1, EV.lfTy_some g2, EV.lfTy_some g3]
    rfl
  by_cases h30 : τ = 30
  · subst h30; 
    obtain ⟨c0, c1, c2, c3, rfl⟩ : ∃ c0 c1 c2 c3 : EV.Lf Un, cs = [c0, c1, c2, c3] := by
      match cs, h with
      | [c0, c1, c2, c3], _ => exact ⟨c0, c1, c2, c3, rfl⟩
    obtain ⟨a0, g0, h⟩ := bd_some h
    obtain ⟨a1, g1, h⟩ := bd_some h
    obtain ⟨a2, g2, h⟩ := bd_some h
    obtain ⟨a3, g3, h⟩ := bd_some h
    have h := Option.some.inj h; subst h
    rw [EV.lfTy_some g0, EV.lfTy_some g1, EV.lfTy_some g2, EV.lfTy_some g3]
    rfl
  by_cases h314 : τ = 314
  · subst h314; 
    obtain ⟨c0, c1, c2, c3, rfl⟩ : ∃ c0 c1 c2 c3 : EV.Lf Un, cs = [c0, c1, c2, c3] := by
      match cs, h with
      | [c0, c1, c2, c3], _ => exact ⟨c0, c1, c2, c3, rfl⟩
    obtain ⟨a0, g0, h⟩ := bd_some h
    obtain ⟨a1, g1, h⟩ := bd_some h
    obtain ⟨a2, g2, h⟩ := bd_some h
    obtain ⟨a3, g3, h⟩ := bd_some h
    have h := Option.some.inj h; subst h
    rw [EV.lfTy_some g0, EV.lfTy_some g1, EV.lfTy_some g2, EV.lfTy_some g3]
    rfl
  by_cases h276 : τ = 276
  · subst h276; 
    obtain ⟨c0, c1, c2, rfl⟩ : ∃ c0 c1 c2 : EV.Lf Un, cs = [c0, c1, c2] := by
      match cs, h with
      | [c0, c1, c2], _ => exact ⟨c0, c1, c2, rfl⟩
    obtain ⟨a0, g0, h⟩ := bd_some h
    obtain ⟨a1, g1, h⟩ := bd_some h
    obtain ⟨a2, g2, h⟩ := bd_some h
    have h := Option.some.inj h; subst h
    rw [EV.lfTy_some g0, EV.lfTy_some g1, EV.lfTy_some g2]
    rfl
  by_cases h306 : τ = 306
  · subst h306; 
    obtain ⟨c0, c1, c2, rfl⟩ : ∃ c0 c1 c2 : EV.Lf Un, cs = [c0, c1, c2] := by
      match cs, h with
      | [c0, c1, c2], _ => exact ⟨c0, c1, c2, rfl⟩
    obtain ⟨a0, g0, h⟩ := bd_some h
    obtain ⟨a1, g1, h⟩ := bd_some h
    obtain ⟨a2, g2, h⟩ := bd_some h
    have h := Option.some.inj h; subst h
    rw [EV.lfTy_some g0, EV.lfTy_some g1, EV.lfTy_some g2]
    rfl
  by_cases h132 : τ = 132
  · subst h132; 
    obtain ⟨c0, c1, c2, rfl⟩ : ∃ c0 c1 c2 : EV.Lf Un, cs = [c0, c1, c2] := by
      match cs, h with
      | [c0, c1, c2], _ => exact ⟨c0, c1, c2, rfl⟩
    obtain ⟨a0, g0, h⟩ := bd_some h
    obtain ⟨a1, g1, h⟩ := bd_some h
    obtain ⟨a2, g2, h⟩ := bd_some h
    have h := Option.some.inj h; subst h
    rw [EV.lfTy_some g0, EV.lfTy_some g1, EV.lfTy_some g2]
    rfl
  by_cases h3 : τ = 3
  · subst h3; 
    obtain ⟨c0, rfl⟩ : ∃ c0 : EV.Lf Un, cs = [c0] := by
      match cs, h with
      | [c0], _ => exact ⟨c0, rfl⟩
    obtain ⟨a0, g0, h⟩ := bd_some h
    have h := Option.some.inj h; subst h
    rw [EV.lfTy_some g0]
    rfl
  by_cases h134 : τ = 134
  · subst h134; 
    obtain ⟨c0, c1, c2, c3, c4, c5, rfl⟩ : ∃ c0 c1 c2 c3 c4 c5 : EV.Lf Un, cs = [c0, c1, c2, c3, c4, c5] := by
      match cs, h with
      | [c0, c1, c2, c3, c4, c5], _ => exact ⟨c0, c1, c2, c3, c4, c5, rfl⟩
    obtain ⟨a0, g0, h⟩ := bd_some h
    obtain ⟨a1, g1, h⟩ := bd_some h
    obtain ⟨a2, g2, h⟩ := bd_some h
    obtain ⟨a3, g3, h⟩ := bd_some h
    obtain ⟨a4, g4, h⟩ := bd_some h
    obtain ⟨a5, g5, h⟩ := bd_some h
    have h := Option.some.inj h; subst h
    rw [EV.lfTy_some g0, EV.lfTy_some g1, EV.lfTy_some g2, EV.lfTy_some g3, EV.lfTy_some g4, EV.lfTy_some g5]
    rfl
  by_cases h33 : τ = 33
  · subst h33; 
    obtain ⟨c0, c1, c2, c3, rfl⟩ : ∃ c0 c1 c2 c3 : EV.Lf Un, cs = [c0, c1, c2, c3] := by
      match cs, h with
      | [c0, c1, c2, c3], _ => exact ⟨c0, c1, c2, c3, rfl⟩
    obtain ⟨a0, g0, h⟩ := bd_some h
    obtain ⟨a1, g1, h⟩ := bd_some h
    obtain ⟨a2, g2, h⟩ := bd_some h
    obtain ⟨a3, g3, h⟩ := bd_some h
    have h := Option.some.inj h; subst h
    rw [EV.lfTy_some g0, EV.lfTy_some g1, EV.lfTy_some g2, EV.lfTy_some g3]
    rfl
  by_cases h136 : τ = 136
  · subst h136; 
    obtain ⟨c0, c1, rfl⟩ : ∃ c0 c1 : EV.Lf Un, cs = [c0, c1] := by
      match cs, h with
      | [c0, c1], _ => exact ⟨c0, c1, rfl⟩
    obtain ⟨a0, g0, h⟩ := bd_some h
    obtain ⟨a1, g1, h⟩ := bd_some h
    have h := Option.some.inj h; subst h
    rw [EV.lfTy_some g0, EV.lfTy_some g1]
    rfl
  by_cases h138 : τ = 138
  · subst h138; 
    obtain ⟨c0, c1, c2, c3, c4, rfl⟩ : ∃ c0 c1 c2 c3 c4 : EV.Lf Un, cs = [c0, c1, c2, c3, c4] := by
      match cs, h with
      | [c0, c1, c2, c3, c4], _ => exact ⟨c0, c1, c2, c3, c4, rfl⟩
    obtain ⟨a0, g0, h⟩ := bd_some h
    obtain ⟨a1, g1, h⟩ := bd_some h
    obtain ⟨a2, g2, h⟩ := bd_some h
    obtain ⟨a3, g3, h⟩ := bd_some h
    obtain ⟨a4, g4, h⟩ := bd_some h
    have h := Option.some.inj h; subst h
    rw [EV.lfTy_some g0, EV.lfTy_some g1, EV.lfTy_some g2, EV.lfTy_some g3, EV.lfTy_some g4]
    rfl
  by_cases h141 : τ = 141
  · subst h141; 
    obtain ⟨c0, c1, c2, c3, c4, c5, c6, rfl⟩ : ∃ c0 c1 c2 c3 c4 c5 c6 : EV.Lf Un, cs = [c0, c1, c2, c3, c4, c5, c6] := by
      match cs, h with
      | [c0, c1, c2, c3, c4, c5, c6], _ => exact ⟨c0, c1, c2, c3, c4, c5, c6, rfl⟩
    obtain ⟨a0, g0, h⟩ := bd_some h
    obtain ⟨a1, g1, h⟩ := bd_some h
    obtain ⟨a2, g2, h⟩ := bd_some h
    obtain ⟨a3, g3, h⟩ := bd_some h
    obtain ⟨a4, g4, h⟩ := bd_some h
    obtain ⟨a5, g5, h⟩ := bd_some h
    obtain ⟨a6, g6, h⟩ := bd_some h
    have h := Option.some.inj h; subst h
    rw [EV.lfTy_some g0, EV.lfTy_some g1, EV.lfTy_some g2, EV.lfTy_some g3, EV.lfTy_some g4, EV.lfTy_some g5, EV.lfTy_some g6]
    rfl
  by_cases h232 : τ = 232
  · subst h232; 
    obtain ⟨c0, c1, c2, c3, rfl⟩ : ∃ c0 c1 c2 c3 : EV.Lf Un, cs = [c0, c1, c2, c3] := by
      match cs, h with
      | [c0, c1, c2, c3], _ => exact ⟨c0, c1, c2, c3, rfl⟩
    obtain ⟨a0, g0, h⟩ := bd_some h
    obtain ⟨a1, g1, h⟩ := bd_some h
    obtain ⟨a2, g2, h⟩ := bd_some h
    obtain ⟨a3, g3, h⟩ := bd_some h
    have h := Option.some.inj h; subst h
    rw [EV.lfTy_some g0, EV.lfTy_some g1, EV.lfTy_some g2, EV.lfTy_some g3]
    rfl
  by_cases h37 : τ = 37
  · subst h37; 
    obtain ⟨c0, rfl⟩ : ∃ c0 : EV.Lf Un, cs = [c0] := by
      match cs, h with
      | [c0], _ => exact ⟨c0, rfl⟩
    obtain ⟨a0, g0, h⟩ := bd_some h
    have h := Option.some.inj h; subst h
    rw [EV.lfTy_some g0]
    rfl
  by_cases h39 : τ = 39
  · subst h39; 
    obtain ⟨c0, c1, c2, c3, c4, c5, c6, c7, c8, c9, c10, c11, c12, c13, c14, c15, rfl⟩ : ∃ c0 c1 c2 c3 c4 c5 c6 c7 c8 c9 c10 c11 c12 c13 c14 c15 : EV.Lf Un, cs = [c0, c1, c2, c3, c4, c5, c6, c7, c8, c9, c10, c11, c12, c13, c14, c15] := by
      match cs, h with
      | [c0, c1, c2, c3, c4, c5, c6, c7, c8, c9, c10, c11, c12, c13, c14, c15], _ => exact ⟨c0, c1, c2, c3, c4, c5, c6, c7, c8, c9, c10, c11, c12, c13, c14, c15, rfl⟩
    obtain ⟨a0, g0, h⟩ := bd_some h
    obtain ⟨a1, g1, h⟩ := bd_some h
    obtain ⟨a2, g2, h⟩ := bd_some h
    obtain ⟨a3, g3, h⟩ := bd_some h
    obtain ⟨a4, g4, h⟩ := bd_some h
    obtain ⟨a5, g5, h⟩ := bd_some h
    obtain ⟨a6, g6, h⟩ := bd_some h
    obtain ⟨a7, g7, h⟩ := bd_some h
    obtain ⟨a8, g8, h⟩ := bd_some h
    obtain ⟨a9, g9, h⟩ := bd_some h
    obtain ⟨a10, g10, h⟩ := bd_some h
    obtain ⟨a11, g11, h⟩ := bd_some h
    obtain ⟨a12, g12, h⟩ := bd_some h
    obtain ⟨a13, g13, h⟩ := bd_some h
    obtain ⟨a14, g14, h⟩ := bd_some h
    obtain ⟨a15, g15, h⟩ := bd_some h
    have h := Option.some.inj h; subst h
    rw [EV.lfTy_some g0, EV.lfTy_some g1, EV.lfTy_some g2, EV.lfTy_some g3, EV.lfTy_some g4, EV.lfTy_some g5, EV.lfTy_some g6, EV.lfTy_some g7, EV.lfTy_some g8, EV.lfTy_some g9, EV.lfTy_some g10, EV.lfTy_some g11, EV.lfTy_some g12, EV.lfTy_some g13, EV.lfTy_some g14, EV.lfTy_some g15]
    rfl
  by_cases h110 : τ = 110
  · subst h110; 
    obtain ⟨c0, c1, c2, c3, rfl⟩ : ∃ c0 c1 c2 c3 : EV.Lf Un, cs = [c0, c1, c2, c3] := by
      match cs, h with
      | [c0, c1, c2, c3], _ => exact ⟨c0, c1, c2, c3, rfl⟩
    obtain ⟨a0, g0, h⟩ := bd_some h
    obtain ⟨a1, g1, h⟩ := bd_some h
    obtain ⟨a2, g2, h⟩ := bd_some h
    obtain ⟨a3, g3, h⟩ := bd_some h
    have h := Option.some.inj h; subst h
    rw [EV.lfTy_some g0, EV.lfTy_some g1, EV.lfTy_some g2, EV.lfTy_some g3]
    rfl
  by_cases h219 : τ = 219
  · subst h219; 
    obtain ⟨c0, c1, c2, c3, c4, c5, rfl⟩ : ∃ c0 c1 c2 c3 c4 c5 : EV.Lf Un, cs = [c0, c1, c2, c3, c4, c5] := by
      match cs, h with
      | [c0, c1, c2, c3, c4, c5], _ => exact ⟨c0, c1, c2, c3, c4, c5, rfl⟩
    obtain ⟨a0, g0, h⟩ := bd_some h
    obtain ⟨a1, g1, h⟩ := bd_some h
    obtain ⟨a2, g2, h⟩ := bd_some h
    obtain ⟨a3, g3, h⟩ := bd_some h
    obtain ⟨a4, g4, h⟩ := bd_some h
    obtain ⟨a5, g5, h⟩ := bd_some h
    have h := Option.some.inj h; subst h
    rw [EV.lfTy_some g0, EV.lfTy_some g1, EV.lfTy_some g2, EV.lfTy_some g3, EV.lfTy_some g4, EV.lfTy_some g5]
    rfl
  by_cases h252 : τ = 252
  · subst h252; 
    obtain ⟨c0, c1, c2, c3, rfl⟩ : ∃ c0 c1 c2 c3 : EV.Lf Un, cs = [c0, c1, c2, c3] := by
      match cs, h with
      | [c0, c1, c2, c3], _ => exact ⟨c0, c1, c2, c3, rfl⟩
    obtain ⟨a0, g0, h⟩ := bd_some h
    obtain ⟨a1, g1, h⟩ := bd_some h
    obtain ⟨a2, g2, h⟩ := bd_some h
    obtain ⟨a3, g3, h⟩ := bd_some h
    have h := Option.some.inj h; subst h
    rw [EV.lfTy_some g0, EV.lfTy_some g1, EV.lfTy_some g2, EV.lfTy_some g3]
    rfl
  by_cases h113 : τ = 113
  · subst h113; 
    obtain ⟨c0, rfl⟩ : ∃ c0 : EV.Lf Un, cs = [c0] := by
      match cs, h with
      | [c0], _ => exact ⟨c0, rfl⟩
    obtain ⟨a0, g0, h⟩ := bd_some h
    have h := Option.some.inj h; subst h
    rw [EV.lfTy_some g0]
    rfl
  by_cases h115 : τ = 115
  · subst h115; 
    obtain ⟨c0, c1, c2, c3, c4, c5, c6, c7, c8, rfl⟩ : ∃ c0 c1 c2 c3 c4 c5 c6 c7 c8 : EV.Lf Un, cs = [c0, c1, c2, c3, c4, c5, c6, c7, c8] := by
      match cs, h with
      | [c0, c1, c2, c3, c4, c5, c6, c7, c8], _ => exact ⟨c0, c1, c2, c3, c4, c5, c6, c7, c8, rfl⟩
    obtain ⟨a0, g0, h⟩ := bd_some h
    obtain ⟨a1, g1, h⟩ := bd_some h
    obtain ⟨a2, g2, h⟩ := bd_some h
    obtain ⟨a3, g3, h⟩ := bd_some h
    obtain ⟨a4, g4, h⟩ := bd_some h
    obtain ⟨a5, g5, h⟩ := bd_some h
    obtain ⟨a6, g6, h⟩ := bd_some h
    obtain ⟨a7, g7, h⟩ := bd_some h
    obtain ⟨a8, g8, h⟩ := bd_some h
    have h := Option.some.inj h; subst h
    rw [EV.lfTy_some g0, EV.lfTy_some g1, EV.lfTy_some g2, EV.lfTy_some g3, EV.lfTy_some g4, EV.lfTy_some g5, EV.lfTy_some g6, EV.lfTy_some g7, EV.lfTy_some g8]
    rfl
  by_cases h278 : τ = 278
  · subst h278; 
    obtain ⟨c0, c1, c2, c3, rfl⟩ : ∃ c0 c1 c2 c3 : EV.Lf Un, cs = [c0, c1, c2, c3] := by
      match cs, h with
      | [c0, c1, c2, c3], _ => exact ⟨c0, c1, c2, c3, rfl⟩
    obtain ⟨a0, g0, h⟩ := bd_some h
    obtain ⟨a1, g1, h⟩ := bd_some h
    obtain ⟨a2, g2, h⟩ := bd_some h
    obtain ⟨a3, g3, h⟩ := bd_some h
    have h := Option.some.inj h; subst h
    rw [EV.lfTy_some g0, EV.lfTy_some g1, EV.lfTy_some g2, EV.lfTy_some g3]
    rfl
  by_cases h45 : τ = 45
  · subst h45; 
    obtain ⟨c0, c1, rfl⟩ : ∃ c0 c1 : EV.Lf Un, cs = [c0, c1] := by
      match cs, h with
      | [c0, c1], _ => exact ⟨c0, c1, rfl⟩
    obtain ⟨a0, g0, h⟩ := bd_some h
    obtain ⟨a1, g1, h⟩ := bd_some h
    have h := Option.some.inj h; subst h
    rw [EV.lfTy_some g0, EV.lfTy_some g1]
    rfl
  by_cases h205 : τ = 205
  · subst h205; 
    obtain ⟨c0, c1, c2, c3, rfl⟩ : ∃ c0 c1 c2 c3 : EV.Lf Un, cs = [c0, c1, c2, c3] := by
      match cs, h with
      | [c0, c1, c2, c3], _ => exact ⟨c0, c1, c2, c3, rfl⟩
    obtain ⟨a0, g0, h⟩ := bd_some h
    obtain ⟨a1, g1, h⟩ := bd_some h
    obtain ⟨a2, g2, h⟩ := bd_some h
    obtain ⟨a3, g3, h⟩ := bd_some h
    have h := Option.some.inj h; subst h
    rw [EV.lfTy_some g0, EV.lfTy_some g1, EV.lfTy_some g2, EV.lfTy_some g3]
    rfl
  by_cases h48 : τ = 48
  · subst h48; 
    obtain ⟨c0, c1, c2, c3, rfl⟩ : ∃ c0 c1 c2 c3 : EV.Lf Un, cs = [c0, c1, c2, c3] := by
      match cs, h with
      | [c0, c1, c2, c3], _ => exact ⟨c0, c1, c2, c3, rfl⟩
    obtain ⟨a0, g0, h⟩ := bd_some h
    obtain ⟨a1, g1, h⟩ := bd_some h
    obtain ⟨a2, g2, h⟩ := bd_some h
    obtain ⟨a3, g3, h⟩ := bd_some h
    have h := Option.some.inj h; subst h
    rw [EV.lfTy_some g0, EV.lfTy_some g1, EV.lfTy_some g2, EV.lfTy_some g3]
    rfl
  by_cases h280 : τ = 280
  · subst h280; 
    obtain ⟨c0, c1, c2, c3, rfl⟩ : ∃ c0 c1 c2 c3 : EV.Lf Un, cs = [c0, c1, c2, c3] := by
      match cs, h with
      | [c0, c1, c2, c3], _ => exact ⟨c0, c1, c2, c3, rfl⟩
    obtain ⟨a0, g0, h⟩ := bd_some h
    obtain ⟨a1, g1, h⟩ := bd_some h
    obtain ⟨a2, g2, h⟩ := bd_some h
    obtain ⟨a3, g3, h⟩ := bd_some h
    have h := Option.some.inj h; subst h
    rw [EV.lfTy_some g0, EV.lfTy_some g1, EV.lfTy_some g2, EV.lfTy_some g3]
    rfl
  by_cases h209 : τ = 209
  · subst h209; 
    obtain ⟨c0, c1, c2, rfl⟩ : ∃ c0 c1 c2 : EV.Lf Un, cs = [c0, c1, c2] := by
      match cs, h with
      | [c0, c1, c2], _ => exact ⟨c0, c1, c2, rfl⟩
    obtain ⟨a0, g0, h⟩ := bd_some h
    obtain ⟨a1, g1, h⟩ := bd_some h
    obtain ⟨a2, g2, h⟩ := bd_some h
    have h := Option.some.inj h; subst h
    rw [EV.lfTy_some g0, EV.lfTy_some g1, EV.lfTy_some g2]
    rfl
  by_cases h257 : τ = 257
  · subst h257; 
    obtain ⟨c0, c1, c2, rfl⟩ : ∃ c0 c1 c2 : EV.Lf Un, cs = [c0, c1, c2] := by
      match cs, h with
      | [c0, c1, c2], _ => exact ⟨c0, c1, c2, rfl⟩
    obtain ⟨a0, g0, h⟩ := bd_some h
    obtain ⟨a1, g1, h⟩ := bd_some h
    obtain ⟨a2, g2, h⟩ := bd_some h
    have h := Option.some.inj h; subst h
    rw [EV.lfTy_some g0, EV.lfTy_some g1, EV.lfTy_some g2]
    rfl
  by_cases h148 : τ = 148
  · subst h148; 
    obtain ⟨c0, c1, c2, rfl⟩ : ∃ c0 c1 c2 : EV.Lf Un, cs = [c0, c1, c2] := by
      match cs, h with
      | [c0, c1, c2], _ => exact ⟨c0, c1, c2, rfl⟩
    obtain ⟨a0, g0, h⟩ := bd_some h
    obtain ⟨a1, g1, h⟩ := bd_some h
    obtain ⟨a2, g2, h⟩ := bd_some h
    have h := Option.some.inj h; subst h
    rw [EV.lfTy_some g0, EV.lfTy_some g1, EV.lfTy_some g2]
    rfl
  by_cases h150 : τ = 150
  · subst h150; 
    obtain ⟨c0, c1, c2, c3, c4, c5, rfl⟩ : ∃ c0 c1 c2 c3 c4 c5 : EV.Lf Un, cs = [c0, c1, c2, c3, c4, c5] := by
      match cs, h with
      | [c0, c1, c2, c3, c4, c5], _ => exact ⟨c0, c1, c2, c3, c4, c5, rfl⟩
    obtain ⟨a0, g0, h⟩ := bd_some h
    obtain ⟨a1, g1, h⟩ := bd_some h
    obtain ⟨a2, g2, h⟩ := bd_some h
    obtain ⟨a3, g3, h⟩ := bd_some h
    obtain ⟨a4, g4, h⟩ := bd_some h
    obtain ⟨a5, g5, h⟩ := bd_some h
    have h := Option.some.inj h; subst h
    rw [EV.lfTy_some g0, EV.lfTy_some g1, EV.lfTy_some g2, EV.lfTy_some g3, EV.lfTy_some g4, EV.lfTy_some g5]
    rfl
  by_cases h50 : τ = 50
  · subst h50; 
    obtain ⟨c0, c1, c2, c3, rfl⟩ : ∃ c0 c1 c2 c3 : EV.Lf Un, cs = [c0, c1, c2, c3] := by
      match cs, h with
      | [c0, c1, c2, c3], _ => exact ⟨c0, c1, c2, c3, rfl⟩
    obtain ⟨a0, g0, h⟩ := bd_some h
    obtain ⟨a1, g1, h⟩ := bd_some h
    obtain ⟨a2, g2, h⟩ := bd_some h
    obtain ⟨a3, g3, h⟩ := bd_some h
    have h := Option.some.inj h; subst h
    rw [EV.lfTy_some g0, EV.lfTy_some g1, EV.lfTy_some g2, EV.lfTy_some g3]
    rfl
  by_cases h77 : τ = 77
  · subst h77; 
    obtain ⟨c0, c1, rfl⟩ : ∃ c0 c1 : EV.Lf Un, cs = [c0, c1] := by
      match cs, h with
      | [c0, c1], _ => exact ⟨c0, c1, rfl⟩
    obtain ⟨a0, g0, h⟩ := bd_some h
    obtain ⟨a1, g1, h⟩ := bd_some h
    have h := Option.some.inj h; subst h
    rw [EV.lfTy_some g0, EV.lfTy_some g1]
    rfl
  by_cases h79 : τ = 79
  · subst h79; 
    obtain ⟨c0, c1, c2, c3, c4, rfl⟩ : ∃ c0 c1 c2 c3 c4 : EV.Lf Un, cs = [c0, c1, c2, c3, c4] := by
      match cs, h with
      | [c0, c1, c2, c3, c4], _ => exact ⟨c0, c1, c2, c3, c4, rfl⟩
    obtain ⟨a0, g0, h⟩ := bd_some h
    obtain ⟨a1, g1, h⟩ := bd_some h
    obtain ⟨a2, g2, h⟩ := bd_some h
    obtain ⟨a3, g3, h⟩ := bd_some h
    obtain ⟨a4, g4, h⟩ := bd_some h
    have h := Option.some.inj h; subst h
    rw [EV.lfTy_some g0, EV.lfTy_some g1, EV.lfTy_some g2, EV.lfTy_some g3, EV.lfTy_some g4]
    rfl
  by_cases h82 : τ = 82
  · subst h82; 
    obtain ⟨c0, c1, c2, c3, c4, c5, c6, rfl⟩ : ∃ c0 c1 c2 c3 c4 c5 c6 : EV.Lf Un, cs = [c0, c1, c2, c3, c4, c5, c6] := by
      match cs, h with
      | [c0, c1, c2, c3, c4, c5, c6], _ => exact ⟨c0, c1, c2, c3, c4, c5, c6, rfl⟩
    obtain ⟨a0, g0, h⟩ := bd_some h
    obtain ⟨a1, g1, h⟩ := bd_some h
    obtain ⟨a2, g2, h⟩ := bd_some h
    obtain ⟨a3, g3, h⟩ := bd_some h
    obtain ⟨a4, g4, h⟩ := bd_some h
    obtain ⟨a5, g5, h⟩ := bd_some h
    obtain ⟨a6, g6, h⟩ := bd_some h
    have h := Option.some.inj h; subst h
    rw [EV.lfTy_some g0, EV.lfTy_some g1, EV.lfTy_some g2, EV.lfTy_some g3, EV.lfTy_some g4, EV.lfTy_some g5, EV.lfTy_some g6]
    rfl
  by_cases h216 : τ = 216
  · subst h216; 
    obtain ⟨c0, c1, c2, c3, rfl⟩ : ∃ c0 c1 c2 c3 : EV.Lf Un, cs = [c0, c1, c2, c3] := by
      match cs, h with
      | [c0, c1, c2, c3], _ => exact ⟨c0, c1, c2, c3, rfl⟩
    obtain ⟨a0, g0, h⟩ := bd_some h
    obtain ⟨a1, g1, h⟩ := bd_some h
    obtain ⟨a2, g2, h⟩ := bd_some h
    obtain ⟨a3, g3, h⟩ := bd_some h
    have h := Option.some.inj h; subst h
    rw [EV.lfTy_some g0, EV.lfTy_some g1, EV.lfTy_some g2, EV.lfTy_some g3]
    rfl
  by_cases h54 : τ = 54
  · subst h54; 
    obtain ⟨c0, rfl⟩ : ∃ c0 : EV.Lf Un, cs = [c0] := by
      match cs, h with
      | [c0], _ => exact ⟨c0, rfl⟩
    obtain ⟨a0, g0, h⟩ := bd_some h
    have h := Option.some.inj h; subst h
    rw [EV.lfTy_some g0]
    rfl
  by_cases h56 : τ = 56
  · subst h56; 
    obtain ⟨c0, c1, c2, c3, c4, c5, c6, c7, c8, c9, c10, c11, c12, c13, c14, c15, rfl⟩ : ∃ c0 c1 c2 c3 c4 c5 c6 c7 c8 c9 c10 c11 c12 c13 c14 c15 : EV.Lf Un, cs = [c0, c1, c2, c3, c4, c5, c6, c7, c8, c9, c10, c11, c12, c13, c14, c15] := by
      match cs, h with
      | [c0, c1, c2, c3, c4, c5, c6, c7, c8, c9, c10, c11, c12, c13, c14, c15], _ => exact ⟨c0, c1, c2, c3, c4, c5, c6, c7, c8, c9, c10, c11, c12, c13, c14, c15, rfl⟩
    obtain ⟨a0, g0, h⟩ := bd_some h
    obtain ⟨a1, g1, h⟩ := bd_some h
    obtain ⟨a2, g2, h⟩ := bd_some h
    obtain ⟨a3, g3, h⟩ := bd_some h
    obtain ⟨a4, g4, h⟩ := bd_some h
    obtain ⟨a5, g5, h⟩ := bd_some h
    obtain ⟨a6, g6, h⟩ := bd_some h
    obtain ⟨a7, g7, h⟩ := bd_some h
    obtain ⟨a8, g8, h⟩ := bd_some h
    obtain ⟨a9, g9, h⟩ := bd_some h
    obtain ⟨a10, g10, h⟩ := bd_some h
    obtain ⟨a11, g11, h⟩ := bd_some h
    obtain ⟨a12, g12, h⟩ := bd_some h
    obtain ⟨a13, g13, h⟩ := bd_some h
    obtain ⟨a14, g14, h⟩ := bd_some h
    obtain ⟨a15, g15, h⟩ := bd_some h
    have h := Option.some.inj h; subst h
    rw [EV.lfTy_some g0, EV.lfTy_some g1, EV.lfTy_some g2, EV.lfTy_some g3, EV.lfTy_some g4, EV.lfTy_some g5, EV.lfTy_some g6, EV.lfTy_some g7, EV.lfTy_some g8, EV.lfTy_some g9, EV.lfTy_some g10, EV.lfTy_some g11, EV.lfTy_some g12, EV.lfTy_some g13, EV.lfTy_some g14, EV.lfTy_some g15]
    rfl
  by_cases h104 : τ = 104
  · subst h104; 
    obtain ⟨c0, rfl⟩ : ∃ c0 : EV.Lf Un, cs = [c0] := by
      match cs, h with
      | [c0], _ => exact ⟨c0, rfl⟩
    obtain ⟨a0, g0, h⟩ := bd_some h
    have h := Option.some.inj h; subst h
    rw [EV.lfTy_some g0]
    rfl
  by_cases h9 : τ = 9
  · subst h9; 
    obtain ⟨c0, rfl⟩ : ∃ c0 : EV.Lf Un, cs = [c0] := by
      match cs, h with
      | [c0], _ => exact ⟨c0, rfl⟩
    obtain ⟨a0, g0, h⟩ := bd_some h
    have h := Option.some.inj h; subst h
    rw [EV.lfTy_some g0]
    rfl
  exact (cast (El_none τ h119 h223 h303 h122 h124 h4 h5 h272 h27 h198 h30 h314 h276 h306 h132 h3 h134 h33 h136 h138 h141 h232 h37 h39 h110 h219 h252 h113 h115 h278 h45 h205 h48 h280 h209 h257 h148 h150 h50 h77 h79 h82 h216 h54 h56 h104 h9) x).elim
def Yn : EV.Lay Un := ⟨⟨celE, bldE, hc1, hc2, hc3, hc4⟩, kdE, 5, fun n => n, fun n => n, fun _ => rfl, fun _ => rfl⟩
theorem ly1 : ∀ (τ : Nat) (x : El τ), (celE τ x).map EV.kdL = (kdE τ).map some := by
  intro τ x
  by_cases h119 : τ = 119
  · subst h119; rfl
  by_cases h223 : τ = 223
  · subst h223; rfl
  by_cases h303 : τ = 303
  · subst h303; rfl
  by_cases h122 : τ = 122
  · subst h122; rfl
  by_cases h124 : τ = 124
  · subst h124; rfl
  by_cases h4 : τ = 4
  · subst h4; rfl
  by_cases h5 : τ = 5
  · subst h5; rfl
  by_cases h272 : τ = 272
  · subst h272; rfl
  by_cases h27 : τ = 27
  · subst h27; rfl
  by_cases h198 : τ = 198
  · subst h198; rfl
  by_cases h30 : τ = 30
  · subst h30; rfl
  by_cases h314 : τ = 314
  · subst h314; rfl
  by_cases h276 : τ = 276
  · subst h276; rfl
  by_cases h306 : τ = 306
  · subst h306; rfl
  by_cases h132 : τ = 132
  · subst h132; rfl
  by_cases h3 : τ = 3
  · subst h3; rfl
  by_cases h134 : τ = 134
  · subst h134; rfl
  by_cases h33 : τ = 33
  · subst h33; rfl
  by_cases h136 : τ = 136
  · subst h136; rfl
  by_cases h138 : τ = 138
  · subst h138; rfl
  by_cases h141 : τ = 141
  · subst h141; rfl
  by_cases h232 : τ = 232
  · subst h232; rfl
  by_cases h37 : τ = 37
  · subst h37; rfl
  by_cases h39 : τ = 39
  · subst h39; rfl
  by_cases h110 : τ = 110
  · subst h110; rfl
  by_cases h219 : τ = 219
  · subst h219; rfl
  by_cases h252 : τ = 252
  · subst h252; rfl
  by_cases h113 : τ = 113
  · subst h113; rfl
  by_cases h115 : τ = 115
  · subst h115; rfl
  by_cases h278 : τ = 278
  · subst h278; rfl
  by_cases h45 : τ = 45
  · subst h45; rfl
  by_cases h205 : τ = 205
  · subst h205; rfl
  by_cases h48 : τ = 48
  · subst h48; rfl
  by_cases h280 : τ = 280
  · subst h280; rfl
  by_cases h209 : τ = 209
  · subst h209; rfl
  by_cases h257 : τ = 257
  · subst h257; rfl
  by_cases h148 : τ = 148
  · subst h148; rfl
  by_cases h150 : τ = 150
  · subst h150; rfl
  by_cases h50 : τ = 50
  · subst h50; rfl
  by_cases h77 : τ = 77
  · subst h77; rfl
  by_cases h79 : τ = 79
  · subst h79; rfl
  by_cases h82 : τ = 82
  · subst h82; rfl
  by_cases h216 : τ = 216
  · subst h216; rfl
  by_cases h54 : τ = 54
  · subst h54; rfl
  by_cases h56 : τ = 56
  · subst h56; rfl
  by_cases h104 : τ = 104
  · subst h104; rfl
  by_cases h9 : τ = 9
  · subst h9; rfl
  exact (cast (El_none τ h119 h223 h303 h122 h124 h4 h5 h272 h27 h198 h30 h314 h276 h306 h132 h3 h134 h33 h136 h138 h141 h232 h37 h39 h110 h219 h252 h113 h115 h278 h45 h205 h48 h280 h209 h257 h148 h150 h50 h77 h79 h82 h216 h54 h56 h104 h9) x).elim
theorem ly2 : ∀ (τ τ' : Nat), EV.Kd.sl τ' ∈ kdE τ → 0 < Un.K τ' := by
  intro τ τ' h
  unfold kdE at h
  split at h <;> simp only [List.mem_cons, List.not_mem_nil, or_false, reduceCtorEq, false_or, or_self, EV.Kd.sl.injEq] at h <;> first | exact h.elim | (subst h; exact Nat.le_of_ble_eq_true rfl) | (rcases h with h | h | h | h | h | h | h | h <;> (subst h; exact Nat.le_of_ble_eq_true rfl)) | (rcases h with h | h | h | h | h | h | h <;> (subst h; exact Nat.le_of_ble_eq_true rfl)) | (rcases h with h | h | h | h | h | h <;> (subst h; exact Nat.le_of_ble_eq_true rfl)) | (rcases h with h | h | h | h | h <;> (subst h; exact Nat.le_of_ble_eq_true rfl)) | (rcases h with h | h | h | h <;> (subst h; exact Nat.le_of_ble_eq_true rfl)) | (rcases h with h | h | h <;> (subst h; exact Nat.le_of_ble_eq_true rfl)) | (rcases h with h | h <;> (subst h; exact Nat.le_of_ble_eq_true rfl))
theorem layOk : EV.LayOk Yn := ⟨ly1, ly2⟩
def bodyOf (f : Func) : Code := match f.body with | some c => c | none => .skip
theorem T.mix : Tryz.prog.follows .mixedOrders = true := by kernel_rfl
theorem good0 : EV.Good Tryz.prog G0 Yn TI [] := ⟨by kernel_rfl, layOk, fun f S h => by simp at h⟩
abbrev SU := EV.Sum Un
def OK (f : Nat) (S : SU) : Prop := EV.SumOk Tryz.prog G0 Yn f S
def SNone : SU := ⟨[], [], false, false, fun _ => none⟩
theorem sNone (f : Nat) : OK f SNone := fun _ _ hr => nomatch hr
def od (n : Nat) (l : List Nat) : List (Nat × Bool) := (List.range n).map fun i => (i, !l.contains i)
theorem gc {f : Nat} {S : SU} {FZ : List (Nat × SU)} (h : OK f S) (G : EV.Good Tryz.prog G0 Yn TI FZ) : EV.Good Tryz.prog G0 Yn TI ((f, S) :: FZ) := EV.good_cons h G
theorem mkS {f : FuncId} {fn : Func} {n : Nat} {S : SU} {FZ : List (Nat × SU)} {m : EV.Tup Un S.ar → Option (EV.Tup Un S.rs)} (an : EV.An) (l : List ResultVar) (G : EV.Good Tryz.prog G0 Yn TI FZ) (hf : Tryz.prog.funcs[f]? = some fn) (hn : fn.ntmps = n) (ht : ∀ a r, S.m a = some r → m a = some r) (hE : ∀ args w, (callFunc f args).run Tryz.prog w = .ok (.enter f args) w) (h : ∀ a, EV.evF Yn TI FZ an (bodyOf fn) n S.ar S.rs S.fr l a = m a) (hb : fn.body = some (bodyOf fn) := by rfl) (hl : fn.results = l.toArray := by rfl) (hlen : S.ar.length ≤ n := by decide) (hw : S.wt = false := by rfl) : OK f S :=
  EV.sum_ok (an := fun _ => an) G T.mix hf hb hn hl hE hlen hw fun a r hr => (h a).trans (ht a r hr)
theorem mkW {f : FuncId} {fn : Func} {n : Nat} {kd : EV.Kd} {M m : EV.Tup Un [kd, .int .i64] → Option (EV.Tup Un [kd, .int .i64])} {FZ : List (Nat × SU)} (an : EV.An) (l : List ResultVar) (G : EV.Good Tryz.prog G0 Yn TI FZ) (hf : Tryz.prog.funcs[f]? = some fn) (hn : fn.ntmps = n) (ht : ∀ a r, M a = some r → m a = some r) (hE : ∀ args w, (callFunc f args).run Tryz.prog w = .ok (.enter f args) w) (h : ∀ a, EV.evM Yn TI FZ an (bodyOf fn) n kd l a = m a) (hb : fn.body = some (bodyOf fn) := by rfl) (hl : fn.results = l.toArray := by rfl) (hlen : 2 ≤ n := by decide) : OK f ⟨[kd, .int .i64], [kd, .int .i64], false, true, M⟩ :=
  EV.sum_wt (an := fun _ => an) G T.mix hf hb hn hl hE hlen fun a r hr => (h a).trans (ht a r hr)
def S_strings_Split : EV.Sum Un := ⟨[.str, .str], [.sl 9], false, false, fun (a : ByteArray × ByteArray) => gd (a.1.size < 4294967281 ∧ 1 ≤ a.2.size) (some (splitF a.1 a.2))⟩
theorem en_strings_Split (args : Array Value) (w : World) : (callFunc 268 args).run Tryz.prog w = .ok (.enter 268 args) w := by kernel_rfl
theorem u_strings_Split (a : ByteArray × ByteArray) : (EV.toCps Yn S_strings_Split.ar a).map EV.cpV = [.str a.1, .str a.2] := by kernel_rfl
theorem r_strings_Split (a : ByteArray × ByteArray) : tupOf ((EV.toCps Yn S_strings_Split.rs (splitF a.1 a.2)).map EV.cpV) = .slice 1 ((splitF a.1 a.2).map sV) := by kernel_rfl
theorem k_strings_Split (a : ByteArray × ByteArray) (r : EV.Tup Un S_strings_Split.rs) (hr : gd (a.1.size < 4294967281 ∧ 1 ≤ a.2.size) (some (splitF a.1 a.2)) = some r) : Spec Tryz.prog G0 268 ((EV.toCps Yn S_strings_Split.ar a).map EV.cpV) (fun v => v = tupOf ((EV.toCps Yn S_strings_Split.rs r).map EV.cpV)) := by
  unfold gd at hr
  split at hr
  · rename_i hp
    have e := Option.some.inj hr
    subst e
    rw [u_strings_Split, r_strings_Split]
    exact spec_split en_strings_Split (fun s sep m w a b c => Tryz.strings_Split s sep m w a b c) a.1 a.2 hp.1 hp.2
  · cases hr
theorem s_strings_Split : EV.SumOk Tryz.prog G0 Yn 268 S_strings_Split := fun (a : ByteArray × ByteArray) r hr => ⟨fun _ _ => k_strings_Split a r hr, fun _ h => absurd (show false = true from h) Bool.false_ne_true, fun h => absurd (show false = true from h) Bool.false_ne_true⟩
def S_strings_Join : EV.Sum Un := ⟨[.sl 9, .str], [.str], false, false, fun (a : (List ByteArray) × ByteArray) => gd (0 < a.1.length ∧ (joinB a.2 a.1).size ≤ 140737488355328 ∧ a.1.length ≤ 140737488355328) (some (joinB a.2 a.1))⟩
theorem en_strings_Join (args : Array Value) (w : World) : (callFunc 269 args).run Tryz.prog w = .ok (.enter 269 args) w := by kernel_rfl
theorem u_strings_Join (a : (List ByteArray) × ByteArray) : (EV.toCps Yn S_strings_Join.ar a).map EV.cpV = [.slice 1 (a.1.map sV), .str a.2] := by kernel_rfl
theorem r_strings_Join (a : (List ByteArray) × ByteArray) : tupOf ((EV.toCps Yn S_strings_Join.rs (joinB a.2 a.1)).map EV.cpV) = .str (joinB a.2 a.1) := by kernel_rfl
theorem k_strings_Join (a : (List ByteArray) × ByteArray) (r : EV.Tup Un S_strings_Join.rs) (hr : gd (0 < a.1.length ∧ (joinB a.2 a.1).size ≤ 140737488355328 ∧ a.1.length ≤ 140737488355328) (some (joinB a.2 a.1)) = some r) : Spec Tryz.prog G0 269 ((EV.toCps Yn S_strings_Join.ar a).map EV.cpV) (fun v => v = tupOf ((EV.toCps Yn S_strings_Join.rs r).map EV.cpV)) := by
  unfold gd at hr
  split at hr
  · rename_i hp
    have e := Option.some.inj hr
    subst e
    rw [u_strings_Join, r_strings_Join]
    exact spec_join en_strings_Join Tryz.strings_Join a.1 a.2 (by intro h; have := hp.1; rw [h] at this; simp at this) hp.2.1 hp.2.2
  · cases hr
theorem s_strings_Join : EV.SumOk Tryz.prog G0 Yn 269 S_strings_Join := fun (a : (List ByteArray) × ByteArray) r hr => ⟨fun _ _ => k_strings_Join a r hr, fun _ h => absurd (show false = true from h) Bool.false_ne_true, fun h => absurd (show false = true from h) Bool.false_ne_true⟩
end
end Go.VK
