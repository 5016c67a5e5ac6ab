import Derived.Test.YtffpnfmhcpcaaaaGreatDoorEWptor
/-
  Printed by wip/tools (own work of this part): models of functions, walks over the value kit, and proofs.
-/
set_option linter.unusedVariables false
set_option linter.unusedSimpArgs false
set_option maxRecDepth 100000
set_option maxHeartbeats 4000000
namespace Go.VK
open Go.RowKit Go.Proofs
structure D.Box where
 To:Int
 Ephemeral:Int
 Data:List Int
 MAC:Int
def D.Box.V (x:D.Box):List V:=[.int .i64 x.To, .int .i64 x.Ephemeral, .slice 1 (x.Data.map y8), .int .i64 x.MAC]
instance:Inhabited D.Box:=⟨⟨default,default,default,default⟩⟩
def D.Box.sz (x:D.Box):Nat:=x.Data.length
theorem D.Box.one (x:D.Box):dX x.V=true:=rfl
structure D.EpochBoxes where
 Epoch:Int
 Boxes:List D.Box
def D.EpochBoxes.V (x:D.EpochBoxes):List V:=[.int .i64 x.Epoch, .slice 4 (x.Boxes.map D.Box.V)]
instance:Inhabited D.EpochBoxes:=⟨⟨default,default⟩⟩
def D.EpochBoxes.sz (x:D.EpochBoxes):Nat:=x.Boxes.length+(x.Boxes.map D.Box.sz).sum
theorem D.EpochBoxes.one (x:D.EpochBoxes):dX x.V=true:=rfl
structure D.LogEntry where
 Index:Int
 Kind:Int
 Device:Int
 By:Int
 Previous:Int
 Signature:Int
def D.LogEntry.V (x:D.LogEntry):List V:=[.int .i64 x.Index, .int .i64 x.Kind, .int .i64 x.Device, .int .i64 x.By, .int .i64 x.Previous, .int .i64 x.Signature]
instance:Inhabited D.LogEntry:=⟨⟨default,default,default,default,default,default⟩⟩
def D.LogEntry.sz (x:D.LogEntry):Nat:=0
theorem D.LogEntry.one (x:D.LogEntry):dX x.V=true:=rfl
structure D.SealedBundle where
 Epoch:Int
 Version:Int
 Data:List Int
 MAC:Int
def D.SealedBundle.V (x:D.SealedBundle):List V:=[.int .i64 x.Epoch, .int .i64 x.Version, .slice 1 (x.Data.map y8), .int .i64 x.MAC]
instance:Inhabited D.SealedBundle:=⟨⟨default,default,default,default⟩⟩
def D.SealedBundle.sz (x:D.SealedBundle):Nat:=x.Data.length
theorem D.SealedBundle.one (x:D.SealedBundle):dX x.V=true:=rfl
structure D.Cloud where
 Log:List D.LogEntry
 Boxes:D.EpochBoxes
 History:List D.SealedBundle
def D.Cloud.V (x:D.Cloud):List V:=[.slice 6 (x.Log.map D.LogEntry.V), .int .i64 x.Boxes.Epoch, .slice 4 (x.Boxes.Boxes.map D.Box.V), .slice 4 (x.History.map D.SealedBundle.V)]
instance:Inhabited D.Cloud:=⟨⟨default,default,default⟩⟩
def D.Cloud.sz (x:D.Cloud):Nat:=x.Log.length+x.Boxes.Boxes.length+(x.Boxes.Boxes.map D.Box.sz).sum+x.History.length+(x.History.map D.SealedBundle.sz).sum
theorem D.Cloud.one (x:D.Cloud):dX x.V=true:=rfl
structure D.Vault where
 Salt:Int
 Threshold:Int
 Check:Int
 Masked:Int
def D.Vault.V (x:D.Vault):List V:=[.int .i64 x.Salt, .int .i64 x.Threshold, .int .i64 x.Check, .int .i64 x.Masked]
instance:Inhabited D.Vault:=⟨⟨default,default,default,default⟩⟩
def D.Vault.sz (x:D.Vault):Nat:=0
theorem D.Vault.one (x:D.Vault):dX x.V=true:=rfl
structure D.Notice where
 Kind:Int
 Account:Int
 Time:Int
 Seen:Bool
def D.Notice.V (x:D.Notice):List V:=[.int .i64 x.Kind, .int .i64 x.Account, .int .i64 x.Time, .bool x.Seen]
instance:Inhabited D.Notice:=⟨⟨default,default,default,default⟩⟩
def D.Notice.sz (x:D.Notice):Nat:=0
theorem D.Notice.one (x:D.Notice):dX x.V=true:=rfl
structure D.Mailbox where
 Notices:List D.Notice
def D.Mailbox.V (x:D.Mailbox):List V:=[.slice 4 (x.Notices.map D.Notice.V)]
instance:Inhabited D.Mailbox:=⟨⟨default⟩⟩
def D.Mailbox.sz (x:D.Mailbox):Nat:=x.Notices.length
theorem D.Mailbox.one (x:D.Mailbox):dX x.V=true:=rfl
structure D.KeyStore where
 Vendor:Int
 Serial:Int
 Seed:Int
 Counter:Int
def D.KeyStore.V (x:D.KeyStore):List V:=[.int .i64 x.Vendor, .int .i64 x.Serial, .int .i64 x.Seed, .int .i64 x.Counter]
instance:Inhabited D.KeyStore:=⟨⟨default,default,default,default⟩⟩
def D.KeyStore.sz (x:D.KeyStore):Nat:=0
theorem D.KeyStore.one (x:D.KeyStore):dX x.V=true:=rfl
structure D.Entry where
 Site:Int
 Handle:Int
 Version:Int
 Deleted:Bool
def D.Entry.V (x:D.Entry):List V:=[.int .i64 x.Site, .int .i64 x.Handle, .int .i64 x.Version, .bool x.Deleted]
instance:Inhabited D.Entry:=⟨⟨default,default,default,default⟩⟩
def D.Entry.sz (x:D.Entry):Nat:=0
theorem D.Entry.one (x:D.Entry):dX x.V=true:=rfl
structure D.Bundle where
 Entries:List D.Entry
def D.Bundle.V (x:D.Bundle):List V:=[.slice 4 (x.Entries.map D.Entry.V)]
instance:Inhabited D.Bundle:=⟨⟨default⟩⟩
def D.Bundle.sz (x:D.Bundle):Nat:=x.Entries.length
theorem D.Bundle.one (x:D.Bundle):dX x.V=true:=rfl
structure D.Device where
 Store:D.KeyStore
 Log:List D.LogEntry
 Key:Int
 Epoch:Int
 Version:Int
 Bundle:D.Bundle
def D.Device.V (x:D.Device):List V:=[.int .i64 x.Store.Vendor, .int .i64 x.Store.Serial, .int .i64 x.Store.Seed, .int .i64 x.Store.Counter, .slice 6 (x.Log.map D.LogEntry.V), .int .i64 x.Key, .int .i64 x.Epoch, .int .i64 x.Version, .slice 4 (x.Bundle.Entries.map D.Entry.V)]
instance:Inhabited D.Device:=⟨⟨default,default,default,default,default,default⟩⟩
def D.Device.sz (x:D.Device):Nat:=x.Log.length+x.Bundle.Entries.length
theorem D.Device.one (x:D.Device):dX x.V=true:=rfl
structure D.Credential where
 Handle:Int
 Public:Int
 Counter:Int
 Cut:Bool
def D.Credential.V (x:D.Credential):List V:=[.int .i64 x.Handle, .int .i64 x.Public, .int .i64 x.Counter, .bool x.Cut]
instance:Inhabited D.Credential:=⟨⟨default,default,default,default⟩⟩
def D.Credential.sz (x:D.Credential):Nat:=0
theorem D.Credential.one (x:D.Credential):dX x.V=true:=rfl
structure D.Account where
 Id:Int
 Minimum:Int
 Credentials:List D.Credential
def D.Account.V (x:D.Account):List V:=[.int .i64 x.Id, .int .i64 x.Minimum, .slice 4 (x.Credentials.map D.Credential.V)]
instance:Inhabited D.Account:=⟨⟨default,default,default⟩⟩
def D.Account.sz (x:D.Account):Nat:=x.Credentials.length
theorem D.Account.one (x:D.Account):dX x.V=true:=rfl
structure D.Challenge where
 Id:Int
 Account:Int
 Until:Int
def D.Challenge.V (x:D.Challenge):List V:=[.int .i64 x.Id, .int .i64 x.Account, .int .i64 x.Until]
instance:Inhabited D.Challenge:=⟨⟨default,default,default⟩⟩
def D.Challenge.sz (x:D.Challenge):Nat:=0
theorem D.Challenge.one (x:D.Challenge):dX x.V=true:=rfl
structure D.ChallengeBook where
 Seed:Int
 Next:Int
 Open:List D.Challenge
def D.ChallengeBook.V (x:D.ChallengeBook):List V:=[.int .i64 x.Seed, .int .i64 x.Next, .slice 3 (x.Open.map D.Challenge.V)]
instance:Inhabited D.ChallengeBook:=⟨⟨default,default,default⟩⟩
def D.ChallengeBook.sz (x:D.ChallengeBook):Nat:=x.Open.length
theorem D.ChallengeBook.one (x:D.ChallengeBook):dX x.V=true:=rfl
structure D.Site where
 Name:ByteArray
 Accounts:List D.Account
 Book:D.ChallengeBook
 Logins:List Int
def D.Site.V (x:D.Site):List V:=[.str x.Name, .slice 3 (x.Accounts.map D.Account.V), .int .i64 x.Book.Seed, .int .i64 x.Book.Next, .slice 3 (x.Book.Open.map D.Challenge.V), .slice 1 (x.Logins.map iV)]
instance:Inhabited D.Site:=⟨⟨default,default,default,default⟩⟩
def D.Site.sz (x:D.Site):Nat:=x.Name.size+x.Accounts.length+(x.Accounts.map D.Account.sz).sum+x.Book.Open.length+x.Logins.length
theorem D.Site.one (x:D.Site):dX x.V=true:=rfl
structure D.Share where
 Index:Int
 Value:Int
def D.Share.V (x:D.Share):List V:=[.int .i64 x.Index, .int .i64 x.Value]
instance:Inhabited D.Share:=⟨⟨default,default⟩⟩
def D.Share.sz (x:D.Share):Nat:=0
theorem D.Share.one (x:D.Share):dX x.V=true:=rfl
structure D.Keeper where
 Share:D.Share
 Epoch:Int
 Guesses:Int
 Limit:Int
def D.Keeper.V (x:D.Keeper):List V:=[.int .i64 x.Share.Index, .int .i64 x.Share.Value, .int .i64 x.Epoch, .int .i64 x.Guesses, .int .i64 x.Limit]
instance:Inhabited D.Keeper:=⟨⟨default,default,default,default⟩⟩
def D.Keeper.sz (x:D.Keeper):Nat:=0
theorem D.Keeper.one (x:D.Keeper):dX x.V=true:=rfl
structure D.KeeperHost where
 State:D.Keeper
 Saved:List D.Keeper
 Monotonic:Int
def D.KeeperHost.V (x:D.KeeperHost):List V:=[.int .i64 x.State.Share.Index, .int .i64 x.State.Share.Value, .int .i64 x.State.Epoch, .int .i64 x.State.Guesses, .int .i64 x.State.Limit, .slice 5 (x.Saved.map D.Keeper.V), .int .i64 x.Monotonic]
instance:Inhabited D.KeeperHost:=⟨⟨default,default,default⟩⟩
def D.KeeperHost.sz (x:D.KeeperHost):Nat:=x.Saved.length
theorem D.KeeperHost.one (x:D.KeeperHost):dX x.V=true:=rfl
structure D.World where
 Now:Int
 Seed:Int
 Devices:List D.Device
 Stolen:List Bool
 Cloud:D.Cloud
 Sites:List D.Site
 Vault:D.Vault
 Hosts:List D.KeeperHost
 Pin:Int
 Mail:D.Mailbox
def D.World.V (x:D.World):List V:=[.int .i64 x.Now, .int .i64 x.Seed, .slice 9 (x.Devices.map D.Device.V), .slice 1 (x.Stolen.map bV), .slice 6 (x.Cloud.Log.map D.LogEntry.V), .int .i64 x.Cloud.Boxes.Epoch, .slice 4 (x.Cloud.Boxes.Boxes.map D.Box.V), .slice 4 (x.Cloud.History.map D.SealedBundle.V), .slice 6 (x.Sites.map D.Site.V), .int .i64 x.Vault.Salt, .int .i64 x.Vault.Threshold, .int .i64 x.Vault.Check, .int .i64 x.Vault.Masked, .slice 7 (x.Hosts.map D.KeeperHost.V), .int .i64 x.Pin, .slice 4 (x.Mail.Notices.map D.Notice.V)]
instance:Inhabited D.World:=⟨⟨default,default,default,default,default,default,default,default,default,default⟩⟩
def D.World.sz (x:D.World):Nat:=x.Devices.length+(x.Devices.map D.Device.sz).sum+x.Stolen.length+x.Cloud.Log.length+x.Cloud.Boxes.Boxes.length+(x.Cloud.Boxes.Boxes.map D.Box.sz).sum+x.Cloud.History.length+(x.Cloud.History.map D.SealedBundle.sz).sum+x.Sites.length+(x.Sites.map D.Site.sz).sum+x.Hosts.length+(x.Hosts.map D.KeeperHost.sz).sum+x.Mail.Notices.length
theorem D.World.one (x:D.World):dX x.V=true:=rfl
end Go.VK
