import Derived.Test.YtegpalcapdnnoaaGreatDoorXfFF
import Derived.Test.YtegpalcapdnnoaaGreatDoorEWr
import Derived.Test.YtegpalcapdnnoaaGreatDoorProg
import Derived.Test.YtegpalcapdnnoaaGreatDoorTryzShelf
/-
  Printed by wip/tools (own work of this part): models of functions, walks over the value kit, and proofs.
-/
set_option linter.unusedVariables false
set_option linter.unusedSimpArgs false
set_option maxRecDepth 100000
set_option maxHeartbeats 4000000
namespace Go.VK
open Go.RowKit Go.Proofs
noncomputable section
abbrev G0:GI:=GMax 0
def El:Nat→Type
 |109=>D.KeyStore
 |212=>D.LogEntry
 |305=>D.Entry
 |112=>D.Bundle
 |114=>D.Device
 |4=>Bool
 |5=>Int
 |264=>D.Box
 |27=>D.EpochBoxes
 |195=>D.SealedBundle
 |30=>D.Cloud
 |316=>D.Credential
 |268=>D.Account
 |308=>D.Challenge
 |122=>D.ChallengeBook
 |3=>Int
 |125=>D.Site
 |33=>D.Vault
 |128=>D.Share
 |130=>D.Keeper
 |133=>D.KeeperHost
 |223=>D.Notice
 |37=>D.Mailbox
 |39=>D.World
 |74=>D.KeyStore
 |210=>D.LogEntry
 |244=>D.Entry
 |77=>D.Bundle
 |79=>D.Device
 |270=>D.Box
 |45=>D.EpochBoxes
 |92=>D.SealedBundle
 |48=>D.Cloud
 |286=>D.Credential
 |203=>D.Account
 |260=>D.Challenge
 |140=>D.ChallengeBook
 |142=>D.Site
 |50=>D.Vault
 |152=>D.Share
 |154=>D.Keeper
 |157=>D.KeeperHost
 |221=>D.Notice
 |54=>D.Mailbox
 |56=>D.World
 |123=>List Int
 |9=>ByteArray
 |_=>Empty
def encE:(τ:Nat)→El τ→List V
 |109=>D.KeyStore.V
 |212=>D.LogEntry.V
 |305=>D.Entry.V
 |112=>D.Bundle.V
 |114=>D.Device.V
 |4=>bV
 |5=>y8
 |264=>D.Box.V
 |27=>D.EpochBoxes.V
 |195=>D.SealedBundle.V
 |30=>D.Cloud.V
 |316=>D.Credential.V
 |268=>D.Account.V
 |308=>D.Challenge.V
 |122=>D.ChallengeBook.V
 |3=>iV
 |125=>D.Site.V
 |33=>D.Vault.V
 |128=>D.Share.V
 |130=>D.Keeper.V
 |133=>D.KeeperHost.V
 |223=>D.Notice.V
 |37=>D.Mailbox.V
 |39=>D.World.V
 |74=>D.KeyStore.V
 |210=>D.LogEntry.V
 |244=>D.Entry.V
 |77=>D.Bundle.V
 |79=>D.Device.V
 |270=>D.Box.V
 |45=>D.EpochBoxes.V
 |92=>D.SealedBundle.V
 |48=>D.Cloud.V
 |286=>D.Credential.V
 |203=>D.Account.V
 |260=>D.Challenge.V
 |140=>D.ChallengeBook.V
 |142=>D.Site.V
 |50=>D.Vault.V
 |152=>D.Share.V
 |154=>D.Keeper.V
 |157=>D.KeeperHost.V
 |221=>D.Notice.V
 |54=>D.Mailbox.V
 |56=>D.World.V
 |123=>(fun l=>[V.slice 1 (l.map iV)])
 |9=>sV
 |_=>fun _=>[]
def Un:EV.Uni:=⟨El,fun|109=>4|212=>6|305=>4|112=>1|114=>9|4=>1|5=>1|264=>4|27=>2|195=>4|30=>4|316=>4|268=>3|308=>3|122=>3|3=>1|125=>6|33=>4|128=>2|130=>5|133=>7|223=>4|37=>1|39=>16|74=>4|210=>6|244=>4|77=>1|79=>9|270=>4|45=>2|92=>4|48=>4|286=>4|203=>3|260=>3|140=>3|142=>6|50=>4|152=>2|154=>5|157=>7|221=>4|54=>1|56=>16|123=>1|9=>1|_=>0,encE⟩
def celE:(τ:Nat)→El τ→List (EV.Lf Un)
 |109=>fun x=>[.int .i64 x.Vendor, .int .i64 x.Serial, .int .i64 x.Seed, .int .i64 x.Counter]
 |212=>fun x=>[.int .i64 x.Index, .int .i64 x.Kind, .int .i64 x.Device, .int .i64 x.By, .int .i64 x.Previous, .int .i64 x.Signature]
 |305=>fun x=>[.int .i64 x.Site, .int .i64 x.Handle, .int .i64 x.Version, .bool x.Deleted]
 |112=>fun x=>[.sl 305 x.Entries]
 |114=>fun x=>[.int .i64 x.Store.Vendor, .int .i64 x.Store.Serial, .int .i64 x.Store.Seed, .int .i64 x.Store.Counter, .sl 212 x.Log, .int .i64 x.Key, .int .i64 x.Epoch, .int .i64 x.Version, .sl 305 x.Bundle.Entries]
 |4=>fun x=>[.bool x]
 |5=>fun x=>[.int .u8 x]
 |264=>fun x=>[.int .i64 x.To, .int .i64 x.Ephemeral, .sl 5 x.Data, .int .i64 x.MAC]
 |27=>fun x=>[.int .i64 x.Epoch, .sl 264 x.Boxes]
 |195=>fun x=>[.int .i64 x.Epoch, .int .i64 x.Version, .sl 5 x.Data, .int .i64 x.MAC]
 |30=>fun x=>[.sl 212 x.Log, .int .i64 x.Boxes.Epoch, .sl 264 x.Boxes.Boxes, .sl 195 x.History]
 |316=>fun x=>[.int .i64 x.Handle, .int .i64 x.Public, .int .i64 x.Counter, .bool x.Cut]
 |268=>fun x=>[.int .i64 x.Id, .int .i64 x.Minimum, .sl 316 x.Credentials]
 |308=>fun x=>[.int .i64 x.Id, .int .i64 x.Account, .int .i64 x.Until]
 |122=>fun x=>[.int .i64 x.Seed, .int .i64 x.Next, .sl 308 x.Open]
 |3=>fun x=>[.int .i64 x]
 |125=>fun x=>[.str x.Name, .sl 268 x.Accounts, .int .i64 x.Book.Seed, .int .i64 x.Book.Next, .sl 308 x.Book.Open, .sl 3 x.Logins]
 |33=>fun x=>[.int .i64 x.Salt, .int .i64 x.Threshold, .int .i64 x.Check, .int .i64 x.Masked]
 |128=>fun x=>[.int .i64 x.Index, .int .i64 x.Value]
 |130=>fun x=>[.int .i64 x.Share.Index, .int .i64 x.Share.Value, .int .i64 x.Epoch, .int .i64 x.Guesses, .int .i64 x.Limit]
 |133=>fun x=>[.int .i64 x.State.Share.Index, .int .i64 x.State.Share.Value, .int .i64 x.State.Epoch, .int .i64 x.State.Guesses, .int .i64 x.State.Limit, .sl 130 x.Saved, .int .i64 x.Monotonic]
 |223=>fun x=>[.int .i64 x.Kind, .int .i64 x.Account, .int .i64 x.Time, .bool x.Seen]
 |37=>fun x=>[.sl 223 x.Notices]
 |39=>fun x=>[.int .i64 x.Now, .int .i64 x.Seed, .sl 114 x.Devices, .sl 4 x.Stolen, .sl 212 x.Cloud.Log, .int .i64 x.Cloud.Boxes.Epoch, .sl 264 x.Cloud.Boxes.Boxes, .sl 195 x.Cloud.History, .sl 125 x.Sites, .int .i64 x.Vault.Salt, .int .i64 x.Vault.Threshold, .int .i64 x.Vault.Check, .int .i64 x.Vault.Masked, .sl 133 x.Hosts, .int .i64 x.Pin, .sl 223 x.Mail.Notices]
 |74=>fun x=>[.int .i64 x.Vendor, .int .i64 x.Serial, .int .i64 x.Seed, .int .i64 x.Counter]
 |210=>fun x=>[.int .i64 x.Index, .int .i64 x.Kind, .int .i64 x.Device, .int .i64 x.By, .int .i64 x.Previous, .int .i64 x.Signature]
 |244=>fun x=>[.int .i64 x.Site, .int .i64 x.Handle, .int .i64 x.Version, .bool x.Deleted]
 |77=>fun x=>[.sl 244 x.Entries]
 |79=>fun x=>[.int .i64 x.Store.Vendor, .int .i64 x.Store.Serial, .int .i64 x.Store.Seed, .int .i64 x.Store.Counter, .sl 210 x.Log, .int .i64 x.Key, .int .i64 x.Epoch, .int .i64 x.Version, .sl 244 x.Bundle.Entries]
 |270=>fun x=>[.int .i64 x.To, .int .i64 x.Ephemeral, .sl 5 x.Data, .int .i64 x.MAC]
 |45=>fun x=>[.int .i64 x.Epoch, .sl 270 x.Boxes]
 |92=>fun x=>[.int .i64 x.Epoch, .int .i64 x.Version, .sl 5 x.Data, .int .i64 x.MAC]
 |48=>fun x=>[.sl 210 x.Log, .int .i64 x.Boxes.Epoch, .sl 270 x.Boxes.Boxes, .sl 92 x.History]
 |286=>fun x=>[.int .i64 x.Handle, .int .i64 x.Public, .int .i64 x.Counter, .bool x.Cut]
 |203=>fun x=>[.int .i64 x.Id, .int .i64 x.Minimum, .sl 286 x.Credentials]
 |260=>fun x=>[.int .i64 x.Id, .int .i64 x.Account, .int .i64 x.Until]
 |140=>fun x=>[.int .i64 x.Seed, .int .i64 x.Next, .sl 260 x.Open]
 |142=>fun x=>[.str x.Name, .sl 203 x.Accounts, .int .i64 x.Book.Seed, .int .i64 x.Book.Next, .sl 260 x.Book.Open, .sl 3 x.Logins]
 |50=>fun x=>[.int .i64 x.Salt, .int .i64 x.Threshold, .int .i64 x.Check, .int .i64 x.Masked]
 |152=>fun x=>[.int .i64 x.Index, .int .i64 x.Value]
 |154=>fun x=>[.int .i64 x.Share.Index, .int .i64 x.Share.Value, .int .i64 x.Epoch, .int .i64 x.Guesses, .int .i64 x.Limit]
 |157=>fun x=>[.int .i64 x.State.Share.Index, .int .i64 x.State.Share.Value, .int .i64 x.State.Epoch, .int .i64 x.State.Guesses, .int .i64 x.State.Limit, .sl 154 x.Saved, .int .i64 x.Monotonic]
 |221=>fun x=>[.int .i64 x.Kind, .int .i64 x.Account, .int .i64 x.Time, .bool x.Seen]
 |54=>fun x=>[.sl 221 x.Notices]
 |56=>fun x=>[.int .i64 x.Now, .int .i64 x.Seed, .sl 79 x.Devices, .sl 4 x.Stolen, .sl 210 x.Cloud.Log, .int .i64 x.Cloud.Boxes.Epoch, .sl 270 x.Cloud.Boxes.Boxes, .sl 92 x.Cloud.History, .sl 142 x.Sites, .int .i64 x.Vault.Salt, .int .i64 x.Vault.Threshold, .int .i64 x.Vault.Check, .int .i64 x.Vault.Masked, .sl 157 x.Hosts, .int .i64 x.Pin, .sl 221 x.Mail.Notices]
 |123=>fun x=>[.sl 3 x]
 |9=>fun x=>[.str x]
 |_=>fun _=>[]
def kdE:Nat→List EV.Kd
 |109=>[.int .i64, .int .i64, .int .i64, .int .i64]
 |212=>[.int .i64, .int .i64, .int .i64, .int .i64, .int .i64, .int .i64]
 |305=>[.int .i64, .int .i64, .int .i64, .bool]
 |112=>[.sl 305]
 |114=>[.int .i64, .int .i64, .int .i64, .int .i64, .sl 212, .int .i64, .int .i64, .int .i64, .sl 305]
 |4=>[.bool]
 |5=>[.int .u8]
 |264=>[.int .i64, .int .i64, .sl 5, .int .i64]
 |27=>[.int .i64, .sl 264]
 |195=>[.int .i64, .int .i64, .sl 5, .int .i64]
 |30=>[.sl 212, .int .i64, .sl 264, .sl 195]
 |316=>[.int .i64, .int .i64, .int .i64, .bool]
 |268=>[.int .i64, .int .i64, .sl 316]
 |308=>[.int .i64, .int .i64, .int .i64]
 |122=>[.int .i64, .int .i64, .sl 308]
 |3=>[.int .i64]
 |125=>[.str, .sl 268, .int .i64, .int .i64, .sl 308, .sl 3]
 |33=>[.int .i64, .int .i64, .int .i64, .int .i64]
 |128=>[.int .i64, .int .i64]
 |130=>[.int .i64, .int .i64, .int .i64, .int .i64, .int .i64]
 |133=>[.int .i64, .int .i64, .int .i64, .int .i64, .int .i64, .sl 130, .int .i64]
 |223=>[.int .i64, .int .i64, .int .i64, .bool]
 |37=>[.sl 223]
 |39=>[.int .i64, .int .i64, .sl 114, .sl 4, .sl 212, .int .i64, .sl 264, .sl 195, .sl 125, .int .i64, .int .i64, .int .i64, .int .i64, .sl 133, .int .i64, .sl 223]
 |74=>[.int .i64, .int .i64, .int .i64, .int .i64]
 |210=>[.int .i64, .int .i64, .int .i64, .int .i64, .int .i64, .int .i64]
 |244=>[.int .i64, .int .i64, .int .i64, .bool]
 |77=>[.sl 244]
 |79=>[.int .i64, .int .i64, .int .i64, .int .i64, .sl 210, .int .i64, .int .i64, .int .i64, .sl 244]
 |270=>[.int .i64, .int .i64, .sl 5, .int .i64]
 |45=>[.int .i64, .sl 270]
 |92=>[.int .i64, .int .i64, .sl 5, .int .i64]
 |48=>[.sl 210, .int .i64, .sl 270, .sl 92]
 |286=>[.int .i64, .int .i64, .int .i64, .bool]
 |203=>[.int .i64, .int .i64, .sl 286]
 |260=>[.int .i64, .int .i64, .int .i64]
 |140=>[.int .i64, .int .i64, .sl 260]
 |142=>[.str, .sl 203, .int .i64, .int .i64, .sl 260, .sl 3]
 |50=>[.int .i64, .int .i64, .int .i64, .int .i64]
 |152=>[.int .i64, .int .i64]
 |154=>[.int .i64, .int .i64, .int .i64, .int .i64, .int .i64]
 |157=>[.int .i64, .int .i64, .int .i64, .int .i64, .int .i64, .sl 154, .int .i64]
 |221=>[.int .i64, .int .i64, .int .i64, .bool]
 |54=>[.sl 221]
 |56=>[.int .i64, .int .i64, .sl 79, .sl 4, .sl 210, .int .i64, .sl 270, .sl 92, .sl 142, .int .i64, .int .i64, .int .i64, .int .i64, .sl 157, .int .i64, .sl 221]
 |123=>[.sl 3]
 |9=>[.str]
 |_=>[]
def bldE:(τ:Nat)→List (EV.Lf Un)→Option (El τ)
 |109=>fun|[c0,c1,c2,c3]=>bd (EV.lfTy (.int .i64) c0) fun a0=>bd (EV.lfTy (.int .i64) c1) fun a1=>bd (EV.lfTy (.int .i64) c2) fun a2=>bd (EV.lfTy (.int .i64) c3) fun a3=>some ⟨a0,a1,a2,a3⟩|_=>none
 |212=>fun|[c0,c1,c2,c3,c4,c5]=>bd (EV.lfTy (.int .i64) c0) fun a0=>bd (EV.lfTy (.int .i64) c1) fun a1=>bd (EV.lfTy (.int .i64) c2) fun a2=>bd (EV.lfTy (.int .i64) c3) fun a3=>bd (EV.lfTy (.int .i64) c4) fun a4=>bd (EV.lfTy (.int .i64) c5) fun a5=>some ⟨a0,a1,a2,a3,a4,a5⟩|_=>none
 |305=>fun|[c0,c1,c2,c3]=>bd (EV.lfTy (.int .i64) c0) fun a0=>bd (EV.lfTy (.int .i64) c1) fun a1=>bd (EV.lfTy (.int .i64) c2) fun a2=>bd (EV.lfTy (.bool) c3) fun a3=>some ⟨a0,a1,a2,a3⟩|_=>none
 |112=>fun|[c0]=>bd (EV.lfTy (.sl 305) c0) fun a0=>some ⟨a0⟩|_=>none
 |114=>fun|[c0,c1,c2,c3,c4,c5,c6,c7,c8]=>bd (EV.lfTy (.int .i64) c0) fun a0=>bd (EV.lfTy (.int .i64) c1) fun a1=>bd (EV.lfTy (.int .i64) c2) fun a2=>bd (EV.lfTy (.int .i64) c3) fun a3=>bd (EV.lfTy (.sl 212) c4) fun a4=>bd (EV.lfTy (.int .i64) c5) fun a5=>bd (EV.lfTy (.int .i64) c6) fun a6=>bd (EV.lfTy (.int .i64) c7) fun a7=>bd (EV.lfTy (.sl 305) c8) fun a8=>some ⟨⟨a0,a1,a2,a3⟩,a4,a5,a6,a7,⟨a8⟩⟩|_=>none
 |4=>fun|[c0]=>bd (EV.lfTy (.bool) c0) fun a0=>some a0|_=>none
 |5=>fun|[c0]=>bd (EV.lfTy (.int .u8) c0) fun a0=>some a0|_=>none
 |264=>fun|[c0,c1,c2,c3]=>bd (EV.lfTy (.int .i64) c0) fun a0=>bd (EV.lfTy (.int .i64) c1) fun a1=>bd (EV.lfTy (.sl 5) c2) fun a2=>bd (EV.lfTy (.int .i64) c3) fun a3=>some ⟨a0,a1,a2,a3⟩|_=>none
 |27=>fun|[c0,c1]=>bd (EV.lfTy (.int .i64) c0) fun a0=>bd (EV.lfTy (.sl 264) c1) fun a1=>some ⟨a0,a1⟩|_=>none
 |195=>fun|[c0,c1,c2,c3]=>bd (EV.lfTy (.int .i64) c0) fun a0=>bd (EV.lfTy (.int .i64) c1) fun a1=>bd (EV.lfTy (.sl 5) c2) fun a2=>bd (EV.lfTy (.int .i64) c3) fun a3=>some ⟨a0,a1,a2,a3⟩|_=>none
 |30=>fun|[c0,c1,c2,c3]=>bd (EV.lfTy (.sl 212) c0) fun a0=>bd (EV.lfTy (.int .i64) c1) fun a1=>bd (EV.lfTy (.sl 264) c2) fun a2=>bd (EV.lfTy (.sl 195) c3) fun a3=>some ⟨a0,⟨a1,a2⟩,a3⟩|_=>none
 |316=>fun|[c0,c1,c2,c3]=>bd (EV.lfTy (.int .i64) c0) fun a0=>bd (EV.lfTy (.int .i64) c1) fun a1=>bd (EV.lfTy (.int .i64) c2) fun a2=>bd (EV.lfTy (.bool) c3) fun a3=>some ⟨a0,a1,a2,a3⟩|_=>none
 |268=>fun|[c0,c1,c2]=>bd (EV.lfTy (.int .i64) c0) fun a0=>bd (EV.lfTy (.int .i64) c1) fun a1=>bd (EV.lfTy (.sl 316) c2) fun a2=>some ⟨a0,a1,a2⟩|_=>none
 |308=>fun|[c0,c1,c2]=>bd (EV.lfTy (.int .i64) c0) fun a0=>bd (EV.lfTy (.int .i64) c1) fun a1=>bd (EV.lfTy (.int .i64) c2) fun a2=>some ⟨a0,a1,a2⟩|_=>none
 |122=>fun|[c0,c1,c2]=>bd (EV.lfTy (.int .i64) c0) fun a0=>bd (EV.lfTy (.int .i64) c1) fun a1=>bd (EV.lfTy (.sl 308) c2) fun a2=>some ⟨a0,a1,a2⟩|_=>none
 |3=>fun|[c0]=>bd (EV.lfTy (.int .i64) c0) fun a0=>some a0|_=>none
 |125=>fun|[c0,c1,c2,c3,c4,c5]=>bd (EV.lfTy (.str) c0) fun a0=>bd (EV.lfTy (.sl 268) c1) fun a1=>bd (EV.lfTy (.int .i64) c2) fun a2=>bd (EV.lfTy (.int .i64) c3) fun a3=>bd (EV.lfTy (.sl 308) c4) fun a4=>bd (EV.lfTy (.sl 3) c5) fun a5=>some ⟨a0,a1,⟨a2,a3,a4⟩,a5⟩|_=>none
 |33=>fun|[c0,c1,c2,c3]=>bd (EV.lfTy (.int .i64) c0) fun a0=>bd (EV.lfTy (.int .i64) c1) fun a1=>bd (EV.lfTy (.int .i64) c2) fun a2=>bd (EV.lfTy (.int .i64) c3) fun a3=>some ⟨a0,a1,a2,a3⟩|_=>none
 |128=>fun|[c0,c1]=>bd (EV.lfTy (.int .i64) c0) fun a0=>bd (EV.lfTy (.int .i64) c1) fun a1=>some ⟨a0,a1⟩|_=>none
 |130=>fun|[c0,c1,c2,c3,c4]=>bd (EV.lfTy (.int .i64) c0) fun a0=>bd (EV.lfTy (.int .i64) c1) fun a1=>bd (EV.lfTy (.int .i64) c2) fun a2=>bd (EV.lfTy (.int .i64) c3) fun a3=>bd (EV.lfTy (.int .i64) c4) fun a4=>some ⟨⟨a0,a1⟩,a2,a3,a4⟩|_=>none
 |133=>fun|[c0,c1,c2,c3,c4,c5,c6]=>bd (EV.lfTy (.int .i64) c0) fun a0=>bd (EV.lfTy (.int .i64) c1) fun a1=>bd (EV.lfTy (.int .i64) c2) fun a2=>bd (EV.lfTy (.int .i64) c3) fun a3=>bd (EV.lfTy (.int .i64) c4) fun a4=>bd (EV.lfTy (.sl 130) c5) fun a5=>bd (EV.lfTy (.int .i64) c6) fun a6=>some ⟨⟨⟨a0,a1⟩,a2,a3,a4⟩,a5,a6⟩|_=>none
 |223=>fun|[c0,c1,c2,c3]=>bd (EV.lfTy (.int .i64) c0) fun a0=>bd (EV.lfTy (.int .i64) c1) fun a1=>bd (EV.lfTy (.int .i64) c2) fun a2=>bd (EV.lfTy (.bool) c3) fun a3=>some ⟨a0,a1,a2,a3⟩|_=>none
 |37=>fun|[c0]=>bd (EV.lfTy (.sl 223) c0) fun a0=>some ⟨a0⟩|_=>none
 |39=>fun|[c0,c1,c2,c3,c4,c5,c6,c7,c8,c9,c10,c11,c12,c13,c14,c15]=>bd (EV.lfTy (.int .i64) c0) fun a0=>bd (EV.lfTy (.int .i64) c1) fun a1=>bd (EV.lfTy (.sl 114) c2) fun a2=>bd (EV.lfTy (.sl 4) c3) fun a3=>bd (EV.lfTy (.sl 212) c4) fun a4=>bd (EV.lfTy (.int .i64) c5) fun a5=>bd (EV.lfTy (.sl 264) c6) fun a6=>bd (EV.lfTy (.sl 195) c7) fun a7=>bd (EV.lfTy (.sl 125) c8) fun a8=>bd (EV.lfTy (.int .i64) c9) fun a9=>bd (EV.lfTy (.int .i64) c10) fun a10=>bd (EV.lfTy (.int .i64) c11) fun a11=>bd (EV.lfTy (.int .i64) c12) fun a12=>bd (EV.lfTy (.sl 133) c13) fun a13=>bd (EV.lfTy (.int .i64) c14) fun a14=>bd (EV.lfTy (.sl 223) c15) fun a15=>some ⟨a0,a1,a2,a3,⟨a4,⟨a5,a6⟩,a7⟩,a8,⟨a9,a10,a11,a12⟩,a13,a14,⟨a15⟩⟩|_=>none
 |74=>fun|[c0,c1,c2,c3]=>bd (EV.lfTy (.int .i64) c0) fun a0=>bd (EV.lfTy (.int .i64) c1) fun a1=>bd (EV.lfTy (.int .i64) c2) fun a2=>bd (EV.lfTy (.int .i64) c3) fun a3=>some ⟨a0,a1,a2,a3⟩|_=>none
 |210=>fun|[c0,c1,c2,c3,c4,c5]=>bd (EV.lfTy (.int .i64) c0) fun a0=>bd (EV.lfTy (.int .i64) c1) fun a1=>bd (EV.lfTy (.int .i64) c2) fun a2=>bd (EV.lfTy (.int .i64) c3) fun a3=>bd (EV.lfTy (.int .i64) c4) fun a4=>bd (EV.lfTy (.int .i64) c5) fun a5=>some ⟨a0,a1,a2,a3,a4,a5⟩|_=>none
 |244=>fun|[c0,c1,c2,c3]=>bd (EV.lfTy (.int .i64) c0) fun a0=>bd (EV.lfTy (.int .i64) c1) fun a1=>bd (EV.lfTy (.int .i64) c2) fun a2=>bd (EV.lfTy (.bool) c3) fun a3=>some ⟨a0,a1,a2,a3⟩|_=>none
 |77=>fun|[c0]=>bd (EV.lfTy (.sl 244) c0) fun a0=>some ⟨a0⟩|_=>none
 |79=>fun|[c0,c1,c2,c3,c4,c5,c6,c7,c8]=>bd (EV.lfTy (.int .i64) c0) fun a0=>bd (EV.lfTy (.int .i64) c1) fun a1=>bd (EV.lfTy (.int .i64) c2) fun a2=>bd (EV.lfTy (.int .i64) c3) fun a3=>bd (EV.lfTy (.sl 210) c4) fun a4=>bd (EV.lfTy (.int .i64) c5) fun a5=>bd (EV.lfTy (.int .i64) c6) fun a6=>bd (EV.lfTy (.int .i64) c7) fun a7=>bd (EV.lfTy (.sl 244) c8) fun a8=>some ⟨⟨a0,a1,a2,a3⟩,a4,a5,a6,a7,⟨a8⟩⟩|_=>none
 |270=>fun|[c0,c1,c2,c3]=>bd (EV.lfTy (.int .i64) c0) fun a0=>bd (EV.lfTy (.int .i64) c1) fun a1=>bd (EV.lfTy (.sl 5) c2) fun a2=>bd (EV.lfTy (.int .i64) c3) fun a3=>some ⟨a0,a1,a2,a3⟩|_=>none
 |45=>fun|[c0,c1]=>bd (EV.lfTy (.int .i64) c0) fun a0=>bd (EV.lfTy (.sl 270) c1) fun a1=>some ⟨a0,a1⟩|_=>none
 |92=>fun|[c0,c1,c2,c3]=>bd (EV.lfTy (.int .i64) c0) fun a0=>bd (EV.lfTy (.int .i64) c1) fun a1=>bd (EV.lfTy (.sl 5) c2) fun a2=>bd (EV.lfTy (.int .i64) c3) fun a3=>some ⟨a0,a1,a2,a3⟩|_=>none
 |48=>fun|[c0,c1,c2,c3]=>bd (EV.lfTy (.sl 210) c0) fun a0=>bd (EV.lfTy (.int .i64) c1) fun a1=>bd (EV.lfTy (.sl 270) c2) fun a2=>bd (EV.lfTy (.sl 92) c3) fun a3=>some ⟨a0,⟨a1,a2⟩,a3⟩|_=>none
 |286=>fun|[c0,c1,c2,c3]=>bd (EV.lfTy (.int .i64) c0) fun a0=>bd (EV.lfTy (.int .i64) c1) fun a1=>bd (EV.lfTy (.int .i64) c2) fun a2=>bd (EV.lfTy (.bool) c3) fun a3=>some ⟨a0,a1,a2,a3⟩|_=>none
 |203=>fun|[c0,c1,c2]=>bd (EV.lfTy (.int .i64) c0) fun a0=>bd (EV.lfTy (.int .i64) c1) fun a1=>bd (EV.lfTy (.sl 286) c2) fun a2=>some ⟨a0,a1,a2⟩|_=>none
 |260=>fun|[c0,c1,c2]=>bd (EV.lfTy (.int .i64) c0) fun a0=>bd (EV.lfTy (.int .i64) c1) fun a1=>bd (EV.lfTy (.int .i64) c2) fun a2=>some ⟨a0,a1,a2⟩|_=>none
 |140=>fun|[c0,c1,c2]=>bd (EV.lfTy (.int .i64) c0) fun a0=>bd (EV.lfTy (.int .i64) c1) fun a1=>bd (EV.lfTy (.sl 260) c2) fun a2=>some ⟨a0,a1,a2⟩|_=>none
 |142=>fun|[c0,c1,c2,c3,c4,c5]=>bd (EV.lfTy (.str) c0) fun a0=>bd (EV.lfTy (.sl 203) c1) fun a1=>bd (EV.lfTy (.int .i64) c2) fun a2=>bd (EV.lfTy (.int .i64) c3) fun a3=>bd (EV.lfTy (.sl 260) c4) fun a4=>bd (EV.lfTy (.sl 3) c5) fun a5=>some ⟨a0,a1,⟨a2,a3,a4⟩,a5⟩|_=>none
 |50=>fun|[c0,c1,c2,c3]=>bd (EV.lfTy (.int .i64) c0) fun a0=>bd (EV.lfTy (.int .i64) c1) fun a1=>bd (EV.lfTy (.int .i64) c2) fun a2=>bd (EV.lfTy (.int .i64) c3) fun a3=>some ⟨a0,a1,a2,a3⟩|_=>none
 |152=>fun|[c0,c1]=>bd (EV.lfTy (.int .i64) c0) fun a0=>bd (EV.lfTy (.int .i64) c1) fun a1=>some ⟨a0,a1⟩|_=>none
 |154=>fun|[c0,c1,c2,c3,c4]=>bd (EV.lfTy (.int .i64) c0) fun a0=>bd (EV.lfTy (.int .i64) c1) fun a1=>bd (EV.lfTy (.int .i64) c2) fun a2=>bd (EV.lfTy (.int .i64) c3) fun a3=>bd (EV.lfTy (.int .i64) c4) fun a4=>some ⟨⟨a0,a1⟩,a2,a3,a4⟩|_=>none
 |157=>fun|[c0,c1,c2,c3,c4,c5,c6]=>bd (EV.lfTy (.int .i64) c0) fun a0=>bd (EV.lfTy (.int .i64) c1) fun a1=>bd (EV.lfTy (.int .i64) c2) fun a2=>bd (EV.lfTy (.int .i64) c3) fun a3=>bd (EV.lfTy (.int .i64) c4) fun a4=>bd (EV.lfTy (.sl 154) c5) fun a5=>bd (EV.lfTy (.int .i64) c6) fun a6=>some ⟨⟨⟨a0,a1⟩,a2,a3,a4⟩,a5,a6⟩|_=>none
 |221=>fun|[c0,c1,c2,c3]=>bd (EV.lfTy (.int .i64) c0) fun a0=>bd (EV.lfTy (.int .i64) c1) fun a1=>bd (EV.lfTy (.int .i64) c2) fun a2=>bd (EV.lfTy (.bool) c3) fun a3=>some ⟨a0,a1,a2,a3⟩|_=>none
 |54=>fun|[c0]=>bd (EV.lfTy (.sl 221) c0) fun a0=>some ⟨a0⟩|_=>none
 |56=>fun|[c0,c1,c2,c3,c4,c5,c6,c7,c8,c9,c10,c11,c12,c13,c14,c15]=>bd (EV.lfTy (.int .i64) c0) fun a0=>bd (EV.lfTy (.int .i64) c1) fun a1=>bd (EV.lfTy (.sl 79) c2) fun a2=>bd (EV.lfTy (.sl 4) c3) fun a3=>bd (EV.lfTy (.sl 210) c4) fun a4=>bd (EV.lfTy (.int .i64) c5) fun a5=>bd (EV.lfTy (.sl 270) c6) fun a6=>bd (EV.lfTy (.sl 92) c7) fun a7=>bd (EV.lfTy (.sl 142) c8) fun a8=>bd (EV.lfTy (.int .i64) c9) fun a9=>bd (EV.lfTy (.int .i64) c10) fun a10=>bd (EV.lfTy (.int .i64) c11) fun a11=>bd (EV.lfTy (.int .i64) c12) fun a12=>bd (EV.lfTy (.sl 157) c13) fun a13=>bd (EV.lfTy (.int .i64) c14) fun a14=>bd (EV.lfTy (.sl 221) c15) fun a15=>some ⟨a0,a1,a2,a3,⟨a4,⟨a5,a6⟩,a7⟩,a8,⟨a9,a10,a11,a12⟩,a13,a14,⟨a15⟩⟩|_=>none
 |123=>fun|[c0]=>bd (EV.lfTy (.sl 3) c0) fun a0=>some a0|_=>none
 |9=>fun|[c0]=>bd (EV.lfTy (.str) c0) fun a0=>some a0|_=>none
 |_=>fun _=>none
def TI:List (Nat×EV.TInfo):=[
 (3,⟨.int .i64,1,[.int .i64]⟩),
 (4,⟨.bool,1,[.bool]⟩),
 (5,⟨.int .u8,1,[.int .u8]⟩),
 (9,⟨.str,1,[.str]⟩),
 (22,⟨.sl 114 9 104,1,[.nil]⟩),
 (23,⟨.sl 4 1 1,1,[.nil]⟩),
 (24,⟨.sl 212 6 48,1,[.nil]⟩),
 (25,⟨.sl 264 4 48,1,[.nil]⟩),
 (27,⟨.st [(0,3,1),(1,25,1)],2,[.int .i64, .nil]⟩),
 (28,⟨.sl 195 4 48,1,[.nil]⟩),
 (30,⟨.st [(0,24,1),(1,27,2),(3,28,1)],4,[.nil, .int .i64, .nil, .nil]⟩),
 (31,⟨.sl 125 6 104,1,[.nil]⟩),
 (33,⟨.st [(0,3,1),(1,3,1),(2,3,1),(3,3,1)],4,[.int .i64, .int .i64, .int .i64, .int .i64]⟩),
 (34,⟨.sl 133 7 72,1,[.nil]⟩),
 (35,⟨.sl 223 4 32,1,[.nil]⟩),
 (37,⟨.st [(0,35,1)],1,[.nil]⟩),
 (39,⟨.st [(0,3,1),(1,3,1),(2,22,1),(3,23,1),(4,30,4),(8,31,1),(9,33,4),(13,34,1),(14,3,1),(15,37,1)],16,[.int .i64, .int .i64, .nil, .nil, .nil, .int .i64, .nil, .nil, .nil, .int .i64, .int .i64, .int .i64, .int .i64, .nil, .int .i64, .nil]⟩),
 (41,⟨.sl 79 9 104,1,[.nil]⟩),
 (42,⟨.sl 210 6 48,1,[.nil]⟩),
 (43,⟨.sl 270 4 48,1,[.nil]⟩),
 (45,⟨.st [(0,3,1),(1,43,1)],2,[.int .i64, .nil]⟩),
 (46,⟨.sl 92 4 48,1,[.nil]⟩),
 (48,⟨.st [(0,42,1),(1,45,2),(3,46,1)],4,[.nil, .int .i64, .nil, .nil]⟩),
 (49,⟨.sl 142 6 104,1,[.nil]⟩),
 (50,⟨.st [(0,3,1),(1,3,1),(2,3,1),(3,3,1)],4,[.int .i64, .int .i64, .int .i64, .int .i64]⟩),
 (51,⟨.sl 157 7 72,1,[.nil]⟩),
 (52,⟨.sl 221 4 32,1,[.nil]⟩),
 (54,⟨.st [(0,52,1)],1,[.nil]⟩),
 (56,⟨.st [(0,3,1),(1,3,1),(2,41,1),(3,23,1),(4,48,4),(8,49,1),(9,50,4),(13,51,1),(14,3,1),(15,54,1)],16,[.int .i64, .int .i64, .nil, .nil, .nil, .int .i64, .nil, .nil, .nil, .int .i64, .int .i64, .int .i64, .int .i64, .nil, .int .i64, .nil]⟩),
 (74,⟨.st [(0,3,1),(1,3,1),(2,3,1),(3,3,1)],4,[.int .i64, .int .i64, .int .i64, .int .i64]⟩),
 (75,⟨.sl 244 4 32,1,[.nil]⟩),
 (77,⟨.st [(0,75,1)],1,[.nil]⟩),
 (79,⟨.st [(0,74,4),(4,42,1),(5,3,1),(6,3,1),(7,3,1),(8,77,1)],9,[.int .i64, .int .i64, .int .i64, .int .i64, .nil, .int .i64, .int .i64, .int .i64, .nil]⟩),
 (90,⟨.sl 5 1 1,1,[.nil]⟩),
 (92,⟨.st [(0,3,1),(1,3,1),(2,90,1),(3,3,1)],4,[.int .i64, .int .i64, .nil, .int .i64]⟩),
 (109,⟨.st [(0,3,1),(1,3,1),(2,3,1),(3,3,1)],4,[.int .i64, .int .i64, .int .i64, .int .i64]⟩),
 (110,⟨.sl 305 4 32,1,[.nil]⟩),
 (112,⟨.st [(0,110,1)],1,[.nil]⟩),
 (114,⟨.st [(0,109,4),(4,24,1),(5,3,1),(6,3,1),(7,3,1),(8,112,1)],9,[.int .i64, .int .i64, .int .i64, .int .i64, .nil, .int .i64, .int .i64, .int .i64, .nil]⟩),
 (119,⟨.sl 268 3 40,1,[.nil]⟩),
 (120,⟨.sl 308 3 24,1,[.nil]⟩),
 (122,⟨.st [(0,3,1),(1,3,1),(2,120,1)],3,[.int .i64, .int .i64, .nil]⟩),
 (123,⟨.sl 3 1 8,1,[.nil]⟩),
 (125,⟨.st [(0,9,1),(1,119,1),(2,122,3),(5,123,1)],6,[.str, .nil, .int .i64, .int .i64, .nil, .nil]⟩),
 (128,⟨.st [(0,3,1),(1,3,1)],2,[.int .i64, .int .i64]⟩),
 (130,⟨.st [(0,128,2),(2,3,1),(3,3,1),(4,3,1)],5,[.int .i64, .int .i64, .int .i64, .int .i64, .int .i64]⟩),
 (131,⟨.sl 130 5 40,1,[.nil]⟩),
 (133,⟨.st [(0,130,5),(5,131,1),(6,3,1)],7,[.int .i64, .int .i64, .int .i64, .int .i64, .int .i64, .nil, .int .i64]⟩),
 (137,⟨.sl 203 3 40,1,[.nil]⟩),
 (138,⟨.sl 260 3 24,1,[.nil]⟩),
 (140,⟨.st [(0,3,1),(1,3,1),(2,138,1)],3,[.int .i64, .int .i64, .nil]⟩),
 (142,⟨.st [(0,9,1),(1,137,1),(2,140,3),(5,123,1)],6,[.str, .nil, .int .i64, .int .i64, .nil, .nil]⟩),
 (152,⟨.st [(0,3,1),(1,3,1)],2,[.int .i64, .int .i64]⟩),
 (154,⟨.st [(0,152,2),(2,3,1),(3,3,1),(4,3,1)],5,[.int .i64, .int .i64, .int .i64, .int .i64, .int .i64]⟩),
 (155,⟨.sl 154 5 40,1,[.nil]⟩),
 (157,⟨.st [(0,154,5),(5,155,1),(6,3,1)],7,[.int .i64, .int .i64, .int .i64, .int .i64, .int .i64, .nil, .int .i64]⟩),
 (195,⟨.st [(0,3,1),(1,3,1),(2,90,1),(3,3,1)],4,[.int .i64, .int .i64, .nil, .int .i64]⟩),
 (201,⟨.sl 286 4 32,1,[.nil]⟩),
 (203,⟨.st [(0,3,1),(1,3,1),(2,201,1)],3,[.int .i64, .int .i64, .nil]⟩),
 (210,⟨.st [(0,3,1),(1,3,1),(2,3,1),(3,3,1),(4,3,1),(5,3,1)],6,[.int .i64, .int .i64, .int .i64, .int .i64, .int .i64, .int .i64]⟩),
 (212,⟨.st [(0,3,1),(1,3,1),(2,3,1),(3,3,1),(4,3,1),(5,3,1)],6,[.int .i64, .int .i64, .int .i64, .int .i64, .int .i64, .int .i64]⟩),
 (221,⟨.st [(0,3,1),(1,3,1),(2,3,1),(3,4,1)],4,[.int .i64, .int .i64, .int .i64, .bool]⟩),
 (223,⟨.st [(0,3,1),(1,3,1),(2,3,1),(3,4,1)],4,[.int .i64, .int .i64, .int .i64, .bool]⟩),
 (244,⟨.st [(0,3,1),(1,3,1),(2,3,1),(3,4,1)],4,[.int .i64, .int .i64, .int .i64, .bool]⟩),
 (260,⟨.st [(0,3,1),(1,3,1),(2,3,1)],3,[.int .i64, .int .i64, .int .i64]⟩),
 (264,⟨.st [(0,3,1),(1,3,1),(2,90,1),(3,3,1)],4,[.int .i64, .int .i64, .nil, .int .i64]⟩),
 (266,⟨.sl 316 4 32,1,[.nil]⟩),
 (268,⟨.st [(0,3,1),(1,3,1),(2,266,1)],3,[.int .i64, .int .i64, .nil]⟩),
 (270,⟨.st [(0,3,1),(1,3,1),(2,90,1),(3,3,1)],4,[.int .i64, .int .i64, .nil, .int .i64]⟩),
 (282,⟨.sl 123 1 24,1,[.nil]⟩),
 (286,⟨.st [(0,3,1),(1,3,1),(2,3,1),(3,4,1)],4,[.int .i64, .int .i64, .int .i64, .bool]⟩),
 (300,⟨.sl 9 1 16,1,[.nil]⟩),
 (305,⟨.st [(0,3,1),(1,3,1),(2,3,1),(3,4,1)],4,[.int .i64, .int .i64, .int .i64, .bool]⟩),
 (308,⟨.st [(0,3,1),(1,3,1),(2,3,1)],3,[.int .i64, .int .i64, .int .i64]⟩),
 (316,⟨.st [(0,3,1),(1,3,1),(2,3,1),(3,4,1)],4,[.int .i64, .int .i64, .int .i64, .bool]⟩)]
theorem El_none (n:Nat)(h109:n≠109)(h212:n≠212)(h305:n≠305)(h112:n≠112)(h114:n≠114)(h4:n≠4)(h5:n≠5)(h264:n≠264)(h27:n≠27)(h195:n≠195)(h30:n≠30)(h316:n≠316)(h268:n≠268)(h308:n≠308)(h122:n≠122)(h3:n≠3)(h125:n≠125)(h33:n≠33)(h128:n≠128)(h130:n≠130)(h133:n≠133)(h223:n≠223)(h37:n≠37)(h39:n≠39)(h74:n≠74)(h210:n≠210)(h244:n≠244)(h77:n≠77)(h79:n≠79)(h270:n≠270)(h45:n≠45)(h92:n≠92)(h48:n≠48)(h286:n≠286)(h203:n≠203)(h260:n≠260)(h140:n≠140)(h142:n≠142)(h50:n≠50)(h152:n≠152)(h154:n≠154)(h157:n≠157)(h221:n≠221)(h54:n≠54)(h56:n≠56)(h123:n≠123)(h9:n≠9):El n=Empty:=by
 unfold El
 split<;>first|contradiction|rfl
theorem hc1:∀(τ:Nat) (x:El τ),(celE τ x).map EV.Lf.toV=encE τ x:=by
 intro τ x
 by_cases h109:τ=109
 ·subst h109;rfl
 by_cases h212:τ=212
 ·subst h212;rfl
 by_cases h305:τ=305
 ·subst h305;rfl
 by_cases h112:τ=112
 ·subst h112;rfl
 by_cases h114:τ=114
 ·subst h114;rfl
 by_cases h4:τ=4
 ·subst h4;rfl
 by_cases h5:τ=5
 ·subst h5;rfl
 by_cases h264:τ=264
 ·subst h264;rfl
 by_cases h27:τ=27
 ·subst h27;rfl
 by_cases h195:τ=195
 ·subst h195;rfl
 by_cases h30:τ=30
 ·subst h30;rfl
 by_cases h316:τ=316
 ·subst h316;rfl
 by_cases h268:τ=268
 ·subst h268;rfl
 by_cases h308:τ=308
 ·subst h308;rfl
 by_cases h122:τ=122
 ·subst h122;rfl
 by_cases h3:τ=3
 ·subst h3;rfl
 by_cases h125:τ=125
 ·subst h125;rfl
 by_cases h33:τ=33
 ·subst h33;rfl
 by_cases h128:τ=128
 ·subst h128;rfl
 by_cases h130:τ=130
 ·subst h130;rfl
 by_cases h133:τ=133
 ·subst h133;rfl
 by_cases h223:τ=223
 ·subst h223;rfl
 by_cases h37:τ=37
 ·subst h37;rfl
 by_cases h39:τ=39
 ·subst h39;rfl
 by_cases h74:τ=74
 ·subst h74;rfl
 by_cases h210:τ=210
 ·subst h210;rfl
 by_cases h244:τ=244
 ·subst h244;rfl
 by_cases h77:τ=77
 ·subst h77;rfl
 by_cases h79:τ=79
 ·subst h79;rfl
 by_cases h270:τ=270
 ·subst h270;rfl
 by_cases h45:τ=45
 ·subst h45;rfl
 by_cases h92:τ=92
 ·subst h92;rfl
 by_cases h48:τ=48
 ·subst h48;rfl
 by_cases h286:τ=286
 ·subst h286;rfl
 by_cases h203:τ=203
 ·subst h203;rfl
 by_cases h260:τ=260
 ·subst h260;rfl
 by_cases h140:τ=140
 ·subst h140;rfl
 by_cases h142:τ=142
 ·subst h142;rfl
 by_cases h50:τ=50
 ·subst h50;rfl
 by_cases h152:τ=152
 ·subst h152;rfl
 by_cases h154:τ=154
 ·subst h154;rfl
 by_cases h157:τ=157
 ·subst h157;rfl
 by_cases h221:τ=221
 ·subst h221;rfl
 by_cases h54:τ=54
 ·subst h54;rfl
 by_cases h56:τ=56
 ·subst h56;rfl
 by_cases h123:τ=123
 ·subst h123;rfl
 by_cases h9:τ=9
 ·subst h9;rfl
 exact(cast (El_none τ h109 h212 h305 h112 h114 h4 h5 h264 h27 h195 h30 h316 h268 h308 h122 h3 h125 h33 h128 h130 h133 h223 h37 h39 h74 h210 h244 h77 h79 h270 h45 h92 h48 h286 h203 h260 h140 h142 h50 h152 h154 h157 h221 h54 h56 h123 h9) x).elim
theorem hc2:∀(τ:Nat) (x:El τ),(celE τ x).length=Un.K τ:=by
 intro τ x
 by_cases h109:τ=109
 ·subst h109;rfl
 by_cases h212:τ=212
 ·subst h212;rfl
 by_cases h305:τ=305
 ·subst h305;rfl
 by_cases h112:τ=112
 ·subst h112;rfl
 by_cases h114:τ=114
 ·subst h114;rfl
 by_cases h4:τ=4
 ·subst h4;rfl
 by_cases h5:τ=5
 ·subst h5;rfl
 by_cases h264:τ=264
 ·subst h264;rfl
 by_cases h27:τ=27
 ·subst h27;rfl
 by_cases h195:τ=195
 ·subst h195;rfl
 by_cases h30:τ=30
 ·subst h30;rfl
 by_cases h316:τ=316
 ·subst h316;rfl
 by_cases h268:τ=268
 ·subst h268;rfl
 by_cases h308:τ=308
 ·subst h308;rfl
 by_cases h122:τ=122
 ·subst h122;rfl
 by_cases h3:τ=3
 ·subst h3;rfl
 by_cases h125:τ=125
 ·subst h125;rfl
 by_cases h33:τ=33
 ·subst h33;rfl
 by_cases h128:τ=128
 ·subst h128;rfl
 by_cases h130:τ=130
 ·subst h130;rfl
 by_cases h133:τ=133
 ·subst h133;rfl
 by_cases h223:τ=223
 ·subst h223;rfl
 by_cases h37:τ=37
 ·subst h37;rfl
 by_cases h39:τ=39
 ·subst h39;rfl
 by_cases h74:τ=74
 ·subst h74;rfl
 by_cases h210:τ=210
 ·subst h210;rfl
 by_cases h244:τ=244
 ·subst h244;rfl
 by_cases h77:τ=77
 ·subst h77;rfl
 by_cases h79:τ=79
 ·subst h79;rfl
 by_cases h270:τ=270
 ·subst h270;rfl
 by_cases h45:τ=45
 ·subst h45;rfl
 by_cases h92:τ=92
 ·subst h92;rfl
 by_cases h48:τ=48
 ·subst h48;rfl
 by_cases h286:τ=286
 ·subst h286;rfl
 by_cases h203:τ=203
 ·subst h203;rfl
 by_cases h260:τ=260
 ·subst h260;rfl
 by_cases h140:τ=140
 ·subst h140;rfl
 by_cases h142:τ=142
 ·subst h142;rfl
 by_cases h50:τ=50
 ·subst h50;rfl
 by_cases h152:τ=152
 ·subst h152;rfl
 by_cases h154:τ=154
 ·subst h154;rfl
 by_cases h157:τ=157
 ·subst h157;rfl
 by_cases h221:τ=221
 ·subst h221;rfl
 by_cases h54:τ=54
 ·subst h54;rfl
 by_cases h56:τ=56
 ·subst h56;rfl
 by_cases h123:τ=123
 ·subst h123;rfl
 by_cases h9:τ=9
 ·subst h9;rfl
 exact(cast (El_none τ h109 h212 h305 h112 h114 h4 h5 h264 h27 h195 h30 h316 h268 h308 h122 h3 h125 h33 h128 h130 h133 h223 h37 h39 h74 h210 h244 h77 h79 h270 h45 h92 h48 h286 h203 h260 h140 h142 h50 h152 h154 h157 h221 h54 h56 h123 h9) x).elim
theorem hc3:∀(τ:Nat) (x:El τ) (c:EV.Lf Un),c∈celE τ x→c.isData=true:=by
 intro τ x c hc
 by_cases h109:τ=109
 ·subst h109;simp only[celE,List.mem_cons,List.not_mem_nil,or_false] at hc;rcases hc with rfl|rfl|rfl|rfl<;>rfl
 by_cases h212:τ=212
 ·subst h212;simp only[celE,List.mem_cons,List.not_mem_nil,or_false] at hc;rcases hc with rfl|rfl|rfl|rfl|rfl|rfl<;>rfl
 by_cases h305:τ=305
 ·subst h305;simp only[celE,List.mem_cons,List.not_mem_nil,or_false] at hc;rcases hc with rfl|rfl|rfl|rfl<;>rfl
 by_cases h112:τ=112
 ·subst h112;simp only[celE,List.mem_cons,List.not_mem_nil,or_false] at hc;rcases hc with rfl<;>rfl
 by_cases h114:τ=114
 ·subst h114;simp only[celE,List.mem_cons,List.not_mem_nil,or_false] at hc;rcases hc with rfl|rfl|rfl|rfl|rfl|rfl|rfl|rfl|rfl<;>rfl
 by_cases h4:τ=4
 ·subst h4;simp only[celE,List.mem_cons,List.not_mem_nil,or_false] at hc;rcases hc with rfl<;>rfl
 by_cases h5:τ=5
 ·subst h5;simp only[celE,List.mem_cons,List.not_mem_nil,or_false] at hc;rcases hc with rfl<;>rfl
 by_cases h264:τ=264
 ·subst h264;simp only[celE,List.mem_cons,List.not_mem_nil,or_false] at hc;rcases hc with rfl|rfl|rfl|rfl<;>rfl
 by_cases h27:τ=27
 ·subst h27;simp only[celE,List.mem_cons,List.not_mem_nil,or_false] at hc;rcases hc with rfl|rfl<;>rfl
 by_cases h195:τ=195
 ·subst h195;simp only[celE,List.mem_cons,List.not_mem_nil,or_false] at hc;rcases hc with rfl|rfl|rfl|rfl<;>rfl
 by_cases h30:τ=30
 ·subst h30;simp only[celE,List.mem_cons,List.not_mem_nil,or_false] at hc;rcases hc with rfl|rfl|rfl|rfl<;>rfl
 by_cases h316:τ=316
 ·subst h316;simp only[celE,List.mem_cons,List.not_mem_nil,or_false] at hc;rcases hc with rfl|rfl|rfl|rfl<;>rfl
 by_cases h268:τ=268
 ·subst h268;simp only[celE,List.mem_cons,List.not_mem_nil,or_false] at hc;rcases hc with rfl|rfl|rfl<;>rfl
 by_cases h308:τ=308
 ·subst h308;simp only[celE,List.mem_cons,List.not_mem_nil,or_false] at hc;rcases hc with rfl|rfl|rfl<;>rfl
 by_cases h122:τ=122
 ·subst h122;simp only[celE,List.mem_cons,List.not_mem_nil,or_false] at hc;rcases hc with rfl|rfl|rfl<;>rfl
 by_cases h3:τ=3
 ·subst h3;simp only[celE,List.mem_cons,List.not_mem_nil,or_false] at hc;rcases hc with rfl<;>rfl
 by_cases h125:τ=125
 ·subst h125;simp only[celE,List.mem_cons,List.not_mem_nil,or_false] at hc;rcases hc with rfl|rfl|rfl|rfl|rfl|rfl<;>rfl
 by_cases h33:τ=33
 ·subst h33;simp only[celE,List.mem_cons,List.not_mem_nil,or_false] at hc;rcases hc with rfl|rfl|rfl|rfl<;>rfl
 by_cases h128:τ=128
 ·subst h128;simp only[celE,List.mem_cons,List.not_mem_nil,or_false] at hc;rcases hc with rfl|rfl<;>rfl
 by_cases h130:τ=130
 ·subst h130;simp only[celE,List.mem_cons,List.not_mem_nil,or_false] at hc;rcases hc with rfl|rfl|rfl|rfl|rfl<;>rfl
 by_cases h133:τ=133
 ·subst h133;simp only[celE,List.mem_cons,List.not_mem_nil,or_false] at hc;rcases hc with rfl|rfl|rfl|rfl|rfl|rfl|rfl<;>rfl
 by_cases h223:τ=223
 ·subst h223;simp only[celE,List.mem_cons,List.not_mem_nil,or_false] at hc;rcases hc with rfl|rfl|rfl|rfl<;>rfl
 by_cases h37:τ=37
 ·subst h37;simp only[celE,List.mem_cons,List.not_mem_nil,or_false] at hc;rcases hc with rfl<;>rfl
 by_cases h39:τ=39
 ·subst h39;simp only[celE,List.mem_cons,List.not_mem_nil,or_false] at hc;rcases hc with rfl|rfl|rfl|rfl|rfl|rfl|rfl|rfl|rfl|rfl|rfl|rfl|rfl|rfl|rfl|rfl<;>rfl
 by_cases h74:τ=74
 ·subst h74;simp only[celE,List.mem_cons,List.not_mem_nil,or_false] at hc;rcases hc with rfl|rfl|rfl|rfl<;>rfl
 by_cases h210:τ=210
 ·subst h210;simp only[celE,List.mem_cons,List.not_mem_nil,or_false] at hc;rcases hc with rfl|rfl|rfl|rfl|rfl|rfl<;>rfl
 by_cases h244:τ=244
 ·subst h244;simp only[celE,List.mem_cons,List.not_mem_nil,or_false] at hc;rcases hc with rfl|rfl|rfl|rfl<;>rfl
 by_cases h77:τ=77
 ·subst h77;simp only[celE,List.mem_cons,List.not_mem_nil,or_false] at hc;rcases hc with rfl<;>rfl
 by_cases h79:τ=79
 ·subst h79;simp only[celE,List.mem_cons,List.not_mem_nil,or_false] at hc;rcases hc with rfl|rfl|rfl|rfl|rfl|rfl|rfl|rfl|rfl<;>rfl
 by_cases h270:τ=270
 ·subst h270;simp only[celE,List.mem_cons,List.not_mem_nil,or_false] at hc;rcases hc with rfl|rfl|rfl|rfl<;>rfl
 by_cases h45:τ=45
 ·subst h45;simp only[celE,List.mem_cons,List.not_mem_nil,or_false] at hc;rcases hc with rfl|rfl<;>rfl
 by_cases h92:τ=92
 ·subst h92;simp only[celE,List.mem_cons,List.not_mem_nil,or_false] at hc;rcases hc with rfl|rfl|rfl|rfl<;>rfl
 by_cases h48:τ=48
 ·subst h48;simp only[celE,List.mem_cons,List.not_mem_nil,or_false] at hc;rcases hc with rfl|rfl|rfl|rfl<;>rfl
 by_cases h286:τ=286
 ·subst h286;simp only[celE,List.mem_cons,List.not_mem_nil,or_false] at hc;rcases hc with rfl|rfl|rfl|rfl<;>rfl
 by_cases h203:τ=203
 ·subst h203;simp only[celE,List.mem_cons,List.not_mem_nil,or_false] at hc;rcases hc with rfl|rfl|rfl<;>rfl
 by_cases h260:τ=260
 ·subst h260;simp only[celE,List.mem_cons,List.not_mem_nil,or_false] at hc;rcases hc with rfl|rfl|rfl<;>rfl
 by_cases h140:τ=140
 ·subst h140;simp only[celE,List.mem_cons,List.not_mem_nil,or_false] at hc;rcases hc with rfl|rfl|rfl<;>rfl
 by_cases h142:τ=142
 ·subst h142;simp only[celE,List.mem_cons,List.not_mem_nil,or_false] at hc;rcases hc with rfl|rfl|rfl|rfl|rfl|rfl<;>rfl
 by_cases h50:τ=50
 ·subst h50;simp only[celE,List.mem_cons,List.not_mem_nil,or_false] at hc;rcases hc with rfl|rfl|rfl|rfl<;>rfl
 by_cases h152:τ=152
 ·subst h152;simp only[celE,List.mem_cons,List.not_mem_nil,or_false] at hc;rcases hc with rfl|rfl<;>rfl
 by_cases h154:τ=154
 ·subst h154;simp only[celE,List.mem_cons,List.not_mem_nil,or_false] at hc;rcases hc with rfl|rfl|rfl|rfl|rfl<;>rfl
 by_cases h157:τ=157
 ·subst h157;simp only[celE,List.mem_cons,List.not_mem_nil,or_false] at hc;rcases hc with rfl|rfl|rfl|rfl|rfl|rfl|rfl<;>rfl
 by_cases h221:τ=221
 ·subst h221;simp only[celE,List.mem_cons,List.not_mem_nil,or_false] at hc;rcases hc with rfl|rfl|rfl|rfl<;>rfl
 by_cases h54:τ=54
 ·subst h54;simp only[celE,List.mem_cons,List.not_mem_nil,or_false] at hc;rcases hc with rfl<;>rfl
 by_cases h56:τ=56
 ·subst h56;simp only[celE,List.mem_cons,List.not_mem_nil,or_false] at hc;rcases hc with rfl|rfl|rfl|rfl|rfl|rfl|rfl|rfl|rfl|rfl|rfl|rfl|rfl|rfl|rfl|rfl<;>rfl
 by_cases h123:τ=123
 ·subst h123;simp only[celE,List.mem_cons,List.not_mem_nil,or_false] at hc;rcases hc with rfl<;>rfl
 by_cases h9:τ=9
 ·subst h9;simp only[celE,List.mem_cons,List.not_mem_nil,or_false] at hc;rcases hc with rfl<;>rfl
 exact(cast (El_none τ h109 h212 h305 h112 h114 h4 h5 h264 h27 h195 h30 h316 h268 h308 h122 h3 h125 h33 h128 h130 h133 h223 h37 h39 h74 h210 h244 h77 h79 h270 h45 h92 h48 h286 h203 h260 h140 h142 h50 h152 h154 h157 h221 h54 h56 h123 h9) x).elim
theorem hc4:∀(τ:Nat) (cs:List (EV.Lf Un)) (x:El τ),bldE τ cs=some x→cs=celE τ x:=by
 intro τ cs x h
 by_cases h109:τ=109
 ·subst h109;
  obtain⟨c0,c1,c2,c3,rfl⟩:∃c0 c1 c2 c3:EV.Lf Un,cs=[c0,c1,c2,c3]:=by
   match cs,h with
   |[c0,c1,c2,c3],_=>exact⟨c0,c1,c2,c3,rfl⟩
  obtain⟨a0,g0,h⟩:=bd_some h
  obtain⟨a1,g1,h⟩:=bd_some h
  obtain⟨a2,g2,h⟩:=bd_some h
  obtain⟨a3,g3,h⟩:=bd_some h
  have h:=Option.some.inj h;subst h
  rw[EV.lfTy_some g0,EV.lfTy_some g1,EV.lfTy_some g2,EV.lfTy_some g3]
  rfl
 by_cases h212:τ=212
 ·subst h212;
  obtain⟨c0,c1,c2,c3,c4,c5,rfl⟩:∃c0 c1 c2 c3 c4 c5:EV.Lf Un,cs=[c0,c1,c2,c3,c4,c5]:=by
   match cs,h with
   |[c0,c1,c2,c3,c4,c5],_=>exact⟨c0,c1,c2,c3,c4,c5,rfl⟩
  obtain⟨a0,g0,h⟩:=bd_some h
  obtain⟨a1,g1,h⟩:=bd_some h
  obtain⟨a2,g2,h⟩:=bd_some h
  obtain⟨a3,g3,h⟩:=bd_some h
  obtain⟨a4,g4,h⟩:=bd_some h
  obtain⟨a5,g5,h⟩:=bd_some h
  have h:=Option.some.inj h;subst h
  rw[EV.lfTy_some g0,EV.lfTy_some g1,EV.lfTy_some g2,EV.lfTy_some g3,EV.lfTy_some g4,EV.lfTy_some g5]
  rfl
 by_cases h305:τ=305
 ·subst h305;
  obtain⟨c0,c1,c2,c3,rfl⟩:∃c0 c1 c2 c3:EV.Lf Un,cs=[c0,c1,c2,c3]:=by
   match cs,h with
   |[c0,c1,c2,c3],_=>exact⟨c0,c1,c2,c3,rfl⟩
  obtain⟨a0,g0,h⟩:=bd_some h
  obtain⟨a1,g1,h⟩:=bd_some h
  obtain⟨a2,g2,h⟩:=bd_some h
  obtain⟨a3,g3,h⟩:=bd_some h
  have h:=Option.some.inj h;subst h
  rw[EV.lfTy_some g0,EV.lfTy_some g1,EV.lfTy_some g2,EV.lfTy_some g3]
  rfl
 by_cases h112:τ=112
 ·subst h112;
  obtain⟨c0,rfl⟩:∃c0:EV.Lf Un,cs=[c0]:=by
   match cs,h with
   |[c0],_=>exact⟨c0,rfl⟩
  obtain⟨a0,g0,h⟩:=bd_some h
  have h:=Option.some.inj h;subst h
  rw[EV.lfTy_some g0]
  rfl
 by_cases h114:τ=114
 ·subst h114;
  obtain⟨c0,c1,c2,c3,c4,c5,c6,c7,c8,rfl⟩:∃c0 c1 c2 c3 c4 c5 c6 c7 c8:EV.Lf Un,cs=[c0,c1,c2,c3,c4,c5,c6,c7,c8]:=by
   match cs,h with
   |[c0,c1,c2,c3,c4,c5,c6,c7,c8],_=>exact⟨c0,c1,c2,c3,c4,c5,c6,c7,c8,rfl⟩
  obtain⟨a0,g0,h⟩:=bd_some h
  obtain⟨a1,g1,h⟩:=bd_some h
  obtain⟨a2,g2,h⟩:=bd_some h
  obtain⟨a3,g3,h⟩:=bd_some h
  obtain⟨a4,g4,h⟩:=bd_some h
  obtain⟨a5,g5,h⟩:=bd_some h
  obtain⟨a6,g6,h⟩:=bd_some h
  obtain⟨a7,g7,h⟩:=bd_some h
  obtain⟨a8,g8,h⟩:=bd_some h
  have h:=Option.some.inj h;subst h
  rw[EV.lfTy_some g0,EV.lfTy_some g1,EV.lfTy_some g2,EV.lfTy_some g3,EV.lfTy_some g4,EV.lfTy_some g5,EV.lfTy_some g6,EV.lfTy_some g7,EV.lfTy_some g8]
  rfl
 by_cases h4:τ=4
 ·subst h4;
  obtain⟨c0,rfl⟩:∃c0:EV.Lf Un,cs=[c0]:=by
   match cs,h with
   |[c0],_=>exact⟨c0,rfl⟩
  obtain⟨a0,g0,h⟩:=bd_some h
  have h:=Option.some.inj h;subst h
  rw[EV.lfTy_some g0]
  rfl
 by_cases h5:τ=5
 ·subst h5;
  obtain⟨c0,rfl⟩:∃c0:EV.Lf Un,cs=[c0]:=by
   match cs,h with
   |[c0],_=>exact⟨c0,rfl⟩
  obtain⟨a0,g0,h⟩:=bd_some h
  have h:=Option.some.inj h;subst h
  rw[EV.lfTy_some g0]
  rfl
 by_cases h264:τ=264
 ·subst h264;
  obtain⟨c0,c1,c2,c3,rfl⟩:∃c0 c1 c2 c3:EV.Lf Un,cs=[c0,c1,c2,c3]:=by
   match cs,h with
   |[c0,c1,c2,c3],_=>exact⟨c0,c1,c2,c3,rfl⟩
  obtain⟨a0,g0,h⟩:=bd_some h
  obtain⟨a1,g1,h⟩:=bd_some h
  obtain⟨a2,g2,h⟩:=bd_some h
  obtain⟨a3,g3,h⟩:=bd_some h
  have h:=Option.some.inj h;subst h
  rw[EV.lfTy_some g0,EV.lfTy_some g1,EV.lfTy_some g2,EV.lfTy_some g3]
  rfl
 by_cases h27:τ=27
 ·subst h27;
  obtain⟨c0,c1,rfl⟩:∃c0 c1:EV.Lf Un,cs=[c0,c1]:=by
   match cs,h with
   |[c0,c1],_=>exact⟨c0,c1,rfl⟩
  obtain⟨a0,g0,h⟩:=bd_some h
  obtain⟨a1,g1,h⟩:=bd_some h
  have h:=Option.some.inj h;subst h
  rw[EV.lfTy_some g0,EV.lfTy_some g1]
  rfl
 by_cases h195:τ=195
 ·subst h195;
  obtain⟨c0,c1,c2,c3,rfl⟩:∃c0 c1 c2 c3:EV.Lf Un,cs=[c0,c1,c2,c3]:=by
   match cs,h with
   |[c0,c1,c2,c3],_=>exact⟨c0,c1,c2,c3,rfl⟩
  obtain⟨a0,g0,h⟩:=bd_some h
  obtain⟨a1,g1,h⟩:=bd_some h
  obtain⟨a2,g2,h⟩:=bd_some h
  obtain⟨a3,g3,h⟩:=bd_some h
  have h:=Option.some.inj h;subst h
  rw[EV.lfTy_some g0,EV.lfTy_some g1,EV.lfTy_some g2,EV.lfTy_some g3]
  rfl
 by_cases h30:τ=30
 ·subst h30;
  obtain⟨c0,c1,c2,c3,rfl⟩:∃c0 c1 c2 c3:EV.Lf Un,cs=[c0,c1,c2,c3]:=by
   match cs,h with
   |[c0,c1,c2,c3],_=>exact⟨c0,c1,c2,c3,rfl⟩
  obtain⟨a0,g0,h⟩:=bd_some h
  obtain⟨a1,g1,h⟩:=bd_some h
  obtain⟨a2,g2,h⟩:=bd_some h
  obtain⟨a3,g3,h⟩:=bd_some h
  have h:=Option.some.inj h;subst h
  rw[EV.lfTy_some g0,EV.lfTy_some g1,EV.lfTy_some g2,EV.lfTy_some g3]
  rfl
 by_cases h316:τ=316
 ·subst h316;
  obtain⟨c0,c1,c2,c3,rfl⟩:∃c0 c1 c2 c3:EV.Lf Un,cs=[c0,c1,c2,c3]:=by
   match cs,h with
   |[c0,c1,c2,c3],_=>exact⟨c0,c1,c2,c3,rfl⟩
  obtain⟨a0,g0,h⟩:=bd_some h
  obtain⟨a1,g1,h⟩:=bd_some h
  obtain⟨a2,g2,h⟩:=bd_some h
  obtain⟨a3,g3,h⟩:=bd_some h
  have h:=Option.some.inj h;subst h
  rw[EV.lfTy_some g0,EV.lfTy_some g1,EV.lfTy_some g2,EV.lfTy_some g3]
  rfl
 by_cases h268:τ=268
 ·subst h268;
  obtain⟨c0,c1,c2,rfl⟩:∃c0 c1 c2:EV.Lf Un,cs=[c0,c1,c2]:=by
   match cs,h with
   |[c0,c1,c2],_=>exact⟨c0,c1,c2,rfl⟩
  obtain⟨a0,g0,h⟩:=bd_some h
  obtain⟨a1,g1,h⟩:=bd_some h
  obtain⟨a2,g2,h⟩:=bd_some h
  have h:=Option.some.inj h;subst h
  rw[EV.lfTy_some g0,EV.lfTy_some g1,EV.lfTy_some g2]
  rfl
 by_cases h308:τ=308
 ·subst h308;
  obtain⟨c0,c1,c2,rfl⟩:∃c0 c1 c2:EV.Lf Un,cs=[c0,c1,c2]:=by
   match cs,h with
   |[c0,c1,c2],_=>exact⟨c0,c1,c2,rfl⟩
  obtain⟨a0,g0,h⟩:=bd_some h
  obtain⟨a1,g1,h⟩:=bd_some h
  obtain⟨a2,g2,h⟩:=bd_some h
  have h:=Option.some.inj h;subst h
  rw[EV.lfTy_some g0,EV.lfTy_some g1,EV.lfTy_some g2]
  rfl
 by_cases h122:τ=122
 ·subst h122;
  obtain⟨c0,c1,c2,rfl⟩:∃c0 c1 c2:EV.Lf Un,cs=[c0,c1,c2]:=by
   match cs,h with
   |[c0,c1,c2],_=>exact⟨c0,c1,c2,rfl⟩
  obtain⟨a0,g0,h⟩:=bd_some h
  obtain⟨a1,g1,h⟩:=bd_some h
  obtain⟨a2,g2,h⟩:=bd_some h
  have h:=Option.some.inj h;subst h
  rw[EV.lfTy_some g0,EV.lfTy_some g1,EV.lfTy_some g2]
  rfl
 by_cases h3:τ=3
 ·subst h3;
  obtain⟨c0,rfl⟩:∃c0:EV.Lf Un,cs=[c0]:=by
   match cs,h with
   |[c0],_=>exact⟨c0,rfl⟩
  obtain⟨a0,g0,h⟩:=bd_some h
  have h:=Option.some.inj h;subst h
  rw[EV.lfTy_some g0]
  rfl
 by_cases h125:τ=125
 ·subst h125;
  obtain⟨c0,c1,c2,c3,c4,c5,rfl⟩:∃c0 c1 c2 c3 c4 c5:EV.Lf Un,cs=[c0,c1,c2,c3,c4,c5]:=by
   match cs,h with
   |[c0,c1,c2,c3,c4,c5],_=>exact⟨c0,c1,c2,c3,c4,c5,rfl⟩
  obtain⟨a0,g0,h⟩:=bd_some h
  obtain⟨a1,g1,h⟩:=bd_some h
  obtain⟨a2,g2,h⟩:=bd_some h
  obtain⟨a3,g3,h⟩:=bd_some h
  obtain⟨a4,g4,h⟩:=bd_some h
  obtain⟨a5,g5,h⟩:=bd_some h
  have h:=Option.some.inj h;subst h
  rw[EV.lfTy_some g0,EV.lfTy_some g1,EV.lfTy_some g2,EV.lfTy_some g3,EV.lfTy_some g4,EV.lfTy_some g5]
  rfl
 by_cases h33:τ=33
 ·subst h33;
  obtain⟨c0,c1,c2,c3,rfl⟩:∃c0 c1 c2 c3:EV.Lf Un,cs=[c0,c1,c2,c3]:=by
   match cs,h with
   |[c0,c1,c2,c3],_=>exact⟨c0,c1,c2,c3,rfl⟩
  obtain⟨a0,g0,h⟩:=bd_some h
  obtain⟨a1,g1,h⟩:=bd_some h
  obtain⟨a2,g2,h⟩:=bd_some h
  obtain⟨a3,g3,h⟩:=bd_some h
  have h:=Option.some.inj h;subst h
  rw[EV.lfTy_some g0,EV.lfTy_some g1,EV.lfTy_some g2,EV.lfTy_some g3]
  rfl
 by_cases h128:τ=128
 ·subst h128;
  obtain⟨c0,c1,rfl⟩:∃c0 c1:EV.Lf Un,cs=[c0,c1]:=by
   match cs,h with
   |[c0,c1],_=>exact⟨c0,c1,rfl⟩
  obtain⟨a0,g0,h⟩:=bd_some h
  obtain⟨a1,g1,h⟩:=bd_some h
  have h:=Option.some.inj h;subst h
  rw[EV.lfTy_some g0,EV.lfTy_some g1]
  rfl
 by_cases h130:τ=130
 ·subst h130;
  obtain⟨c0,c1,c2,c3,c4,rfl⟩:∃c0 c1 c2 c3 c4:EV.Lf Un,cs=[c0,c1,c2,c3,c4]:=by
   match cs,h with
   |[c0,c1,c2,c3,c4],_=>exact⟨c0,c1,c2,c3,c4,rfl⟩
  obtain⟨a0,g0,h⟩:=bd_some h
  obtain⟨a1,g1,h⟩:=bd_some h
  obtain⟨a2,g2,h⟩:=bd_some h
  obtain⟨a3,g3,h⟩:=bd_some h
  obtain⟨a4,g4,h⟩:=bd_some h
  have h:=Option.some.inj h;subst h
  rw[EV.lfTy_some g0,EV.lfTy_some g1,EV.lfTy_some g2,EV.lfTy_some g3,EV.lfTy_some g4]
  rfl
 by_cases h133:τ=133
 ·subst h133;
  obtain⟨c0,c1,c2,c3,c4,c5,c6,rfl⟩:∃c0 c1 c2 c3 c4 c5 c6:EV.Lf Un,cs=[c0,c1,c2,c3,c4,c5,c6]:=by
   match cs,h with
   |[c0,c1,c2,c3,c4,c5,c6],_=>exact⟨c0,c1,c2,c3,c4,c5,c6,rfl⟩
  obtain⟨a0,g0,h⟩:=bd_some h
  obtain⟨a1,g1,h⟩:=bd_some h
  obtain⟨a2,g2,h⟩:=bd_some h
  obtain⟨a3,g3,h⟩:=bd_some h
  obtain⟨a4,g4,h⟩:=bd_some h
  obtain⟨a5,g5,h⟩:=bd_some h
  obtain⟨a6,g6,h⟩:=bd_some h
  have h:=Option.some.inj h;subst h
  rw[EV.lfTy_some g0,EV.lfTy_some g1,EV.lfTy_some g2,EV.lfTy_some g3,EV.lfTy_some g4,EV.lfTy_some g5,EV.lfTy_some g6]
  rfl
 by_cases h223:τ=223
 ·subst h223;
  obtain⟨c0,c1,c2,c3,rfl⟩:∃c0 c1 c2 c3:EV.Lf Un,cs=[c0,c1,c2,c3]:=by
   match cs,h with
   |[c0,c1,c2,c3],_=>exact⟨c0,c1,c2,c3,rfl⟩
  obtain⟨a0,g0,h⟩:=bd_some h
  obtain⟨a1,g1,h⟩:=bd_some h
  obtain⟨a2,g2,h⟩:=bd_some h
  obtain⟨a3,g3,h⟩:=bd_some h
  have h:=Option.some.inj h;subst h
  rw[EV.lfTy_some g0,EV.lfTy_some g1,EV.lfTy_some g2,EV.lfTy_some g3]
  rfl
 by_cases h37:τ=37
 ·subst h37;
  obtain⟨c0,rfl⟩:∃c0:EV.Lf Un,cs=[c0]:=by
   match cs,h with
   |[c0],_=>exact⟨c0,rfl⟩
  obtain⟨a0,g0,h⟩:=bd_some h
  have h:=Option.some.inj h;subst h
  rw[EV.lfTy_some g0]
  rfl
 by_cases h39:τ=39
 ·subst h39;
  obtain⟨c0,c1,c2,c3,c4,c5,c6,c7,c8,c9,c10,c11,c12,c13,c14,c15,rfl⟩:∃c0 c1 c2 c3 c4 c5 c6 c7 c8 c9 c10 c11 c12 c13 c14 c15:EV.Lf Un,cs=[c0,c1,c2,c3,c4,c5,c6,c7,c8,c9,c10,c11,c12,c13,c14,c15]:=by
   match cs,h with
   |[c0,c1,c2,c3,c4,c5,c6,c7,c8,c9,c10,c11,c12,c13,c14,c15],_=>exact⟨c0,c1,c2,c3,c4,c5,c6,c7,c8,c9,c10,c11,c12,c13,c14,c15,rfl⟩
  obtain⟨a0,g0,h⟩:=bd_some h
  obtain⟨a1,g1,h⟩:=bd_some h
  obtain⟨a2,g2,h⟩:=bd_some h
  obtain⟨a3,g3,h⟩:=bd_some h
  obtain⟨a4,g4,h⟩:=bd_some h
  obtain⟨a5,g5,h⟩:=bd_some h
  obtain⟨a6,g6,h⟩:=bd_some h
  obtain⟨a7,g7,h⟩:=bd_some h
  obtain⟨a8,g8,h⟩:=bd_some h
  obtain⟨a9,g9,h⟩:=bd_some h
  obtain⟨a10,g10,h⟩:=bd_some h
  obtain⟨a11,g11,h⟩:=bd_some h
  obtain⟨a12,g12,h⟩:=bd_some h
  obtain⟨a13,g13,h⟩:=bd_some h
  obtain⟨a14,g14,h⟩:=bd_some h
  obtain⟨a15,g15,h⟩:=bd_some h
  have h:=Option.some.inj h;subst h
  rw[EV.lfTy_some g0,EV.lfTy_some g1,EV.lfTy_some g2,EV.lfTy_some g3,EV.lfTy_some g4,EV.lfTy_some g5,EV.lfTy_some g6,EV.lfTy_some g7,EV.lfTy_some g8,EV.lfTy_some g9,EV.lfTy_some g10,EV.lfTy_some g11,EV.lfTy_some g12,EV.lfTy_some g13,EV.lfTy_some g14,EV.lfTy_some g15]
  rfl
 by_cases h74:τ=74
 ·subst h74;
  obtain⟨c0,c1,c2,c3,rfl⟩:∃c0 c1 c2 c3:EV.Lf Un,cs=[c0,c1,c2,c3]:=by
   match cs,h with
   |[c0,c1,c2,c3],_=>exact⟨c0,c1,c2,c3,rfl⟩
  obtain⟨a0,g0,h⟩:=bd_some h
  obtain⟨a1,g1,h⟩:=bd_some h
  obtain⟨a2,g2,h⟩:=bd_some h
  obtain⟨a3,g3,h⟩:=bd_some h
  have h:=Option.some.inj h;subst h
  rw[EV.lfTy_some g0,EV.lfTy_some g1,EV.lfTy_some g2,EV.lfTy_some g3]
  rfl
 by_cases h210:τ=210
 ·subst h210;
  obtain⟨c0,c1,c2,c3,c4,c5,rfl⟩:∃c0 c1 c2 c3 c4 c5:EV.Lf Un,cs=[c0,c1,c2,c3,c4,c5]:=by
   match cs,h with
   |[c0,c1,c2,c3,c4,c5],_=>exact⟨c0,c1,c2,c3,c4,c5,rfl⟩
  obtain⟨a0,g0,h⟩:=bd_some h
  obtain⟨a1,g1,h⟩:=bd_some h
  obtain⟨a2,g2,h⟩:=bd_some h
  obtain⟨a3,g3,h⟩:=bd_some h
  obtain⟨a4,g4,h⟩:=bd_some h
  obtain⟨a5,g5,h⟩:=bd_some h
  have h:=Option.some.inj h;subst h
  rw[EV.lfTy_some g0,EV.lfTy_some g1,EV.lfTy_some g2,EV.lfTy_some g3,EV.lfTy_some g4,EV.lfTy_some g5]
  rfl
 by_cases h244:τ=244
 ·subst h244;
  obtain⟨c0,c1,c2,c3,rfl⟩:∃c0 c1 c2 c3:EV.Lf Un,cs=[c0,c1,c2,c3]:=by
   match cs,h with
   |[c0,c1,c2,c3],_=>exact⟨c0,c1,c2,c3,rfl⟩
  obtain⟨a0,g0,h⟩:=bd_some h
  obtain⟨a1,g1,h⟩:=bd_some h
  obtain⟨a2,g2,h⟩:=bd_some h
  obtain⟨a3,g3,h⟩:=bd_some h
  have h:=Option.some.inj h;subst h
  rw[EV.lfTy_some g0,EV.lfTy_some g1,EV.lfTy_some g2,EV.lfTy_some g3]
  rfl
 by_cases h77:τ=77
 ·subst h77;
  obtain⟨c0,rfl⟩:∃c0:EV.Lf Un,cs=[c0]:=by
   match cs,h with
   |[c0],_=>exact⟨c0,rfl⟩
  obtain⟨a0,g0,h⟩:=bd_some h
  have h:=Option.some.inj h;subst h
  rw[EV.lfTy_some g0]
  rfl
 by_cases h79:τ=79
 ·subst h79;
  obtain⟨c0,c1,c2,c3,c4,c5,c6,c7,c8,rfl⟩:∃c0 c1 c2 c3 c4 c5 c6 c7 c8:EV.Lf Un,cs=[c0,c1,c2,c3,c4,c5,c6,c7,c8]:=by
   match cs,h with
   |[c0,c1,c2,c3,c4,c5,c6,c7,c8],_=>exact⟨c0,c1,c2,c3,c4,c5,c6,c7,c8,rfl⟩
  obtain⟨a0,g0,h⟩:=bd_some h
  obtain⟨a1,g1,h⟩:=bd_some h
  obtain⟨a2,g2,h⟩:=bd_some h
  obtain⟨a3,g3,h⟩:=bd_some h
  obtain⟨a4,g4,h⟩:=bd_some h
  obtain⟨a5,g5,h⟩:=bd_some h
  obtain⟨a6,g6,h⟩:=bd_some h
  obtain⟨a7,g7,h⟩:=bd_some h
  obtain⟨a8,g8,h⟩:=bd_some h
  have h:=Option.some.inj h;subst h
  rw[EV.lfTy_some g0,EV.lfTy_some g1,EV.lfTy_some g2,EV.lfTy_some g3,EV.lfTy_some g4,EV.lfTy_some g5,EV.lfTy_some g6,EV.lfTy_some g7,EV.lfTy_some g8]
  rfl
 by_cases h270:τ=270
 ·subst h270;
  obtain⟨c0,c1,c2,c3,rfl⟩:∃c0 c1 c2 c3:EV.Lf Un,cs=[c0,c1,c2,c3]:=by
   match cs,h with
   |[c0,c1,c2,c3],_=>exact⟨c0,c1,c2,c3,rfl⟩
  obtain⟨a0,g0,h⟩:=bd_some h
  obtain⟨a1,g1,h⟩:=bd_some h
  obtain⟨a2,g2,h⟩:=bd_some h
  obtain⟨a3,g3,h⟩:=bd_some h
  have h:=Option.some.inj h;subst h
  rw[EV.lfTy_some g0,EV.lfTy_some g1,EV.lfTy_some g2,EV.lfTy_some g3]
  rfl
 by_cases h45:τ=45
 ·subst h45;
  obtain⟨c0,c1,rfl⟩:∃c0 c1:EV.Lf Un,cs=[c0,c1]:=by
   match cs,h with
   |[c0,c1],_=>exact⟨c0,c1,rfl⟩
  obtain⟨a0,g0,h⟩:=bd_some h
  obtain⟨a1,g1,h⟩:=bd_some h
  have h:=Option.some.inj h;subst h
  rw[EV.lfTy_some g0,EV.lfTy_some g1]
  rfl
 by_cases h92:τ=92
 ·subst h92;
  obtain⟨c0,c1,c2,c3,rfl⟩:∃c0 c1 c2 c3:EV.Lf Un,cs=[c0,c1,c2,c3]:=by
   match cs,h with
   |[c0,c1,c2,c3],_=>exact⟨c0,c1,c2,c3,rfl⟩
  obtain⟨a0,g0,h⟩:=bd_some h
  obtain⟨a1,g1,h⟩:=bd_some h
  obtain⟨a2,g2,h⟩:=bd_some h
  obtain⟨a3,g3,h⟩:=bd_some h
  have h:=Option.some.inj h;subst h
  rw[EV.lfTy_some g0,EV.lfTy_some g1,EV.lfTy_some g2,EV.lfTy_some g3]
  rfl
 by_cases h48:τ=48
 ·subst h48;
  obtain⟨c0,c1,c2,c3,rfl⟩:∃c0 c1 c2 c3:EV.Lf Un,cs=[c0,c1,c2,c3]:=by
   match cs,h with
   |[c0,c1,c2,c3],_=>exact⟨c0,c1,c2,c3,rfl⟩
  obtain⟨a0,g0,h⟩:=bd_some h
  obtain⟨a1,g1,h⟩:=bd_some h
  obtain⟨a2,g2,h⟩:=bd_some h
  obtain⟨a3,g3,h⟩:=bd_some h
  have h:=Option.some.inj h;subst h
  rw[EV.lfTy_some g0,EV.lfTy_some g1,EV.lfTy_some g2,EV.lfTy_some g3]
  rfl
 by_cases h286:τ=286
 ·subst h286;
  obtain⟨c0,c1,c2,c3,rfl⟩:∃c0 c1 c2 c3:EV.Lf Un,cs=[c0,c1,c2,c3]:=by
   match cs,h with
   |[c0,c1,c2,c3],_=>exact⟨c0,c1,c2,c3,rfl⟩
  obtain⟨a0,g0,h⟩:=bd_some h
  obtain⟨a1,g1,h⟩:=bd_some h
  obtain⟨a2,g2,h⟩:=bd_some h
  obtain⟨a3,g3,h⟩:=bd_some h
  have h:=Option.some.inj h;subst h
  rw[EV.lfTy_some g0,EV.lfTy_some g1,EV.lfTy_some g2,EV.lfTy_some g3]
  rfl
 by_cases h203:τ=203
 ·subst h203;
  obtain⟨c0,c1,c2,rfl⟩:∃c0 c1 c2:EV.Lf Un,cs=[c0,c1,c2]:=by
   match cs,h with
   |[c0,c1,c2],_=>exact⟨c0,c1,c2,rfl⟩
  obtain⟨a0,g0,h⟩:=bd_some h
  obtain⟨a1,g1,h⟩:=bd_some h
  obtain⟨a2,g2,h⟩:=bd_some h
  have h:=Option.some.inj h;subst h
  rw[EV.lfTy_some g0,EV.lfTy_some g1,EV.lfTy_some g2]
  rfl
 by_cases h260:τ=260
 ·subst h260;
  obtain⟨c0,c1,c2,rfl⟩:∃c0 c1 c2:EV.Lf Un,cs=[c0,c1,c2]:=by
   match cs,h with
   |[c0,c1,c2],_=>exact⟨c0,c1,c2,rfl⟩
  obtain⟨a0,g0,h⟩:=bd_some h
  obtain⟨a1,g1,h⟩:=bd_some h
  obtain⟨a2,g2,h⟩:=bd_some h
  have h:=Option.some.inj h;subst h
  rw[EV.lfTy_some g0,EV.lfTy_some g1,EV.lfTy_some g2]
  rfl
 by_cases h140:τ=140
 ·subst h140;
  obtain⟨c0,c1,c2,rfl⟩:∃c0 c1 c2:EV.Lf Un,cs=[c0,c1,c2]:=by
   match cs,h with
   |[c0,c1,c2],_=>exact⟨c0,c1,c2,rfl⟩
  obtain⟨a0,g0,h⟩:=bd_some h
  obtain⟨a1,g1,h⟩:=bd_some h
  obtain⟨a2,g2,h⟩:=bd_some h
  have h:=Option.some.inj h;subst h
  rw[EV.lfTy_some g0,EV.lfTy_some g1,EV.lfTy_some g2]
  rfl
 by_cases h142:τ=142
 ·subst h142;
  obtain⟨c0,c1,c2,c3,c4,c5,rfl⟩:∃c0 c1 c2 c3 c4 c5:EV.Lf Un,cs=[c0,c1,c2,c3,c4,c5]:=by
   match cs,h with
   |[c0,c1,c2,c3,c4,c5],_=>exact⟨c0,c1,c2,c3,c4,c5,rfl⟩
  obtain⟨a0,g0,h⟩:=bd_some h
  obtain⟨a1,g1,h⟩:=bd_some h
  obtain⟨a2,g2,h⟩:=bd_some h
  obtain⟨a3,g3,h⟩:=bd_some h
  obtain⟨a4,g4,h⟩:=bd_some h
  obtain⟨a5,g5,h⟩:=bd_some h
  have h:=Option.some.inj h;subst h
  rw[EV.lfTy_some g0,EV.lfTy_some g1,EV.lfTy_some g2,EV.lfTy_some g3,EV.lfTy_some g4,EV.lfTy_some g5]
  rfl
 by_cases h50:τ=50
 ·subst h50;
  obtain⟨c0,c1,c2,c3,rfl⟩:∃c0 c1 c2 c3:EV.Lf Un,cs=[c0,c1,c2,c3]:=by
   match cs,h with
   |[c0,c1,c2,c3],_=>exact⟨c0,c1,c2,c3,rfl⟩
  obtain⟨a0,g0,h⟩:=bd_some h
  obtain⟨a1,g1,h⟩:=bd_some h
  obtain⟨a2,g2,h⟩:=bd_some h
  obtain⟨a3,g3,h⟩:=bd_some h
  have h:=Option.some.inj h;subst h
  rw[EV.lfTy_some g0,EV.lfTy_some g1,EV.lfTy_some g2,EV.lfTy_some g3]
  rfl
 by_cases h152:τ=152
 ·subst h152;
  obtain⟨c0,c1,rfl⟩:∃c0 c1:EV.Lf Un,cs=[c0,c1]:=by
   match cs,h with
   |[c0,c1],_=>exact⟨c0,c1,rfl⟩
  obtain⟨a0,g0,h⟩:=bd_some h
  obtain⟨a1,g1,h⟩:=bd_some h
  have h:=Option.some.inj h;subst h
  rw[EV.lfTy_some g0,EV.lfTy_some g1]
  rfl
 by_cases h154:τ=154
 ·subst h154;
  obtain⟨c0,c1,c2,c3,c4,rfl⟩:∃c0 c1 c2 c3 c4:EV.Lf Un,cs=[c0,c1,c2,c3,c4]:=by
   match cs,h with
   |[c0,c1,c2,c3,c4],_=>exact⟨c0,c1,c2,c3,c4,rfl⟩
  obtain⟨a0,g0,h⟩:=bd_some h
  obtain⟨a1,g1,h⟩:=bd_some h
  obtain⟨a2,g2,h⟩:=bd_some h
  obtain⟨a3,g3,h⟩:=bd_some h
  obtain⟨a4,g4,h⟩:=bd_some h
  have h:=Option.some.inj h;subst h
  rw[EV.lfTy_some g0,EV.lfTy_some g1,EV.lfTy_some g2,EV.lfTy_some g3,EV.lfTy_some g4]
  rfl
 by_cases h157:τ=157
 ·subst h157;
  obtain⟨c0,c1,c2,c3,c4,c5,c6,rfl⟩:∃c0 c1 c2 c3 c4 c5 c6:EV.Lf Un,cs=[c0,c1,c2,c3,c4,c5,c6]:=by
   match cs,h with
   |[c0,c1,c2,c3,c4,c5,c6],_=>exact⟨c0,c1,c2,c3,c4,c5,c6,rfl⟩
  obtain⟨a0,g0,h⟩:=bd_some h
  obtain⟨a1,g1,h⟩:=bd_some h
  obtain⟨a2,g2,h⟩:=bd_some h
  obtain⟨a3,g3,h⟩:=bd_some h
  obtain⟨a4,g4,h⟩:=bd_some h
  obtain⟨a5,g5,h⟩:=bd_some h
  obtain⟨a6,g6,h⟩:=bd_some h
  have h:=Option.some.inj h;subst h
  rw[EV.lfTy_some g0,EV.lfTy_some g1,EV.lfTy_some g2,EV.lfTy_some g3,EV.lfTy_some g4,EV.lfTy_some g5,EV.lfTy_some g6]
  rfl
 by_cases h221:τ=221
 ·subst h221;
  obtain⟨c0,c1,c2,c3,rfl⟩:∃c0 c1 c2 c3:EV.Lf Un,cs=[c0,c1,c2,c3]:=by
   match cs,h with
   |[c0,c1,c2,c3],_=>exact⟨c0,c1,c2,c3,rfl⟩
  obtain⟨a0,g0,h⟩:=bd_some h
  obtain⟨a1,g1,h⟩:=bd_some h
  obtain⟨a2,g2,h⟩:=bd_some h
  obtain⟨a3,g3,h⟩:=bd_some h
  have h:=Option.some.inj h;subst h
  rw[EV.lfTy_some g0,EV.lfTy_some g1,EV.lfTy_some g2,EV.lfTy_some g3]
  rfl
 by_cases h54:τ=54
 ·subst h54;
  obtain⟨c0,rfl⟩:∃c0:EV.Lf Un,cs=[c0]:=by
   match cs,h with
   |[c0],_=>exact⟨c0,rfl⟩
  obtain⟨a0,g0,h⟩:=bd_some h
  have h:=Option.some.inj h;subst h
  rw[EV.lfTy_some g0]
  rfl
 by_cases h56:τ=56
 ·subst h56;
  obtain⟨c0,c1,c2,c3,c4,c5,c6,c7,c8,c9,c10,c11,c12,c13,c14,c15,rfl⟩:∃c0 c1 c2 c3 c4 c5 c6 c7 c8 c9 c10 c11 c12 c13 c14 c15:EV.Lf Un,cs=[c0,c1,c2,c3,c4,c5,c6,c7,c8,c9,c10,c11,c12,c13,c14,c15]:=by
   match cs,h with
   |[c0,c1,c2,c3,c4,c5,c6,c7,c8,c9,c10,c11,c12,c13,c14,c15],_=>exact⟨c0,c1,c2,c3,c4,c5,c6,c7,c8,c9,c10,c11,c12,c13,c14,c15,rfl⟩
  obtain⟨a0,g0,h⟩:=bd_some h
  obtain⟨a1,g1,h⟩:=bd_some h
  obtain⟨a2,g2,h⟩:=bd_some h
  obtain⟨a3,g3,h⟩:=bd_some h
  obtain⟨a4,g4,h⟩:=bd_some h
  obtain⟨a5,g5,h⟩:=bd_some h
  obtain⟨a6,g6,h⟩:=bd_some h
  obtain⟨a7,g7,h⟩:=bd_some h
  obtain⟨a8,g8,h⟩:=bd_some h
  obtain⟨a9,g9,h⟩:=bd_some h
  obtain⟨a10,g10,h⟩:=bd_some h
  obtain⟨a11,g11,h⟩:=bd_some h
  obtain⟨a12,g12,h⟩:=bd_some h
  obtain⟨a13,g13,h⟩:=bd_some h
  obtain⟨a14,g14,h⟩:=bd_some h
  obtain⟨a15,g15,h⟩:=bd_some h
  have h:=Option.some.inj h;subst h
  rw[EV.lfTy_some g0,EV.lfTy_some g1,EV.lfTy_some g2,EV.lfTy_some g3,EV.lfTy_some g4,EV.lfTy_some g5,EV.lfTy_some g6,EV.lfTy_some g7,EV.lfTy_some g8,EV.lfTy_some g9,EV.lfTy_some g10,EV.lfTy_some g11,EV.lfTy_some g12,EV.lfTy_some g13,EV.lfTy_some g14,EV.lfTy_some g15]
  rfl
 by_cases h123:τ=123
 ·subst h123;
  obtain⟨c0,rfl⟩:∃c0:EV.Lf Un,cs=[c0]:=by
   match cs,h with
   |[c0],_=>exact⟨c0,rfl⟩
  obtain⟨a0,g0,h⟩:=bd_some h
  have h:=Option.some.inj h;subst h
  rw[EV.lfTy_some g0]
  rfl
 by_cases h9:τ=9
 ·subst h9;
  obtain⟨c0,rfl⟩:∃c0:EV.Lf Un,cs=[c0]:=by
   match cs,h with
   |[c0],_=>exact⟨c0,rfl⟩
  obtain⟨a0,g0,h⟩:=bd_some h
  have h:=Option.some.inj h;subst h
  rw[EV.lfTy_some g0]
  rfl
 exact(cast (El_none τ h109 h212 h305 h112 h114 h4 h5 h264 h27 h195 h30 h316 h268 h308 h122 h3 h125 h33 h128 h130 h133 h223 h37 h39 h74 h210 h244 h77 h79 h270 h45 h92 h48 h286 h203 h260 h140 h142 h50 h152 h154 h157 h221 h54 h56 h123 h9) x).elim
def Yn:EV.Lay Un:=⟨⟨celE,bldE,hc1,hc2,hc3,hc4⟩,kdE,5,fun n=>n,fun n=>n,fun _=>rfl,fun _=>rfl⟩
theorem ly1:∀(τ:Nat) (x:El τ),(celE τ x).map EV.kdL=(kdE τ).map some:=by
 intro τ x
 by_cases h109:τ=109
 ·subst h109;rfl
 by_cases h212:τ=212
 ·subst h212;rfl
 by_cases h305:τ=305
 ·subst h305;rfl
 by_cases h112:τ=112
 ·subst h112;rfl
 by_cases h114:τ=114
 ·subst h114;rfl
 by_cases h4:τ=4
 ·subst h4;rfl
 by_cases h5:τ=5
 ·subst h5;rfl
 by_cases h264:τ=264
 ·subst h264;rfl
 by_cases h27:τ=27
 ·subst h27;rfl
 by_cases h195:τ=195
 ·subst h195;rfl
 by_cases h30:τ=30
 ·subst h30;rfl
 by_cases h316:τ=316
 ·subst h316;rfl
 by_cases h268:τ=268
 ·subst h268;rfl
 by_cases h308:τ=308
 ·subst h308;rfl
 by_cases h122:τ=122
 ·subst h122;rfl
 by_cases h3:τ=3
 ·subst h3;rfl
 by_cases h125:τ=125
 ·subst h125;rfl
 by_cases h33:τ=33
 ·subst h33;rfl
 by_cases h128:τ=128
 ·subst h128;rfl
 by_cases h130:τ=130
 ·subst h130;rfl
 by_cases h133:τ=133
 ·subst h133;rfl
 by_cases h223:τ=223
 ·subst h223;rfl
 by_cases h37:τ=37
 ·subst h37;rfl
 by_cases h39:τ=39
 ·subst h39;rfl
 by_cases h74:τ=74
 ·subst h74;rfl
 by_cases h210:τ=210
 ·subst h210;rfl
 by_cases h244:τ=244
 ·subst h244;rfl
 by_cases h77:τ=77
 ·subst h77;rfl
 by_cases h79:τ=79
 ·subst h79;rfl
 by_cases h270:τ=270
 ·subst h270;rfl
 by_cases h45:τ=45
 ·subst h45;rfl
 by_cases h92:τ=92
 ·subst h92;rfl
 by_cases h48:τ=48
 ·subst h48;rfl
 by_cases h286:τ=286
 ·subst h286;rfl
 by_cases h203:τ=203
 ·subst h203;rfl
 by_cases h260:τ=260
 ·subst h260;rfl
 by_cases h140:τ=140
 ·subst h140;rfl
 by_cases h142:τ=142
 ·subst h142;rfl
 by_cases h50:τ=50
 ·subst h50;rfl
 by_cases h152:τ=152
 ·subst h152;rfl
 by_cases h154:τ=154
 ·subst h154;rfl
 by_cases h157:τ=157
 ·subst h157;rfl
 by_cases h221:τ=221
 ·subst h221;rfl
 by_cases h54:τ=54
 ·subst h54;rfl
 by_cases h56:τ=56
 ·subst h56;rfl
 by_cases h123:τ=123
 ·subst h123;rfl
 by_cases h9:τ=9
 ·subst h9;rfl
 exact(cast (El_none τ h109 h212 h305 h112 h114 h4 h5 h264 h27 h195 h30 h316 h268 h308 h122 h3 h125 h33 h128 h130 h133 h223 h37 h39 h74 h210 h244 h77 h79 h270 h45 h92 h48 h286 h203 h260 h140 h142 h50 h152 h154 h157 h221 h54 h56 h123 h9) x).elim
theorem ly2:∀(τ τ':Nat),EV.Kd.sl τ'∈kdE τ→0<Un.K τ':=by
 intro τ τ' h
 unfold kdE at h
 split at h<;>simp only[List.mem_cons,List.not_mem_nil,or_false,reduceCtorEq,false_or,or_self,EV.Kd.sl.injEq] at h<;>first|exact h.elim|(subst h;exact Nat.le_of_ble_eq_true rfl)|(rcases h with h|h|h|h|h|h|h|h<;>(subst h;exact Nat.le_of_ble_eq_true rfl))|(rcases h with h|h|h|h|h|h|h<;>(subst h;exact Nat.le_of_ble_eq_true rfl))|(rcases h with h|h|h|h|h|h<;>(subst h;exact Nat.le_of_ble_eq_true rfl))|(rcases h with h|h|h|h|h<;>(subst h;exact Nat.le_of_ble_eq_true rfl))|(rcases h with h|h|h|h<;>(subst h;exact Nat.le_of_ble_eq_true rfl))|(rcases h with h|h|h<;>(subst h;exact Nat.le_of_ble_eq_true rfl))|(rcases h with h|h<;>(subst h;exact Nat.le_of_ble_eq_true rfl))
theorem layOk:EV.LayOk Yn:=⟨ly1,ly2⟩
def bodyOf (f:Func):Code:=match f.body with|some c=>c|none=> .skip
theorem T.mix:Tryz.prog.follows .mixedOrders=true:=by kernel_rfl
theorem good0:EV.Good Tryz.prog G0 Yn TI []:=⟨by kernel_rfl,layOk,fun f S h=>by simp at h⟩
abbrev SU:=EV.Sum Un
def OK (f:Nat)(S:SU):Prop:=EV.SumOk Tryz.prog G0 Yn f S
def od (n:Nat)(l:List Nat):List (Nat×Bool):=(List.range n).map fun i=>(i, !l.contains i)
theorem gc {f:Nat}{S:SU}{FZ:List (Nat×SU)}(h:OK f S)(G:EV.Good Tryz.prog G0 Yn TI FZ):EV.Good Tryz.prog G0 Yn TI ((f,S)::FZ):=EV.good_cons h G
theorem gcp {f:Nat}{S:SU}{FZ:List (Nat×SU)}(h:OK f S)(G:EV.Good Tryz.prog G0 Yn TI FZ)(hw:S.wt=false:=by rfl)(hf:S.fr=true:=by rfl):EV.Good Tryz.prog G0 Yn TI ((f,S.pl)::FZ):=EV.good_cons (EV.sum_pl h hw hf) G
theorem mkS {f:FuncId}{fn:Func}{n:Nat}{S:SU}{FZ:List (Nat×SU)}{m:EV.Tup Un S.ar→Option (EV.Tup Un S.rs)}(an:EV.An)(l:List ResultVar)(G:EV.Good Tryz.prog G0 Yn TI FZ)(hf:Tryz.prog.funcs[f]? =some fn)(hn:fn.ntmps=n)(ht:∀a r,S.m a=some r→m a=some r)(hE:∀args w,(callFunc f args).run Tryz.prog w= .ok (.enter f args) w)(h:∀a,EV.evF Yn TI FZ an (bodyOf fn) n S.ar S.rs S.fr l a=m a)(hb:fn.body=some (bodyOf fn):=by rfl)(hl:fn.results=l.toArray:=by rfl)(hlen:S.ar.length≤n:=by decide)(hw:S.wt=false:=by rfl):OK f S:=
 EV.sum_ok (an:=fun _=>an) G T.mix hf hb hn hl hE hlen hw fun a r hr=>(h a).trans (ht a r hr)
theorem mkW {f:FuncId}{fn:Func}{n:Nat}{kd:EV.Kd}{M m:EV.Tup Un [kd, .int .i64]→Option (EV.Tup Un [kd, .int .i64])}{FZ:List (Nat×SU)}(an:EV.An)(l:List ResultVar)(G:EV.Good Tryz.prog G0 Yn TI FZ)(hf:Tryz.prog.funcs[f]? =some fn)(hn:fn.ntmps=n)(ht:∀a r,M a=some r→m a=some r)(hE:∀args w,(callFunc f args).run Tryz.prog w= .ok (.enter f args) w)(h:∀a,EV.evM Yn TI FZ an (bodyOf fn) n kd l a=m a)(hb:fn.body=some (bodyOf fn):=by rfl)(hl:fn.results=l.toArray:=by rfl)(hlen:2≤n:=by decide):OK f ⟨[kd, .int .i64],[kd, .int .i64],false,true,M⟩:=
 EV.sum_wt (an:=fun _=>an) G T.mix hf hb hn hl hE hlen fun a r hr=>(h a).trans (ht a r hr)
def S_strings_Split:EV.Sum Un:=⟨[.str, .str],[.sl 9],false,false,fun(a:ByteArray×ByteArray)=>gd (a.1.size<4294967281∧1≤a.2.size) (some (splitF a.1 a.2))⟩
theorem en_strings_Split (args:Array Value)(w:World):(callFunc 267 args).run Tryz.prog w= .ok (.enter 267 args) w:=by kernel_rfl
theorem u_strings_Split (a:ByteArray×ByteArray):(EV.toCps Yn S_strings_Split.ar a).map EV.cpV=[.str a.1, .str a.2]:=by kernel_rfl
theorem r_strings_Split (a:ByteArray×ByteArray):tupOf ((EV.toCps Yn S_strings_Split.rs (splitF a.1 a.2)).map EV.cpV)= .slice 1 ((splitF a.1 a.2).map sV):=by kernel_rfl
theorem k_strings_Split (a:ByteArray×ByteArray)(r:EV.Tup Un S_strings_Split.rs)(hr:gd (a.1.size<4294967281∧1≤a.2.size) (some (splitF a.1 a.2))=some r):Spec Tryz.prog G0 267 ((EV.toCps Yn S_strings_Split.ar a).map EV.cpV) (fun v=>v=tupOf ((EV.toCps Yn S_strings_Split.rs r).map EV.cpV)):=by
 unfold gd at hr
 split at hr
 ·rename_i hp
  have e:=Option.some.inj hr
  subst e
  rw[u_strings_Split,r_strings_Split]
  exact spec_split en_strings_Split (fun s sep m w a b c=>Tryz.strings_Split s sep m w a b c) a.1 a.2 hp.1 hp.2
 ·cases hr
theorem s_strings_Split:EV.SumOk Tryz.prog G0 Yn 267 S_strings_Split:=fun(a:ByteArray×ByteArray) r hr=>⟨fun _ _=>k_strings_Split a r hr,fun _ h=>absurd (show false=true from h) Bool.false_ne_true,fun h=>absurd (show false=true from h) Bool.false_ne_true⟩
def S_strings_Join:EV.Sum Un:=⟨[.sl 9, .str],[.str],false,false,fun(a:(List ByteArray)×ByteArray)=>gd (0<a.1.length∧(joinB a.2 a.1).size≤140737488355328∧a.1.length≤140737488355328) (some (joinB a.2 a.1))⟩
theorem en_strings_Join (args:Array Value)(w:World):(callFunc 268 args).run Tryz.prog w= .ok (.enter 268 args) w:=by kernel_rfl
theorem u_strings_Join (a:(List ByteArray)×ByteArray):(EV.toCps Yn S_strings_Join.ar a).map EV.cpV=[.slice 1 (a.1.map sV), .str a.2]:=by kernel_rfl
theorem r_strings_Join (a:(List ByteArray)×ByteArray):tupOf ((EV.toCps Yn S_strings_Join.rs (joinB a.2 a.1)).map EV.cpV)= .str (joinB a.2 a.1):=by kernel_rfl
theorem k_strings_Join (a:(List ByteArray)×ByteArray)(r:EV.Tup Un S_strings_Join.rs)(hr:gd (0<a.1.length∧(joinB a.2 a.1).size≤140737488355328∧a.1.length≤140737488355328) (some (joinB a.2 a.1))=some r):Spec Tryz.prog G0 268 ((EV.toCps Yn S_strings_Join.ar a).map EV.cpV) (fun v=>v=tupOf ((EV.toCps Yn S_strings_Join.rs r).map EV.cpV)):=by
 unfold gd at hr
 split at hr
 ·rename_i hp
  have e:=Option.some.inj hr
  subst e
  rw[u_strings_Join,r_strings_Join]
  exact spec_join en_strings_Join Tryz.strings_Join a.1 a.2 (by intro h;have:=hp.1;rw[h] at this;simp at this) hp.2.1 hp.2.2
 ·cases hr
theorem s_strings_Join:EV.SumOk Tryz.prog G0 Yn 268 S_strings_Join:=fun(a:(List ByteArray)×ByteArray) r hr=>⟨fun _ _=>k_strings_Join a r hr,fun _ h=>absurd (show false=true from h) Bool.false_ne_true,fun h=>absurd (show false=true from h) Bool.false_ne_true⟩
end
end Go.VK
