import Derived.Test.YtffpnfmhcpcaaaaGreatDoorXgFF
import Derived.Test.YtffpnfmhcpcaaaaGreatDoorEWptor
import Derived.Test.YtffpnfmhcpcaaaaGreatDoorProg
import Derived.Test.YtffpnfmhcpcaaaaGreatDoorTryzShelf
/-
  Printed by wip/tools (own work of this part): models of functions, walks over the value kit, and proofs.
-/
set_option linter.unusedVariables false
set_option linter.unusedSimpArgs false
set_option maxRecDepth 100000
set_option maxHeartbeats 4000000
namespace Go.VK
open Go.RowKit Go.Proofs
noncomputable section
abbrev G0:GI:=bDu 0
def El:Nat→Type
 |100=>D.KeyStore
 |215=>D.LogEntry
 |312=>D.Entry
 |103=>D.Bundle
 |105=>D.Device
 |4=>Bool
 |5=>Int
 |264=>D.Box
 |27=>D.EpochBoxes
 |193=>D.SealedBundle
 |30=>D.Cloud
 |327=>D.Credential
 |268=>D.Account
 |315=>D.Challenge
 |113=>D.ChallengeBook
 |3=>Int
 |115=>D.Site
 |33=>D.Vault
 |118=>D.Share
 |120=>D.Keeper
 |123=>D.KeeperHost
 |226=>D.Notice
 |37=>D.Mailbox
 |39=>D.World
 |126=>D.KeyStore
 |213=>D.LogEntry
 |247=>D.Entry
 |129=>D.Bundle
 |131=>D.Device
 |275=>D.Box
 |45=>D.EpochBoxes
 |136=>D.SealedBundle
 |48=>D.Cloud
 |299=>D.Credential
 |206=>D.Account
 |252=>D.Challenge
 |146=>D.ChallengeBook
 |148=>D.Site
 |50=>D.Vault
 |157=>D.Share
 |159=>D.Keeper
 |162=>D.KeeperHost
 |224=>D.Notice
 |54=>D.Mailbox
 |56=>D.World
 |96=>List Int
 |9=>ByteArray
 |_=>Empty
def bDz:(τ:Nat)→El τ→List V
 |100=>D.KeyStore.V
 |215=>D.LogEntry.V
 |312=>D.Entry.V
 |103=>D.Bundle.V
 |105=>D.Device.V
 |4=>bV
 |5=>y8
 |264=>D.Box.V
 |27=>D.EpochBoxes.V
 |193=>D.SealedBundle.V
 |30=>D.Cloud.V
 |327=>D.Credential.V
 |268=>D.Account.V
 |315=>D.Challenge.V
 |113=>D.ChallengeBook.V
 |3=>iV
 |115=>D.Site.V
 |33=>D.Vault.V
 |118=>D.Share.V
 |120=>D.Keeper.V
 |123=>D.KeeperHost.V
 |226=>D.Notice.V
 |37=>D.Mailbox.V
 |39=>D.World.V
 |126=>D.KeyStore.V
 |213=>D.LogEntry.V
 |247=>D.Entry.V
 |129=>D.Bundle.V
 |131=>D.Device.V
 |275=>D.Box.V
 |45=>D.EpochBoxes.V
 |136=>D.SealedBundle.V
 |48=>D.Cloud.V
 |299=>D.Credential.V
 |206=>D.Account.V
 |252=>D.Challenge.V
 |146=>D.ChallengeBook.V
 |148=>D.Site.V
 |50=>D.Vault.V
 |157=>D.Share.V
 |159=>D.Keeper.V
 |162=>D.KeeperHost.V
 |224=>D.Notice.V
 |54=>D.Mailbox.V
 |56=>D.World.V
 |96=>(fun l=>[V.slice 1 (l.map iV)])
 |9=>sV
 |_=>fun _=>[]
def Un:EV.Uni:=⟨El,fun|100=>4|215=>6|312=>4|103=>1|105=>9|4=>1|5=>1|264=>4|27=>2|193=>4|30=>4|327=>4|268=>3|315=>3|113=>3|3=>1|115=>6|33=>4|118=>2|120=>5|123=>7|226=>4|37=>1|39=>16|126=>4|213=>6|247=>4|129=>1|131=>9|275=>4|45=>2|136=>4|48=>4|299=>4|206=>3|252=>3|146=>3|148=>6|50=>4|157=>2|159=>5|162=>7|224=>4|54=>1|56=>16|96=>1|9=>1|_=>0,bDz⟩
def fQ:(τ:Nat)→El τ→List (EV.Lf Un)
 |100=>fun x=>[.int .i64 x.Vendor, .int .i64 x.Serial, .int .i64 x.Seed, .int .i64 x.Counter]
 |215=>fun x=>[.int .i64 x.Index, .int .i64 x.Kind, .int .i64 x.Device, .int .i64 x.By, .int .i64 x.Previous, .int .i64 x.Signature]
 |312=>fun x=>[.int .i64 x.Site, .int .i64 x.Handle, .int .i64 x.Version, .bool x.Deleted]
 |103=>fun x=>[.sl 312 x.Entries]
 |105=>fun x=>[.int .i64 x.Store.Vendor, .int .i64 x.Store.Serial, .int .i64 x.Store.Seed, .int .i64 x.Store.Counter, .sl 215 x.Log, .int .i64 x.Key, .int .i64 x.Epoch, .int .i64 x.Version, .sl 312 x.Bundle.Entries]
 |4=>fun x=>[.bool x]
 |5=>fun x=>[.int .u8 x]
 |264=>fun x=>[.int .i64 x.To, .int .i64 x.Ephemeral, .sl 5 x.Data, .int .i64 x.MAC]
 |27=>fun x=>[.int .i64 x.Epoch, .sl 264 x.Boxes]
 |193=>fun x=>[.int .i64 x.Epoch, .int .i64 x.Version, .sl 5 x.Data, .int .i64 x.MAC]
 |30=>fun x=>[.sl 215 x.Log, .int .i64 x.Boxes.Epoch, .sl 264 x.Boxes.Boxes, .sl 193 x.History]
 |327=>fun x=>[.int .i64 x.Handle, .int .i64 x.Public, .int .i64 x.Counter, .bool x.Cut]
 |268=>fun x=>[.int .i64 x.Id, .int .i64 x.Minimum, .sl 327 x.Credentials]
 |315=>fun x=>[.int .i64 x.Id, .int .i64 x.Account, .int .i64 x.Until]
 |113=>fun x=>[.int .i64 x.Seed, .int .i64 x.Next, .sl 315 x.Open]
 |3=>fun x=>[.int .i64 x]
 |115=>fun x=>[.str x.Name, .sl 268 x.Accounts, .int .i64 x.Book.Seed, .int .i64 x.Book.Next, .sl 315 x.Book.Open, .sl 3 x.Logins]
 |33=>fun x=>[.int .i64 x.Salt, .int .i64 x.Threshold, .int .i64 x.Check, .int .i64 x.Masked]
 |118=>fun x=>[.int .i64 x.Index, .int .i64 x.Value]
 |120=>fun x=>[.int .i64 x.Share.Index, .int .i64 x.Share.Value, .int .i64 x.Epoch, .int .i64 x.Guesses, .int .i64 x.Limit]
 |123=>fun x=>[.int .i64 x.State.Share.Index, .int .i64 x.State.Share.Value, .int .i64 x.State.Epoch, .int .i64 x.State.Guesses, .int .i64 x.State.Limit, .sl 120 x.Saved, .int .i64 x.Monotonic]
 |226=>fun x=>[.int .i64 x.Kind, .int .i64 x.Account, .int .i64 x.Time, .bool x.Seen]
 |37=>fun x=>[.sl 226 x.Notices]
 |39=>fun x=>[.int .i64 x.Now, .int .i64 x.Seed, .sl 105 x.Devices, .sl 4 x.Stolen, .sl 215 x.Cloud.Log, .int .i64 x.Cloud.Boxes.Epoch, .sl 264 x.Cloud.Boxes.Boxes, .sl 193 x.Cloud.History, .sl 115 x.Sites, .int .i64 x.Vault.Salt, .int .i64 x.Vault.Threshold, .int .i64 x.Vault.Check, .int .i64 x.Vault.Masked, .sl 123 x.Hosts, .int .i64 x.Pin, .sl 226 x.Mail.Notices]
 |126=>fun x=>[.int .i64 x.Vendor, .int .i64 x.Serial, .int .i64 x.Seed, .int .i64 x.Counter]
 |213=>fun x=>[.int .i64 x.Index, .int .i64 x.Kind, .int .i64 x.Device, .int .i64 x.By, .int .i64 x.Previous, .int .i64 x.Signature]
 |247=>fun x=>[.int .i64 x.Site, .int .i64 x.Handle, .int .i64 x.Version, .bool x.Deleted]
 |129=>fun x=>[.sl 247 x.Entries]
 |131=>fun x=>[.int .i64 x.Store.Vendor, .int .i64 x.Store.Serial, .int .i64 x.Store.Seed, .int .i64 x.Store.Counter, .sl 213 x.Log, .int .i64 x.Key, .int .i64 x.Epoch, .int .i64 x.Version, .sl 247 x.Bundle.Entries]
 |275=>fun x=>[.int .i64 x.To, .int .i64 x.Ephemeral, .sl 5 x.Data, .int .i64 x.MAC]
 |45=>fun x=>[.int .i64 x.Epoch, .sl 275 x.Boxes]
 |136=>fun x=>[.int .i64 x.Epoch, .int .i64 x.Version, .sl 5 x.Data, .int .i64 x.MAC]
 |48=>fun x=>[.sl 213 x.Log, .int .i64 x.Boxes.Epoch, .sl 275 x.Boxes.Boxes, .sl 136 x.History]
 |299=>fun x=>[.int .i64 x.Handle, .int .i64 x.Public, .int .i64 x.Counter, .bool x.Cut]
 |206=>fun x=>[.int .i64 x.Id, .int .i64 x.Minimum, .sl 299 x.Credentials]
 |252=>fun x=>[.int .i64 x.Id, .int .i64 x.Account, .int .i64 x.Until]
 |146=>fun x=>[.int .i64 x.Seed, .int .i64 x.Next, .sl 252 x.Open]
 |148=>fun x=>[.str x.Name, .sl 206 x.Accounts, .int .i64 x.Book.Seed, .int .i64 x.Book.Next, .sl 252 x.Book.Open, .sl 3 x.Logins]
 |50=>fun x=>[.int .i64 x.Salt, .int .i64 x.Threshold, .int .i64 x.Check, .int .i64 x.Masked]
 |157=>fun x=>[.int .i64 x.Index, .int .i64 x.Value]
 |159=>fun x=>[.int .i64 x.Share.Index, .int .i64 x.Share.Value, .int .i64 x.Epoch, .int .i64 x.Guesses, .int .i64 x.Limit]
 |162=>fun x=>[.int .i64 x.State.Share.Index, .int .i64 x.State.Share.Value, .int .i64 x.State.Epoch, .int .i64 x.State.Guesses, .int .i64 x.State.Limit, .sl 159 x.Saved, .int .i64 x.Monotonic]
 |224=>fun x=>[.int .i64 x.Kind, .int .i64 x.Account, .int .i64 x.Time, .bool x.Seen]
 |54=>fun x=>[.sl 224 x.Notices]
 |56=>fun x=>[.int .i64 x.Now, .int .i64 x.Seed, .sl 131 x.Devices, .sl 4 x.Stolen, .sl 213 x.Cloud.Log, .int .i64 x.Cloud.Boxes.Epoch, .sl 275 x.Cloud.Boxes.Boxes, .sl 136 x.Cloud.History, .sl 148 x.Sites, .int .i64 x.Vault.Salt, .int .i64 x.Vault.Threshold, .int .i64 x.Vault.Check, .int .i64 x.Vault.Masked, .sl 162 x.Hosts, .int .i64 x.Pin, .sl 224 x.Mail.Notices]
 |96=>fun x=>[.sl 3 x]
 |9=>fun x=>[.str x]
 |_=>fun _=>[]
def kdE:Nat→List EV.Kd
 |100=>[.int .i64, .int .i64, .int .i64, .int .i64]
 |215=>[.int .i64, .int .i64, .int .i64, .int .i64, .int .i64, .int .i64]
 |312=>[.int .i64, .int .i64, .int .i64, .bool]
 |103=>[.sl 312]
 |105=>[.int .i64, .int .i64, .int .i64, .int .i64, .sl 215, .int .i64, .int .i64, .int .i64, .sl 312]
 |4=>[.bool]
 |5=>[.int .u8]
 |264=>[.int .i64, .int .i64, .sl 5, .int .i64]
 |27=>[.int .i64, .sl 264]
 |193=>[.int .i64, .int .i64, .sl 5, .int .i64]
 |30=>[.sl 215, .int .i64, .sl 264, .sl 193]
 |327=>[.int .i64, .int .i64, .int .i64, .bool]
 |268=>[.int .i64, .int .i64, .sl 327]
 |315=>[.int .i64, .int .i64, .int .i64]
 |113=>[.int .i64, .int .i64, .sl 315]
 |3=>[.int .i64]
 |115=>[.str, .sl 268, .int .i64, .int .i64, .sl 315, .sl 3]
 |33=>[.int .i64, .int .i64, .int .i64, .int .i64]
 |118=>[.int .i64, .int .i64]
 |120=>[.int .i64, .int .i64, .int .i64, .int .i64, .int .i64]
 |123=>[.int .i64, .int .i64, .int .i64, .int .i64, .int .i64, .sl 120, .int .i64]
 |226=>[.int .i64, .int .i64, .int .i64, .bool]
 |37=>[.sl 226]
 |39=>[.int .i64, .int .i64, .sl 105, .sl 4, .sl 215, .int .i64, .sl 264, .sl 193, .sl 115, .int .i64, .int .i64, .int .i64, .int .i64, .sl 123, .int .i64, .sl 226]
 |126=>[.int .i64, .int .i64, .int .i64, .int .i64]
 |213=>[.int .i64, .int .i64, .int .i64, .int .i64, .int .i64, .int .i64]
 |247=>[.int .i64, .int .i64, .int .i64, .bool]
 |129=>[.sl 247]
 |131=>[.int .i64, .int .i64, .int .i64, .int .i64, .sl 213, .int .i64, .int .i64, .int .i64, .sl 247]
 |275=>[.int .i64, .int .i64, .sl 5, .int .i64]
 |45=>[.int .i64, .sl 275]
 |136=>[.int .i64, .int .i64, .sl 5, .int .i64]
 |48=>[.sl 213, .int .i64, .sl 275, .sl 136]
 |299=>[.int .i64, .int .i64, .int .i64, .bool]
 |206=>[.int .i64, .int .i64, .sl 299]
 |252=>[.int .i64, .int .i64, .int .i64]
 |146=>[.int .i64, .int .i64, .sl 252]
 |148=>[.str, .sl 206, .int .i64, .int .i64, .sl 252, .sl 3]
 |50=>[.int .i64, .int .i64, .int .i64, .int .i64]
 |157=>[.int .i64, .int .i64]
 |159=>[.int .i64, .int .i64, .int .i64, .int .i64, .int .i64]
 |162=>[.int .i64, .int .i64, .int .i64, .int .i64, .int .i64, .sl 159, .int .i64]
 |224=>[.int .i64, .int .i64, .int .i64, .bool]
 |54=>[.sl 224]
 |56=>[.int .i64, .int .i64, .sl 131, .sl 4, .sl 213, .int .i64, .sl 275, .sl 136, .sl 148, .int .i64, .int .i64, .int .i64, .int .i64, .sl 162, .int .i64, .sl 224]
 |96=>[.sl 3]
 |9=>[.str]
 |_=>[]
def bD0:(τ:Nat)→List (EV.Lf Un)→Option (El τ)
 |100=>fun|[c0,c1,c2,c3]=>bd (EV.aO (.int .i64) c0) fun a0=>bd (EV.aO (.int .i64) c1) fun a1=>bd (EV.aO (.int .i64) c2) fun a2=>bd (EV.aO (.int .i64) c3) fun a3=>some ⟨a0,a1,a2,a3⟩|_=>none
 |215=>fun|[c0,c1,c2,c3,c4,c5]=>bd (EV.aO (.int .i64) c0) fun a0=>bd (EV.aO (.int .i64) c1) fun a1=>bd (EV.aO (.int .i64) c2) fun a2=>bd (EV.aO (.int .i64) c3) fun a3=>bd (EV.aO (.int .i64) c4) fun a4=>bd (EV.aO (.int .i64) c5) fun a5=>some ⟨a0,a1,a2,a3,a4,a5⟩|_=>none
 |312=>fun|[c0,c1,c2,c3]=>bd (EV.aO (.int .i64) c0) fun a0=>bd (EV.aO (.int .i64) c1) fun a1=>bd (EV.aO (.int .i64) c2) fun a2=>bd (EV.aO (.bool) c3) fun a3=>some ⟨a0,a1,a2,a3⟩|_=>none
 |103=>fun|[c0]=>bd (EV.aO (.sl 312) c0) fun a0=>some ⟨a0⟩|_=>none
 |105=>fun|[c0,c1,c2,c3,c4,c5,c6,c7,c8]=>bd (EV.aO (.int .i64) c0) fun a0=>bd (EV.aO (.int .i64) c1) fun a1=>bd (EV.aO (.int .i64) c2) fun a2=>bd (EV.aO (.int .i64) c3) fun a3=>bd (EV.aO (.sl 215) c4) fun a4=>bd (EV.aO (.int .i64) c5) fun a5=>bd (EV.aO (.int .i64) c6) fun a6=>bd (EV.aO (.int .i64) c7) fun a7=>bd (EV.aO (.sl 312) c8) fun a8=>some ⟨⟨a0,a1,a2,a3⟩,a4,a5,a6,a7,⟨a8⟩⟩|_=>none
 |4=>fun|[c0]=>bd (EV.aO (.bool) c0) fun a0=>some a0|_=>none
 |5=>fun|[c0]=>bd (EV.aO (.int .u8) c0) fun a0=>some a0|_=>none
 |264=>fun|[c0,c1,c2,c3]=>bd (EV.aO (.int .i64) c0) fun a0=>bd (EV.aO (.int .i64) c1) fun a1=>bd (EV.aO (.sl 5) c2) fun a2=>bd (EV.aO (.int .i64) c3) fun a3=>some ⟨a0,a1,a2,a3⟩|_=>none
 |27=>fun|[c0,c1]=>bd (EV.aO (.int .i64) c0) fun a0=>bd (EV.aO (.sl 264) c1) fun a1=>some ⟨a0,a1⟩|_=>none
 |193=>fun|[c0,c1,c2,c3]=>bd (EV.aO (.int .i64) c0) fun a0=>bd (EV.aO (.int .i64) c1) fun a1=>bd (EV.aO (.sl 5) c2) fun a2=>bd (EV.aO (.int .i64) c3) fun a3=>some ⟨a0,a1,a2,a3⟩|_=>none
 |30=>fun|[c0,c1,c2,c3]=>bd (EV.aO (.sl 215) c0) fun a0=>bd (EV.aO (.int .i64) c1) fun a1=>bd (EV.aO (.sl 264) c2) fun a2=>bd (EV.aO (.sl 193) c3) fun a3=>some ⟨a0,⟨a1,a2⟩,a3⟩|_=>none
 |327=>fun|[c0,c1,c2,c3]=>bd (EV.aO (.int .i64) c0) fun a0=>bd (EV.aO (.int .i64) c1) fun a1=>bd (EV.aO (.int .i64) c2) fun a2=>bd (EV.aO (.bool) c3) fun a3=>some ⟨a0,a1,a2,a3⟩|_=>none
 |268=>fun|[c0,c1,c2]=>bd (EV.aO (.int .i64) c0) fun a0=>bd (EV.aO (.int .i64) c1) fun a1=>bd (EV.aO (.sl 327) c2) fun a2=>some ⟨a0,a1,a2⟩|_=>none
 |315=>fun|[c0,c1,c2]=>bd (EV.aO (.int .i64) c0) fun a0=>bd (EV.aO (.int .i64) c1) fun a1=>bd (EV.aO (.int .i64) c2) fun a2=>some ⟨a0,a1,a2⟩|_=>none
 |113=>fun|[c0,c1,c2]=>bd (EV.aO (.int .i64) c0) fun a0=>bd (EV.aO (.int .i64) c1) fun a1=>bd (EV.aO (.sl 315) c2) fun a2=>some ⟨a0,a1,a2⟩|_=>none
 |3=>fun|[c0]=>bd (EV.aO (.int .i64) c0) fun a0=>some a0|_=>none
 |115=>fun|[c0,c1,c2,c3,c4,c5]=>bd (EV.aO (.str) c0) fun a0=>bd (EV.aO (.sl 268) c1) fun a1=>bd (EV.aO (.int .i64) c2) fun a2=>bd (EV.aO (.int .i64) c3) fun a3=>bd (EV.aO (.sl 315) c4) fun a4=>bd (EV.aO (.sl 3) c5) fun a5=>some ⟨a0,a1,⟨a2,a3,a4⟩,a5⟩|_=>none
 |33=>fun|[c0,c1,c2,c3]=>bd (EV.aO (.int .i64) c0) fun a0=>bd (EV.aO (.int .i64) c1) fun a1=>bd (EV.aO (.int .i64) c2) fun a2=>bd (EV.aO (.int .i64) c3) fun a3=>some ⟨a0,a1,a2,a3⟩|_=>none
 |118=>fun|[c0,c1]=>bd (EV.aO (.int .i64) c0) fun a0=>bd (EV.aO (.int .i64) c1) fun a1=>some ⟨a0,a1⟩|_=>none
 |120=>fun|[c0,c1,c2,c3,c4]=>bd (EV.aO (.int .i64) c0) fun a0=>bd (EV.aO (.int .i64) c1) fun a1=>bd (EV.aO (.int .i64) c2) fun a2=>bd (EV.aO (.int .i64) c3) fun a3=>bd (EV.aO (.int .i64) c4) fun a4=>some ⟨⟨a0,a1⟩,a2,a3,a4⟩|_=>none
 |123=>fun|[c0,c1,c2,c3,c4,c5,c6]=>bd (EV.aO (.int .i64) c0) fun a0=>bd (EV.aO (.int .i64) c1) fun a1=>bd (EV.aO (.int .i64) c2) fun a2=>bd (EV.aO (.int .i64) c3) fun a3=>bd (EV.aO (.int .i64) c4) fun a4=>bd (EV.aO (.sl 120) c5) fun a5=>bd (EV.aO (.int .i64) c6) fun a6=>some ⟨⟨⟨a0,a1⟩,a2,a3,a4⟩,a5,a6⟩|_=>none
 |226=>fun|[c0,c1,c2,c3]=>bd (EV.aO (.int .i64) c0) fun a0=>bd (EV.aO (.int .i64) c1) fun a1=>bd (EV.aO (.int .i64) c2) fun a2=>bd (EV.aO (.bool) c3) fun a3=>some ⟨a0,a1,a2,a3⟩|_=>none
 |37=>fun|[c0]=>bd (EV.aO (.sl 226) c0) fun a0=>some ⟨a0⟩|_=>none
 |39=>fun|[c0,c1,c2,c3,c4,c5,c6,c7,c8,c9,c10,c11,c12,c13,c14,c15]=>bd (EV.aO (.int .i64) c0) fun a0=>bd (EV.aO (.int .i64) c1) fun a1=>bd (EV.aO (.sl 105) c2) fun a2=>bd (EV.aO (.sl 4) c3) fun a3=>bd (EV.aO (.sl 215) c4) fun a4=>bd (EV.aO (.int .i64) c5) fun a5=>bd (EV.aO (.sl 264) c6) fun a6=>bd (EV.aO (.sl 193) c7) fun a7=>bd (EV.aO (.sl 115) c8) fun a8=>bd (EV.aO (.int .i64) c9) fun a9=>bd (EV.aO (.int .i64) c10) fun a10=>bd (EV.aO (.int .i64) c11) fun a11=>bd (EV.aO (.int .i64) c12) fun a12=>bd (EV.aO (.sl 123) c13) fun a13=>bd (EV.aO (.int .i64) c14) fun a14=>bd (EV.aO (.sl 226) c15) fun a15=>some ⟨a0,a1,a2,a3,⟨a4,⟨a5,a6⟩,a7⟩,a8,⟨a9,a10,a11,a12⟩,a13,a14,⟨a15⟩⟩|_=>none
 |126=>fun|[c0,c1,c2,c3]=>bd (EV.aO (.int .i64) c0) fun a0=>bd (EV.aO (.int .i64) c1) fun a1=>bd (EV.aO (.int .i64) c2) fun a2=>bd (EV.aO (.int .i64) c3) fun a3=>some ⟨a0,a1,a2,a3⟩|_=>none
 |213=>fun|[c0,c1,c2,c3,c4,c5]=>bd (EV.aO (.int .i64) c0) fun a0=>bd (EV.aO (.int .i64) c1) fun a1=>bd (EV.aO (.int .i64) c2) fun a2=>bd (EV.aO (.int .i64) c3) fun a3=>bd (EV.aO (.int .i64) c4) fun a4=>bd (EV.aO (.int .i64) c5) fun a5=>some ⟨a0,a1,a2,a3,a4,a5⟩|_=>none
 |247=>fun|[c0,c1,c2,c3]=>bd (EV.aO (.int .i64) c0) fun a0=>bd (EV.aO (.int .i64) c1) fun a1=>bd (EV.aO (.int .i64) c2) fun a2=>bd (EV.aO (.bool) c3) fun a3=>some ⟨a0,a1,a2,a3⟩|_=>none
 |129=>fun|[c0]=>bd (EV.aO (.sl 247) c0) fun a0=>some ⟨a0⟩|_=>none
 |131=>fun|[c0,c1,c2,c3,c4,c5,c6,c7,c8]=>bd (EV.aO (.int .i64) c0) fun a0=>bd (EV.aO (.int .i64) c1) fun a1=>bd (EV.aO (.int .i64) c2) fun a2=>bd (EV.aO (.int .i64) c3) fun a3=>bd (EV.aO (.sl 213) c4) fun a4=>bd (EV.aO (.int .i64) c5) fun a5=>bd (EV.aO (.int .i64) c6) fun a6=>bd (EV.aO (.int .i64) c7) fun a7=>bd (EV.aO (.sl 247) c8) fun a8=>some ⟨⟨a0,a1,a2,a3⟩,a4,a5,a6,a7,⟨a8⟩⟩|_=>none
 |275=>fun|[c0,c1,c2,c3]=>bd (EV.aO (.int .i64) c0) fun a0=>bd (EV.aO (.int .i64) c1) fun a1=>bd (EV.aO (.sl 5) c2) fun a2=>bd (EV.aO (.int .i64) c3) fun a3=>some ⟨a0,a1,a2,a3⟩|_=>none
 |45=>fun|[c0,c1]=>bd (EV.aO (.int .i64) c0) fun a0=>bd (EV.aO (.sl 275) c1) fun a1=>some ⟨a0,a1⟩|_=>none
 |136=>fun|[c0,c1,c2,c3]=>bd (EV.aO (.int .i64) c0) fun a0=>bd (EV.aO (.int .i64) c1) fun a1=>bd (EV.aO (.sl 5) c2) fun a2=>bd (EV.aO (.int .i64) c3) fun a3=>some ⟨a0,a1,a2,a3⟩|_=>none
 |48=>fun|[c0,c1,c2,c3]=>bd (EV.aO (.sl 213) c0) fun a0=>bd (EV.aO (.int .i64) c1) fun a1=>bd (EV.aO (.sl 275) c2) fun a2=>bd (EV.aO (.sl 136) c3) fun a3=>some ⟨a0,⟨a1,a2⟩,a3⟩|_=>none
 |299=>fun|[c0,c1,c2,c3]=>bd (EV.aO (.int .i64) c0) fun a0=>bd (EV.aO (.int .i64) c1) fun a1=>bd (EV.aO (.int .i64) c2) fun a2=>bd (EV.aO (.bool) c3) fun a3=>some ⟨a0,a1,a2,a3⟩|_=>none
 |206=>fun|[c0,c1,c2]=>bd (EV.aO (.int .i64) c0) fun a0=>bd (EV.aO (.int .i64) c1) fun a1=>bd (EV.aO (.sl 299) c2) fun a2=>some ⟨a0,a1,a2⟩|_=>none
 |252=>fun|[c0,c1,c2]=>bd (EV.aO (.int .i64) c0) fun a0=>bd (EV.aO (.int .i64) c1) fun a1=>bd (EV.aO (.int .i64) c2) fun a2=>some ⟨a0,a1,a2⟩|_=>none
 |146=>fun|[c0,c1,c2]=>bd (EV.aO (.int .i64) c0) fun a0=>bd (EV.aO (.int .i64) c1) fun a1=>bd (EV.aO (.sl 252) c2) fun a2=>some ⟨a0,a1,a2⟩|_=>none
 |148=>fun|[c0,c1,c2,c3,c4,c5]=>bd (EV.aO (.str) c0) fun a0=>bd (EV.aO (.sl 206) c1) fun a1=>bd (EV.aO (.int .i64) c2) fun a2=>bd (EV.aO (.int .i64) c3) fun a3=>bd (EV.aO (.sl 252) c4) fun a4=>bd (EV.aO (.sl 3) c5) fun a5=>some ⟨a0,a1,⟨a2,a3,a4⟩,a5⟩|_=>none
 |50=>fun|[c0,c1,c2,c3]=>bd (EV.aO (.int .i64) c0) fun a0=>bd (EV.aO (.int .i64) c1) fun a1=>bd (EV.aO (.int .i64) c2) fun a2=>bd (EV.aO (.int .i64) c3) fun a3=>some ⟨a0,a1,a2,a3⟩|_=>none
 |157=>fun|[c0,c1]=>bd (EV.aO (.int .i64) c0) fun a0=>bd (EV.aO (.int .i64) c1) fun a1=>some ⟨a0,a1⟩|_=>none
 |159=>fun|[c0,c1,c2,c3,c4]=>bd (EV.aO (.int .i64) c0) fun a0=>bd (EV.aO (.int .i64) c1) fun a1=>bd (EV.aO (.int .i64) c2) fun a2=>bd (EV.aO (.int .i64) c3) fun a3=>bd (EV.aO (.int .i64) c4) fun a4=>some ⟨⟨a0,a1⟩,a2,a3,a4⟩|_=>none
 |162=>fun|[c0,c1,c2,c3,c4,c5,c6]=>bd (EV.aO (.int .i64) c0) fun a0=>bd (EV.aO (.int .i64) c1) fun a1=>bd (EV.aO (.int .i64) c2) fun a2=>bd (EV.aO (.int .i64) c3) fun a3=>bd (EV.aO (.int .i64) c4) fun a4=>bd (EV.aO (.sl 159) c5) fun a5=>bd (EV.aO (.int .i64) c6) fun a6=>some ⟨⟨⟨a0,a1⟩,a2,a3,a4⟩,a5,a6⟩|_=>none
 |224=>fun|[c0,c1,c2,c3]=>bd (EV.aO (.int .i64) c0) fun a0=>bd (EV.aO (.int .i64) c1) fun a1=>bd (EV.aO (.int .i64) c2) fun a2=>bd (EV.aO (.bool) c3) fun a3=>some ⟨a0,a1,a2,a3⟩|_=>none
 |54=>fun|[c0]=>bd (EV.aO (.sl 224) c0) fun a0=>some ⟨a0⟩|_=>none
 |56=>fun|[c0,c1,c2,c3,c4,c5,c6,c7,c8,c9,c10,c11,c12,c13,c14,c15]=>bd (EV.aO (.int .i64) c0) fun a0=>bd (EV.aO (.int .i64) c1) fun a1=>bd (EV.aO (.sl 131) c2) fun a2=>bd (EV.aO (.sl 4) c3) fun a3=>bd (EV.aO (.sl 213) c4) fun a4=>bd (EV.aO (.int .i64) c5) fun a5=>bd (EV.aO (.sl 275) c6) fun a6=>bd (EV.aO (.sl 136) c7) fun a7=>bd (EV.aO (.sl 148) c8) fun a8=>bd (EV.aO (.int .i64) c9) fun a9=>bd (EV.aO (.int .i64) c10) fun a10=>bd (EV.aO (.int .i64) c11) fun a11=>bd (EV.aO (.int .i64) c12) fun a12=>bd (EV.aO (.sl 162) c13) fun a13=>bd (EV.aO (.int .i64) c14) fun a14=>bd (EV.aO (.sl 224) c15) fun a15=>some ⟨a0,a1,a2,a3,⟨a4,⟨a5,a6⟩,a7⟩,a8,⟨a9,a10,a11,a12⟩,a13,a14,⟨a15⟩⟩|_=>none
 |96=>fun|[c0]=>bd (EV.aO (.sl 3) c0) fun a0=>some a0|_=>none
 |9=>fun|[c0]=>bd (EV.aO (.str) c0) fun a0=>some a0|_=>none
 |_=>fun _=>none
def TI:List (Nat×EV.TInfo):=[
 (3,⟨.int .i64,1,[.int .i64]⟩),
 (4,⟨.bool,1,[.bool]⟩),
 (5,⟨.int .u8,1,[.int .u8]⟩),
 (9,⟨.str,1,[.str]⟩),
 (22,⟨.sl 105 9 104,1,[.nil]⟩),
 (23,⟨.sl 4 1 1,1,[.nil]⟩),
 (24,⟨.sl 215 6 48,1,[.nil]⟩),
 (25,⟨.sl 264 4 48,1,[.nil]⟩),
 (27,⟨.st [(0,3,1),(1,25,1)],2,[.int .i64, .nil]⟩),
 (28,⟨.sl 193 4 48,1,[.nil]⟩),
 (30,⟨.st [(0,24,1),(1,27,2),(3,28,1)],4,[.nil, .int .i64, .nil, .nil]⟩),
 (31,⟨.sl 115 6 104,1,[.nil]⟩),
 (33,⟨.st [(0,3,1),(1,3,1),(2,3,1),(3,3,1)],4,[.int .i64, .int .i64, .int .i64, .int .i64]⟩),
 (34,⟨.sl 123 7 72,1,[.nil]⟩),
 (35,⟨.sl 226 4 32,1,[.nil]⟩),
 (37,⟨.st [(0,35,1)],1,[.nil]⟩),
 (39,⟨.st [(0,3,1),(1,3,1),(2,22,1),(3,23,1),(4,30,4),(8,31,1),(9,33,4),(13,34,1),(14,3,1),(15,37,1)],16,[.int .i64, .int .i64, .nil, .nil, .nil, .int .i64, .nil, .nil, .nil, .int .i64, .int .i64, .int .i64, .int .i64, .nil, .int .i64, .nil]⟩),
 (41,⟨.sl 131 9 104,1,[.nil]⟩),
 (42,⟨.sl 213 6 48,1,[.nil]⟩),
 (43,⟨.sl 275 4 48,1,[.nil]⟩),
 (45,⟨.st [(0,3,1),(1,43,1)],2,[.int .i64, .nil]⟩),
 (46,⟨.sl 136 4 48,1,[.nil]⟩),
 (48,⟨.st [(0,42,1),(1,45,2),(3,46,1)],4,[.nil, .int .i64, .nil, .nil]⟩),
 (49,⟨.sl 148 6 104,1,[.nil]⟩),
 (50,⟨.st [(0,3,1),(1,3,1),(2,3,1),(3,3,1)],4,[.int .i64, .int .i64, .int .i64, .int .i64]⟩),
 (51,⟨.sl 162 7 72,1,[.nil]⟩),
 (52,⟨.sl 224 4 32,1,[.nil]⟩),
 (54,⟨.st [(0,52,1)],1,[.nil]⟩),
 (56,⟨.st [(0,3,1),(1,3,1),(2,41,1),(3,23,1),(4,48,4),(8,49,1),(9,50,4),(13,51,1),(14,3,1),(15,54,1)],16,[.int .i64, .int .i64, .nil, .nil, .nil, .int .i64, .nil, .nil, .nil, .int .i64, .int .i64, .int .i64, .int .i64, .nil, .int .i64, .nil]⟩),
 (96,⟨.sl 3 1 8,1,[.nil]⟩),
 (100,⟨.st [(0,3,1),(1,3,1),(2,3,1),(3,3,1)],4,[.int .i64, .int .i64, .int .i64, .int .i64]⟩),
 (101,⟨.sl 312 4 32,1,[.nil]⟩),
 (103,⟨.st [(0,101,1)],1,[.nil]⟩),
 (105,⟨.st [(0,100,4),(4,24,1),(5,3,1),(6,3,1),(7,3,1),(8,103,1)],9,[.int .i64, .int .i64, .int .i64, .int .i64, .nil, .int .i64, .int .i64, .int .i64, .nil]⟩),
 (110,⟨.sl 268 3 40,1,[.nil]⟩),
 (111,⟨.sl 315 3 24,1,[.nil]⟩),
 (113,⟨.st [(0,3,1),(1,3,1),(2,111,1)],3,[.int .i64, .int .i64, .nil]⟩),
 (115,⟨.st [(0,9,1),(1,110,1),(2,113,3),(5,96,1)],6,[.str, .nil, .int .i64, .int .i64, .nil, .nil]⟩),
 (118,⟨.st [(0,3,1),(1,3,1)],2,[.int .i64, .int .i64]⟩),
 (120,⟨.st [(0,118,2),(2,3,1),(3,3,1),(4,3,1)],5,[.int .i64, .int .i64, .int .i64, .int .i64, .int .i64]⟩),
 (121,⟨.sl 120 5 40,1,[.nil]⟩),
 (123,⟨.st [(0,120,5),(5,121,1),(6,3,1)],7,[.int .i64, .int .i64, .int .i64, .int .i64, .int .i64, .nil, .int .i64]⟩),
 (126,⟨.st [(0,3,1),(1,3,1),(2,3,1),(3,3,1)],4,[.int .i64, .int .i64, .int .i64, .int .i64]⟩),
 (127,⟨.sl 247 4 32,1,[.nil]⟩),
 (129,⟨.st [(0,127,1)],1,[.nil]⟩),
 (131,⟨.st [(0,126,4),(4,42,1),(5,3,1),(6,3,1),(7,3,1),(8,129,1)],9,[.int .i64, .int .i64, .int .i64, .int .i64, .nil, .int .i64, .int .i64, .int .i64, .nil]⟩),
 (134,⟨.sl 5 1 1,1,[.nil]⟩),
 (136,⟨.st [(0,3,1),(1,3,1),(2,134,1),(3,3,1)],4,[.int .i64, .int .i64, .nil, .int .i64]⟩),
 (143,⟨.sl 206 3 40,1,[.nil]⟩),
 (144,⟨.sl 252 3 24,1,[.nil]⟩),
 (146,⟨.st [(0,3,1),(1,3,1),(2,144,1)],3,[.int .i64, .int .i64, .nil]⟩),
 (148,⟨.st [(0,9,1),(1,143,1),(2,146,3),(5,96,1)],6,[.str, .nil, .int .i64, .int .i64, .nil, .nil]⟩),
 (157,⟨.st [(0,3,1),(1,3,1)],2,[.int .i64, .int .i64]⟩),
 (159,⟨.st [(0,157,2),(2,3,1),(3,3,1),(4,3,1)],5,[.int .i64, .int .i64, .int .i64, .int .i64, .int .i64]⟩),
 (160,⟨.sl 159 5 40,1,[.nil]⟩),
 (162,⟨.st [(0,159,5),(5,160,1),(6,3,1)],7,[.int .i64, .int .i64, .int .i64, .int .i64, .int .i64, .nil, .int .i64]⟩),
 (193,⟨.st [(0,3,1),(1,3,1),(2,134,1),(3,3,1)],4,[.int .i64, .int .i64, .nil, .int .i64]⟩),
 (204,⟨.sl 299 4 32,1,[.nil]⟩),
 (206,⟨.st [(0,3,1),(1,3,1),(2,204,1)],3,[.int .i64, .int .i64, .nil]⟩),
 (213,⟨.st [(0,3,1),(1,3,1),(2,3,1),(3,3,1),(4,3,1),(5,3,1)],6,[.int .i64, .int .i64, .int .i64, .int .i64, .int .i64, .int .i64]⟩),
 (215,⟨.st [(0,3,1),(1,3,1),(2,3,1),(3,3,1),(4,3,1),(5,3,1)],6,[.int .i64, .int .i64, .int .i64, .int .i64, .int .i64, .int .i64]⟩),
 (224,⟨.st [(0,3,1),(1,3,1),(2,3,1),(3,4,1)],4,[.int .i64, .int .i64, .int .i64, .bool]⟩),
 (226,⟨.st [(0,3,1),(1,3,1),(2,3,1),(3,4,1)],4,[.int .i64, .int .i64, .int .i64, .bool]⟩),
 (247,⟨.st [(0,3,1),(1,3,1),(2,3,1),(3,4,1)],4,[.int .i64, .int .i64, .int .i64, .bool]⟩),
 (252,⟨.st [(0,3,1),(1,3,1),(2,3,1)],3,[.int .i64, .int .i64, .int .i64]⟩),
 (264,⟨.st [(0,3,1),(1,3,1),(2,134,1),(3,3,1)],4,[.int .i64, .int .i64, .nil, .int .i64]⟩),
 (266,⟨.sl 327 4 32,1,[.nil]⟩),
 (268,⟨.st [(0,3,1),(1,3,1),(2,266,1)],3,[.int .i64, .int .i64, .nil]⟩),
 (275,⟨.st [(0,3,1),(1,3,1),(2,134,1),(3,3,1)],4,[.int .i64, .int .i64, .nil, .int .i64]⟩),
 (291,⟨.sl 96 1 24,1,[.nil]⟩),
 (299,⟨.st [(0,3,1),(1,3,1),(2,3,1),(3,4,1)],4,[.int .i64, .int .i64, .int .i64, .bool]⟩),
 (301,⟨.sl 9 1 16,1,[.nil]⟩),
 (312,⟨.st [(0,3,1),(1,3,1),(2,3,1),(3,4,1)],4,[.int .i64, .int .i64, .int .i64, .bool]⟩),
 (315,⟨.st [(0,3,1),(1,3,1),(2,3,1)],3,[.int .i64, .int .i64, .int .i64]⟩),
 (327,⟨.st [(0,3,1),(1,3,1),(2,3,1),(3,4,1)],4,[.int .i64, .int .i64, .int .i64, .bool]⟩)]
theorem Zv (n:Nat)(h100:n≠100)(h215:n≠215)(h312:n≠312)(h103:n≠103)(h105:n≠105)(h4:n≠4)(h5:n≠5)(h264:n≠264)(h27:n≠27)(h193:n≠193)(h30:n≠30)(h327:n≠327)(h268:n≠268)(h315:n≠315)(h113:n≠113)(h3:n≠3)(h115:n≠115)(h33:n≠33)(h118:n≠118)(h120:n≠120)(h123:n≠123)(h226:n≠226)(h37:n≠37)(h39:n≠39)(h126:n≠126)(h213:n≠213)(h247:n≠247)(h129:n≠129)(h131:n≠131)(h275:n≠275)(h45:n≠45)(h136:n≠136)(h48:n≠48)(h299:n≠299)(h206:n≠206)(h252:n≠252)(h146:n≠146)(h148:n≠148)(h50:n≠50)(h157:n≠157)(h159:n≠159)(h162:n≠162)(h224:n≠224)(h54:n≠54)(h56:n≠56)(h96:n≠96)(h9:n≠9):El n=Empty:=by
 unfold El
 split<;>first|contradiction|rfl
theorem hc1:∀(τ:Nat) (x:El τ),(fQ τ x).map EV.Lf.toV=bDz τ x:=by
 intro τ x
 by_cases h100:τ=100
 ·subst h100;rfl
 by_cases h215:τ=215
 ·subst h215;rfl
 by_cases h312:τ=312
 ·subst h312;rfl
 by_cases h103:τ=103
 ·subst h103;rfl
 by_cases h105:τ=105
 ·subst h105;rfl
 by_cases h4:τ=4
 ·subst h4;rfl
 by_cases h5:τ=5
 ·subst h5;rfl
 by_cases h264:τ=264
 ·subst h264;rfl
 by_cases h27:τ=27
 ·subst h27;rfl
 by_cases h193:τ=193
 ·subst h193;rfl
 by_cases h30:τ=30
 ·subst h30;rfl
 by_cases h327:τ=327
 ·subst h327;rfl
 by_cases h268:τ=268
 ·subst h268;rfl
 by_cases h315:τ=315
 ·subst h315;rfl
 by_cases h113:τ=113
 ·subst h113;rfl
 by_cases h3:τ=3
 ·subst h3;rfl
 by_cases h115:τ=115
 ·subst h115;rfl
 by_cases h33:τ=33
 ·subst h33;rfl
 by_cases h118:τ=118
 ·subst h118;rfl
 by_cases h120:τ=120
 ·subst h120;rfl
 by_cases h123:τ=123
 ·subst h123;rfl
 by_cases h226:τ=226
 ·subst h226;rfl
 by_cases h37:τ=37
 ·subst h37;rfl
 by_cases h39:τ=39
 ·subst h39;rfl
 by_cases h126:τ=126
 ·subst h126;rfl
 by_cases h213:τ=213
 ·subst h213;rfl
 by_cases h247:τ=247
 ·subst h247;rfl
 by_cases h129:τ=129
 ·subst h129;rfl
 by_cases h131:τ=131
 ·subst h131;rfl
 by_cases h275:τ=275
 ·subst h275;rfl
 by_cases h45:τ=45
 ·subst h45;rfl
 by_cases h136:τ=136
 ·subst h136;rfl
 by_cases h48:τ=48
 ·subst h48;rfl
 by_cases h299:τ=299
 ·subst h299;rfl
 by_cases h206:τ=206
 ·subst h206;rfl
 by_cases h252:τ=252
 ·subst h252;rfl
 by_cases h146:τ=146
 ·subst h146;rfl
 by_cases h148:τ=148
 ·subst h148;rfl
 by_cases h50:τ=50
 ·subst h50;rfl
 by_cases h157:τ=157
 ·subst h157;rfl
 by_cases h159:τ=159
 ·subst h159;rfl
 by_cases h162:τ=162
 ·subst h162;rfl
 by_cases h224:τ=224
 ·subst h224;rfl
 by_cases h54:τ=54
 ·subst h54;rfl
 by_cases h56:τ=56
 ·subst h56;rfl
 by_cases h96:τ=96
 ·subst h96;rfl
 by_cases h9:τ=9
 ·subst h9;rfl
 exact(cast (Zv τ h100 h215 h312 h103 h105 h4 h5 h264 h27 h193 h30 h327 h268 h315 h113 h3 h115 h33 h118 h120 h123 h226 h37 h39 h126 h213 h247 h129 h131 h275 h45 h136 h48 h299 h206 h252 h146 h148 h50 h157 h159 h162 h224 h54 h56 h96 h9) x).elim
theorem hc2:∀(τ:Nat) (x:El τ),(fQ τ x).length=Un.K τ:=by
 intro τ x
 by_cases h100:τ=100
 ·subst h100;rfl
 by_cases h215:τ=215
 ·subst h215;rfl
 by_cases h312:τ=312
 ·subst h312;rfl
 by_cases h103:τ=103
 ·subst h103;rfl
 by_cases h105:τ=105
 ·subst h105;rfl
 by_cases h4:τ=4
 ·subst h4;rfl
 by_cases h5:τ=5
 ·subst h5;rfl
 by_cases h264:τ=264
 ·subst h264;rfl
 by_cases h27:τ=27
 ·subst h27;rfl
 by_cases h193:τ=193
 ·subst h193;rfl
 by_cases h30:τ=30
 ·subst h30;rfl
 by_cases h327:τ=327
 ·subst h327;rfl
 by_cases h268:τ=268
 ·subst h268;rfl
 by_cases h315:τ=315
 ·subst h315;rfl
 by_cases h113:τ=113
 ·subst h113;rfl
 by_cases h3:τ=3
 ·subst h3;rfl
 by_cases h115:τ=115
 ·subst h115;rfl
 by_cases h33:τ=33
 ·subst h33;rfl
 by_cases h118:τ=118
 ·subst h118;rfl
 by_cases h120:τ=120
 ·subst h120;rfl
 by_cases h123:τ=123
 ·subst h123;rfl
 by_cases h226:τ=226
 ·subst h226;rfl
 by_cases h37:τ=37
 ·subst h37;rfl
 by_cases h39:τ=39
 ·subst h39;rfl
 by_cases h126:τ=126
 ·subst h126;rfl
 by_cases h213:τ=213
 ·subst h213;rfl
 by_cases h247:τ=247
 ·subst h247;rfl
 by_cases h129:τ=129
 ·subst h129;rfl
 by_cases h131:τ=131
 ·subst h131;rfl
 by_cases h275:τ=275
 ·subst h275;rfl
 by_cases h45:τ=45
 ·subst h45;rfl
 by_cases h136:τ=136
 ·subst h136;rfl
 by_cases h48:τ=48
 ·subst h48;rfl
 by_cases h299:τ=299
 ·subst h299;rfl
 by_cases h206:τ=206
 ·subst h206;rfl
 by_cases h252:τ=252
 ·subst h252;rfl
 by_cases h146:τ=146
 ·subst h146;rfl
 by_cases h148:τ=148
 ·subst h148;rfl
 by_cases h50:τ=50
 ·subst h50;rfl
 by_cases h157:τ=157
 ·subst h157;rfl
 by_cases h159:τ=159
 ·subst h159;rfl
 by_cases h162:τ=162
 ·subst h162;rfl
 by_cases h224:τ=224
 ·subst h224;rfl
 by_cases h54:τ=54
 ·subst h54;rfl
 by_cases h56:τ=56
 ·subst h56;rfl
 by_cases h96:τ=96
 ·subst h96;rfl
 by_cases h9:τ=9
 ·subst h9;rfl
 exact(cast (Zv τ h100 h215 h312 h103 h105 h4 h5 h264 h27 h193 h30 h327 h268 h315 h113 h3 h115 h33 h118 h120 h123 h226 h37 h39 h126 h213 h247 h129 h131 h275 h45 h136 h48 h299 h206 h252 h146 h148 h50 h157 h159 h162 h224 h54 h56 h96 h9) x).elim
theorem hc3:∀(τ:Nat) (x:El τ) (c:EV.Lf Un),c∈fQ τ x→c.isData=true:=by
 intro τ x c hc
 by_cases h100:τ=100
 ·subst h100;simp only[fQ,List.mem_cons,List.not_mem_nil,or_false] at hc;rcases hc with rfl|rfl|rfl|rfl<;>rfl
 by_cases h215:τ=215
 ·subst h215;simp only[fQ,List.mem_cons,List.not_mem_nil,or_false] at hc;rcases hc with rfl|rfl|rfl|rfl|rfl|rfl<;>rfl
 by_cases h312:τ=312
 ·subst h312;simp only[fQ,List.mem_cons,List.not_mem_nil,or_false] at hc;rcases hc with rfl|rfl|rfl|rfl<;>rfl
 by_cases h103:τ=103
 ·subst h103;simp only[fQ,List.mem_cons,List.not_mem_nil,or_false] at hc;rcases hc with rfl<;>rfl
 by_cases h105:τ=105
 ·subst h105;simp only[fQ,List.mem_cons,List.not_mem_nil,or_false] at hc;rcases hc with rfl|rfl|rfl|rfl|rfl|rfl|rfl|rfl|rfl<;>rfl
 by_cases h4:τ=4
 ·subst h4;simp only[fQ,List.mem_cons,List.not_mem_nil,or_false] at hc;rcases hc with rfl<;>rfl
 by_cases h5:τ=5
 ·subst h5;simp only[fQ,List.mem_cons,List.not_mem_nil,or_false] at hc;rcases hc with rfl<;>rfl
 by_cases h264:τ=264
 ·subst h264;simp only[fQ,List.mem_cons,List.not_mem_nil,or_false] at hc;rcases hc with rfl|rfl|rfl|rfl<;>rfl
 by_cases h27:τ=27
 ·subst h27;simp only[fQ,List.mem_cons,List.not_mem_nil,or_false] at hc;rcases hc with rfl|rfl<;>rfl
 by_cases h193:τ=193
 ·subst h193;simp only[fQ,List.mem_cons,List.not_mem_nil,or_false] at hc;rcases hc with rfl|rfl|rfl|rfl<;>rfl
 by_cases h30:τ=30
 ·subst h30;simp only[fQ,List.mem_cons,List.not_mem_nil,or_false] at hc;rcases hc with rfl|rfl|rfl|rfl<;>rfl
 by_cases h327:τ=327
 ·subst h327;simp only[fQ,List.mem_cons,List.not_mem_nil,or_false] at hc;rcases hc with rfl|rfl|rfl|rfl<;>rfl
 by_cases h268:τ=268
 ·subst h268;simp only[fQ,List.mem_cons,List.not_mem_nil,or_false] at hc;rcases hc with rfl|rfl|rfl<;>rfl
 by_cases h315:τ=315
 ·subst h315;simp only[fQ,List.mem_cons,List.not_mem_nil,or_false] at hc;rcases hc with rfl|rfl|rfl<;>rfl
 by_cases h113:τ=113
 ·subst h113;simp only[fQ,List.mem_cons,List.not_mem_nil,or_false] at hc;rcases hc with rfl|rfl|rfl<;>rfl
 by_cases h3:τ=3
 ·subst h3;simp only[fQ,List.mem_cons,List.not_mem_nil,or_false] at hc;rcases hc with rfl<;>rfl
 by_cases h115:τ=115
 ·subst h115;simp only[fQ,List.mem_cons,List.not_mem_nil,or_false] at hc;rcases hc with rfl|rfl|rfl|rfl|rfl|rfl<;>rfl
 by_cases h33:τ=33
 ·subst h33;simp only[fQ,List.mem_cons,List.not_mem_nil,or_false] at hc;rcases hc with rfl|rfl|rfl|rfl<;>rfl
 by_cases h118:τ=118
 ·subst h118;simp only[fQ,List.mem_cons,List.not_mem_nil,or_false] at hc;rcases hc with rfl|rfl<;>rfl
 by_cases h120:τ=120
 ·subst h120;simp only[fQ,List.mem_cons,List.not_mem_nil,or_false] at hc;rcases hc with rfl|rfl|rfl|rfl|rfl<;>rfl
 by_cases h123:τ=123
 ·subst h123;simp only[fQ,List.mem_cons,List.not_mem_nil,or_false] at hc;rcases hc with rfl|rfl|rfl|rfl|rfl|rfl|rfl<;>rfl
 by_cases h226:τ=226
 ·subst h226;simp only[fQ,List.mem_cons,List.not_mem_nil,or_false] at hc;rcases hc with rfl|rfl|rfl|rfl<;>rfl
 by_cases h37:τ=37
 ·subst h37;simp only[fQ,List.mem_cons,List.not_mem_nil,or_false] at hc;rcases hc with rfl<;>rfl
 by_cases h39:τ=39
 ·subst h39;simp only[fQ,List.mem_cons,List.not_mem_nil,or_false] at hc;rcases hc with rfl|rfl|rfl|rfl|rfl|rfl|rfl|rfl|rfl|rfl|rfl|rfl|rfl|rfl|rfl|rfl<;>rfl
 by_cases h126:τ=126
 ·subst h126;simp only[fQ,List.mem_cons,List.not_mem_nil,or_false] at hc;rcases hc with rfl|rfl|rfl|rfl<;>rfl
 by_cases h213:τ=213
 ·subst h213;simp only[fQ,List.mem_cons,List.not_mem_nil,or_false] at hc;rcases hc with rfl|rfl|rfl|rfl|rfl|rfl<;>rfl
 by_cases h247:τ=247
 ·subst h247;simp only[fQ,List.mem_cons,List.not_mem_nil,or_false] at hc;rcases hc with rfl|rfl|rfl|rfl<;>rfl
 by_cases h129:τ=129
 ·subst h129;simp only[fQ,List.mem_cons,List.not_mem_nil,or_false] at hc;rcases hc with rfl<;>rfl
 by_cases h131:τ=131
 ·subst h131;simp only[fQ,List.mem_cons,List.not_mem_nil,or_false] at hc;rcases hc with rfl|rfl|rfl|rfl|rfl|rfl|rfl|rfl|rfl<;>rfl
 by_cases h275:τ=275
 ·subst h275;simp only[fQ,List.mem_cons,List.not_mem_nil,or_false] at hc;rcases hc with rfl|rfl|rfl|rfl<;>rfl
 by_cases h45:τ=45
 ·subst h45;simp only[fQ,List.mem_cons,List.not_mem_nil,or_false] at hc;rcases hc with rfl|rfl<;>rfl
 by_cases h136:τ=136
 ·subst h136;simp only[fQ,List.mem_cons,List.not_mem_nil,or_false] at hc;rcases hc with rfl|rfl|rfl|rfl<;>rfl
 by_cases h48:τ=48
 ·subst h48;simp only[fQ,List.mem_cons,List.not_mem_nil,or_false] at hc;rcases hc with rfl|rfl|rfl|rfl<;>rfl
 by_cases h299:τ=299
 ·subst h299;simp only[fQ,List.mem_cons,List.not_mem_nil,or_false] at hc;rcases hc with rfl|rfl|rfl|rfl<;>rfl
 by_cases h206:τ=206
 ·subst h206;simp only[fQ,List.mem_cons,List.not_mem_nil,or_false] at hc;rcases hc with rfl|rfl|rfl<;>rfl
 by_cases h252:τ=252
 ·subst h252;simp only[fQ,List.mem_cons,List.not_mem_nil,or_false] at hc;rcases hc with rfl|rfl|rfl<;>rfl
 by_cases h146:τ=146
 ·subst h146;simp only[fQ,List.mem_cons,List.not_mem_nil,or_false] at hc;rcases hc with rfl|rfl|rfl<;>rfl
 by_cases h148:τ=148
 ·subst h148;simp only[fQ,List.mem_cons,List.not_mem_nil,or_false] at hc;rcases hc with rfl|rfl|rfl|rfl|rfl|rfl<;>rfl
 by_cases h50:τ=50
 ·subst h50;simp only[fQ,List.mem_cons,List.not_mem_nil,or_false] at hc;rcases hc with rfl|rfl|rfl|rfl<;>rfl
 by_cases h157:τ=157
 ·subst h157;simp only[fQ,List.mem_cons,List.not_mem_nil,or_false] at hc;rcases hc with rfl|rfl<;>rfl
 by_cases h159:τ=159
 ·subst h159;simp only[fQ,List.mem_cons,List.not_mem_nil,or_false] at hc;rcases hc with rfl|rfl|rfl|rfl|rfl<;>rfl
 by_cases h162:τ=162
 ·subst h162;simp only[fQ,List.mem_cons,List.not_mem_nil,or_false] at hc;rcases hc with rfl|rfl|rfl|rfl|rfl|rfl|rfl<;>rfl
 by_cases h224:τ=224
 ·subst h224;simp only[fQ,List.mem_cons,List.not_mem_nil,or_false] at hc;rcases hc with rfl|rfl|rfl|rfl<;>rfl
 by_cases h54:τ=54
 ·subst h54;simp only[fQ,List.mem_cons,List.not_mem_nil,or_false] at hc;rcases hc with rfl<;>rfl
 by_cases h56:τ=56
 ·subst h56;simp only[fQ,List.mem_cons,List.not_mem_nil,or_false] at hc;rcases hc with rfl|rfl|rfl|rfl|rfl|rfl|rfl|rfl|rfl|rfl|rfl|rfl|rfl|rfl|rfl|rfl<;>rfl
 by_cases h96:τ=96
 ·subst h96;simp only[fQ,List.mem_cons,List.not_mem_nil,or_false] at hc;rcases hc with rfl<;>rfl
 by_cases h9:τ=9
 ·subst h9;simp only[fQ,List.mem_cons,List.not_mem_nil,or_false] at hc;rcases hc with rfl<;>rfl
 exact(cast (Zv τ h100 h215 h312 h103 h105 h4 h5 h264 h27 h193 h30 h327 h268 h315 h113 h3 h115 h33 h118 h120 h123 h226 h37 h39 h126 h213 h247 h129 h131 h275 h45 h136 h48 h299 h206 h252 h146 h148 h50 h157 h159 h162 h224 h54 h56 h96 h9) x).elim
theorem hc4:∀(τ:Nat) (cs:List (EV.Lf Un)) (x:El τ),bD0 τ cs=some x→cs=fQ τ x:=by
 intro τ cs x h
 by_cases h100:τ=100
 ·subst h100;
  obtain⟨c0,c1,c2,c3,rfl⟩:∃c0 c1 c2 c3:EV.Lf Un,cs=[c0,c1,c2,c3]:=by
   match cs,h with
   |[c0,c1,c2,c3],_=>exact⟨c0,c1,c2,c3,rfl⟩
  obtain⟨a0,g0,h⟩:=aB h
  obtain⟨a1,g1,h⟩:=aB h
  obtain⟨a2,g2,h⟩:=aB h
  obtain⟨a3,g3,h⟩:=aB h
  have h:=Option.some.inj h;subst h
  rw[EV.aA g0,EV.aA g1,EV.aA g2,EV.aA g3]
  rfl
 by_cases h215:τ=215
 ·subst h215;
  obtain⟨c0,c1,c2,c3,c4,c5,rfl⟩:∃c0 c1 c2 c3 c4 c5:EV.Lf Un,cs=[c0,c1,c2,c3,c4,c5]:=by
   match cs,h with
   |[c0,c1,c2,c3,c4,c5],_=>exact⟨c0,c1,c2,c3,c4,c5,rfl⟩
  obtain⟨a0,g0,h⟩:=aB h
  obtain⟨a1,g1,h⟩:=aB h
  obtain⟨a2,g2,h⟩:=aB h
  obtain⟨a3,g3,h⟩:=aB h
  obtain⟨a4,g4,h⟩:=aB h
  obtain⟨a5,g5,h⟩:=aB h
  have h:=Option.some.inj h;subst h
  rw[EV.aA g0,EV.aA g1,EV.aA g2,EV.aA g3,EV.aA g4,EV.aA g5]
  rfl
 by_cases h312:τ=312
 ·subst h312;
  obtain⟨c0,c1,c2,c3,rfl⟩:∃c0 c1 c2 c3:EV.Lf Un,cs=[c0,c1,c2,c3]:=by
   match cs,h with
   |[c0,c1,c2,c3],_=>exact⟨c0,c1,c2,c3,rfl⟩
  obtain⟨a0,g0,h⟩:=aB h
  obtain⟨a1,g1,h⟩:=aB h
  obtain⟨a2,g2,h⟩:=aB h
  obtain⟨a3,g3,h⟩:=aB h
  have h:=Option.some.inj h;subst h
  rw[EV.aA g0,EV.aA g1,EV.aA g2,EV.aA g3]
  rfl
 by_cases h103:τ=103
 ·subst h103;
  obtain⟨c0,rfl⟩:∃c0:EV.Lf Un,cs=[c0]:=by
   match cs,h with
   |[c0],_=>exact⟨c0,rfl⟩
  obtain⟨a0,g0,h⟩:=aB h
  have h:=Option.some.inj h;subst h
  rw[EV.aA g0]
  rfl
 by_cases h105:τ=105
 ·subst h105;
  obtain⟨c0,c1,c2,c3,c4,c5,c6,c7,c8,rfl⟩:∃c0 c1 c2 c3 c4 c5 c6 c7 c8:EV.Lf Un,cs=[c0,c1,c2,c3,c4,c5,c6,c7,c8]:=by
   match cs,h with
   |[c0,c1,c2,c3,c4,c5,c6,c7,c8],_=>exact⟨c0,c1,c2,c3,c4,c5,c6,c7,c8,rfl⟩
  obtain⟨a0,g0,h⟩:=aB h
  obtain⟨a1,g1,h⟩:=aB h
  obtain⟨a2,g2,h⟩:=aB h
  obtain⟨a3,g3,h⟩:=aB h
  obtain⟨a4,g4,h⟩:=aB h
  obtain⟨a5,g5,h⟩:=aB h
  obtain⟨a6,g6,h⟩:=aB h
  obtain⟨a7,g7,h⟩:=aB h
  obtain⟨a8,g8,h⟩:=aB h
  have h:=Option.some.inj h;subst h
  rw[EV.aA g0,EV.aA g1,EV.aA g2,EV.aA g3,EV.aA g4,EV.aA g5,EV.aA g6,EV.aA g7,EV.aA g8]
  rfl
 by_cases h4:τ=4
 ·subst h4;
  obtain⟨c0,rfl⟩:∃c0:EV.Lf Un,cs=[c0]:=by
   match cs,h with
   |[c0],_=>exact⟨c0,rfl⟩
  obtain⟨a0,g0,h⟩:=aB h
  have h:=Option.some.inj h;subst h
  rw[EV.aA g0]
  rfl
 by_cases h5:τ=5
 ·subst h5;
  obtain⟨c0,rfl⟩:∃c0:EV.Lf Un,cs=[c0]:=by
   match cs,h with
   |[c0],_=>exact⟨c0,rfl⟩
  obtain⟨a0,g0,h⟩:=aB h
  have h:=Option.some.inj h;subst h
  rw[EV.aA g0]
  rfl
 by_cases h264:τ=264
 ·subst h264;
  obtain⟨c0,c1,c2,c3,rfl⟩:∃c0 c1 c2 c3:EV.Lf Un,cs=[c0,c1,c2,c3]:=by
   match cs,h with
   |[c0,c1,c2,c3],_=>exact⟨c0,c1,c2,c3,rfl⟩
  obtain⟨a0,g0,h⟩:=aB h
  obtain⟨a1,g1,h⟩:=aB h
  obtain⟨a2,g2,h⟩:=aB h
  obtain⟨a3,g3,h⟩:=aB h
  have h:=Option.some.inj h;subst h
  rw[EV.aA g0,EV.aA g1,EV.aA g2,EV.aA g3]
  rfl
 by_cases h27:τ=27
 ·subst h27;
  obtain⟨c0,c1,rfl⟩:∃c0 c1:EV.Lf Un,cs=[c0,c1]:=by
   match cs,h with
   |[c0,c1],_=>exact⟨c0,c1,rfl⟩
  obtain⟨a0,g0,h⟩:=aB h
  obtain⟨a1,g1,h⟩:=aB h
  have h:=Option.some.inj h;subst h
  rw[EV.aA g0,EV.aA g1]
  rfl
 by_cases h193:τ=193
 ·subst h193;
  obtain⟨c0,c1,c2,c3,rfl⟩:∃c0 c1 c2 c3:EV.Lf Un,cs=[c0,c1,c2,c3]:=by
   match cs,h with
   |[c0,c1,c2,c3],_=>exact⟨c0,c1,c2,c3,rfl⟩
  obtain⟨a0,g0,h⟩:=aB h
  obtain⟨a1,g1,h⟩:=aB h
  obtain⟨a2,g2,h⟩:=aB h
  obtain⟨a3,g3,h⟩:=aB h
  have h:=Option.some.inj h;subst h
  rw[EV.aA g0,EV.aA g1,EV.aA g2,EV.aA g3]
  rfl
 by_cases h30:τ=30
 ·subst h30;
  obtain⟨c0,c1,c2,c3,rfl⟩:∃c0 c1 c2 c3:EV.Lf Un,cs=[c0,c1,c2,c3]:=by
   match cs,h with
   |[c0,c1,c2,c3],_=>exact⟨c0,c1,c2,c3,rfl⟩
  obtain⟨a0,g0,h⟩:=aB h
  obtain⟨a1,g1,h⟩:=aB h
  obtain⟨a2,g2,h⟩:=aB h
  obtain⟨a3,g3,h⟩:=aB h
  have h:=Option.some.inj h;subst h
  rw[EV.aA g0,EV.aA g1,EV.aA g2,EV.aA g3]
  rfl
 by_cases h327:τ=327
 ·subst h327;
  obtain⟨c0,c1,c2,c3,rfl⟩:∃c0 c1 c2 c3:EV.Lf Un,cs=[c0,c1,c2,c3]:=by
   match cs,h with
   |[c0,c1,c2,c3],_=>exact⟨c0,c1,c2,c3,rfl⟩
  obtain⟨a0,g0,h⟩:=aB h
  obtain⟨a1,g1,h⟩:=aB h
  obtain⟨a2,g2,h⟩:=aB h
  obtain⟨a3,g3,h⟩:=aB h
  have h:=Option.some.inj h;subst h
  rw[EV.aA g0,EV.aA g1,EV.aA g2,EV.aA g3]
  rfl
 by_cases h268:τ=268
 ·subst h268;
  obtain⟨c0,c1,c2,rfl⟩:∃c0 c1 c2:EV.Lf Un,cs=[c0,c1,c2]:=by
   match cs,h with
   |[c0,c1,c2],_=>exact⟨c0,c1,c2,rfl⟩
  obtain⟨a0,g0,h⟩:=aB h
  obtain⟨a1,g1,h⟩:=aB h
  obtain⟨a2,g2,h⟩:=aB h
  have h:=Option.some.inj h;subst h
  rw[EV.aA g0,EV.aA g1,EV.aA g2]
  rfl
 by_cases h315:τ=315
 ·subst h315;
  obtain⟨c0,c1,c2,rfl⟩:∃c0 c1 c2:EV.Lf Un,cs=[c0,c1,c2]:=by
   match cs,h with
   |[c0,c1,c2],_=>exact⟨c0,c1,c2,rfl⟩
  obtain⟨a0,g0,h⟩:=aB h
  obtain⟨a1,g1,h⟩:=aB h
  obtain⟨a2,g2,h⟩:=aB h
  have h:=Option.some.inj h;subst h
  rw[EV.aA g0,EV.aA g1,EV.aA g2]
  rfl
 by_cases h113:τ=113
 ·subst h113;
  obtain⟨c0,c1,c2,rfl⟩:∃c0 c1 c2:EV.Lf Un,cs=[c0,c1,c2]:=by
   match cs,h with
   |[c0,c1,c2],_=>exact⟨c0,c1,c2,rfl⟩
  obtain⟨a0,g0,h⟩:=aB h
  obtain⟨a1,g1,h⟩:=aB h
  obtain⟨a2,g2,h⟩:=aB h
  have h:=Option.some.inj h;subst h
  rw[EV.aA g0,EV.aA g1,EV.aA g2]
  rfl
 by_cases h3:τ=3
 ·subst h3;
  obtain⟨c0,rfl⟩:∃c0:EV.Lf Un,cs=[c0]:=by
   match cs,h with
   |[c0],_=>exact⟨c0,rfl⟩
  obtain⟨a0,g0,h⟩:=aB h
  have h:=Option.some.inj h;subst h
  rw[EV.aA g0]
  rfl
 by_cases h115:τ=115
 ·subst h115;
  obtain⟨c0,c1,c2,c3,c4,c5,rfl⟩:∃c0 c1 c2 c3 c4 c5:EV.Lf Un,cs=[c0,c1,c2,c3,c4,c5]:=by
   match cs,h with
   |[c0,c1,c2,c3,c4,c5],_=>exact⟨c0,c1,c2,c3,c4,c5,rfl⟩
  obtain⟨a0,g0,h⟩:=aB h
  obtain⟨a1,g1,h⟩:=aB h
  obtain⟨a2,g2,h⟩:=aB h
  obtain⟨a3,g3,h⟩:=aB h
  obtain⟨a4,g4,h⟩:=aB h
  obtain⟨a5,g5,h⟩:=aB h
  have h:=Option.some.inj h;subst h
  rw[EV.aA g0,EV.aA g1,EV.aA g2,EV.aA g3,EV.aA g4,EV.aA g5]
  rfl
 by_cases h33:τ=33
 ·subst h33;
  obtain⟨c0,c1,c2,c3,rfl⟩:∃c0 c1 c2 c3:EV.Lf Un,cs=[c0,c1,c2,c3]:=by
   match cs,h with
   |[c0,c1,c2,c3],_=>exact⟨c0,c1,c2,c3,rfl⟩
  obtain⟨a0,g0,h⟩:=aB h
  obtain⟨a1,g1,h⟩:=aB h
  obtain⟨a2,g2,h⟩:=aB h
  obtain⟨a3,g3,h⟩:=aB h
  have h:=Option.some.inj h;subst h
  rw[EV.aA g0,EV.aA g1,EV.aA g2,EV.aA g3]
  rfl
 by_cases h118:τ=118
 ·subst h118;
  obtain⟨c0,c1,rfl⟩:∃c0 c1:EV.Lf Un,cs=[c0,c1]:=by
   match cs,h with
   |[c0,c1],_=>exact⟨c0,c1,rfl⟩
  obtain⟨a0,g0,h⟩:=aB h
  obtain⟨a1,g1,h⟩:=aB h
  have h:=Option.some.inj h;subst h
  rw[EV.aA g0,EV.aA g1]
  rfl
 by_cases h120:τ=120
 ·subst h120;
  obtain⟨c0,c1,c2,c3,c4,rfl⟩:∃c0 c1 c2 c3 c4:EV.Lf Un,cs=[c0,c1,c2,c3,c4]:=by
   match cs,h with
   |[c0,c1,c2,c3,c4],_=>exact⟨c0,c1,c2,c3,c4,rfl⟩
  obtain⟨a0,g0,h⟩:=aB h
  obtain⟨a1,g1,h⟩:=aB h
  obtain⟨a2,g2,h⟩:=aB h
  obtain⟨a3,g3,h⟩:=aB h
  obtain⟨a4,g4,h⟩:=aB h
  have h:=Option.some.inj h;subst h
  rw[EV.aA g0,EV.aA g1,EV.aA g2,EV.aA g3,EV.aA g4]
  rfl
 by_cases h123:τ=123
 ·subst h123;
  obtain⟨c0,c1,c2,c3,c4,c5,c6,rfl⟩:∃c0 c1 c2 c3 c4 c5 c6:EV.Lf Un,cs=[c0,c1,c2,c3,c4,c5,c6]:=by
   match cs,h with
   |[c0,c1,c2,c3,c4,c5,c6],_=>exact⟨c0,c1,c2,c3,c4,c5,c6,rfl⟩
  obtain⟨a0,g0,h⟩:=aB h
  obtain⟨a1,g1,h⟩:=aB h
  obtain⟨a2,g2,h⟩:=aB h
  obtain⟨a3,g3,h⟩:=aB h
  obtain⟨a4,g4,h⟩:=aB h
  obtain⟨a5,g5,h⟩:=aB h
  obtain⟨a6,g6,h⟩:=aB h
  have h:=Option.some.inj h;subst h
  rw[EV.aA g0,EV.aA g1,EV.aA g2,EV.aA g3,EV.aA g4,EV.aA g5,EV.aA g6]
  rfl
 by_cases h226:τ=226
 ·subst h226;
  obtain⟨c0,c1,c2,c3,rfl⟩:∃c0 c1 c2 c3:EV.Lf Un,cs=[c0,c1,c2,c3]:=by
   match cs,h with
   |[c0,c1,c2,c3],_=>exact⟨c0,c1,c2,c3,rfl⟩
  obtain⟨a0,g0,h⟩:=aB h
  obtain⟨a1,g1,h⟩:=aB h
  obtain⟨a2,g2,h⟩:=aB h
  obtain⟨a3,g3,h⟩:=aB h
  have h:=Option.some.inj h;subst h
  rw[EV.aA g0,EV.aA g1,EV.aA g2,EV.aA g3]
  rfl
 by_cases h37:τ=37
 ·subst h37;
  obtain⟨c0,rfl⟩:∃c0:EV.Lf Un,cs=[c0]:=by
   match cs,h with
   |[c0],_=>exact⟨c0,rfl⟩
  obtain⟨a0,g0,h⟩:=aB h
  have h:=Option.some.inj h;subst h
  rw[EV.aA g0]
  rfl
 by_cases h39:τ=39
 ·subst h39;
  obtain⟨c0,c1,c2,c3,c4,c5,c6,c7,c8,c9,c10,c11,c12,c13,c14,c15,rfl⟩:∃c0 c1 c2 c3 c4 c5 c6 c7 c8 c9 c10 c11 c12 c13 c14 c15:EV.Lf Un,cs=[c0,c1,c2,c3,c4,c5,c6,c7,c8,c9,c10,c11,c12,c13,c14,c15]:=by
   match cs,h with
   |[c0,c1,c2,c3,c4,c5,c6,c7,c8,c9,c10,c11,c12,c13,c14,c15],_=>exact⟨c0,c1,c2,c3,c4,c5,c6,c7,c8,c9,c10,c11,c12,c13,c14,c15,rfl⟩
  obtain⟨a0,g0,h⟩:=aB h
  obtain⟨a1,g1,h⟩:=aB h
  obtain⟨a2,g2,h⟩:=aB h
  obtain⟨a3,g3,h⟩:=aB h
  obtain⟨a4,g4,h⟩:=aB h
  obtain⟨a5,g5,h⟩:=aB h
  obtain⟨a6,g6,h⟩:=aB h
  obtain⟨a7,g7,h⟩:=aB h
  obtain⟨a8,g8,h⟩:=aB h
  obtain⟨a9,g9,h⟩:=aB h
  obtain⟨a10,g10,h⟩:=aB h
  obtain⟨a11,g11,h⟩:=aB h
  obtain⟨a12,g12,h⟩:=aB h
  obtain⟨a13,g13,h⟩:=aB h
  obtain⟨a14,g14,h⟩:=aB h
  obtain⟨a15,g15,h⟩:=aB h
  have h:=Option.some.inj h;subst h
  rw[EV.aA g0,EV.aA g1,EV.aA g2,EV.aA g3,EV.aA g4,EV.aA g5,EV.aA g6,EV.aA g7,EV.aA g8,EV.aA g9,EV.aA g10,EV.aA g11,EV.aA g12,EV.aA g13,EV.aA g14,EV.aA g15]
  rfl
 by_cases h126:τ=126
 ·subst h126;
  obtain⟨c0,c1,c2,c3,rfl⟩:∃c0 c1 c2 c3:EV.Lf Un,cs=[c0,c1,c2,c3]:=by
   match cs,h with
   |[c0,c1,c2,c3],_=>exact⟨c0,c1,c2,c3,rfl⟩
  obtain⟨a0,g0,h⟩:=aB h
  obtain⟨a1,g1,h⟩:=aB h
  obtain⟨a2,g2,h⟩:=aB h
  obtain⟨a3,g3,h⟩:=aB h
  have h:=Option.some.inj h;subst h
  rw[EV.aA g0,EV.aA g1,EV.aA g2,EV.aA g3]
  rfl
 by_cases h213:τ=213
 ·subst h213;
  obtain⟨c0,c1,c2,c3,c4,c5,rfl⟩:∃c0 c1 c2 c3 c4 c5:EV.Lf Un,cs=[c0,c1,c2,c3,c4,c5]:=by
   match cs,h with
   |[c0,c1,c2,c3,c4,c5],_=>exact⟨c0,c1,c2,c3,c4,c5,rfl⟩
  obtain⟨a0,g0,h⟩:=aB h
  obtain⟨a1,g1,h⟩:=aB h
  obtain⟨a2,g2,h⟩:=aB h
  obtain⟨a3,g3,h⟩:=aB h
  obtain⟨a4,g4,h⟩:=aB h
  obtain⟨a5,g5,h⟩:=aB h
  have h:=Option.some.inj h;subst h
  rw[EV.aA g0,EV.aA g1,EV.aA g2,EV.aA g3,EV.aA g4,EV.aA g5]
  rfl
 by_cases h247:τ=247
 ·subst h247;
  obtain⟨c0,c1,c2,c3,rfl⟩:∃c0 c1 c2 c3:EV.Lf Un,cs=[c0,c1,c2,c3]:=by
   match cs,h with
   |[c0,c1,c2,c3],_=>exact⟨c0,c1,c2,c3,rfl⟩
  obtain⟨a0,g0,h⟩:=aB h
  obtain⟨a1,g1,h⟩:=aB h
  obtain⟨a2,g2,h⟩:=aB h
  obtain⟨a3,g3,h⟩:=aB h
  have h:=Option.some.inj h;subst h
  rw[EV.aA g0,EV.aA g1,EV.aA g2,EV.aA g3]
  rfl
 by_cases h129:τ=129
 ·subst h129;
  obtain⟨c0,rfl⟩:∃c0:EV.Lf Un,cs=[c0]:=by
   match cs,h with
   |[c0],_=>exact⟨c0,rfl⟩
  obtain⟨a0,g0,h⟩:=aB h
  have h:=Option.some.inj h;subst h
  rw[EV.aA g0]
  rfl
 by_cases h131:τ=131
 ·subst h131;
  obtain⟨c0,c1,c2,c3,c4,c5,c6,c7,c8,rfl⟩:∃c0 c1 c2 c3 c4 c5 c6 c7 c8:EV.Lf Un,cs=[c0,c1,c2,c3,c4,c5,c6,c7,c8]:=by
   match cs,h with
   |[c0,c1,c2,c3,c4,c5,c6,c7,c8],_=>exact⟨c0,c1,c2,c3,c4,c5,c6,c7,c8,rfl⟩
  obtain⟨a0,g0,h⟩:=aB h
  obtain⟨a1,g1,h⟩:=aB h
  obtain⟨a2,g2,h⟩:=aB h
  obtain⟨a3,g3,h⟩:=aB h
  obtain⟨a4,g4,h⟩:=aB h
  obtain⟨a5,g5,h⟩:=aB h
  obtain⟨a6,g6,h⟩:=aB h
  obtain⟨a7,g7,h⟩:=aB h
  obtain⟨a8,g8,h⟩:=aB h
  have h:=Option.some.inj h;subst h
  rw[EV.aA g0,EV.aA g1,EV.aA g2,EV.aA g3,EV.aA g4,EV.aA g5,EV.aA g6,EV.aA g7,EV.aA g8]
  rfl
 by_cases h275:τ=275
 ·subst h275;
  obtain⟨c0,c1,c2,c3,rfl⟩:∃c0 c1 c2 c3:EV.Lf Un,cs=[c0,c1,c2,c3]:=by
   match cs,h with
   |[c0,c1,c2,c3],_=>exact⟨c0,c1,c2,c3,rfl⟩
  obtain⟨a0,g0,h⟩:=aB h
  obtain⟨a1,g1,h⟩:=aB h
  obtain⟨a2,g2,h⟩:=aB h
  obtain⟨a3,g3,h⟩:=aB h
  have h:=Option.some.inj h;subst h
  rw[EV.aA g0,EV.aA g1,EV.aA g2,EV.aA g3]
  rfl
 by_cases h45:τ=45
 ·subst h45;
  obtain⟨c0,c1,rfl⟩:∃c0 c1:EV.Lf Un,cs=[c0,c1]:=by
   match cs,h with
   |[c0,c1],_=>exact⟨c0,c1,rfl⟩
  obtain⟨a0,g0,h⟩:=aB h
  obtain⟨a1,g1,h⟩:=aB h
  have h:=Option.some.inj h;subst h
  rw[EV.aA g0,EV.aA g1]
  rfl
 by_cases h136:τ=136
 ·subst h136;
  obtain⟨c0,c1,c2,c3,rfl⟩:∃c0 c1 c2 c3:EV.Lf Un,cs=[c0,c1,c2,c3]:=by
   match cs,h with
   |[c0,c1,c2,c3],_=>exact⟨c0,c1,c2,c3,rfl⟩
  obtain⟨a0,g0,h⟩:=aB h
  obtain⟨a1,g1,h⟩:=aB h
  obtain⟨a2,g2,h⟩:=aB h
  obtain⟨a3,g3,h⟩:=aB h
  have h:=Option.some.inj h;subst h
  rw[EV.aA g0,EV.aA g1,EV.aA g2,EV.aA g3]
  rfl
 by_cases h48:τ=48
 ·subst h48;
  obtain⟨c0,c1,c2,c3,rfl⟩:∃c0 c1 c2 c3:EV.Lf Un,cs=[c0,c1,c2,c3]:=by
   match cs,h with
   |[c0,c1,c2,c3],_=>exact⟨c0,c1,c2,c3,rfl⟩
  obtain⟨a0,g0,h⟩:=aB h
  obtain⟨a1,g1,h⟩:=aB h
  obtain⟨a2,g2,h⟩:=aB h
  obtain⟨a3,g3,h⟩:=aB h
  have h:=Option.some.inj h;subst h
  rw[EV.aA g0,EV.aA g1,EV.aA g2,EV.aA g3]
  rfl
 by_cases h299:τ=299
 ·subst h299;
  obtain⟨c0,c1,c2,c3,rfl⟩:∃c0 c1 c2 c3:EV.Lf Un,cs=[c0,c1,c2,c3]:=by
   match cs,h with
   |[c0,c1,c2,c3],_=>exact⟨c0,c1,c2,c3,rfl⟩
  obtain⟨a0,g0,h⟩:=aB h
  obtain⟨a1,g1,h⟩:=aB h
  obtain⟨a2,g2,h⟩:=aB h
  obtain⟨a3,g3,h⟩:=aB h
  have h:=Option.some.inj h;subst h
  rw[EV.aA g0,EV.aA g1,EV.aA g2,EV.aA g3]
  rfl
 by_cases h206:τ=206
 ·subst h206;
  obtain⟨c0,c1,c2,rfl⟩:∃c0 c1 c2:EV.Lf Un,cs=[c0,c1,c2]:=by
   match cs,h with
   |[c0,c1,c2],_=>exact⟨c0,c1,c2,rfl⟩
  obtain⟨a0,g0,h⟩:=aB h
  obtain⟨a1,g1,h⟩:=aB h
  obtain⟨a2,g2,h⟩:=aB h
  have h:=Option.some.inj h;subst h
  rw[EV.aA g0,EV.aA g1,EV.aA g2]
  rfl
 by_cases h252:τ=252
 ·subst h252;
  obtain⟨c0,c1,c2,rfl⟩:∃c0 c1 c2:EV.Lf Un,cs=[c0,c1,c2]:=by
   match cs,h with
   |[c0,c1,c2],_=>exact⟨c0,c1,c2,rfl⟩
  obtain⟨a0,g0,h⟩:=aB h
  obtain⟨a1,g1,h⟩:=aB h
  obtain⟨a2,g2,h⟩:=aB h
  have h:=Option.some.inj h;subst h
  rw[EV.aA g0,EV.aA g1,EV.aA g2]
  rfl
 by_cases h146:τ=146
 ·subst h146;
  obtain⟨c0,c1,c2,rfl⟩:∃c0 c1 c2:EV.Lf Un,cs=[c0,c1,c2]:=by
   match cs,h with
   |[c0,c1,c2],_=>exact⟨c0,c1,c2,rfl⟩
  obtain⟨a0,g0,h⟩:=aB h
  obtain⟨a1,g1,h⟩:=aB h
  obtain⟨a2,g2,h⟩:=aB h
  have h:=Option.some.inj h;subst h
  rw[EV.aA g0,EV.aA g1,EV.aA g2]
  rfl
 by_cases h148:τ=148
 ·subst h148;
  obtain⟨c0,c1,c2,c3,c4,c5,rfl⟩:∃c0 c1 c2 c3 c4 c5:EV.Lf Un,cs=[c0,c1,c2,c3,c4,c5]:=by
   match cs,h with
   |[c0,c1,c2,c3,c4,c5],_=>exact⟨c0,c1,c2,c3,c4,c5,rfl⟩
  obtain⟨a0,g0,h⟩:=aB h
  obtain⟨a1,g1,h⟩:=aB h
  obtain⟨a2,g2,h⟩:=aB h
  obtain⟨a3,g3,h⟩:=aB h
  obtain⟨a4,g4,h⟩:=aB h
  obtain⟨a5,g5,h⟩:=aB h
  have h:=Option.some.inj h;subst h
  rw[EV.aA g0,EV.aA g1,EV.aA g2,EV.aA g3,EV.aA g4,EV.aA g5]
  rfl
 by_cases h50:τ=50
 ·subst h50;
  obtain⟨c0,c1,c2,c3,rfl⟩:∃c0 c1 c2 c3:EV.Lf Un,cs=[c0,c1,c2,c3]:=by
   match cs,h with
   |[c0,c1,c2,c3],_=>exact⟨c0,c1,c2,c3,rfl⟩
  obtain⟨a0,g0,h⟩:=aB h
  obtain⟨a1,g1,h⟩:=aB h
  obtain⟨a2,g2,h⟩:=aB h
  obtain⟨a3,g3,h⟩:=aB h
  have h:=Option.some.inj h;subst h
  rw[EV.aA g0,EV.aA g1,EV.aA g2,EV.aA g3]
  rfl
 by_cases h157:τ=157
 ·subst h157;
  obtain⟨c0,c1,rfl⟩:∃c0 c1:EV.Lf Un,cs=[c0,c1]:=by
   match cs,h with
   |[c0,c1],_=>exact⟨c0,c1,rfl⟩
  obtain⟨a0,g0,h⟩:=aB h
  obtain⟨a1,g1,h⟩:=aB h
  have h:=Option.some.inj h;subst h
  rw[EV.aA g0,EV.aA g1]
  rfl
 by_cases h159:τ=159
 ·subst h159;
  obtain⟨c0,c1,c2,c3,c4,rfl⟩:∃c0 c1 c2 c3 c4:EV.Lf Un,cs=[c0,c1,c2,c3,c4]:=by
   match cs,h with
   |[c0,c1,c2,c3,c4],_=>exact⟨c0,c1,c2,c3,c4,rfl⟩
  obtain⟨a0,g0,h⟩:=aB h
  obtain⟨a1,g1,h⟩:=aB h
  obtain⟨a2,g2,h⟩:=aB h
  obtain⟨a3,g3,h⟩:=aB h
  obtain⟨a4,g4,h⟩:=aB h
  have h:=Option.some.inj h;subst h
  rw[EV.aA g0,EV.aA g1,EV.aA g2,EV.aA g3,EV.aA g4]
  rfl
 by_cases h162:τ=162
 ·subst h162;
  obtain⟨c0,c1,c2,c3,c4,c5,c6,rfl⟩:∃c0 c1 c2 c3 c4 c5 c6:EV.Lf Un,cs=[c0,c1,c2,c3,c4,c5,c6]:=by
   match cs,h with
   |[c0,c1,c2,c3,c4,c5,c6],_=>exact⟨c0,c1,c2,c3,c4,c5,c6,rfl⟩
  obtain⟨a0,g0,h⟩:=aB h
  obtain⟨a1,g1,h⟩:=aB h
  obtain⟨a2,g2,h⟩:=aB h
  obtain⟨a3,g3,h⟩:=aB h
  obtain⟨a4,g4,h⟩:=aB h
  obtain⟨a5,g5,h⟩:=aB h
  obtain⟨a6,g6,h⟩:=aB h
  have h:=Option.some.inj h;subst h
  rw[EV.aA g0,EV.aA g1,EV.aA g2,EV.aA g3,EV.aA g4,EV.aA g5,EV.aA g6]
  rfl
 by_cases h224:τ=224
 ·subst h224;
  obtain⟨c0,c1,c2,c3,rfl⟩:∃c0 c1 c2 c3:EV.Lf Un,cs=[c0,c1,c2,c3]:=by
   match cs,h with
   |[c0,c1,c2,c3],_=>exact⟨c0,c1,c2,c3,rfl⟩
  obtain⟨a0,g0,h⟩:=aB h
  obtain⟨a1,g1,h⟩:=aB h
  obtain⟨a2,g2,h⟩:=aB h
  obtain⟨a3,g3,h⟩:=aB h
  have h:=Option.some.inj h;subst h
  rw[EV.aA g0,EV.aA g1,EV.aA g2,EV.aA g3]
  rfl
 by_cases h54:τ=54
 ·subst h54;
  obtain⟨c0,rfl⟩:∃c0:EV.Lf Un,cs=[c0]:=by
   match cs,h with
   |[c0],_=>exact⟨c0,rfl⟩
  obtain⟨a0,g0,h⟩:=aB h
  have h:=Option.some.inj h;subst h
  rw[EV.aA g0]
  rfl
 by_cases h56:τ=56
 ·subst h56;
  obtain⟨c0,c1,c2,c3,c4,c5,c6,c7,c8,c9,c10,c11,c12,c13,c14,c15,rfl⟩:∃c0 c1 c2 c3 c4 c5 c6 c7 c8 c9 c10 c11 c12 c13 c14 c15:EV.Lf Un,cs=[c0,c1,c2,c3,c4,c5,c6,c7,c8,c9,c10,c11,c12,c13,c14,c15]:=by
   match cs,h with
   |[c0,c1,c2,c3,c4,c5,c6,c7,c8,c9,c10,c11,c12,c13,c14,c15],_=>exact⟨c0,c1,c2,c3,c4,c5,c6,c7,c8,c9,c10,c11,c12,c13,c14,c15,rfl⟩
  obtain⟨a0,g0,h⟩:=aB h
  obtain⟨a1,g1,h⟩:=aB h
  obtain⟨a2,g2,h⟩:=aB h
  obtain⟨a3,g3,h⟩:=aB h
  obtain⟨a4,g4,h⟩:=aB h
  obtain⟨a5,g5,h⟩:=aB h
  obtain⟨a6,g6,h⟩:=aB h
  obtain⟨a7,g7,h⟩:=aB h
  obtain⟨a8,g8,h⟩:=aB h
  obtain⟨a9,g9,h⟩:=aB h
  obtain⟨a10,g10,h⟩:=aB h
  obtain⟨a11,g11,h⟩:=aB h
  obtain⟨a12,g12,h⟩:=aB h
  obtain⟨a13,g13,h⟩:=aB h
  obtain⟨a14,g14,h⟩:=aB h
  obtain⟨a15,g15,h⟩:=aB h
  have h:=Option.some.inj h;subst h
  rw[EV.aA g0,EV.aA g1,EV.aA g2,EV.aA g3,EV.aA g4,EV.aA g5,EV.aA g6,EV.aA g7,EV.aA g8,EV.aA g9,EV.aA g10,EV.aA g11,EV.aA g12,EV.aA g13,EV.aA g14,EV.aA g15]
  rfl
 by_cases h96:τ=96
 ·subst h96;
  obtain⟨c0,rfl⟩:∃c0:EV.Lf Un,cs=[c0]:=by
   match cs,h with
   |[c0],_=>exact⟨c0,rfl⟩
  obtain⟨a0,g0,h⟩:=aB h
  have h:=Option.some.inj h;subst h
  rw[EV.aA g0]
  rfl
 by_cases h9:τ=9
 ·subst h9;
  obtain⟨c0,rfl⟩:∃c0:EV.Lf Un,cs=[c0]:=by
   match cs,h with
   |[c0],_=>exact⟨c0,rfl⟩
  obtain⟨a0,g0,h⟩:=aB h
  have h:=Option.some.inj h;subst h
  rw[EV.aA g0]
  rfl
 exact(cast (Zv τ h100 h215 h312 h103 h105 h4 h5 h264 h27 h193 h30 h327 h268 h315 h113 h3 h115 h33 h118 h120 h123 h226 h37 h39 h126 h213 h247 h129 h131 h275 h45 h136 h48 h299 h206 h252 h146 h148 h50 h157 h159 h162 h224 h54 h56 h96 h9) x).elim
def Yn:EV.Lay Un:=⟨⟨fQ,bD0,hc1,hc2,hc3,hc4⟩,kdE,5,fun n=>n,fun n=>n,fun _=>rfl,fun _=>rfl⟩
theorem ly1:∀(τ:Nat) (x:El τ),(fQ τ x).map EV.kdL=(kdE τ).map some:=by
 intro τ x
 by_cases h100:τ=100
 ·subst h100;rfl
 by_cases h215:τ=215
 ·subst h215;rfl
 by_cases h312:τ=312
 ·subst h312;rfl
 by_cases h103:τ=103
 ·subst h103;rfl
 by_cases h105:τ=105
 ·subst h105;rfl
 by_cases h4:τ=4
 ·subst h4;rfl
 by_cases h5:τ=5
 ·subst h5;rfl
 by_cases h264:τ=264
 ·subst h264;rfl
 by_cases h27:τ=27
 ·subst h27;rfl
 by_cases h193:τ=193
 ·subst h193;rfl
 by_cases h30:τ=30
 ·subst h30;rfl
 by_cases h327:τ=327
 ·subst h327;rfl
 by_cases h268:τ=268
 ·subst h268;rfl
 by_cases h315:τ=315
 ·subst h315;rfl
 by_cases h113:τ=113
 ·subst h113;rfl
 by_cases h3:τ=3
 ·subst h3;rfl
 by_cases h115:τ=115
 ·subst h115;rfl
 by_cases h33:τ=33
 ·subst h33;rfl
 by_cases h118:τ=118
 ·subst h118;rfl
 by_cases h120:τ=120
 ·subst h120;rfl
 by_cases h123:τ=123
 ·subst h123;rfl
 by_cases h226:τ=226
 ·subst h226;rfl
 by_cases h37:τ=37
 ·subst h37;rfl
 by_cases h39:τ=39
 ·subst h39;rfl
 by_cases h126:τ=126
 ·subst h126;rfl
 by_cases h213:τ=213
 ·subst h213;rfl
 by_cases h247:τ=247
 ·subst h247;rfl
 by_cases h129:τ=129
 ·subst h129;rfl
 by_cases h131:τ=131
 ·subst h131;rfl
 by_cases h275:τ=275
 ·subst h275;rfl
 by_cases h45:τ=45
 ·subst h45;rfl
 by_cases h136:τ=136
 ·subst h136;rfl
 by_cases h48:τ=48
 ·subst h48;rfl
 by_cases h299:τ=299
 ·subst h299;rfl
 by_cases h206:τ=206
 ·subst h206;rfl
 by_cases h252:τ=252
 ·subst h252;rfl
 by_cases h146:τ=146
 ·subst h146;rfl
 by_cases h148:τ=148
 ·subst h148;rfl
 by_cases h50:τ=50
 ·subst h50;rfl
 by_cases h157:τ=157
 ·subst h157;rfl
 by_cases h159:τ=159
 ·subst h159;rfl
 by_cases h162:τ=162
 ·subst h162;rfl
 by_cases h224:τ=224
 ·subst h224;rfl
 by_cases h54:τ=54
 ·subst h54;rfl
 by_cases h56:τ=56
 ·subst h56;rfl
 by_cases h96:τ=96
 ·subst h96;rfl
 by_cases h9:τ=9
 ·subst h9;rfl
 exact(cast (Zv τ h100 h215 h312 h103 h105 h4 h5 h264 h27 h193 h30 h327 h268 h315 h113 h3 h115 h33 h118 h120 h123 h226 h37 h39 h126 h213 h247 h129 h131 h275 h45 h136 h48 h299 h206 h252 h146 h148 h50 h157 h159 h162 h224 h54 h56 h96 h9) x).elim
theorem ly2:∀(τ τ':Nat),EV.Kd.sl τ'∈kdE τ→0<Un.K τ':=by
 intro τ τ' h
 unfold kdE at h
 split at h<;>simp only[List.mem_cons,List.not_mem_nil,or_false,reduceCtorEq,false_or,or_self,EV.Kd.sl.injEq] at h<;>first|exact h.elim|(subst h;exact Nat.le_of_ble_eq_true rfl)|(rcases h with h|h|h|h|h|h|h|h<;>(subst h;exact Nat.le_of_ble_eq_true rfl))|(rcases h with h|h|h|h|h|h|h<;>(subst h;exact Nat.le_of_ble_eq_true rfl))|(rcases h with h|h|h|h|h|h<;>(subst h;exact Nat.le_of_ble_eq_true rfl))|(rcases h with h|h|h|h|h<;>(subst h;exact Nat.le_of_ble_eq_true rfl))|(rcases h with h|h|h|h<;>(subst h;exact Nat.le_of_ble_eq_true rfl))|(rcases h with h|h|h<;>(subst h;exact Nat.le_of_ble_eq_true rfl))|(rcases h with h|h<;>(subst h;exact Nat.le_of_ble_eq_true rfl))
theorem bD1:EV.LayOk Yn:=⟨ly1,ly2⟩
def U0 (f:Func):Code:=match f.body with|some c=>c|none=> .skip
theorem T.mix:Tryz.prog.follows .mixedOrders=true:=by kernel_rfl
theorem aF:EV.Good Tryz.prog G0 Yn TI []:=⟨by kernel_rfl,bD1,fun f S h=>by simp at h⟩
abbrev SU:=EV.Sum Un
def OK (f:Nat)(S:SU):Prop:=EV.Dv Tryz.prog G0 Yn f S
def SIl:SU:=⟨[],[],false,true,fun _=>none⟩
theorem sIl (f:Nat):OK f SIl:=fun _ _ hr=>nomatch hr
def IL:EV.Il:=[(21,U0 Tryz.f21,48,[.tmp 4]),(32,U0 Tryz.f32,42,[.cell 4 56, .tmp 5])]
theorem bB2:EV.pQ Tryz.prog IL:=EV.aZt Tryz.func21 rfl Tryz.ntmps21 rfl (fun _ _=>by kernel_rfl)<|EV.aZt Tryz.func32 rfl Tryz.ntmps32 rfl (fun _ _=>by kernel_rfl)<|EV.bCx
def od (n:Nat)(l:List Nat):List (Nat×Bool):=(List.range n).map fun i=>(i, !l.contains i)
theorem gc {f:Nat}{S:SU}{FZ:List (Nat×SU)}(h:OK f S)(G:EV.Good Tryz.prog G0 Yn TI FZ):EV.Good Tryz.prog G0 Yn TI ((f,S)::FZ):=EV.aPn h G
theorem gcp {f:Nat}{S:SU}{FZ:List (Nat×SU)}(h:OK f S)(G:EV.Good Tryz.prog G0 Yn TI FZ)(hw:S.wt=false:=by rfl)(hf:S.fr=true:=by rfl):EV.Good Tryz.prog G0 Yn TI ((f,S.pl)::FZ):=EV.aPn (EV.bC5 h hw hf) G
theorem mkS {f:FuncId}{fn:Func}{n:Nat}{S:SU}{FZ:List (Nat×SU)}{m:EV.pK Un S.ar→Option (EV.pK Un S.rs)}(an:EV.An)(l:List ResultVar)(G:EV.Good Tryz.prog G0 Yn TI FZ)(hf:Tryz.prog.funcs[f]? =some fn)(hn:fn.ntmps=n)(ht:∀a r,S.m a=some r→m a=some r)(hE:∀args w,(callFunc f args).run Tryz.prog w= .ok (.enter f args) w)(h:∀a,EV.evF Yn TI FZ IL an (U0 fn) n S.ar S.rs S.fr l a=m a)(hb:fn.body=some (U0 fn):=by rfl)(hl:fn.results=l.toArray:=by rfl)(hlen:S.ar.length≤n:=by decide)(hw:S.wt=false:=by rfl):OK f S:=
 EV.bC0 (an:=fun _=>an) G T.mix bB2 hf hb hn hl hE hlen hw fun a r hr=>(h a).trans (ht a r hr)
theorem mkW {f:FuncId}{fn:Func}{n:Nat}{kd:EV.Kd}{M m:EV.pK Un [kd, .int .i64]→Option (EV.pK Un [kd, .int .i64])}{FZ:List (Nat×SU)}(an:EV.An)(l:List ResultVar)(G:EV.Good Tryz.prog G0 Yn TI FZ)(hf:Tryz.prog.funcs[f]? =some fn)(hn:fn.ntmps=n)(ht:∀a r,M a=some r→m a=some r)(hE:∀args w,(callFunc f args).run Tryz.prog w= .ok (.enter f args) w)(h:∀a,EV.evM Yn TI FZ IL an (U0 fn) n kd l a=m a)(hb:fn.body=some (U0 fn):=by rfl)(hl:fn.results=l.toArray:=by rfl)(hlen:2≤n:=by decide):OK f ⟨[kd, .int .i64],[kd, .int .i64],false,true,M⟩:=
 EV.bC1 (an:=fun _=>an) G T.mix bB2 hf hb hn hl hE hlen fun a r hr=>(h a).trans (ht a r hr)
def gX:EV.Sum Un:=⟨[.str, .str],[.sl 9],false,false,fun(a:ByteArray×ByteArray)=>gd (a.1.size<4294967281∧1≤a.2.size) (some (iG a.1 a.2))⟩
theorem U1 (args:Array Value)(w:World):(callFunc 292 args).run Tryz.prog w= .ok (.enter 292 args) w:=by kernel_rfl
theorem aDy (a:ByteArray×ByteArray):(EV.cO Yn gX.ar a).map EV.Du=[.str a.1, .str a.2]:=by kernel_rfl
theorem aDz (a:ByteArray×ByteArray):rR ((EV.cO Yn gX.rs (iG a.1 a.2)).map EV.Du)= .slice 1 ((iG a.1 a.2).map sV):=by kernel_rfl
theorem aD0 (a:ByteArray×ByteArray)(r:EV.pK Un gX.rs)(hr:gd (a.1.size<4294967281∧1≤a.2.size) (some (iG a.1 a.2))=some r):Spec Tryz.prog G0 292 ((EV.cO Yn gX.ar a).map EV.Du) (fun v=>v=rR ((EV.cO Yn gX.rs r).map EV.Du)):=by
 unfold gd at hr
 split at hr
 ·rename_i hp
  have e:=Option.some.inj hr
  subst e
  rw[aDy,aDz]
  exact aUy U1 (fun s sep m w a b c=>Tryz.strings_Split s sep m w a b c) a.1 a.2 hp.1 hp.2
 ·cases hr
theorem Dz:EV.Dv Tryz.prog G0 Yn 292 gX:=fun(a:ByteArray×ByteArray) r hr=>⟨fun _ _=>aD0 a r hr,fun _ h=>absurd (show false=true from h) Bool.false_ne_true,fun h=>absurd (show false=true from h) Bool.false_ne_true⟩
def iK:EV.Sum Un:=⟨[.sl 9, .str],[.str],false,false,fun(a:(List ByteArray)×ByteArray)=>gd (0<a.1.length∧(kW a.2 a.1).size≤140737488355328∧a.1.length≤140737488355328) (some (kW a.2 a.1))⟩
theorem aD1 (args:Array Value)(w:World):(callFunc 293 args).run Tryz.prog w= .ok (.enter 293 args) w:=by kernel_rfl
theorem aH8 (a:(List ByteArray)×ByteArray):(EV.cO Yn iK.ar a).map EV.Du=[.slice 1 (a.1.map sV), .str a.2]:=by kernel_rfl
theorem aH9 (a:(List ByteArray)×ByteArray):rR ((EV.cO Yn iK.rs (kW a.2 a.1)).map EV.Du)= .str (kW a.2 a.1):=by kernel_rfl
theorem aIa (a:(List ByteArray)×ByteArray)(r:EV.pK Un iK.rs)(hr:gd (0<a.1.length∧(kW a.2 a.1).size≤140737488355328∧a.1.length≤140737488355328) (some (kW a.2 a.1))=some r):Spec Tryz.prog G0 293 ((EV.cO Yn iK.ar a).map EV.Du) (fun v=>v=rR ((EV.cO Yn iK.rs r).map EV.Du)):=by
 unfold gd at hr
 split at hr
 ·rename_i hp
  have e:=Option.some.inj hr
  subst e
  rw[aH8,aH9]
  exact aWz aD1 Tryz.strings_Join a.1 a.2 (by intro h;have:=hp.1;rw[h] at this;simp at this) hp.2.1 hp.2.2
 ·cases hr
theorem aIb:EV.Dv Tryz.prog G0 Yn 293 iK:=fun(a:(List ByteArray)×ByteArray) r hr=>⟨fun _ _=>aIa a r hr,fun _ h=>absurd (show false=true from h) Bool.false_ne_true,fun h=>absurd (show false=true from h) Bool.false_ne_true⟩
end
end Go.VK
