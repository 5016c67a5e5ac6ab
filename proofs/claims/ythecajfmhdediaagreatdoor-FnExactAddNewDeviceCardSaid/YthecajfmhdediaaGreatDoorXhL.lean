import Derived.Test.YthecajfmhdediaaGreatDoorXhFF
import Derived.Test.YthecajfmhdediaaGreatDoorEWptor
import Derived.Test.YthecajfmhdediaaGreatDoorProg
import Derived.Test.YthecajfmhdediaaGreatDoorTryzShelf
/- Printed by wip/tools: models, walks, proofs. -/
set_option linter.unusedVariables false
set_option linter.unusedSimpArgs false
set_option maxRecDepth 100000
set_option maxHeartbeats 4000000
namespace Go.VK
open Go.RowKit Go.Proofs
noncomputable section
abbrev G0:GI:=bLv 0
def El:Nat→Type
 |119=>D.aAI
 |255=>D.aAB
 |345=>D.Entry
 |122=>D.aAC
 |124=>D.Device
 |4=>Bool
 |5=>Int
 |291=>D.Box
 |27=>D.aAE
 |215=>D.aAA
 |30=>D.aAH
 |358=>D.aAJ
 |295=>D.aAG
 |348=>D.aAL
 |132=>D.aAF
 |3=>Int
 |134=>D.Site
 |33=>D.aAQ
 |137=>D.aAO
 |139=>D.aAN
 |142=>D.aAD
 |264=>D.aAM
 |37=>D.aAK
 |39=>D.World
 |73=>D.aAI
 |231=>D.aAB
 |282=>D.Entry
 |80=>D.aAC
 |82=>D.Device
 |301=>D.Box
 |45=>D.aAE
 |219=>D.aAA
 |48=>D.aAH
 |243=>D.aAJ
 |167=>D.aAG
 |287=>D.aAL
 |86=>D.aAF
 |89=>D.Site
 |50=>D.aAQ
 |179=>D.aAO
 |181=>D.aAN
 |184=>D.aAD
 |251=>D.aAM
 |54=>D.aAK
 |56=>D.World
 |9=>ByteArray
 |87=>List Int
 |_=>Empty
def bL0:(τ:Nat)→El τ→List V
 |119=>D.aAI.V
 |255=>D.aAB.V
 |345=>D.Entry.V
 |122=>D.aAC.V
 |124=>D.Device.V
 |4=>bV
 |5=>y8
 |291=>D.Box.V
 |27=>D.aAE.V
 |215=>D.aAA.V
 |30=>D.aAH.V
 |358=>D.aAJ.V
 |295=>D.aAG.V
 |348=>D.aAL.V
 |132=>D.aAF.V
 |3=>iV
 |134=>D.Site.V
 |33=>D.aAQ.V
 |137=>D.aAO.V
 |139=>D.aAN.V
 |142=>D.aAD.V
 |264=>D.aAM.V
 |37=>D.aAK.V
 |39=>D.World.V
 |73=>D.aAI.V
 |231=>D.aAB.V
 |282=>D.Entry.V
 |80=>D.aAC.V
 |82=>D.Device.V
 |301=>D.Box.V
 |45=>D.aAE.V
 |219=>D.aAA.V
 |48=>D.aAH.V
 |243=>D.aAJ.V
 |167=>D.aAG.V
 |287=>D.aAL.V
 |86=>D.aAF.V
 |89=>D.Site.V
 |50=>D.aAQ.V
 |179=>D.aAO.V
 |181=>D.aAN.V
 |184=>D.aAD.V
 |251=>D.aAM.V
 |54=>D.aAK.V
 |56=>D.World.V
 |9=>sV
 |87=>(fun l=>[V.slice 1 (l.map iV)])
 |_=>fun _=>[]
def Un:EV.Uni:=⟨El,fun|119=>4|255=>6|345=>4|122=>1|124=>9|4=>1|5=>1|291=>4|27=>2|215=>4|30=>4|358=>4|295=>3|348=>3|132=>3|3=>1|134=>6|33=>4|137=>2|139=>5|142=>7|264=>4|37=>1|39=>16|73=>4|231=>6|282=>4|80=>1|82=>9|301=>4|45=>2|219=>4|48=>4|243=>4|167=>3|287=>3|86=>3|89=>6|50=>4|179=>2|181=>5|184=>7|251=>4|54=>1|56=>16|9=>1|87=>1|_=>0,bL0⟩
def gW:(τ:Nat)→El τ→List (EV.Lf Un)
 |119=>fun x=>[.int .i64 x.Vendor, .int .i64 x.Serial, .int .i64 x.Seed, .int .i64 x.Counter]
 |255=>fun x=>[.int .i64 x.Index, .int .i64 x.Kind, .int .i64 x.Device, .int .i64 x.By, .int .i64 x.Previous, .int .i64 x.Signature]
 |345=>fun x=>[.int .i64 x.Site, .int .i64 x.Handle, .int .i64 x.Version, .bool x.Deleted]
 |122=>fun x=>[.sl 345 x.Entries]
 |124=>fun x=>[.int .i64 x.Store.Vendor, .int .i64 x.Store.Serial, .int .i64 x.Store.Seed, .int .i64 x.Store.Counter, .sl 255 x.Log, .int .i64 x.Key, .int .i64 x.Epoch, .int .i64 x.Version, .sl 345 x.aAC.Entries]
 |4=>fun x=>[.bool x]
 |5=>fun x=>[.int .u8 x]
 |291=>fun x=>[.int .i64 x.To, .int .i64 x.Ephemeral, .sl 5 x.Data, .int .i64 x.MAC]
 |27=>fun x=>[.int .i64 x.Epoch, .sl 291 x.Boxes]
 |215=>fun x=>[.int .i64 x.Epoch, .int .i64 x.Version, .sl 5 x.Data, .int .i64 x.MAC]
 |30=>fun x=>[.sl 255 x.Log, .int .i64 x.Boxes.Epoch, .sl 291 x.Boxes.Boxes, .sl 215 x.History]
 |358=>fun x=>[.int .i64 x.Handle, .int .i64 x.Public, .int .i64 x.Counter, .bool x.Cut]
 |295=>fun x=>[.int .i64 x.Id, .int .i64 x.Minimum, .sl 358 x.Credentials]
 |348=>fun x=>[.int .i64 x.Id, .int .i64 x.aAG, .int .i64 x.Until]
 |132=>fun x=>[.int .i64 x.Seed, .int .i64 x.Next, .sl 348 x.Open]
 |3=>fun x=>[.int .i64 x]
 |134=>fun x=>[.str x.Name, .sl 295 x.Accounts, .int .i64 x.Book.Seed, .int .i64 x.Book.Next, .sl 348 x.Book.Open, .sl 3 x.Logins]
 |33=>fun x=>[.int .i64 x.Salt, .int .i64 x.Threshold, .int .i64 x.Check, .int .i64 x.Masked]
 |137=>fun x=>[.int .i64 x.Index, .int .i64 x.Value]
 |139=>fun x=>[.int .i64 x.aAO.Index, .int .i64 x.aAO.Value, .int .i64 x.Epoch, .int .i64 x.Guesses, .int .i64 x.Limit]
 |142=>fun x=>[.int .i64 x.State.aAO.Index, .int .i64 x.State.aAO.Value, .int .i64 x.State.Epoch, .int .i64 x.State.Guesses, .int .i64 x.State.Limit, .sl 139 x.Saved, .int .i64 x.Monotonic]
 |264=>fun x=>[.int .i64 x.Kind, .int .i64 x.aAG, .int .i64 x.Time, .bool x.Seen]
 |37=>fun x=>[.sl 264 x.Notices]
 |39=>fun x=>[.int .i64 x.Now, .int .i64 x.Seed, .sl 124 x.Devices, .sl 4 x.Stolen, .sl 255 x.aAH.Log, .int .i64 x.aAH.Boxes.Epoch, .sl 291 x.aAH.Boxes.Boxes, .sl 215 x.aAH.History, .sl 134 x.Sites, .int .i64 x.aAQ.Salt, .int .i64 x.aAQ.Threshold, .int .i64 x.aAQ.Check, .int .i64 x.aAQ.Masked, .sl 142 x.Hosts, .int .i64 x.Pin, .sl 264 x.Mail.Notices]
 |73=>fun x=>[.int .i64 x.Vendor, .int .i64 x.Serial, .int .i64 x.Seed, .int .i64 x.Counter]
 |231=>fun x=>[.int .i64 x.Index, .int .i64 x.Kind, .int .i64 x.Device, .int .i64 x.By, .int .i64 x.Previous, .int .i64 x.Signature]
 |282=>fun x=>[.int .i64 x.Site, .int .i64 x.Handle, .int .i64 x.Version, .bool x.Deleted]
 |80=>fun x=>[.sl 282 x.Entries]
 |82=>fun x=>[.int .i64 x.Store.Vendor, .int .i64 x.Store.Serial, .int .i64 x.Store.Seed, .int .i64 x.Store.Counter, .sl 231 x.Log, .int .i64 x.Key, .int .i64 x.Epoch, .int .i64 x.Version, .sl 282 x.aAC.Entries]
 |301=>fun x=>[.int .i64 x.To, .int .i64 x.Ephemeral, .sl 5 x.Data, .int .i64 x.MAC]
 |45=>fun x=>[.int .i64 x.Epoch, .sl 301 x.Boxes]
 |219=>fun x=>[.int .i64 x.Epoch, .int .i64 x.Version, .sl 5 x.Data, .int .i64 x.MAC]
 |48=>fun x=>[.sl 231 x.Log, .int .i64 x.Boxes.Epoch, .sl 301 x.Boxes.Boxes, .sl 219 x.History]
 |243=>fun x=>[.int .i64 x.Handle, .int .i64 x.Public, .int .i64 x.Counter, .bool x.Cut]
 |167=>fun x=>[.int .i64 x.Id, .int .i64 x.Minimum, .sl 243 x.Credentials]
 |287=>fun x=>[.int .i64 x.Id, .int .i64 x.aAG, .int .i64 x.Until]
 |86=>fun x=>[.int .i64 x.Seed, .int .i64 x.Next, .sl 287 x.Open]
 |89=>fun x=>[.str x.Name, .sl 167 x.Accounts, .int .i64 x.Book.Seed, .int .i64 x.Book.Next, .sl 287 x.Book.Open, .sl 3 x.Logins]
 |50=>fun x=>[.int .i64 x.Salt, .int .i64 x.Threshold, .int .i64 x.Check, .int .i64 x.Masked]
 |179=>fun x=>[.int .i64 x.Index, .int .i64 x.Value]
 |181=>fun x=>[.int .i64 x.aAO.Index, .int .i64 x.aAO.Value, .int .i64 x.Epoch, .int .i64 x.Guesses, .int .i64 x.Limit]
 |184=>fun x=>[.int .i64 x.State.aAO.Index, .int .i64 x.State.aAO.Value, .int .i64 x.State.Epoch, .int .i64 x.State.Guesses, .int .i64 x.State.Limit, .sl 181 x.Saved, .int .i64 x.Monotonic]
 |251=>fun x=>[.int .i64 x.Kind, .int .i64 x.aAG, .int .i64 x.Time, .bool x.Seen]
 |54=>fun x=>[.sl 251 x.Notices]
 |56=>fun x=>[.int .i64 x.Now, .int .i64 x.Seed, .sl 82 x.Devices, .sl 4 x.Stolen, .sl 231 x.aAH.Log, .int .i64 x.aAH.Boxes.Epoch, .sl 301 x.aAH.Boxes.Boxes, .sl 219 x.aAH.History, .sl 89 x.Sites, .int .i64 x.aAQ.Salt, .int .i64 x.aAQ.Threshold, .int .i64 x.aAQ.Check, .int .i64 x.aAQ.Masked, .sl 184 x.Hosts, .int .i64 x.Pin, .sl 251 x.Mail.Notices]
 |9=>fun x=>[.str x]
 |87=>fun x=>[.sl 3 x]
 |_=>fun _=>[]
def kdE:Nat→List EV.Kd
 |119=>[.int .i64, .int .i64, .int .i64, .int .i64]
 |255=>[.int .i64, .int .i64, .int .i64, .int .i64, .int .i64, .int .i64]
 |345=>[.int .i64, .int .i64, .int .i64, .bool]
 |122=>[.sl 345]
 |124=>[.int .i64, .int .i64, .int .i64, .int .i64, .sl 255, .int .i64, .int .i64, .int .i64, .sl 345]
 |4=>[.bool]
 |5=>[.int .u8]
 |291=>[.int .i64, .int .i64, .sl 5, .int .i64]
 |27=>[.int .i64, .sl 291]
 |215=>[.int .i64, .int .i64, .sl 5, .int .i64]
 |30=>[.sl 255, .int .i64, .sl 291, .sl 215]
 |358=>[.int .i64, .int .i64, .int .i64, .bool]
 |295=>[.int .i64, .int .i64, .sl 358]
 |348=>[.int .i64, .int .i64, .int .i64]
 |132=>[.int .i64, .int .i64, .sl 348]
 |3=>[.int .i64]
 |134=>[.str, .sl 295, .int .i64, .int .i64, .sl 348, .sl 3]
 |33=>[.int .i64, .int .i64, .int .i64, .int .i64]
 |137=>[.int .i64, .int .i64]
 |139=>[.int .i64, .int .i64, .int .i64, .int .i64, .int .i64]
 |142=>[.int .i64, .int .i64, .int .i64, .int .i64, .int .i64, .sl 139, .int .i64]
 |264=>[.int .i64, .int .i64, .int .i64, .bool]
 |37=>[.sl 264]
 |39=>[.int .i64, .int .i64, .sl 124, .sl 4, .sl 255, .int .i64, .sl 291, .sl 215, .sl 134, .int .i64, .int .i64, .int .i64, .int .i64, .sl 142, .int .i64, .sl 264]
 |73=>[.int .i64, .int .i64, .int .i64, .int .i64]
 |231=>[.int .i64, .int .i64, .int .i64, .int .i64, .int .i64, .int .i64]
 |282=>[.int .i64, .int .i64, .int .i64, .bool]
 |80=>[.sl 282]
 |82=>[.int .i64, .int .i64, .int .i64, .int .i64, .sl 231, .int .i64, .int .i64, .int .i64, .sl 282]
 |301=>[.int .i64, .int .i64, .sl 5, .int .i64]
 |45=>[.int .i64, .sl 301]
 |219=>[.int .i64, .int .i64, .sl 5, .int .i64]
 |48=>[.sl 231, .int .i64, .sl 301, .sl 219]
 |243=>[.int .i64, .int .i64, .int .i64, .bool]
 |167=>[.int .i64, .int .i64, .sl 243]
 |287=>[.int .i64, .int .i64, .int .i64]
 |86=>[.int .i64, .int .i64, .sl 287]
 |89=>[.str, .sl 167, .int .i64, .int .i64, .sl 287, .sl 3]
 |50=>[.int .i64, .int .i64, .int .i64, .int .i64]
 |179=>[.int .i64, .int .i64]
 |181=>[.int .i64, .int .i64, .int .i64, .int .i64, .int .i64]
 |184=>[.int .i64, .int .i64, .int .i64, .int .i64, .int .i64, .sl 181, .int .i64]
 |251=>[.int .i64, .int .i64, .int .i64, .bool]
 |54=>[.sl 251]
 |56=>[.int .i64, .int .i64, .sl 82, .sl 4, .sl 231, .int .i64, .sl 301, .sl 219, .sl 89, .int .i64, .int .i64, .int .i64, .int .i64, .sl 184, .int .i64, .sl 251]
 |9=>[.str]
 |87=>[.sl 3]
 |_=>[]
def bL1:(τ:Nat)→List (EV.Lf Un)→Option (El τ)
 |119=>fun|[c0,c1,c2,c3]=>bd (EV.aU (.int .i64) c0) fun a0=>bd (EV.aU (.int .i64) c1) fun a1=>bd (EV.aU (.int .i64) c2) fun a2=>bd (EV.aU (.int .i64) c3) fun a3=>some ⟨a0,a1,a2,a3⟩|_=>none
 |255=>fun|[c0,c1,c2,c3,c4,c5]=>bd (EV.aU (.int .i64) c0) fun a0=>bd (EV.aU (.int .i64) c1) fun a1=>bd (EV.aU (.int .i64) c2) fun a2=>bd (EV.aU (.int .i64) c3) fun a3=>bd (EV.aU (.int .i64) c4) fun a4=>bd (EV.aU (.int .i64) c5) fun a5=>some ⟨a0,a1,a2,a3,a4,a5⟩|_=>none
 |345=>fun|[c0,c1,c2,c3]=>bd (EV.aU (.int .i64) c0) fun a0=>bd (EV.aU (.int .i64) c1) fun a1=>bd (EV.aU (.int .i64) c2) fun a2=>bd (EV.aU (.bool) c3) fun a3=>some ⟨a0,a1,a2,a3⟩|_=>none
 |122=>fun|[c0]=>bd (EV.aU (.sl 345) c0) fun a0=>some ⟨a0⟩|_=>none
 |124=>fun|[c0,c1,c2,c3,c4,c5,c6,c7,c8]=>bd (EV.aU (.int .i64) c0) fun a0=>bd (EV.aU (.int .i64) c1) fun a1=>bd (EV.aU (.int .i64) c2) fun a2=>bd (EV.aU (.int .i64) c3) fun a3=>bd (EV.aU (.sl 255) c4) fun a4=>bd (EV.aU (.int .i64) c5) fun a5=>bd (EV.aU (.int .i64) c6) fun a6=>bd (EV.aU (.int .i64) c7) fun a7=>bd (EV.aU (.sl 345) c8) fun a8=>some ⟨⟨a0,a1,a2,a3⟩,a4,a5,a6,a7,⟨a8⟩⟩|_=>none
 |4=>fun|[c0]=>bd (EV.aU (.bool) c0) fun a0=>some a0|_=>none
 |5=>fun|[c0]=>bd (EV.aU (.int .u8) c0) fun a0=>some a0|_=>none
 |291=>fun|[c0,c1,c2,c3]=>bd (EV.aU (.int .i64) c0) fun a0=>bd (EV.aU (.int .i64) c1) fun a1=>bd (EV.aU (.sl 5) c2) fun a2=>bd (EV.aU (.int .i64) c3) fun a3=>some ⟨a0,a1,a2,a3⟩|_=>none
 |27=>fun|[c0,c1]=>bd (EV.aU (.int .i64) c0) fun a0=>bd (EV.aU (.sl 291) c1) fun a1=>some ⟨a0,a1⟩|_=>none
 |215=>fun|[c0,c1,c2,c3]=>bd (EV.aU (.int .i64) c0) fun a0=>bd (EV.aU (.int .i64) c1) fun a1=>bd (EV.aU (.sl 5) c2) fun a2=>bd (EV.aU (.int .i64) c3) fun a3=>some ⟨a0,a1,a2,a3⟩|_=>none
 |30=>fun|[c0,c1,c2,c3]=>bd (EV.aU (.sl 255) c0) fun a0=>bd (EV.aU (.int .i64) c1) fun a1=>bd (EV.aU (.sl 291) c2) fun a2=>bd (EV.aU (.sl 215) c3) fun a3=>some ⟨a0,⟨a1,a2⟩,a3⟩|_=>none
 |358=>fun|[c0,c1,c2,c3]=>bd (EV.aU (.int .i64) c0) fun a0=>bd (EV.aU (.int .i64) c1) fun a1=>bd (EV.aU (.int .i64) c2) fun a2=>bd (EV.aU (.bool) c3) fun a3=>some ⟨a0,a1,a2,a3⟩|_=>none
 |295=>fun|[c0,c1,c2]=>bd (EV.aU (.int .i64) c0) fun a0=>bd (EV.aU (.int .i64) c1) fun a1=>bd (EV.aU (.sl 358) c2) fun a2=>some ⟨a0,a1,a2⟩|_=>none
 |348=>fun|[c0,c1,c2]=>bd (EV.aU (.int .i64) c0) fun a0=>bd (EV.aU (.int .i64) c1) fun a1=>bd (EV.aU (.int .i64) c2) fun a2=>some ⟨a0,a1,a2⟩|_=>none
 |132=>fun|[c0,c1,c2]=>bd (EV.aU (.int .i64) c0) fun a0=>bd (EV.aU (.int .i64) c1) fun a1=>bd (EV.aU (.sl 348) c2) fun a2=>some ⟨a0,a1,a2⟩|_=>none
 |3=>fun|[c0]=>bd (EV.aU (.int .i64) c0) fun a0=>some a0|_=>none
 |134=>fun|[c0,c1,c2,c3,c4,c5]=>bd (EV.aU (.str) c0) fun a0=>bd (EV.aU (.sl 295) c1) fun a1=>bd (EV.aU (.int .i64) c2) fun a2=>bd (EV.aU (.int .i64) c3) fun a3=>bd (EV.aU (.sl 348) c4) fun a4=>bd (EV.aU (.sl 3) c5) fun a5=>some ⟨a0,a1,⟨a2,a3,a4⟩,a5⟩|_=>none
 |33=>fun|[c0,c1,c2,c3]=>bd (EV.aU (.int .i64) c0) fun a0=>bd (EV.aU (.int .i64) c1) fun a1=>bd (EV.aU (.int .i64) c2) fun a2=>bd (EV.aU (.int .i64) c3) fun a3=>some ⟨a0,a1,a2,a3⟩|_=>none
 |137=>fun|[c0,c1]=>bd (EV.aU (.int .i64) c0) fun a0=>bd (EV.aU (.int .i64) c1) fun a1=>some ⟨a0,a1⟩|_=>none
 |139=>fun|[c0,c1,c2,c3,c4]=>bd (EV.aU (.int .i64) c0) fun a0=>bd (EV.aU (.int .i64) c1) fun a1=>bd (EV.aU (.int .i64) c2) fun a2=>bd (EV.aU (.int .i64) c3) fun a3=>bd (EV.aU (.int .i64) c4) fun a4=>some ⟨⟨a0,a1⟩,a2,a3,a4⟩|_=>none
 |142=>fun|[c0,c1,c2,c3,c4,c5,c6]=>bd (EV.aU (.int .i64) c0) fun a0=>bd (EV.aU (.int .i64) c1) fun a1=>bd (EV.aU (.int .i64) c2) fun a2=>bd (EV.aU (.int .i64) c3) fun a3=>bd (EV.aU (.int .i64) c4) fun a4=>bd (EV.aU (.sl 139) c5) fun a5=>bd (EV.aU (.int .i64) c6) fun a6=>some ⟨⟨⟨a0,a1⟩,a2,a3,a4⟩,a5,a6⟩|_=>none
 |264=>fun|[c0,c1,c2,c3]=>bd (EV.aU (.int .i64) c0) fun a0=>bd (EV.aU (.int .i64) c1) fun a1=>bd (EV.aU (.int .i64) c2) fun a2=>bd (EV.aU (.bool) c3) fun a3=>some ⟨a0,a1,a2,a3⟩|_=>none
 |37=>fun|[c0]=>bd (EV.aU (.sl 264) c0) fun a0=>some ⟨a0⟩|_=>none
 |39=>fun|[c0,c1,c2,c3,c4,c5,c6,c7,c8,c9,c10,c11,c12,c13,c14,c15]=>bd (EV.aU (.int .i64) c0) fun a0=>bd (EV.aU (.int .i64) c1) fun a1=>bd (EV.aU (.sl 124) c2) fun a2=>bd (EV.aU (.sl 4) c3) fun a3=>bd (EV.aU (.sl 255) c4) fun a4=>bd (EV.aU (.int .i64) c5) fun a5=>bd (EV.aU (.sl 291) c6) fun a6=>bd (EV.aU (.sl 215) c7) fun a7=>bd (EV.aU (.sl 134) c8) fun a8=>bd (EV.aU (.int .i64) c9) fun a9=>bd (EV.aU (.int .i64) c10) fun a10=>bd (EV.aU (.int .i64) c11) fun a11=>bd (EV.aU (.int .i64) c12) fun a12=>bd (EV.aU (.sl 142) c13) fun a13=>bd (EV.aU (.int .i64) c14) fun a14=>bd (EV.aU (.sl 264) c15) fun a15=>some ⟨a0,a1,a2,a3,⟨a4,⟨a5,a6⟩,a7⟩,a8,⟨a9,a10,a11,a12⟩,a13,a14,⟨a15⟩⟩|_=>none
 |73=>fun|[c0,c1,c2,c3]=>bd (EV.aU (.int .i64) c0) fun a0=>bd (EV.aU (.int .i64) c1) fun a1=>bd (EV.aU (.int .i64) c2) fun a2=>bd (EV.aU (.int .i64) c3) fun a3=>some ⟨a0,a1,a2,a3⟩|_=>none
 |231=>fun|[c0,c1,c2,c3,c4,c5]=>bd (EV.aU (.int .i64) c0) fun a0=>bd (EV.aU (.int .i64) c1) fun a1=>bd (EV.aU (.int .i64) c2) fun a2=>bd (EV.aU (.int .i64) c3) fun a3=>bd (EV.aU (.int .i64) c4) fun a4=>bd (EV.aU (.int .i64) c5) fun a5=>some ⟨a0,a1,a2,a3,a4,a5⟩|_=>none
 |282=>fun|[c0,c1,c2,c3]=>bd (EV.aU (.int .i64) c0) fun a0=>bd (EV.aU (.int .i64) c1) fun a1=>bd (EV.aU (.int .i64) c2) fun a2=>bd (EV.aU (.bool) c3) fun a3=>some ⟨a0,a1,a2,a3⟩|_=>none
 |80=>fun|[c0]=>bd (EV.aU (.sl 282) c0) fun a0=>some ⟨a0⟩|_=>none
 |82=>fun|[c0,c1,c2,c3,c4,c5,c6,c7,c8]=>bd (EV.aU (.int .i64) c0) fun a0=>bd (EV.aU (.int .i64) c1) fun a1=>bd (EV.aU (.int .i64) c2) fun a2=>bd (EV.aU (.int .i64) c3) fun a3=>bd (EV.aU (.sl 231) c4) fun a4=>bd (EV.aU (.int .i64) c5) fun a5=>bd (EV.aU (.int .i64) c6) fun a6=>bd (EV.aU (.int .i64) c7) fun a7=>bd (EV.aU (.sl 282) c8) fun a8=>some ⟨⟨a0,a1,a2,a3⟩,a4,a5,a6,a7,⟨a8⟩⟩|_=>none
 |301=>fun|[c0,c1,c2,c3]=>bd (EV.aU (.int .i64) c0) fun a0=>bd (EV.aU (.int .i64) c1) fun a1=>bd (EV.aU (.sl 5) c2) fun a2=>bd (EV.aU (.int .i64) c3) fun a3=>some ⟨a0,a1,a2,a3⟩|_=>none
 |45=>fun|[c0,c1]=>bd (EV.aU (.int .i64) c0) fun a0=>bd (EV.aU (.sl 301) c1) fun a1=>some ⟨a0,a1⟩|_=>none
 |219=>fun|[c0,c1,c2,c3]=>bd (EV.aU (.int .i64) c0) fun a0=>bd (EV.aU (.int .i64) c1) fun a1=>bd (EV.aU (.sl 5) c2) fun a2=>bd (EV.aU (.int .i64) c3) fun a3=>some ⟨a0,a1,a2,a3⟩|_=>none
 |48=>fun|[c0,c1,c2,c3]=>bd (EV.aU (.sl 231) c0) fun a0=>bd (EV.aU (.int .i64) c1) fun a1=>bd (EV.aU (.sl 301) c2) fun a2=>bd (EV.aU (.sl 219) c3) fun a3=>some ⟨a0,⟨a1,a2⟩,a3⟩|_=>none
 |243=>fun|[c0,c1,c2,c3]=>bd (EV.aU (.int .i64) c0) fun a0=>bd (EV.aU (.int .i64) c1) fun a1=>bd (EV.aU (.int .i64) c2) fun a2=>bd (EV.aU (.bool) c3) fun a3=>some ⟨a0,a1,a2,a3⟩|_=>none
 |167=>fun|[c0,c1,c2]=>bd (EV.aU (.int .i64) c0) fun a0=>bd (EV.aU (.int .i64) c1) fun a1=>bd (EV.aU (.sl 243) c2) fun a2=>some ⟨a0,a1,a2⟩|_=>none
 |287=>fun|[c0,c1,c2]=>bd (EV.aU (.int .i64) c0) fun a0=>bd (EV.aU (.int .i64) c1) fun a1=>bd (EV.aU (.int .i64) c2) fun a2=>some ⟨a0,a1,a2⟩|_=>none
 |86=>fun|[c0,c1,c2]=>bd (EV.aU (.int .i64) c0) fun a0=>bd (EV.aU (.int .i64) c1) fun a1=>bd (EV.aU (.sl 287) c2) fun a2=>some ⟨a0,a1,a2⟩|_=>none
 |89=>fun|[c0,c1,c2,c3,c4,c5]=>bd (EV.aU (.str) c0) fun a0=>bd (EV.aU (.sl 167) c1) fun a1=>bd (EV.aU (.int .i64) c2) fun a2=>bd (EV.aU (.int .i64) c3) fun a3=>bd (EV.aU (.sl 287) c4) fun a4=>bd (EV.aU (.sl 3) c5) fun a5=>some ⟨a0,a1,⟨a2,a3,a4⟩,a5⟩|_=>none
 |50=>fun|[c0,c1,c2,c3]=>bd (EV.aU (.int .i64) c0) fun a0=>bd (EV.aU (.int .i64) c1) fun a1=>bd (EV.aU (.int .i64) c2) fun a2=>bd (EV.aU (.int .i64) c3) fun a3=>some ⟨a0,a1,a2,a3⟩|_=>none
 |179=>fun|[c0,c1]=>bd (EV.aU (.int .i64) c0) fun a0=>bd (EV.aU (.int .i64) c1) fun a1=>some ⟨a0,a1⟩|_=>none
 |181=>fun|[c0,c1,c2,c3,c4]=>bd (EV.aU (.int .i64) c0) fun a0=>bd (EV.aU (.int .i64) c1) fun a1=>bd (EV.aU (.int .i64) c2) fun a2=>bd (EV.aU (.int .i64) c3) fun a3=>bd (EV.aU (.int .i64) c4) fun a4=>some ⟨⟨a0,a1⟩,a2,a3,a4⟩|_=>none
 |184=>fun|[c0,c1,c2,c3,c4,c5,c6]=>bd (EV.aU (.int .i64) c0) fun a0=>bd (EV.aU (.int .i64) c1) fun a1=>bd (EV.aU (.int .i64) c2) fun a2=>bd (EV.aU (.int .i64) c3) fun a3=>bd (EV.aU (.int .i64) c4) fun a4=>bd (EV.aU (.sl 181) c5) fun a5=>bd (EV.aU (.int .i64) c6) fun a6=>some ⟨⟨⟨a0,a1⟩,a2,a3,a4⟩,a5,a6⟩|_=>none
 |251=>fun|[c0,c1,c2,c3]=>bd (EV.aU (.int .i64) c0) fun a0=>bd (EV.aU (.int .i64) c1) fun a1=>bd (EV.aU (.int .i64) c2) fun a2=>bd (EV.aU (.bool) c3) fun a3=>some ⟨a0,a1,a2,a3⟩|_=>none
 |54=>fun|[c0]=>bd (EV.aU (.sl 251) c0) fun a0=>some ⟨a0⟩|_=>none
 |56=>fun|[c0,c1,c2,c3,c4,c5,c6,c7,c8,c9,c10,c11,c12,c13,c14,c15]=>bd (EV.aU (.int .i64) c0) fun a0=>bd (EV.aU (.int .i64) c1) fun a1=>bd (EV.aU (.sl 82) c2) fun a2=>bd (EV.aU (.sl 4) c3) fun a3=>bd (EV.aU (.sl 231) c4) fun a4=>bd (EV.aU (.int .i64) c5) fun a5=>bd (EV.aU (.sl 301) c6) fun a6=>bd (EV.aU (.sl 219) c7) fun a7=>bd (EV.aU (.sl 89) c8) fun a8=>bd (EV.aU (.int .i64) c9) fun a9=>bd (EV.aU (.int .i64) c10) fun a10=>bd (EV.aU (.int .i64) c11) fun a11=>bd (EV.aU (.int .i64) c12) fun a12=>bd (EV.aU (.sl 184) c13) fun a13=>bd (EV.aU (.int .i64) c14) fun a14=>bd (EV.aU (.sl 251) c15) fun a15=>some ⟨a0,a1,a2,a3,⟨a4,⟨a5,a6⟩,a7⟩,a8,⟨a9,a10,a11,a12⟩,a13,a14,⟨a15⟩⟩|_=>none
 |9=>fun|[c0]=>bd (EV.aU (.str) c0) fun a0=>some a0|_=>none
 |87=>fun|[c0]=>bd (EV.aU (.sl 3) c0) fun a0=>some a0|_=>none
 |_=>fun _=>none
def TI:List (Nat×EV.TInfo):=[
 (3,⟨.int .i64,1,[.int .i64]⟩),
 (4,⟨.bool,1,[.bool]⟩),
 (5,⟨.int .u8,1,[.int .u8]⟩),
 (9,⟨.str,1,[.str]⟩),
 (22,⟨.sl 124 9 104,1,[.nil]⟩),
 (23,⟨.sl 4 1 1,1,[.nil]⟩),
 (24,⟨.sl 255 6 48,1,[.nil]⟩),
 (25,⟨.sl 291 4 48,1,[.nil]⟩),
 (27,⟨.st [(0,3,1),(1,25,1)],2,[.int .i64, .nil]⟩),
 (28,⟨.sl 215 4 48,1,[.nil]⟩),
 (30,⟨.st [(0,24,1),(1,27,2),(3,28,1)],4,[.nil, .int .i64, .nil, .nil]⟩),
 (31,⟨.sl 134 6 104,1,[.nil]⟩),
 (33,⟨.st [(0,3,1),(1,3,1),(2,3,1),(3,3,1)],4,[.int .i64, .int .i64, .int .i64, .int .i64]⟩),
 (34,⟨.sl 142 7 72,1,[.nil]⟩),
 (35,⟨.sl 264 4 32,1,[.nil]⟩),
 (37,⟨.st [(0,35,1)],1,[.nil]⟩),
 (39,⟨.st [(0,3,1),(1,3,1),(2,22,1),(3,23,1),(4,30,4),(8,31,1),(9,33,4),(13,34,1),(14,3,1),(15,37,1)],16,[.int .i64, .int .i64, .nil, .nil, .nil, .int .i64, .nil, .nil, .nil, .int .i64, .int .i64, .int .i64, .int .i64, .nil, .int .i64, .nil]⟩),
 (41,⟨.sl 82 9 104,1,[.nil]⟩),
 (42,⟨.sl 231 6 48,1,[.nil]⟩),
 (43,⟨.sl 301 4 48,1,[.nil]⟩),
 (45,⟨.st [(0,3,1),(1,43,1)],2,[.int .i64, .nil]⟩),
 (46,⟨.sl 219 4 48,1,[.nil]⟩),
 (48,⟨.st [(0,42,1),(1,45,2),(3,46,1)],4,[.nil, .int .i64, .nil, .nil]⟩),
 (49,⟨.sl 89 6 104,1,[.nil]⟩),
 (50,⟨.st [(0,3,1),(1,3,1),(2,3,1),(3,3,1)],4,[.int .i64, .int .i64, .int .i64, .int .i64]⟩),
 (51,⟨.sl 184 7 72,1,[.nil]⟩),
 (52,⟨.sl 251 4 32,1,[.nil]⟩),
 (54,⟨.st [(0,52,1)],1,[.nil]⟩),
 (56,⟨.st [(0,3,1),(1,3,1),(2,41,1),(3,23,1),(4,48,4),(8,49,1),(9,50,4),(13,51,1),(14,3,1),(15,54,1)],16,[.int .i64, .int .i64, .nil, .nil, .nil, .int .i64, .nil, .nil, .nil, .int .i64, .int .i64, .int .i64, .int .i64, .nil, .int .i64, .nil]⟩),
 (73,⟨.st [(0,3,1),(1,3,1),(2,3,1),(3,3,1)],4,[.int .i64, .int .i64, .int .i64, .int .i64]⟩),
 (78,⟨.sl 282 4 32,1,[.nil]⟩),
 (80,⟨.st [(0,78,1)],1,[.nil]⟩),
 (82,⟨.st [(0,73,4),(4,42,1),(5,3,1),(6,3,1),(7,3,1),(8,80,1)],9,[.int .i64, .int .i64, .int .i64, .int .i64, .nil, .int .i64, .int .i64, .int .i64, .nil]⟩),
 (83,⟨.sl 167 3 40,1,[.nil]⟩),
 (84,⟨.sl 287 3 24,1,[.nil]⟩),
 (86,⟨.st [(0,3,1),(1,3,1),(2,84,1)],3,[.int .i64, .int .i64, .nil]⟩),
 (87,⟨.sl 3 1 8,1,[.nil]⟩),
 (89,⟨.st [(0,9,1),(1,83,1),(2,86,3),(5,87,1)],6,[.str, .nil, .int .i64, .int .i64, .nil, .nil]⟩),
 (119,⟨.st [(0,3,1),(1,3,1),(2,3,1),(3,3,1)],4,[.int .i64, .int .i64, .int .i64, .int .i64]⟩),
 (120,⟨.sl 345 4 32,1,[.nil]⟩),
 (122,⟨.st [(0,120,1)],1,[.nil]⟩),
 (124,⟨.st [(0,119,4),(4,24,1),(5,3,1),(6,3,1),(7,3,1),(8,122,1)],9,[.int .i64, .int .i64, .int .i64, .int .i64, .nil, .int .i64, .int .i64, .int .i64, .nil]⟩),
 (129,⟨.sl 295 3 40,1,[.nil]⟩),
 (130,⟨.sl 348 3 24,1,[.nil]⟩),
 (132,⟨.st [(0,3,1),(1,3,1),(2,130,1)],3,[.int .i64, .int .i64, .nil]⟩),
 (134,⟨.st [(0,9,1),(1,129,1),(2,132,3),(5,87,1)],6,[.str, .nil, .int .i64, .int .i64, .nil, .nil]⟩),
 (137,⟨.st [(0,3,1),(1,3,1)],2,[.int .i64, .int .i64]⟩),
 (139,⟨.st [(0,137,2),(2,3,1),(3,3,1),(4,3,1)],5,[.int .i64, .int .i64, .int .i64, .int .i64, .int .i64]⟩),
 (140,⟨.sl 139 5 40,1,[.nil]⟩),
 (142,⟨.st [(0,139,5),(5,140,1),(6,3,1)],7,[.int .i64, .int .i64, .int .i64, .int .i64, .int .i64, .nil, .int .i64]⟩),
 (165,⟨.sl 243 4 32,1,[.nil]⟩),
 (167,⟨.st [(0,3,1),(1,3,1),(2,165,1)],3,[.int .i64, .int .i64, .nil]⟩),
 (179,⟨.st [(0,3,1),(1,3,1)],2,[.int .i64, .int .i64]⟩),
 (181,⟨.st [(0,179,2),(2,3,1),(3,3,1),(4,3,1)],5,[.int .i64, .int .i64, .int .i64, .int .i64, .int .i64]⟩),
 (182,⟨.sl 181 5 40,1,[.nil]⟩),
 (184,⟨.st [(0,181,5),(5,182,1),(6,3,1)],7,[.int .i64, .int .i64, .int .i64, .int .i64, .int .i64, .nil, .int .i64]⟩),
 (213,⟨.sl 5 1 1,1,[.nil]⟩),
 (215,⟨.st [(0,3,1),(1,3,1),(2,213,1),(3,3,1)],4,[.int .i64, .int .i64, .nil, .int .i64]⟩),
 (219,⟨.st [(0,3,1),(1,3,1),(2,213,1),(3,3,1)],4,[.int .i64, .int .i64, .nil, .int .i64]⟩),
 (231,⟨.st [(0,3,1),(1,3,1),(2,3,1),(3,3,1),(4,3,1),(5,3,1)],6,[.int .i64, .int .i64, .int .i64, .int .i64, .int .i64, .int .i64]⟩),
 (243,⟨.st [(0,3,1),(1,3,1),(2,3,1),(3,4,1)],4,[.int .i64, .int .i64, .int .i64, .bool]⟩),
 (251,⟨.st [(0,3,1),(1,3,1),(2,3,1),(3,4,1)],4,[.int .i64, .int .i64, .int .i64, .bool]⟩),
 (255,⟨.st [(0,3,1),(1,3,1),(2,3,1),(3,3,1),(4,3,1),(5,3,1)],6,[.int .i64, .int .i64, .int .i64, .int .i64, .int .i64, .int .i64]⟩),
 (264,⟨.st [(0,3,1),(1,3,1),(2,3,1),(3,4,1)],4,[.int .i64, .int .i64, .int .i64, .bool]⟩),
 (282,⟨.st [(0,3,1),(1,3,1),(2,3,1),(3,4,1)],4,[.int .i64, .int .i64, .int .i64, .bool]⟩),
 (287,⟨.st [(0,3,1),(1,3,1),(2,3,1)],3,[.int .i64, .int .i64, .int .i64]⟩),
 (291,⟨.st [(0,3,1),(1,3,1),(2,213,1),(3,3,1)],4,[.int .i64, .int .i64, .nil, .int .i64]⟩),
 (293,⟨.sl 358 4 32,1,[.nil]⟩),
 (295,⟨.st [(0,3,1),(1,3,1),(2,293,1)],3,[.int .i64, .int .i64, .nil]⟩),
 (301,⟨.st [(0,3,1),(1,3,1),(2,213,1),(3,3,1)],4,[.int .i64, .int .i64, .nil, .int .i64]⟩),
 (308,⟨.sl 9 1 16,1,[.nil]⟩),
 (323,⟨.sl 87 1 24,1,[.nil]⟩),
 (345,⟨.st [(0,3,1),(1,3,1),(2,3,1),(3,4,1)],4,[.int .i64, .int .i64, .int .i64, .bool]⟩),
 (348,⟨.st [(0,3,1),(1,3,1),(2,3,1)],3,[.int .i64, .int .i64, .int .i64]⟩),
 (358,⟨.st [(0,3,1),(1,3,1),(2,3,1),(3,4,1)],4,[.int .i64, .int .i64, .int .i64, .bool]⟩)]
theorem aAc (n:Nat)(h119:n≠119)(h255:n≠255)(h345:n≠345)(h122:n≠122)(h124:n≠124)(h4:n≠4)(h5:n≠5)(h291:n≠291)(h27:n≠27)(h215:n≠215)(h30:n≠30)(h358:n≠358)(h295:n≠295)(h348:n≠348)(h132:n≠132)(h3:n≠3)(h134:n≠134)(h33:n≠33)(h137:n≠137)(h139:n≠139)(h142:n≠142)(h264:n≠264)(h37:n≠37)(h39:n≠39)(h73:n≠73)(h231:n≠231)(h282:n≠282)(h80:n≠80)(h82:n≠82)(h301:n≠301)(h45:n≠45)(h219:n≠219)(h48:n≠48)(h243:n≠243)(h167:n≠167)(h287:n≠287)(h86:n≠86)(h89:n≠89)(h50:n≠50)(h179:n≠179)(h181:n≠181)(h184:n≠184)(h251:n≠251)(h54:n≠54)(h56:n≠56)(h9:n≠9)(h87:n≠87):El n=Empty:=by
 unfold El
 split<;>first|contradiction|rfl
theorem hc1:∀(τ:Nat) (x:El τ),(gW τ x).map EV.Lf.toV=bL0 τ x:=by
 intro τ x
 by_cases h119:τ=119
 ·subst h119;rfl
 by_cases h255:τ=255
 ·subst h255;rfl
 by_cases h345:τ=345
 ·subst h345;rfl
 by_cases h122:τ=122
 ·subst h122;rfl
 by_cases h124:τ=124
 ·subst h124;rfl
 by_cases h4:τ=4
 ·subst h4;rfl
 by_cases h5:τ=5
 ·subst h5;rfl
 by_cases h291:τ=291
 ·subst h291;rfl
 by_cases h27:τ=27
 ·subst h27;rfl
 by_cases h215:τ=215
 ·subst h215;rfl
 by_cases h30:τ=30
 ·subst h30;rfl
 by_cases h358:τ=358
 ·subst h358;rfl
 by_cases h295:τ=295
 ·subst h295;rfl
 by_cases h348:τ=348
 ·subst h348;rfl
 by_cases h132:τ=132
 ·subst h132;rfl
 by_cases h3:τ=3
 ·subst h3;rfl
 by_cases h134:τ=134
 ·subst h134;rfl
 by_cases h33:τ=33
 ·subst h33;rfl
 by_cases h137:τ=137
 ·subst h137;rfl
 by_cases h139:τ=139
 ·subst h139;rfl
 by_cases h142:τ=142
 ·subst h142;rfl
 by_cases h264:τ=264
 ·subst h264;rfl
 by_cases h37:τ=37
 ·subst h37;rfl
 by_cases h39:τ=39
 ·subst h39;rfl
 by_cases h73:τ=73
 ·subst h73;rfl
 by_cases h231:τ=231
 ·subst h231;rfl
 by_cases h282:τ=282
 ·subst h282;rfl
 by_cases h80:τ=80
 ·subst h80;rfl
 by_cases h82:τ=82
 ·subst h82;rfl
 by_cases h301:τ=301
 ·subst h301;rfl
 by_cases h45:τ=45
 ·subst h45;rfl
 by_cases h219:τ=219
 ·subst h219;rfl
 by_cases h48:τ=48
 ·subst h48;rfl
 by_cases h243:τ=243
 ·subst h243;rfl
 by_cases h167:τ=167
 ·subst h167;rfl
 by_cases h287:τ=287
 ·subst h287;rfl
 by_cases h86:τ=86
 ·subst h86;rfl
 by_cases h89:τ=89
 ·subst h89;rfl
 by_cases h50:τ=50
 ·subst h50;rfl
 by_cases h179:τ=179
 ·subst h179;rfl
 by_cases h181:τ=181
 ·subst h181;rfl
 by_cases h184:τ=184
 ·subst h184;rfl
 by_cases h251:τ=251
 ·subst h251;rfl
 by_cases h54:τ=54
 ·subst h54;rfl
 by_cases h56:τ=56
 ·subst h56;rfl
 by_cases h9:τ=9
 ·subst h9;rfl
 by_cases h87:τ=87
 ·subst h87;rfl
 exact(cast (aAc τ h119 h255 h345 h122 h124 h4 h5 h291 h27 h215 h30 h358 h295 h348 h132 h3 h134 h33 h137 h139 h142 h264 h37 h39 h73 h231 h282 h80 h82 h301 h45 h219 h48 h243 h167 h287 h86 h89 h50 h179 h181 h184 h251 h54 h56 h9 h87) x).elim
theorem hc2:∀(τ:Nat) (x:El τ),(gW τ x).length=Un.K τ:=by
 intro τ x
 by_cases h119:τ=119
 ·subst h119;rfl
 by_cases h255:τ=255
 ·subst h255;rfl
 by_cases h345:τ=345
 ·subst h345;rfl
 by_cases h122:τ=122
 ·subst h122;rfl
 by_cases h124:τ=124
 ·subst h124;rfl
 by_cases h4:τ=4
 ·subst h4;rfl
 by_cases h5:τ=5
 ·subst h5;rfl
 by_cases h291:τ=291
 ·subst h291;rfl
 by_cases h27:τ=27
 ·subst h27;rfl
 by_cases h215:τ=215
 ·subst h215;rfl
 by_cases h30:τ=30
 ·subst h30;rfl
 by_cases h358:τ=358
 ·subst h358;rfl
 by_cases h295:τ=295
 ·subst h295;rfl
 by_cases h348:τ=348
 ·subst h348;rfl
 by_cases h132:τ=132
 ·subst h132;rfl
 by_cases h3:τ=3
 ·subst h3;rfl
 by_cases h134:τ=134
 ·subst h134;rfl
 by_cases h33:τ=33
 ·subst h33;rfl
 by_cases h137:τ=137
 ·subst h137;rfl
 by_cases h139:τ=139
 ·subst h139;rfl
 by_cases h142:τ=142
 ·subst h142;rfl
 by_cases h264:τ=264
 ·subst h264;rfl
 by_cases h37:τ=37
 ·subst h37;rfl
 by_cases h39:τ=39
 ·subst h39;rfl
 by_cases h73:τ=73
 ·subst h73;rfl
 by_cases h231:τ=231
 ·subst h231;rfl
 by_cases h282:τ=282
 ·subst h282;rfl
 by_cases h80:τ=80
 ·subst h80;rfl
 by_cases h82:τ=82
 ·subst h82;rfl
 by_cases h301:τ=301
 ·subst h301;rfl
 by_cases h45:τ=45
 ·subst h45;rfl
 by_cases h219:τ=219
 ·subst h219;rfl
 by_cases h48:τ=48
 ·subst h48;rfl
 by_cases h243:τ=243
 ·subst h243;rfl
 by_cases h167:τ=167
 ·subst h167;rfl
 by_cases h287:τ=287
 ·subst h287;rfl
 by_cases h86:τ=86
 ·subst h86;rfl
 by_cases h89:τ=89
 ·subst h89;rfl
 by_cases h50:τ=50
 ·subst h50;rfl
 by_cases h179:τ=179
 ·subst h179;rfl
 by_cases h181:τ=181
 ·subst h181;rfl
 by_cases h184:τ=184
 ·subst h184;rfl
 by_cases h251:τ=251
 ·subst h251;rfl
 by_cases h54:τ=54
 ·subst h54;rfl
 by_cases h56:τ=56
 ·subst h56;rfl
 by_cases h9:τ=9
 ·subst h9;rfl
 by_cases h87:τ=87
 ·subst h87;rfl
 exact(cast (aAc τ h119 h255 h345 h122 h124 h4 h5 h291 h27 h215 h30 h358 h295 h348 h132 h3 h134 h33 h137 h139 h142 h264 h37 h39 h73 h231 h282 h80 h82 h301 h45 h219 h48 h243 h167 h287 h86 h89 h50 h179 h181 h184 h251 h54 h56 h9 h87) x).elim
theorem hc3:∀(τ:Nat) (x:El τ) (c:EV.Lf Un),c∈gW τ x→c.aAZ=true:=by
 intro τ x c hc
 by_cases h119:τ=119
 ·subst h119;simp only[gW,List.mem_cons,List.not_mem_nil,or_false] at hc;rcases hc with rfl|rfl|rfl|rfl<;>rfl
 by_cases h255:τ=255
 ·subst h255;simp only[gW,List.mem_cons,List.not_mem_nil,or_false] at hc;rcases hc with rfl|rfl|rfl|rfl|rfl|rfl<;>rfl
 by_cases h345:τ=345
 ·subst h345;simp only[gW,List.mem_cons,List.not_mem_nil,or_false] at hc;rcases hc with rfl|rfl|rfl|rfl<;>rfl
 by_cases h122:τ=122
 ·subst h122;simp only[gW,List.mem_cons,List.not_mem_nil,or_false] at hc;rcases hc with rfl<;>rfl
 by_cases h124:τ=124
 ·subst h124;simp only[gW,List.mem_cons,List.not_mem_nil,or_false] at hc;rcases hc with rfl|rfl|rfl|rfl|rfl|rfl|rfl|rfl|rfl<;>rfl
 by_cases h4:τ=4
 ·subst h4;simp only[gW,List.mem_cons,List.not_mem_nil,or_false] at hc;rcases hc with rfl<;>rfl
 by_cases h5:τ=5
 ·subst h5;simp only[gW,List.mem_cons,List.not_mem_nil,or_false] at hc;rcases hc with rfl<;>rfl
 by_cases h291:τ=291
 ·subst h291;simp only[gW,List.mem_cons,List.not_mem_nil,or_false] at hc;rcases hc with rfl|rfl|rfl|rfl<;>rfl
 by_cases h27:τ=27
 ·subst h27;simp only[gW,List.mem_cons,List.not_mem_nil,or_false] at hc;rcases hc with rfl|rfl<;>rfl
 by_cases h215:τ=215
 ·subst h215;simp only[gW,List.mem_cons,List.not_mem_nil,or_false] at hc;rcases hc with rfl|rfl|rfl|rfl<;>rfl
 by_cases h30:τ=30
 ·subst h30;simp only[gW,List.mem_cons,List.not_mem_nil,or_false] at hc;rcases hc with rfl|rfl|rfl|rfl<;>rfl
 by_cases h358:τ=358
 ·subst h358;simp only[gW,List.mem_cons,List.not_mem_nil,or_false] at hc;rcases hc with rfl|rfl|rfl|rfl<;>rfl
 by_cases h295:τ=295
 ·subst h295;simp only[gW,List.mem_cons,List.not_mem_nil,or_false] at hc;rcases hc with rfl|rfl|rfl<;>rfl
 by_cases h348:τ=348
 ·subst h348;simp only[gW,List.mem_cons,List.not_mem_nil,or_false] at hc;rcases hc with rfl|rfl|rfl<;>rfl
 by_cases h132:τ=132
 ·subst h132;simp only[gW,List.mem_cons,List.not_mem_nil,or_false] at hc;rcases hc with rfl|rfl|rfl<;>rfl
 by_cases h3:τ=3
 ·subst h3;simp only[gW,List.mem_cons,List.not_mem_nil,or_false] at hc;rcases hc with rfl<;>rfl
 by_cases h134:τ=134
 ·subst h134;simp only[gW,List.mem_cons,List.not_mem_nil,or_false] at hc;rcases hc with rfl|rfl|rfl|rfl|rfl|rfl<;>rfl
 by_cases h33:τ=33
 ·subst h33;simp only[gW,List.mem_cons,List.not_mem_nil,or_false] at hc;rcases hc with rfl|rfl|rfl|rfl<;>rfl
 by_cases h137:τ=137
 ·subst h137;simp only[gW,List.mem_cons,List.not_mem_nil,or_false] at hc;rcases hc with rfl|rfl<;>rfl
 by_cases h139:τ=139
 ·subst h139;simp only[gW,List.mem_cons,List.not_mem_nil,or_false] at hc;rcases hc with rfl|rfl|rfl|rfl|rfl<;>rfl
 by_cases h142:τ=142
 ·subst h142;simp only[gW,List.mem_cons,List.not_mem_nil,or_false] at hc;rcases hc with rfl|rfl|rfl|rfl|rfl|rfl|rfl<;>rfl
 by_cases h264:τ=264
 ·subst h264;simp only[gW,List.mem_cons,List.not_mem_nil,or_false] at hc;rcases hc with rfl|rfl|rfl|rfl<;>rfl
 by_cases h37:τ=37
 ·subst h37;simp only[gW,List.mem_cons,List.not_mem_nil,or_false] at hc;rcases hc with rfl<;>rfl
 by_cases h39:τ=39
 ·subst h39;simp only[gW,List.mem_cons,List.not_mem_nil,or_false] at hc;rcases hc with rfl|rfl|rfl|rfl|rfl|rfl|rfl|rfl|rfl|rfl|rfl|rfl|rfl|rfl|rfl|rfl<;>rfl
 by_cases h73:τ=73
 ·subst h73;simp only[gW,List.mem_cons,List.not_mem_nil,or_false] at hc;rcases hc with rfl|rfl|rfl|rfl<;>rfl
 by_cases h231:τ=231
 ·subst h231;simp only[gW,List.mem_cons,List.not_mem_nil,or_false] at hc;rcases hc with rfl|rfl|rfl|rfl|rfl|rfl<;>rfl
 by_cases h282:τ=282
 ·subst h282;simp only[gW,List.mem_cons,List.not_mem_nil,or_false] at hc;rcases hc with rfl|rfl|rfl|rfl<;>rfl
 by_cases h80:τ=80
 ·subst h80;simp only[gW,List.mem_cons,List.not_mem_nil,or_false] at hc;rcases hc with rfl<;>rfl
 by_cases h82:τ=82
 ·subst h82;simp only[gW,List.mem_cons,List.not_mem_nil,or_false] at hc;rcases hc with rfl|rfl|rfl|rfl|rfl|rfl|rfl|rfl|rfl<;>rfl
 by_cases h301:τ=301
 ·subst h301;simp only[gW,List.mem_cons,List.not_mem_nil,or_false] at hc;rcases hc with rfl|rfl|rfl|rfl<;>rfl
 by_cases h45:τ=45
 ·subst h45;simp only[gW,List.mem_cons,List.not_mem_nil,or_false] at hc;rcases hc with rfl|rfl<;>rfl
 by_cases h219:τ=219
 ·subst h219;simp only[gW,List.mem_cons,List.not_mem_nil,or_false] at hc;rcases hc with rfl|rfl|rfl|rfl<;>rfl
 by_cases h48:τ=48
 ·subst h48;simp only[gW,List.mem_cons,List.not_mem_nil,or_false] at hc;rcases hc with rfl|rfl|rfl|rfl<;>rfl
 by_cases h243:τ=243
 ·subst h243;simp only[gW,List.mem_cons,List.not_mem_nil,or_false] at hc;rcases hc with rfl|rfl|rfl|rfl<;>rfl
 by_cases h167:τ=167
 ·subst h167;simp only[gW,List.mem_cons,List.not_mem_nil,or_false] at hc;rcases hc with rfl|rfl|rfl<;>rfl
 by_cases h287:τ=287
 ·subst h287;simp only[gW,List.mem_cons,List.not_mem_nil,or_false] at hc;rcases hc with rfl|rfl|rfl<;>rfl
 by_cases h86:τ=86
 ·subst h86;simp only[gW,List.mem_cons,List.not_mem_nil,or_false] at hc;rcases hc with rfl|rfl|rfl<;>rfl
 by_cases h89:τ=89
 ·subst h89;simp only[gW,List.mem_cons,List.not_mem_nil,or_false] at hc;rcases hc with rfl|rfl|rfl|rfl|rfl|rfl<;>rfl
 by_cases h50:τ=50
 ·subst h50;simp only[gW,List.mem_cons,List.not_mem_nil,or_false] at hc;rcases hc with rfl|rfl|rfl|rfl<;>rfl
 by_cases h179:τ=179
 ·subst h179;simp only[gW,List.mem_cons,List.not_mem_nil,or_false] at hc;rcases hc with rfl|rfl<;>rfl
 by_cases h181:τ=181
 ·subst h181;simp only[gW,List.mem_cons,List.not_mem_nil,or_false] at hc;rcases hc with rfl|rfl|rfl|rfl|rfl<;>rfl
 by_cases h184:τ=184
 ·subst h184;simp only[gW,List.mem_cons,List.not_mem_nil,or_false] at hc;rcases hc with rfl|rfl|rfl|rfl|rfl|rfl|rfl<;>rfl
 by_cases h251:τ=251
 ·subst h251;simp only[gW,List.mem_cons,List.not_mem_nil,or_false] at hc;rcases hc with rfl|rfl|rfl|rfl<;>rfl
 by_cases h54:τ=54
 ·subst h54;simp only[gW,List.mem_cons,List.not_mem_nil,or_false] at hc;rcases hc with rfl<;>rfl
 by_cases h56:τ=56
 ·subst h56;simp only[gW,List.mem_cons,List.not_mem_nil,or_false] at hc;rcases hc with rfl|rfl|rfl|rfl|rfl|rfl|rfl|rfl|rfl|rfl|rfl|rfl|rfl|rfl|rfl|rfl<;>rfl
 by_cases h9:τ=9
 ·subst h9;simp only[gW,List.mem_cons,List.not_mem_nil,or_false] at hc;rcases hc with rfl<;>rfl
 by_cases h87:τ=87
 ·subst h87;simp only[gW,List.mem_cons,List.not_mem_nil,or_false] at hc;rcases hc with rfl<;>rfl
 exact(cast (aAc τ h119 h255 h345 h122 h124 h4 h5 h291 h27 h215 h30 h358 h295 h348 h132 h3 h134 h33 h137 h139 h142 h264 h37 h39 h73 h231 h282 h80 h82 h301 h45 h219 h48 h243 h167 h287 h86 h89 h50 h179 h181 h184 h251 h54 h56 h9 h87) x).elim
theorem hc4:∀(τ:Nat) (cs:List (EV.Lf Un)) (x:El τ),bL1 τ cs=some x→cs=gW τ x:=by
 intro τ cs x h
 by_cases h119:τ=119
 ·subst h119;
  obtain⟨c0,c1,c2,c3,rfl⟩:∃c0 c1 c2 c3:EV.Lf Un,cs=[c0,c1,c2,c3]:=by
   match cs,h with
   |[c0,c1,c2,c3],_=>exact⟨c0,c1,c2,c3,rfl⟩
  obtain⟨a0,g0,h⟩:=aC h
  obtain⟨a1,g1,h⟩:=aC h
  obtain⟨a2,g2,h⟩:=aC h
  obtain⟨a3,g3,h⟩:=aC h
  have h:=Option.some.inj h;subst h
  rw[EV.aA g0,EV.aA g1,EV.aA g2,EV.aA g3]
  rfl
 by_cases h255:τ=255
 ·subst h255;
  obtain⟨c0,c1,c2,c3,c4,c5,rfl⟩:∃c0 c1 c2 c3 c4 c5:EV.Lf Un,cs=[c0,c1,c2,c3,c4,c5]:=by
   match cs,h with
   |[c0,c1,c2,c3,c4,c5],_=>exact⟨c0,c1,c2,c3,c4,c5,rfl⟩
  obtain⟨a0,g0,h⟩:=aC h
  obtain⟨a1,g1,h⟩:=aC h
  obtain⟨a2,g2,h⟩:=aC h
  obtain⟨a3,g3,h⟩:=aC h
  obtain⟨a4,g4,h⟩:=aC h
  obtain⟨a5,g5,h⟩:=aC h
  have h:=Option.some.inj h;subst h
  rw[EV.aA g0,EV.aA g1,EV.aA g2,EV.aA g3,EV.aA g4,EV.aA g5]
  rfl
 by_cases h345:τ=345
 ·subst h345;
  obtain⟨c0,c1,c2,c3,rfl⟩:∃c0 c1 c2 c3:EV.Lf Un,cs=[c0,c1,c2,c3]:=by
   match cs,h with
   |[c0,c1,c2,c3],_=>exact⟨c0,c1,c2,c3,rfl⟩
  obtain⟨a0,g0,h⟩:=aC h
  obtain⟨a1,g1,h⟩:=aC h
  obtain⟨a2,g2,h⟩:=aC h
  obtain⟨a3,g3,h⟩:=aC h
  have h:=Option.some.inj h;subst h
  rw[EV.aA g0,EV.aA g1,EV.aA g2,EV.aA g3]
  rfl
 by_cases h122:τ=122
 ·subst h122;
  obtain⟨c0,rfl⟩:∃c0:EV.Lf Un,cs=[c0]:=by
   match cs,h with
   |[c0],_=>exact⟨c0,rfl⟩
  obtain⟨a0,g0,h⟩:=aC h
  have h:=Option.some.inj h;subst h
  rw[EV.aA g0]
  rfl
 by_cases h124:τ=124
 ·subst h124;
  obtain⟨c0,c1,c2,c3,c4,c5,c6,c7,c8,rfl⟩:∃c0 c1 c2 c3 c4 c5 c6 c7 c8:EV.Lf Un,cs=[c0,c1,c2,c3,c4,c5,c6,c7,c8]:=by
   match cs,h with
   |[c0,c1,c2,c3,c4,c5,c6,c7,c8],_=>exact⟨c0,c1,c2,c3,c4,c5,c6,c7,c8,rfl⟩
  obtain⟨a0,g0,h⟩:=aC h
  obtain⟨a1,g1,h⟩:=aC h
  obtain⟨a2,g2,h⟩:=aC h
  obtain⟨a3,g3,h⟩:=aC h
  obtain⟨a4,g4,h⟩:=aC h
  obtain⟨a5,g5,h⟩:=aC h
  obtain⟨a6,g6,h⟩:=aC h
  obtain⟨a7,g7,h⟩:=aC h
  obtain⟨a8,g8,h⟩:=aC h
  have h:=Option.some.inj h;subst h
  rw[EV.aA g0,EV.aA g1,EV.aA g2,EV.aA g3,EV.aA g4,EV.aA g5,EV.aA g6,EV.aA g7,EV.aA g8]
  rfl
 by_cases h4:τ=4
 ·subst h4;
  obtain⟨c0,rfl⟩:∃c0:EV.Lf Un,cs=[c0]:=by
   match cs,h with
   |[c0],_=>exact⟨c0,rfl⟩
  obtain⟨a0,g0,h⟩:=aC h
  have h:=Option.some.inj h;subst h
  rw[EV.aA g0]
  rfl
 by_cases h5:τ=5
 ·subst h5;
  obtain⟨c0,rfl⟩:∃c0:EV.Lf Un,cs=[c0]:=by
   match cs,h with
   |[c0],_=>exact⟨c0,rfl⟩
  obtain⟨a0,g0,h⟩:=aC h
  have h:=Option.some.inj h;subst h
  rw[EV.aA g0]
  rfl
 by_cases h291:τ=291
 ·subst h291;
  obtain⟨c0,c1,c2,c3,rfl⟩:∃c0 c1 c2 c3:EV.Lf Un,cs=[c0,c1,c2,c3]:=by
   match cs,h with
   |[c0,c1,c2,c3],_=>exact⟨c0,c1,c2,c3,rfl⟩
  obtain⟨a0,g0,h⟩:=aC h
  obtain⟨a1,g1,h⟩:=aC h
  obtain⟨a2,g2,h⟩:=aC h
  obtain⟨a3,g3,h⟩:=aC h
  have h:=Option.some.inj h;subst h
  rw[EV.aA g0,EV.aA g1,EV.aA g2,EV.aA g3]
  rfl
 by_cases h27:τ=27
 ·subst h27;
  obtain⟨c0,c1,rfl⟩:∃c0 c1:EV.Lf Un,cs=[c0,c1]:=by
   match cs,h with
   |[c0,c1],_=>exact⟨c0,c1,rfl⟩
  obtain⟨a0,g0,h⟩:=aC h
  obtain⟨a1,g1,h⟩:=aC h
  have h:=Option.some.inj h;subst h
  rw[EV.aA g0,EV.aA g1]
  rfl
 by_cases h215:τ=215
 ·subst h215;
  obtain⟨c0,c1,c2,c3,rfl⟩:∃c0 c1 c2 c3:EV.Lf Un,cs=[c0,c1,c2,c3]:=by
   match cs,h with
   |[c0,c1,c2,c3],_=>exact⟨c0,c1,c2,c3,rfl⟩
  obtain⟨a0,g0,h⟩:=aC h
  obtain⟨a1,g1,h⟩:=aC h
  obtain⟨a2,g2,h⟩:=aC h
  obtain⟨a3,g3,h⟩:=aC h
  have h:=Option.some.inj h;subst h
  rw[EV.aA g0,EV.aA g1,EV.aA g2,EV.aA g3]
  rfl
 by_cases h30:τ=30
 ·subst h30;
  obtain⟨c0,c1,c2,c3,rfl⟩:∃c0 c1 c2 c3:EV.Lf Un,cs=[c0,c1,c2,c3]:=by
   match cs,h with
   |[c0,c1,c2,c3],_=>exact⟨c0,c1,c2,c3,rfl⟩
  obtain⟨a0,g0,h⟩:=aC h
  obtain⟨a1,g1,h⟩:=aC h
  obtain⟨a2,g2,h⟩:=aC h
  obtain⟨a3,g3,h⟩:=aC h
  have h:=Option.some.inj h;subst h
  rw[EV.aA g0,EV.aA g1,EV.aA g2,EV.aA g3]
  rfl
 by_cases h358:τ=358
 ·subst h358;
  obtain⟨c0,c1,c2,c3,rfl⟩:∃c0 c1 c2 c3:EV.Lf Un,cs=[c0,c1,c2,c3]:=by
   match cs,h with
   |[c0,c1,c2,c3],_=>exact⟨c0,c1,c2,c3,rfl⟩
  obtain⟨a0,g0,h⟩:=aC h
  obtain⟨a1,g1,h⟩:=aC h
  obtain⟨a2,g2,h⟩:=aC h
  obtain⟨a3,g3,h⟩:=aC h
  have h:=Option.some.inj h;subst h
  rw[EV.aA g0,EV.aA g1,EV.aA g2,EV.aA g3]
  rfl
 by_cases h295:τ=295
 ·subst h295;
  obtain⟨c0,c1,c2,rfl⟩:∃c0 c1 c2:EV.Lf Un,cs=[c0,c1,c2]:=by
   match cs,h with
   |[c0,c1,c2],_=>exact⟨c0,c1,c2,rfl⟩
  obtain⟨a0,g0,h⟩:=aC h
  obtain⟨a1,g1,h⟩:=aC h
  obtain⟨a2,g2,h⟩:=aC h
  have h:=Option.some.inj h;subst h
  rw[EV.aA g0,EV.aA g1,EV.aA g2]
  rfl
 by_cases h348:τ=348
 ·subst h348;
  obtain⟨c0,c1,c2,rfl⟩:∃c0 c1 c2:EV.Lf Un,cs=[c0,c1,c2]:=by
   match cs,h with
   |[c0,c1,c2],_=>exact⟨c0,c1,c2,rfl⟩
  obtain⟨a0,g0,h⟩:=aC h
  obtain⟨a1,g1,h⟩:=aC h
  obtain⟨a2,g2,h⟩:=aC h
  have h:=Option.some.inj h;subst h
  rw[EV.aA g0,EV.aA g1,EV.aA g2]
  rfl
 by_cases h132:τ=132
 ·subst h132;
  obtain⟨c0,c1,c2,rfl⟩:∃c0 c1 c2:EV.Lf Un,cs=[c0,c1,c2]:=by
   match cs,h with
   |[c0,c1,c2],_=>exact⟨c0,c1,c2,rfl⟩
  obtain⟨a0,g0,h⟩:=aC h
  obtain⟨a1,g1,h⟩:=aC h
  obtain⟨a2,g2,h⟩:=aC h
  have h:=Option.some.inj h;subst h
  rw[EV.aA g0,EV.aA g1,EV.aA g2]
  rfl
 by_cases h3:τ=3
 ·subst h3;
  obtain⟨c0,rfl⟩:∃c0:EV.Lf Un,cs=[c0]:=by
   match cs,h with
   |[c0],_=>exact⟨c0,rfl⟩
  obtain⟨a0,g0,h⟩:=aC h
  have h:=Option.some.inj h;subst h
  rw[EV.aA g0]
  rfl
 by_cases h134:τ=134
 ·subst h134;
  obtain⟨c0,c1,c2,c3,c4,c5,rfl⟩:∃c0 c1 c2 c3 c4 c5:EV.Lf Un,cs=[c0,c1,c2,c3,c4,c5]:=by
   match cs,h with
   |[c0,c1,c2,c3,c4,c5],_=>exact⟨c0,c1,c2,c3,c4,c5,rfl⟩
  obtain⟨a0,g0,h⟩:=aC h
  obtain⟨a1,g1,h⟩:=aC h
  obtain⟨a2,g2,h⟩:=aC h
  obtain⟨a3,g3,h⟩:=aC h
  obtain⟨a4,g4,h⟩:=aC h
  obtain⟨a5,g5,h⟩:=aC h
  have h:=Option.some.inj h;subst h
  rw[EV.aA g0,EV.aA g1,EV.aA g2,EV.aA g3,EV.aA g4,EV.aA g5]
  rfl
 by_cases h33:τ=33
 ·subst h33;
  obtain⟨c0,c1,c2,c3,rfl⟩:∃c0 c1 c2 c3:EV.Lf Un,cs=[c0,c1,c2,c3]:=by
   match cs,h with
   |[c0,c1,c2,c3],_=>exact⟨c0,c1,c2,c3,rfl⟩
  obtain⟨a0,g0,h⟩:=aC h
  obtain⟨a1,g1,h⟩:=aC h
  obtain⟨a2,g2,h⟩:=aC h
  obtain⟨a3,g3,h⟩:=aC h
  have h:=Option.some.inj h;subst h
  rw[EV.aA g0,EV.aA g1,EV.aA g2,EV.aA g3]
  rfl
 by_cases h137:τ=137
 ·subst h137;
  obtain⟨c0,c1,rfl⟩:∃c0 c1:EV.Lf Un,cs=[c0,c1]:=by
   match cs,h with
   |[c0,c1],_=>exact⟨c0,c1,rfl⟩
  obtain⟨a0,g0,h⟩:=aC h
  obtain⟨a1,g1,h⟩:=aC h
  have h:=Option.some.inj h;subst h
  rw[EV.aA g0,EV.aA g1]
  rfl
 by_cases h139:τ=139
 ·subst h139;
  obtain⟨c0,c1,c2,c3,c4,rfl⟩:∃c0 c1 c2 c3 c4:EV.Lf Un,cs=[c0,c1,c2,c3,c4]:=by
   match cs,h with
   |[c0,c1,c2,c3,c4],_=>exact⟨c0,c1,c2,c3,c4,rfl⟩
  obtain⟨a0,g0,h⟩:=aC h
  obtain⟨a1,g1,h⟩:=aC h
  obtain⟨a2,g2,h⟩:=aC h
  obtain⟨a3,g3,h⟩:=aC h
  obtain⟨a4,g4,h⟩:=aC h
  have h:=Option.some.inj h;subst h
  rw[EV.aA g0,EV.aA g1,EV.aA g2,EV.aA g3,EV.aA g4]
  rfl
 by_cases h142:τ=142
 ·subst h142;
  obtain⟨c0,c1,c2,c3,c4,c5,c6,rfl⟩:∃c0 c1 c2 c3 c4 c5 c6:EV.Lf Un,cs=[c0,c1,c2,c3,c4,c5,c6]:=by
   match cs,h with
   |[c0,c1,c2,c3,c4,c5,c6],_=>exact⟨c0,c1,c2,c3,c4,c5,c6,rfl⟩
  obtain⟨a0,g0,h⟩:=aC h
  obtain⟨a1,g1,h⟩:=aC h
  obtain⟨a2,g2,h⟩:=aC h
  obtain⟨a3,g3,h⟩:=aC h
  obtain⟨a4,g4,h⟩:=aC h
  obtain⟨a5,g5,h⟩:=aC h
  obtain⟨a6,g6,h⟩:=aC h
  have h:=Option.some.inj h;subst h
  rw[EV.aA g0,EV.aA g1,EV.aA g2,EV.aA g3,EV.aA g4,EV.aA g5,EV.aA g6]
  rfl
 by_cases h264:τ=264
 ·subst h264;
  obtain⟨c0,c1,c2,c3,rfl⟩:∃c0 c1 c2 c3:EV.Lf Un,cs=[c0,c1,c2,c3]:=by
   match cs,h with
   |[c0,c1,c2,c3],_=>exact⟨c0,c1,c2,c3,rfl⟩
  obtain⟨a0,g0,h⟩:=aC h
  obtain⟨a1,g1,h⟩:=aC h
  obtain⟨a2,g2,h⟩:=aC h
  obtain⟨a3,g3,h⟩:=aC h
  have h:=Option.some.inj h;subst h
  rw[EV.aA g0,EV.aA g1,EV.aA g2,EV.aA g3]
  rfl
 by_cases h37:τ=37
 ·subst h37;
  obtain⟨c0,rfl⟩:∃c0:EV.Lf Un,cs=[c0]:=by
   match cs,h with
   |[c0],_=>exact⟨c0,rfl⟩
  obtain⟨a0,g0,h⟩:=aC h
  have h:=Option.some.inj h;subst h
  rw[EV.aA g0]
  rfl
 by_cases h39:τ=39
 ·subst h39;
  obtain⟨c0,c1,c2,c3,c4,c5,c6,c7,c8,c9,c10,c11,c12,c13,c14,c15,rfl⟩:∃c0 c1 c2 c3 c4 c5 c6 c7 c8 c9 c10 c11 c12 c13 c14 c15:EV.Lf Un,cs=[c0,c1,c2,c3,c4,c5,c6,c7,c8,c9,c10,c11,c12,c13,c14,c15]:=by
   match cs,h with
   |[c0,c1,c2,c3,c4,c5,c6,c7,c8,c9,c10,c11,c12,c13,c14,c15],_=>exact⟨c0,c1,c2,c3,c4,c5,c6,c7,c8,c9,c10,c11,c12,c13,c14,c15,rfl⟩
  obtain⟨a0,g0,h⟩:=aC h
  obtain⟨a1,g1,h⟩:=aC h
  obtain⟨a2,g2,h⟩:=aC h
  obtain⟨a3,g3,h⟩:=aC h
  obtain⟨a4,g4,h⟩:=aC h
  obtain⟨a5,g5,h⟩:=aC h
  obtain⟨a6,g6,h⟩:=aC h
  obtain⟨a7,g7,h⟩:=aC h
  obtain⟨a8,g8,h⟩:=aC h
  obtain⟨a9,g9,h⟩:=aC h
  obtain⟨a10,g10,h⟩:=aC h
  obtain⟨a11,g11,h⟩:=aC h
  obtain⟨a12,g12,h⟩:=aC h
  obtain⟨a13,g13,h⟩:=aC h
  obtain⟨a14,g14,h⟩:=aC h
  obtain⟨a15,g15,h⟩:=aC h
  have h:=Option.some.inj h;subst h
  rw[EV.aA g0,EV.aA g1,EV.aA g2,EV.aA g3,EV.aA g4,EV.aA g5,EV.aA g6,EV.aA g7,EV.aA g8,EV.aA g9,EV.aA g10,EV.aA g11,EV.aA g12,EV.aA g13,EV.aA g14,EV.aA g15]
  rfl
 by_cases h73:τ=73
 ·subst h73;
  obtain⟨c0,c1,c2,c3,rfl⟩:∃c0 c1 c2 c3:EV.Lf Un,cs=[c0,c1,c2,c3]:=by
   match cs,h with
   |[c0,c1,c2,c3],_=>exact⟨c0,c1,c2,c3,rfl⟩
  obtain⟨a0,g0,h⟩:=aC h
  obtain⟨a1,g1,h⟩:=aC h
  obtain⟨a2,g2,h⟩:=aC h
  obtain⟨a3,g3,h⟩:=aC h
  have h:=Option.some.inj h;subst h
  rw[EV.aA g0,EV.aA g1,EV.aA g2,EV.aA g3]
  rfl
 by_cases h231:τ=231
 ·subst h231;
  obtain⟨c0,c1,c2,c3,c4,c5,rfl⟩:∃c0 c1 c2 c3 c4 c5:EV.Lf Un,cs=[c0,c1,c2,c3,c4,c5]:=by
   match cs,h with
   |[c0,c1,c2,c3,c4,c5],_=>exact⟨c0,c1,c2,c3,c4,c5,rfl⟩
  obtain⟨a0,g0,h⟩:=aC h
  obtain⟨a1,g1,h⟩:=aC h
  obtain⟨a2,g2,h⟩:=aC h
  obtain⟨a3,g3,h⟩:=aC h
  obtain⟨a4,g4,h⟩:=aC h
  obtain⟨a5,g5,h⟩:=aC h
  have h:=Option.some.inj h;subst h
  rw[EV.aA g0,EV.aA g1,EV.aA g2,EV.aA g3,EV.aA g4,EV.aA g5]
  rfl
 by_cases h282:τ=282
 ·subst h282;
  obtain⟨c0,c1,c2,c3,rfl⟩:∃c0 c1 c2 c3:EV.Lf Un,cs=[c0,c1,c2,c3]:=by
   match cs,h with
   |[c0,c1,c2,c3],_=>exact⟨c0,c1,c2,c3,rfl⟩
  obtain⟨a0,g0,h⟩:=aC h
  obtain⟨a1,g1,h⟩:=aC h
  obtain⟨a2,g2,h⟩:=aC h
  obtain⟨a3,g3,h⟩:=aC h
  have h:=Option.some.inj h;subst h
  rw[EV.aA g0,EV.aA g1,EV.aA g2,EV.aA g3]
  rfl
 by_cases h80:τ=80
 ·subst h80;
  obtain⟨c0,rfl⟩:∃c0:EV.Lf Un,cs=[c0]:=by
   match cs,h with
   |[c0],_=>exact⟨c0,rfl⟩
  obtain⟨a0,g0,h⟩:=aC h
  have h:=Option.some.inj h;subst h
  rw[EV.aA g0]
  rfl
 by_cases h82:τ=82
 ·subst h82;
  obtain⟨c0,c1,c2,c3,c4,c5,c6,c7,c8,rfl⟩:∃c0 c1 c2 c3 c4 c5 c6 c7 c8:EV.Lf Un,cs=[c0,c1,c2,c3,c4,c5,c6,c7,c8]:=by
   match cs,h with
   |[c0,c1,c2,c3,c4,c5,c6,c7,c8],_=>exact⟨c0,c1,c2,c3,c4,c5,c6,c7,c8,rfl⟩
  obtain⟨a0,g0,h⟩:=aC h
  obtain⟨a1,g1,h⟩:=aC h
  obtain⟨a2,g2,h⟩:=aC h
  obtain⟨a3,g3,h⟩:=aC h
  obtain⟨a4,g4,h⟩:=aC h
  obtain⟨a5,g5,h⟩:=aC h
  obtain⟨a6,g6,h⟩:=aC h
  obtain⟨a7,g7,h⟩:=aC h
  obtain⟨a8,g8,h⟩:=aC h
  have h:=Option.some.inj h;subst h
  rw[EV.aA g0,EV.aA g1,EV.aA g2,EV.aA g3,EV.aA g4,EV.aA g5,EV.aA g6,EV.aA g7,EV.aA g8]
  rfl
 by_cases h301:τ=301
 ·subst h301;
  obtain⟨c0,c1,c2,c3,rfl⟩:∃c0 c1 c2 c3:EV.Lf Un,cs=[c0,c1,c2,c3]:=by
   match cs,h with
   |[c0,c1,c2,c3],_=>exact⟨c0,c1,c2,c3,rfl⟩
  obtain⟨a0,g0,h⟩:=aC h
  obtain⟨a1,g1,h⟩:=aC h
  obtain⟨a2,g2,h⟩:=aC h
  obtain⟨a3,g3,h⟩:=aC h
  have h:=Option.some.inj h;subst h
  rw[EV.aA g0,EV.aA g1,EV.aA g2,EV.aA g3]
  rfl
 by_cases h45:τ=45
 ·subst h45;
  obtain⟨c0,c1,rfl⟩:∃c0 c1:EV.Lf Un,cs=[c0,c1]:=by
   match cs,h with
   |[c0,c1],_=>exact⟨c0,c1,rfl⟩
  obtain⟨a0,g0,h⟩:=aC h
  obtain⟨a1,g1,h⟩:=aC h
  have h:=Option.some.inj h;subst h
  rw[EV.aA g0,EV.aA g1]
  rfl
 by_cases h219:τ=219
 ·subst h219;
  obtain⟨c0,c1,c2,c3,rfl⟩:∃c0 c1 c2 c3:EV.Lf Un,cs=[c0,c1,c2,c3]:=by
   match cs,h with
   |[c0,c1,c2,c3],_=>exact⟨c0,c1,c2,c3,rfl⟩
  obtain⟨a0,g0,h⟩:=aC h
  obtain⟨a1,g1,h⟩:=aC h
  obtain⟨a2,g2,h⟩:=aC h
  obtain⟨a3,g3,h⟩:=aC h
  have h:=Option.some.inj h;subst h
  rw[EV.aA g0,EV.aA g1,EV.aA g2,EV.aA g3]
  rfl
 by_cases h48:τ=48
 ·subst h48;
  obtain⟨c0,c1,c2,c3,rfl⟩:∃c0 c1 c2 c3:EV.Lf Un,cs=[c0,c1,c2,c3]:=by
   match cs,h with
   |[c0,c1,c2,c3],_=>exact⟨c0,c1,c2,c3,rfl⟩
  obtain⟨a0,g0,h⟩:=aC h
  obtain⟨a1,g1,h⟩:=aC h
  obtain⟨a2,g2,h⟩:=aC h
  obtain⟨a3,g3,h⟩:=aC h
  have h:=Option.some.inj h;subst h
  rw[EV.aA g0,EV.aA g1,EV.aA g2,EV.aA g3]
  rfl
 by_cases h243:τ=243
 ·subst h243;
  obtain⟨c0,c1,c2,c3,rfl⟩:∃c0 c1 c2 c3:EV.Lf Un,cs=[c0,c1,c2,c3]:=by
   match cs,h with
   |[c0,c1,c2,c3],_=>exact⟨c0,c1,c2,c3,rfl⟩
  obtain⟨a0,g0,h⟩:=aC h
  obtain⟨a1,g1,h⟩:=aC h
  obtain⟨a2,g2,h⟩:=aC h
  obtain⟨a3,g3,h⟩:=aC h
  have h:=Option.some.inj h;subst h
  rw[EV.aA g0,EV.aA g1,EV.aA g2,EV.aA g3]
  rfl
 by_cases h167:τ=167
 ·subst h167;
  obtain⟨c0,c1,c2,rfl⟩:∃c0 c1 c2:EV.Lf Un,cs=[c0,c1,c2]:=by
   match cs,h with
   |[c0,c1,c2],_=>exact⟨c0,c1,c2,rfl⟩
  obtain⟨a0,g0,h⟩:=aC h
  obtain⟨a1,g1,h⟩:=aC h
  obtain⟨a2,g2,h⟩:=aC h
  have h:=Option.some.inj h;subst h
  rw[EV.aA g0,EV.aA g1,EV.aA g2]
  rfl
 by_cases h287:τ=287
 ·subst h287;
  obtain⟨c0,c1,c2,rfl⟩:∃c0 c1 c2:EV.Lf Un,cs=[c0,c1,c2]:=by
   match cs,h with
   |[c0,c1,c2],_=>exact⟨c0,c1,c2,rfl⟩
  obtain⟨a0,g0,h⟩:=aC h
  obtain⟨a1,g1,h⟩:=aC h
  obtain⟨a2,g2,h⟩:=aC h
  have h:=Option.some.inj h;subst h
  rw[EV.aA g0,EV.aA g1,EV.aA g2]
  rfl
 by_cases h86:τ=86
 ·subst h86;
  obtain⟨c0,c1,c2,rfl⟩:∃c0 c1 c2:EV.Lf Un,cs=[c0,c1,c2]:=by
   match cs,h with
   |[c0,c1,c2],_=>exact⟨c0,c1,c2,rfl⟩
  obtain⟨a0,g0,h⟩:=aC h
  obtain⟨a1,g1,h⟩:=aC h
  obtain⟨a2,g2,h⟩:=aC h
  have h:=Option.some.inj h;subst h
  rw[EV.aA g0,EV.aA g1,EV.aA g2]
  rfl
 by_cases h89:τ=89
 ·subst h89;
  obtain⟨c0,c1,c2,c3,c4,c5,rfl⟩:∃c0 c1 c2 c3 c4 c5:EV.Lf Un,cs=[c0,c1,c2,c3,c4,c5]:=by
   match cs,h with
   |[c0,c1,c2,c3,c4,c5],_=>exact⟨c0,c1,c2,c3,c4,c5,rfl⟩
  obtain⟨a0,g0,h⟩:=aC h
  obtain⟨a1,g1,h⟩:=aC h
  obtain⟨a2,g2,h⟩:=aC h
  obtain⟨a3,g3,h⟩:=aC h
  obtain⟨a4,g4,h⟩:=aC h
  obtain⟨a5,g5,h⟩:=aC h
  have h:=Option.some.inj h;subst h
  rw[EV.aA g0,EV.aA g1,EV.aA g2,EV.aA g3,EV.aA g4,EV.aA g5]
  rfl
 by_cases h50:τ=50
 ·subst h50;
  obtain⟨c0,c1,c2,c3,rfl⟩:∃c0 c1 c2 c3:EV.Lf Un,cs=[c0,c1,c2,c3]:=by
   match cs,h with
   |[c0,c1,c2,c3],_=>exact⟨c0,c1,c2,c3,rfl⟩
  obtain⟨a0,g0,h⟩:=aC h
  obtain⟨a1,g1,h⟩:=aC h
  obtain⟨a2,g2,h⟩:=aC h
  obtain⟨a3,g3,h⟩:=aC h
  have h:=Option.some.inj h;subst h
  rw[EV.aA g0,EV.aA g1,EV.aA g2,EV.aA g3]
  rfl
 by_cases h179:τ=179
 ·subst h179;
  obtain⟨c0,c1,rfl⟩:∃c0 c1:EV.Lf Un,cs=[c0,c1]:=by
   match cs,h with
   |[c0,c1],_=>exact⟨c0,c1,rfl⟩
  obtain⟨a0,g0,h⟩:=aC h
  obtain⟨a1,g1,h⟩:=aC h
  have h:=Option.some.inj h;subst h
  rw[EV.aA g0,EV.aA g1]
  rfl
 by_cases h181:τ=181
 ·subst h181;
  obtain⟨c0,c1,c2,c3,c4,rfl⟩:∃c0 c1 c2 c3 c4:EV.Lf Un,cs=[c0,c1,c2,c3,c4]:=by
   match cs,h with
   |[c0,c1,c2,c3,c4],_=>exact⟨c0,c1,c2,c3,c4,rfl⟩
  obtain⟨a0,g0,h⟩:=aC h
  obtain⟨a1,g1,h⟩:=aC h
  obtain⟨a2,g2,h⟩:=aC h
  obtain⟨a3,g3,h⟩:=aC h
  obtain⟨a4,g4,h⟩:=aC h
  have h:=Option.some.inj h;subst h
  rw[EV.aA g0,EV.aA g1,EV.aA g2,EV.aA g3,EV.aA g4]
  rfl
 by_cases h184:τ=184
 ·subst h184;
  obtain⟨c0,c1,c2,c3,c4,c5,c6,rfl⟩:∃c0 c1 c2 c3 c4 c5 c6:EV.Lf Un,cs=[c0,c1,c2,c3,c4,c5,c6]:=by
   match cs,h with
   |[c0,c1,c2,c3,c4,c5,c6],_=>exact⟨c0,c1,c2,c3,c4,c5,c6,rfl⟩
  obtain⟨a0,g0,h⟩:=aC h
  obtain⟨a1,g1,h⟩:=aC h
  obtain⟨a2,g2,h⟩:=aC h
  obtain⟨a3,g3,h⟩:=aC h
  obtain⟨a4,g4,h⟩:=aC h
  obtain⟨a5,g5,h⟩:=aC h
  obtain⟨a6,g6,h⟩:=aC h
  have h:=Option.some.inj h;subst h
  rw[EV.aA g0,EV.aA g1,EV.aA g2,EV.aA g3,EV.aA g4,EV.aA g5,EV.aA g6]
  rfl
 by_cases h251:τ=251
 ·subst h251;
  obtain⟨c0,c1,c2,c3,rfl⟩:∃c0 c1 c2 c3:EV.Lf Un,cs=[c0,c1,c2,c3]:=by
   match cs,h with
   |[c0,c1,c2,c3],_=>exact⟨c0,c1,c2,c3,rfl⟩
  obtain⟨a0,g0,h⟩:=aC h
  obtain⟨a1,g1,h⟩:=aC h
  obtain⟨a2,g2,h⟩:=aC h
  obtain⟨a3,g3,h⟩:=aC h
  have h:=Option.some.inj h;subst h
  rw[EV.aA g0,EV.aA g1,EV.aA g2,EV.aA g3]
  rfl
 by_cases h54:τ=54
 ·subst h54;
  obtain⟨c0,rfl⟩:∃c0:EV.Lf Un,cs=[c0]:=by
   match cs,h with
   |[c0],_=>exact⟨c0,rfl⟩
  obtain⟨a0,g0,h⟩:=aC h
  have h:=Option.some.inj h;subst h
  rw[EV.aA g0]
  rfl
 by_cases h56:τ=56
 ·subst h56;
  obtain⟨c0,c1,c2,c3,c4,c5,c6,c7,c8,c9,c10,c11,c12,c13,c14,c15,rfl⟩:∃c0 c1 c2 c3 c4 c5 c6 c7 c8 c9 c10 c11 c12 c13 c14 c15:EV.Lf Un,cs=[c0,c1,c2,c3,c4,c5,c6,c7,c8,c9,c10,c11,c12,c13,c14,c15]:=by
   match cs,h with
   |[c0,c1,c2,c3,c4,c5,c6,c7,c8,c9,c10,c11,c12,c13,c14,c15],_=>exact⟨c0,c1,c2,c3,c4,c5,c6,c7,c8,c9,c10,c11,c12,c13,c14,c15,rfl⟩
  obtain⟨a0,g0,h⟩:=aC h
  obtain⟨a1,g1,h⟩:=aC h
  obtain⟨a2,g2,h⟩:=aC h
  obtain⟨a3,g3,h⟩:=aC h
  obtain⟨a4,g4,h⟩:=aC h
  obtain⟨a5,g5,h⟩:=aC h
  obtain⟨a6,g6,h⟩:=aC h
  obtain⟨a7,g7,h⟩:=aC h
  obtain⟨a8,g8,h⟩:=aC h
  obtain⟨a9,g9,h⟩:=aC h
  obtain⟨a10,g10,h⟩:=aC h
  obtain⟨a11,g11,h⟩:=aC h
  obtain⟨a12,g12,h⟩:=aC h
  obtain⟨a13,g13,h⟩:=aC h
  obtain⟨a14,g14,h⟩:=aC h
  obtain⟨a15,g15,h⟩:=aC h
  have h:=Option.some.inj h;subst h
  rw[EV.aA g0,EV.aA g1,EV.aA g2,EV.aA g3,EV.aA g4,EV.aA g5,EV.aA g6,EV.aA g7,EV.aA g8,EV.aA g9,EV.aA g10,EV.aA g11,EV.aA g12,EV.aA g13,EV.aA g14,EV.aA g15]
  rfl
 by_cases h9:τ=9
 ·subst h9;
  obtain⟨c0,rfl⟩:∃c0:EV.Lf Un,cs=[c0]:=by
   match cs,h with
   |[c0],_=>exact⟨c0,rfl⟩
  obtain⟨a0,g0,h⟩:=aC h
  have h:=Option.some.inj h;subst h
  rw[EV.aA g0]
  rfl
 by_cases h87:τ=87
 ·subst h87;
  obtain⟨c0,rfl⟩:∃c0:EV.Lf Un,cs=[c0]:=by
   match cs,h with
   |[c0],_=>exact⟨c0,rfl⟩
  obtain⟨a0,g0,h⟩:=aC h
  have h:=Option.some.inj h;subst h
  rw[EV.aA g0]
  rfl
 exact(cast (aAc τ h119 h255 h345 h122 h124 h4 h5 h291 h27 h215 h30 h358 h295 h348 h132 h3 h134 h33 h137 h139 h142 h264 h37 h39 h73 h231 h282 h80 h82 h301 h45 h219 h48 h243 h167 h287 h86 h89 h50 h179 h181 h184 h251 h54 h56 h9 h87) x).elim
def Yn:EV.Lay Un:=⟨⟨gW,bL1,hc1,hc2,hc3,hc4⟩,kdE,5,fun n=>n,fun n=>n,fun _=>rfl,fun _=>rfl⟩
theorem ly1:∀(τ:Nat) (x:El τ),(gW τ x).map EV.kdL=(kdE τ).map some:=by
 intro τ x
 by_cases h119:τ=119
 ·subst h119;rfl
 by_cases h255:τ=255
 ·subst h255;rfl
 by_cases h345:τ=345
 ·subst h345;rfl
 by_cases h122:τ=122
 ·subst h122;rfl
 by_cases h124:τ=124
 ·subst h124;rfl
 by_cases h4:τ=4
 ·subst h4;rfl
 by_cases h5:τ=5
 ·subst h5;rfl
 by_cases h291:τ=291
 ·subst h291;rfl
 by_cases h27:τ=27
 ·subst h27;rfl
 by_cases h215:τ=215
 ·subst h215;rfl
 by_cases h30:τ=30
 ·subst h30;rfl
 by_cases h358:τ=358
 ·subst h358;rfl
 by_cases h295:τ=295
 ·subst h295;rfl
 by_cases h348:τ=348
 ·subst h348;rfl
 by_cases h132:τ=132
 ·subst h132;rfl
 by_cases h3:τ=3
 ·subst h3;rfl
 by_cases h134:τ=134
 ·subst h134;rfl
 by_cases h33:τ=33
 ·subst h33;rfl
 by_cases h137:τ=137
 ·subst h137;rfl
 by_cases h139:τ=139
 ·subst h139;rfl
 by_cases h142:τ=142
 ·subst h142;rfl
 by_cases h264:τ=264
 ·subst h264;rfl
 by_cases h37:τ=37
 ·subst h37;rfl
 by_cases h39:τ=39
 ·subst h39;rfl
 by_cases h73:τ=73
 ·subst h73;rfl
 by_cases h231:τ=231
 ·subst h231;rfl
 by_cases h282:τ=282
 ·subst h282;rfl
 by_cases h80:τ=80
 ·subst h80;rfl
 by_cases h82:τ=82
 ·subst h82;rfl
 by_cases h301:τ=301
 ·subst h301;rfl
 by_cases h45:τ=45
 ·subst h45;rfl
 by_cases h219:τ=219
 ·subst h219;rfl
 by_cases h48:τ=48
 ·subst h48;rfl
 by_cases h243:τ=243
 ·subst h243;rfl
 by_cases h167:τ=167
 ·subst h167;rfl
 by_cases h287:τ=287
 ·subst h287;rfl
 by_cases h86:τ=86
 ·subst h86;rfl
 by_cases h89:τ=89
 ·subst h89;rfl
 by_cases h50:τ=50
 ·subst h50;rfl
 by_cases h179:τ=179
 ·subst h179;rfl
 by_cases h181:τ=181
 ·subst h181;rfl
 by_cases h184:τ=184
 ·subst h184;rfl
 by_cases h251:τ=251
 ·subst h251;rfl
 by_cases h54:τ=54
 ·subst h54;rfl
 by_cases h56:τ=56
 ·subst h56;rfl
 by_cases h9:τ=9
 ·subst h9;rfl
 by_cases h87:τ=87
 ·subst h87;rfl
 exact(cast (aAc τ h119 h255 h345 h122 h124 h4 h5 h291 h27 h215 h30 h358 h295 h348 h132 h3 h134 h33 h137 h139 h142 h264 h37 h39 h73 h231 h282 h80 h82 h301 h45 h219 h48 h243 h167 h287 h86 h89 h50 h179 h181 h184 h251 h54 h56 h9 h87) x).elim
theorem ly2:∀(τ τ':Nat),EV.Kd.sl τ'∈kdE τ→0<Un.K τ':=by
 intro τ τ' h
 unfold kdE at h
 split at h<;>simp only[List.mem_cons,List.not_mem_nil,or_false,reduceCtorEq,false_or,or_self,EV.Kd.sl.injEq] at h<;>first|exact h.elim|(subst h;exact Nat.le_of_ble_eq_true rfl)|(rcases h with h|h|h|h|h|h|h|h<;>(subst h;exact Nat.le_of_ble_eq_true rfl))|(rcases h with h|h|h|h|h|h|h<;>(subst h;exact Nat.le_of_ble_eq_true rfl))|(rcases h with h|h|h|h|h|h<;>(subst h;exact Nat.le_of_ble_eq_true rfl))|(rcases h with h|h|h|h|h<;>(subst h;exact Nat.le_of_ble_eq_true rfl))|(rcases h with h|h|h|h<;>(subst h;exact Nat.le_of_ble_eq_true rfl))|(rcases h with h|h|h<;>(subst h;exact Nat.le_of_ble_eq_true rfl))|(rcases h with h|h<;>(subst h;exact Nat.le_of_ble_eq_true rfl))
theorem bL2:EV.LayOk Yn:=⟨ly1,ly2⟩
def sO (f:Func):Code:=match f.body with|some c=>c|none=> .skip
theorem T.mix:Tryz.prog.follows .mixedOrders=true:=by kernel_rfl
theorem aF:EV.Good Tryz.prog G0 Yn TI []:=⟨by kernel_rfl,bL2,fun f S h=>by simp at h⟩
abbrev SU:=EV.Sum Un
def OK (f:Nat)(S:SU):Prop:=EV.Ih Tryz.prog G0 Yn f S
def bL3:SU:=⟨[],[],false,false,fun _=>none⟩
theorem bJv (f:Nat):OK f bL3:=fun _ _ hr=>nomatch hr
def SIl:SU:=⟨[],[],false,true,fun _=>none⟩
theorem sIl (f:Nat):OK f SIl:=fun _ _ hr=>nomatch hr
def IL:EV.Il:=[(20,sO Tryz.f20,111,[.tmp 10]),(87,sO Tryz.f87,48,[.tmp 4]),(28,sO Tryz.f28,23,[]),(111,sO Tryz.f111,39,[.cell 6 56, .tmp 7]),(115,sO Tryz.f115,32,[.cell 8 56]),(221,sO Tryz.f221,42,[.cell 4 56, .tmp 5]),(117,sO Tryz.f117,16,[.cell 4 56]),(39,sO Tryz.f39,126,[.cell 4 56, .tmp 5])]
theorem bJx:EV.oU Tryz.prog IL:=EV.Np Tryz.func20 rfl Tryz.ntmps20 rfl (fun _ _=>by kernel_rfl)<|EV.Np Tryz.func87 rfl Tryz.ntmps87 rfl (fun _ _=>by kernel_rfl)<|EV.Np Tryz.func28 rfl Tryz.ntmps28 rfl (fun _ _=>by kernel_rfl)<|EV.Np Tryz.func111 rfl Tryz.ntmps111 rfl (fun _ _=>by kernel_rfl)<|EV.Np Tryz.func115 rfl Tryz.ntmps115 rfl (fun _ _=>by kernel_rfl)<|EV.Np Tryz.func221 rfl Tryz.ntmps221 rfl (fun _ _=>by kernel_rfl)<|EV.Np Tryz.func117 rfl Tryz.ntmps117 rfl (fun _ _=>by kernel_rfl)<|EV.Np Tryz.func39 rfl Tryz.ntmps39 rfl (fun _ _=>by kernel_rfl)<|EV.bKw
def od (n:Nat)(l:List Nat):List (Nat×Bool):=(List.range n).map fun i=>(i, !l.contains i)
theorem gc {f:Nat}{S:SU}{FZ:List (Nat×SU)}(h:OK f S)(G:EV.Good Tryz.prog G0 Yn TI FZ):EV.Good Tryz.prog G0 Yn TI ((f,S)::FZ):=EV.aV1 h G
theorem gcp {f:Nat}{S:SU}{FZ:List (Nat×SU)}(h:OK f S)(G:EV.Good Tryz.prog G0 Yn TI FZ)(hw:S.wt=false:=by rfl)(hf:S.fr=true:=by rfl):EV.Good Tryz.prog G0 Yn TI ((f,S.pl)::FZ):=EV.aV1 (EV.bK4 h hw hf) G
theorem mkS {f:FuncId}{fn:Func}{n:Nat}{S:SU}{FZ:List (Nat×SU)}{m:EV.sI Un S.ar→Option (EV.sI Un S.rs)}(an:EV.An)(l:List ResultVar)(G:EV.Good Tryz.prog G0 Yn TI FZ)(hf:Tryz.prog.funcs[f]? =some fn)(hn:fn.ntmps=n)(ht:∀a r,S.m a=some r→m a=some r)(hE:∀args w,(callFunc f args).run Tryz.prog w= .ok (.enter f args) w)(h:∀a,EV.evF Yn TI FZ IL an (sO fn) n S.ar S.rs S.fr l a=m a)(hb:fn.body=some (sO fn):=by rfl)(hl:fn.results=l.toArray:=by rfl)(hlen:S.ar.length≤n:=by decide)(hw:S.wt=false:=by rfl):OK f S:=
 EV.bKz (an:=fun _=>an) G T.mix bJx hf hb hn hl hE hlen hw fun a r hr=>(h a).trans (ht a r hr)
theorem mkW {f:FuncId}{fn:Func}{n:Nat}{kd:EV.Kd}{M m:EV.sI Un [kd, .int .i64]→Option (EV.sI Un [kd, .int .i64])}{FZ:List (Nat×SU)}(an:EV.An)(l:List ResultVar)(G:EV.Good Tryz.prog G0 Yn TI FZ)(hf:Tryz.prog.funcs[f]? =some fn)(hn:fn.ntmps=n)(ht:∀a r,M a=some r→m a=some r)(hE:∀args w,(callFunc f args).run Tryz.prog w= .ok (.enter f args) w)(h:∀a,EV.evM Yn TI FZ IL an (sO fn) n kd l a=m a)(hb:fn.body=some (sO fn):=by rfl)(hl:fn.results=l.toArray:=by rfl)(hlen:2≤n:=by decide):OK f ⟨[kd, .int .i64],[kd, .int .i64],false,true,M⟩:=
 EV.bK0 (an:=fun _=>an) G T.mix bJx hf hb hn hl hE hlen fun a r hr=>(h a).trans (ht a r hr)
def iY:EV.Sum Un:=⟨[.str, .str],[.sl 9],false,false,fun(a:ByteArray×ByteArray)=>gd (a.1.size<4294967281∧1≤a.2.size) (some (jJ a.1 a.2))⟩
theorem aEh (args:Array Value)(w:World):(callFunc 321 args).run Tryz.prog w= .ok (.enter 321 args) w:=by kernel_rfl
theorem aJ2 (a:ByteArray×ByteArray):(EV.dJ Yn iY.ar a).map EV.Ig=[.str a.1, .str a.2]:=by kernel_rfl
theorem aJ3 (a:ByteArray×ByteArray):vE ((EV.dJ Yn iY.rs (jJ a.1 a.2)).map EV.Ig)= .slice 1 ((jJ a.1 a.2).map sV):=by kernel_rfl
theorem aJ4 (a:ByteArray×ByteArray)(r:EV.sI Un iY.rs)(hr:gd (a.1.size<4294967281∧1≤a.2.size) (some (jJ a.1 a.2))=some r):Spec Tryz.prog G0 321 ((EV.dJ Yn iY.ar a).map EV.Ig) (fun v=>v=vE ((EV.dJ Yn iY.rs r).map EV.Ig)):=by
 unfold gd at hr
 split at hr
 ·rename_i hp
  have e:=Option.some.inj hr
  subst e
  rw[aJ2,aJ3]
  exact bBw aEh (fun s sep m w a b c=>Tryz.strings_Split s sep m w a b c) a.1 a.2 hp.1 hp.2
 ·cases hr
theorem Im:EV.Ih Tryz.prog G0 Yn 321 iY:=fun(a:ByteArray×ByteArray) r hr=>⟨fun _ _=>aJ4 a r hr,fun _ h=>absurd (show false=true from h) Bool.false_ne_true,fun h=>absurd (show false=true from h) Bool.false_ne_true⟩
def jM:EV.Sum Un:=⟨[.sl 9, .str],[.str],false,false,fun(a:(List ByteArray)×ByteArray)=>gd (0<a.1.length∧(nC a.2 a.1).size≤140737488355328∧a.1.length≤140737488355328) (some (nC a.2 a.1))⟩
theorem aJ5 (args:Array Value)(w:World):(callFunc 322 args).run Tryz.prog w= .ok (.enter 322 args) w:=by kernel_rfl
theorem aOu (a:(List ByteArray)×ByteArray):(EV.dJ Yn jM.ar a).map EV.Ig=[.slice 1 (a.1.map sV), .str a.2]:=by kernel_rfl
theorem aOv (a:(List ByteArray)×ByteArray):vE ((EV.dJ Yn jM.rs (nC a.2 a.1)).map EV.Ig)= .str (nC a.2 a.1):=by kernel_rfl
theorem aOw (a:(List ByteArray)×ByteArray)(r:EV.sI Un jM.rs)(hr:gd (0<a.1.length∧(nC a.2 a.1).size≤140737488355328∧a.1.length≤140737488355328) (some (nC a.2 a.1))=some r):Spec Tryz.prog G0 322 ((EV.dJ Yn jM.ar a).map EV.Ig) (fun v=>v=vE ((EV.dJ Yn jM.rs r).map EV.Ig)):=by
 unfold gd at hr
 split at hr
 ·rename_i hp
  have e:=Option.some.inj hr
  subst e
  rw[aOu,aOv]
  exact bD6 aJ5 Tryz.strings_Join a.1 a.2 (by intro h;have:=hp.1;rw[h] at this;simp at this) hp.2.1 hp.2.2
 ·cases hr
theorem aOx:EV.Ih Tryz.prog G0 Yn 322 jM:=fun(a:(List ByteArray)×ByteArray) r hr=>⟨fun _ _=>aOw a r hr,fun _ h=>absurd (show false=true from h) Bool.false_ne_true,fun h=>absurd (show false=true from h) Bool.false_ne_true⟩
end
end Go.VK
