import Derived.Test.YtajiimgjfnnjlaaGreatDoorXkFF
import Derived.Test.YtajiimgjfnnjlaaGreatDoorEVzbtor
import Derived.Test.YtajiimgjfnnjlaaGreatDoorProg
import Derived.Test.YtajiimgjfnnjlaaGreatDoorTryzShelf
/- Printed by wip/tools: models, walks, proofs. -/
set_option linter.unusedVariables false
set_option linter.unusedSimpArgs false
set_option maxRecDepth 100000
set_option maxHeartbeats 4000000
namespace Go.VK
open Go.RowKit Go.Proofs
noncomputable section
abbrev G0:GI:=aWp 0
def El:Nat→Type
 |85=>D.aAL
 |178=>D.aAE
 |274=>D.Entry
 |88=>D.aAN
 |90=>D.Device
 |4=>Bool
 |5=>Int
 |206=>D.Box
 |27=>D.aAF
 |157=>D.aAB
 |30=>D.aAO
 |306=>D.aAH
 |211=>D.aAD
 |277=>D.aAG
 |98=>D.aAA
 |3=>Int
 |101=>D.Site
 |33=>D.aAR
 |104=>D.aAT
 |106=>D.aAQ
 |109=>D.aAC
 |190=>D.aAM
 |37=>D.aAI
 |39=>D.World
 |118=>D.aAL
 |176=>D.aAE
 |272=>D.Entry
 |121=>D.aAN
 |123=>D.Device
 |236=>D.Box
 |46=>D.aAF
 |180=>D.aAB
 |49=>D.aAO
 |292=>D.aAH
 |223=>D.aAD
 |256=>D.aAG
 |131=>D.aAA
 |133=>D.Site
 |51=>D.aAR
 |135=>D.aAT
 |137=>D.aAQ
 |140=>D.aAC
 |188=>D.aAM
 |55=>D.aAI
 |57=>D.World
 |115=>D.aAK
 |170=>D.aAJ
 |99=>List Int
 |9=>ByteArray
 |_=>Empty
def aVs:(τ:Nat)→El τ→List V
 |85=>D.aAL.V
 |178=>D.aAE.V
 |274=>D.Entry.V
 |88=>D.aAN.V
 |90=>D.Device.V
 |4=>bV
 |5=>y8
 |206=>D.Box.V
 |27=>D.aAF.V
 |157=>D.aAB.V
 |30=>D.aAO.V
 |306=>D.aAH.V
 |211=>D.aAD.V
 |277=>D.aAG.V
 |98=>D.aAA.V
 |3=>iV
 |101=>D.Site.V
 |33=>D.aAR.V
 |104=>D.aAT.V
 |106=>D.aAQ.V
 |109=>D.aAC.V
 |190=>D.aAM.V
 |37=>D.aAI.V
 |39=>D.World.V
 |118=>D.aAL.V
 |176=>D.aAE.V
 |272=>D.Entry.V
 |121=>D.aAN.V
 |123=>D.Device.V
 |236=>D.Box.V
 |46=>D.aAF.V
 |180=>D.aAB.V
 |49=>D.aAO.V
 |292=>D.aAH.V
 |223=>D.aAD.V
 |256=>D.aAG.V
 |131=>D.aAA.V
 |133=>D.Site.V
 |51=>D.aAR.V
 |135=>D.aAT.V
 |137=>D.aAQ.V
 |140=>D.aAC.V
 |188=>D.aAM.V
 |55=>D.aAI.V
 |57=>D.World.V
 |115=>D.aAK.V
 |170=>D.aAJ.V
 |99=>(fun l=>[V.slice 1 (l.map iV)])
 |9=>sV
 |_=>fun _=>[]
def Un:EV.Uni:=⟨El,fun|85=>4|178=>6|274=>4|88=>1|90=>9|4=>1|5=>1|206=>4|27=>2|157=>4|30=>4|306=>4|211=>3|277=>3|98=>3|3=>1|101=>6|33=>4|104=>2|106=>5|109=>7|190=>4|37=>1|39=>16|118=>4|176=>6|272=>4|121=>1|123=>9|236=>4|46=>2|180=>4|49=>4|292=>4|223=>3|256=>3|131=>3|133=>6|51=>4|135=>2|137=>5|140=>7|188=>4|55=>1|57=>16|115=>3|170=>7|99=>1|9=>1|_=>0,aVs⟩
def aJz:(τ:Nat)→El τ→List (EV.Lf Un)
 |85=>fun x=>[.int .i64 x.Vendor, .int .i64 x.Serial, .int .i64 x.Seed, .int .i64 x.Counter]
 |178=>fun x=>[.int .i64 x.Index, .int .i64 x.Kind, .int .i64 x.Device, .int .i64 x.By, .int .i64 x.Previous, .int .i64 x.Signature]
 |274=>fun x=>[.int .i64 x.Site, .int .i64 x.Handle, .int .i64 x.Version, .bool x.Deleted]
 |88=>fun x=>[.sl 274 x.Entries]
 |90=>fun x=>[.int .i64 x.Store.Vendor, .int .i64 x.Store.Serial, .int .i64 x.Store.Seed, .int .i64 x.Store.Counter, .sl 178 x.Log, .int .i64 x.Key, .int .i64 x.Epoch, .int .i64 x.Version, .sl 274 x.aAN.Entries]
 |4=>fun x=>[.bool x]
 |5=>fun x=>[.int .u8 x]
 |206=>fun x=>[.int .i64 x.To, .int .i64 x.Ephemeral, .sl 5 x.Data, .int .i64 x.MAC]
 |27=>fun x=>[.int .i64 x.Epoch, .sl 206 x.Boxes]
 |157=>fun x=>[.int .i64 x.Epoch, .int .i64 x.Version, .sl 5 x.Data, .int .i64 x.MAC]
 |30=>fun x=>[.sl 178 x.Log, .int .i64 x.Boxes.Epoch, .sl 206 x.Boxes.Boxes, .sl 157 x.History]
 |306=>fun x=>[.int .i64 x.Handle, .int .i64 x.Public, .int .i64 x.Counter, .bool x.Cut]
 |211=>fun x=>[.int .i64 x.Id, .int .i64 x.Minimum, .sl 306 x.Credentials]
 |277=>fun x=>[.int .i64 x.Id, .int .i64 x.aAD, .int .i64 x.Until]
 |98=>fun x=>[.int .i64 x.Seed, .int .i64 x.Next, .sl 277 x.Open]
 |3=>fun x=>[.int .i64 x]
 |101=>fun x=>[.str x.Name, .sl 211 x.Accounts, .int .i64 x.Book.Seed, .int .i64 x.Book.Next, .sl 277 x.Book.Open, .sl 3 x.Logins]
 |33=>fun x=>[.int .i64 x.Salt, .int .i64 x.Threshold, .int .i64 x.Check, .int .i64 x.Masked]
 |104=>fun x=>[.int .i64 x.Index, .int .i64 x.Value]
 |106=>fun x=>[.int .i64 x.aAT.Index, .int .i64 x.aAT.Value, .int .i64 x.Epoch, .int .i64 x.Guesses, .int .i64 x.Limit]
 |109=>fun x=>[.int .i64 x.State.aAT.Index, .int .i64 x.State.aAT.Value, .int .i64 x.State.Epoch, .int .i64 x.State.Guesses, .int .i64 x.State.Limit, .sl 106 x.Saved, .int .i64 x.Monotonic]
 |190=>fun x=>[.int .i64 x.Kind, .int .i64 x.aAD, .int .i64 x.Time, .bool x.Seen]
 |37=>fun x=>[.sl 190 x.Notices]
 |39=>fun x=>[.int .i64 x.Now, .int .i64 x.Seed, .sl 90 x.Devices, .sl 4 x.Stolen, .sl 178 x.aAO.Log, .int .i64 x.aAO.Boxes.Epoch, .sl 206 x.aAO.Boxes.Boxes, .sl 157 x.aAO.History, .sl 101 x.Sites, .int .i64 x.aAR.Salt, .int .i64 x.aAR.Threshold, .int .i64 x.aAR.Check, .int .i64 x.aAR.Masked, .sl 109 x.Hosts, .int .i64 x.Pin, .sl 190 x.Mail.Notices]
 |118=>fun x=>[.int .i64 x.Vendor, .int .i64 x.Serial, .int .i64 x.Seed, .int .i64 x.Counter]
 |176=>fun x=>[.int .i64 x.Index, .int .i64 x.Kind, .int .i64 x.Device, .int .i64 x.By, .int .i64 x.Previous, .int .i64 x.Signature]
 |272=>fun x=>[.int .i64 x.Site, .int .i64 x.Handle, .int .i64 x.Version, .bool x.Deleted]
 |121=>fun x=>[.sl 272 x.Entries]
 |123=>fun x=>[.int .i64 x.Store.Vendor, .int .i64 x.Store.Serial, .int .i64 x.Store.Seed, .int .i64 x.Store.Counter, .sl 176 x.Log, .int .i64 x.Key, .int .i64 x.Epoch, .int .i64 x.Version, .sl 272 x.aAN.Entries]
 |236=>fun x=>[.int .i64 x.To, .int .i64 x.Ephemeral, .sl 5 x.Data, .int .i64 x.MAC]
 |46=>fun x=>[.int .i64 x.Epoch, .sl 236 x.Boxes]
 |180=>fun x=>[.int .i64 x.Epoch, .int .i64 x.Version, .sl 5 x.Data, .int .i64 x.MAC]
 |49=>fun x=>[.sl 176 x.Log, .int .i64 x.Boxes.Epoch, .sl 236 x.Boxes.Boxes, .sl 180 x.History]
 |292=>fun x=>[.int .i64 x.Handle, .int .i64 x.Public, .int .i64 x.Counter, .bool x.Cut]
 |223=>fun x=>[.int .i64 x.Id, .int .i64 x.Minimum, .sl 292 x.Credentials]
 |256=>fun x=>[.int .i64 x.Id, .int .i64 x.aAD, .int .i64 x.Until]
 |131=>fun x=>[.int .i64 x.Seed, .int .i64 x.Next, .sl 256 x.Open]
 |133=>fun x=>[.str x.Name, .sl 223 x.Accounts, .int .i64 x.Book.Seed, .int .i64 x.Book.Next, .sl 256 x.Book.Open, .sl 3 x.Logins]
 |51=>fun x=>[.int .i64 x.Salt, .int .i64 x.Threshold, .int .i64 x.Check, .int .i64 x.Masked]
 |135=>fun x=>[.int .i64 x.Index, .int .i64 x.Value]
 |137=>fun x=>[.int .i64 x.aAT.Index, .int .i64 x.aAT.Value, .int .i64 x.Epoch, .int .i64 x.Guesses, .int .i64 x.Limit]
 |140=>fun x=>[.int .i64 x.State.aAT.Index, .int .i64 x.State.aAT.Value, .int .i64 x.State.Epoch, .int .i64 x.State.Guesses, .int .i64 x.State.Limit, .sl 137 x.Saved, .int .i64 x.Monotonic]
 |188=>fun x=>[.int .i64 x.Kind, .int .i64 x.aAD, .int .i64 x.Time, .bool x.Seen]
 |55=>fun x=>[.sl 188 x.Notices]
 |57=>fun x=>[.int .i64 x.Now, .int .i64 x.Seed, .sl 123 x.Devices, .sl 4 x.Stolen, .sl 176 x.aAO.Log, .int .i64 x.aAO.Boxes.Epoch, .sl 236 x.aAO.Boxes.Boxes, .sl 180 x.aAO.History, .sl 133 x.Sites, .int .i64 x.aAR.Salt, .int .i64 x.aAR.Threshold, .int .i64 x.aAR.Check, .int .i64 x.aAR.Masked, .sl 140 x.Hosts, .int .i64 x.Pin, .sl 188 x.Mail.Notices]
 |115=>fun x=>[.bool x.Secure, .str x.Host, .int .i64 x.Port]
 |170=>fun x=>[.str x.Site, .str x.aAK, .int .i64 x.aAG, .int .i64 x.Handle, .bool x.Present, .int .i64 x.Counter, .int .i64 x.Signature]
 |99=>fun x=>[.sl 3 x]
 |9=>fun x=>[.str x]
 |_=>fun _=>[]
def lJ:Nat→List EV.Kd
 |85=>[.int .i64, .int .i64, .int .i64, .int .i64]
 |178=>[.int .i64, .int .i64, .int .i64, .int .i64, .int .i64, .int .i64]
 |274=>[.int .i64, .int .i64, .int .i64, .bool]
 |88=>[.sl 274]
 |90=>[.int .i64, .int .i64, .int .i64, .int .i64, .sl 178, .int .i64, .int .i64, .int .i64, .sl 274]
 |4=>[.bool]
 |5=>[.int .u8]
 |206=>[.int .i64, .int .i64, .sl 5, .int .i64]
 |27=>[.int .i64, .sl 206]
 |157=>[.int .i64, .int .i64, .sl 5, .int .i64]
 |30=>[.sl 178, .int .i64, .sl 206, .sl 157]
 |306=>[.int .i64, .int .i64, .int .i64, .bool]
 |211=>[.int .i64, .int .i64, .sl 306]
 |277=>[.int .i64, .int .i64, .int .i64]
 |98=>[.int .i64, .int .i64, .sl 277]
 |3=>[.int .i64]
 |101=>[.str, .sl 211, .int .i64, .int .i64, .sl 277, .sl 3]
 |33=>[.int .i64, .int .i64, .int .i64, .int .i64]
 |104=>[.int .i64, .int .i64]
 |106=>[.int .i64, .int .i64, .int .i64, .int .i64, .int .i64]
 |109=>[.int .i64, .int .i64, .int .i64, .int .i64, .int .i64, .sl 106, .int .i64]
 |190=>[.int .i64, .int .i64, .int .i64, .bool]
 |37=>[.sl 190]
 |39=>[.int .i64, .int .i64, .sl 90, .sl 4, .sl 178, .int .i64, .sl 206, .sl 157, .sl 101, .int .i64, .int .i64, .int .i64, .int .i64, .sl 109, .int .i64, .sl 190]
 |118=>[.int .i64, .int .i64, .int .i64, .int .i64]
 |176=>[.int .i64, .int .i64, .int .i64, .int .i64, .int .i64, .int .i64]
 |272=>[.int .i64, .int .i64, .int .i64, .bool]
 |121=>[.sl 272]
 |123=>[.int .i64, .int .i64, .int .i64, .int .i64, .sl 176, .int .i64, .int .i64, .int .i64, .sl 272]
 |236=>[.int .i64, .int .i64, .sl 5, .int .i64]
 |46=>[.int .i64, .sl 236]
 |180=>[.int .i64, .int .i64, .sl 5, .int .i64]
 |49=>[.sl 176, .int .i64, .sl 236, .sl 180]
 |292=>[.int .i64, .int .i64, .int .i64, .bool]
 |223=>[.int .i64, .int .i64, .sl 292]
 |256=>[.int .i64, .int .i64, .int .i64]
 |131=>[.int .i64, .int .i64, .sl 256]
 |133=>[.str, .sl 223, .int .i64, .int .i64, .sl 256, .sl 3]
 |51=>[.int .i64, .int .i64, .int .i64, .int .i64]
 |135=>[.int .i64, .int .i64]
 |137=>[.int .i64, .int .i64, .int .i64, .int .i64, .int .i64]
 |140=>[.int .i64, .int .i64, .int .i64, .int .i64, .int .i64, .sl 137, .int .i64]
 |188=>[.int .i64, .int .i64, .int .i64, .bool]
 |55=>[.sl 188]
 |57=>[.int .i64, .int .i64, .sl 123, .sl 4, .sl 176, .int .i64, .sl 236, .sl 180, .sl 133, .int .i64, .int .i64, .int .i64, .int .i64, .sl 140, .int .i64, .sl 188]
 |115=>[.bool, .str, .int .i64]
 |170=>[.str, .str, .int .i64, .int .i64, .bool, .int .i64, .int .i64]
 |99=>[.sl 3]
 |9=>[.str]
 |_=>[]
def aWu:(τ:Nat)→List (EV.Lf Un)→Option (El τ)
 |85=>EV.cB (lJ 85) D.aAL.mk
 |178=>EV.cB (lJ 178) D.aAE.mk
 |274=>EV.cB (lJ 274) D.Entry.mk
 |88=>EV.cB (lJ 88) D.aAN.mk
 |90=>EV.cB (lJ 90) (fun a0 a1 a2 a3 a4 a5 a6 a7 a8=>(⟨⟨a0,a1,a2,a3⟩,a4,a5,a6,a7,⟨a8⟩⟩:D.Device))
 |4=>EV.cB (lJ 4) (fun x=>x)
 |5=>EV.cB (lJ 5) (fun x=>x)
 |206=>EV.cB (lJ 206) D.Box.mk
 |27=>EV.cB (lJ 27) D.aAF.mk
 |157=>EV.cB (lJ 157) D.aAB.mk
 |30=>EV.cB (lJ 30) (fun a0 a1 a2 a3=>(⟨a0,⟨a1,a2⟩,a3⟩:D.aAO))
 |306=>EV.cB (lJ 306) D.aAH.mk
 |211=>EV.cB (lJ 211) D.aAD.mk
 |277=>EV.cB (lJ 277) D.aAG.mk
 |98=>EV.cB (lJ 98) D.aAA.mk
 |3=>EV.cB (lJ 3) (fun x=>x)
 |101=>EV.cB (lJ 101) (fun a0 a1 a2 a3 a4 a5=>(⟨a0,a1,⟨a2,a3,a4⟩,a5⟩:D.Site))
 |33=>EV.cB (lJ 33) D.aAR.mk
 |104=>EV.cB (lJ 104) D.aAT.mk
 |106=>EV.cB (lJ 106) (fun a0 a1 a2 a3 a4=>(⟨⟨a0,a1⟩,a2,a3,a4⟩:D.aAQ))
 |109=>EV.cB (lJ 109) (fun a0 a1 a2 a3 a4 a5 a6=>(⟨⟨⟨a0,a1⟩,a2,a3,a4⟩,a5,a6⟩:D.aAC))
 |190=>EV.cB (lJ 190) D.aAM.mk
 |37=>EV.cB (lJ 37) D.aAI.mk
 |39=>EV.cB (lJ 39) (fun a0 a1 a2 a3 a4 a5 a6 a7 a8 a9 a10 a11 a12 a13 a14 a15=>(⟨a0,a1,a2,a3,⟨a4,⟨a5,a6⟩,a7⟩,a8,⟨a9,a10,a11,a12⟩,a13,a14,⟨a15⟩⟩:D.World))
 |118=>EV.cB (lJ 118) D.aAL.mk
 |176=>EV.cB (lJ 176) D.aAE.mk
 |272=>EV.cB (lJ 272) D.Entry.mk
 |121=>EV.cB (lJ 121) D.aAN.mk
 |123=>EV.cB (lJ 123) (fun a0 a1 a2 a3 a4 a5 a6 a7 a8=>(⟨⟨a0,a1,a2,a3⟩,a4,a5,a6,a7,⟨a8⟩⟩:D.Device))
 |236=>EV.cB (lJ 236) D.Box.mk
 |46=>EV.cB (lJ 46) D.aAF.mk
 |180=>EV.cB (lJ 180) D.aAB.mk
 |49=>EV.cB (lJ 49) (fun a0 a1 a2 a3=>(⟨a0,⟨a1,a2⟩,a3⟩:D.aAO))
 |292=>EV.cB (lJ 292) D.aAH.mk
 |223=>EV.cB (lJ 223) D.aAD.mk
 |256=>EV.cB (lJ 256) D.aAG.mk
 |131=>EV.cB (lJ 131) D.aAA.mk
 |133=>EV.cB (lJ 133) (fun a0 a1 a2 a3 a4 a5=>(⟨a0,a1,⟨a2,a3,a4⟩,a5⟩:D.Site))
 |51=>EV.cB (lJ 51) D.aAR.mk
 |135=>EV.cB (lJ 135) D.aAT.mk
 |137=>EV.cB (lJ 137) (fun a0 a1 a2 a3 a4=>(⟨⟨a0,a1⟩,a2,a3,a4⟩:D.aAQ))
 |140=>EV.cB (lJ 140) (fun a0 a1 a2 a3 a4 a5 a6=>(⟨⟨⟨a0,a1⟩,a2,a3,a4⟩,a5,a6⟩:D.aAC))
 |188=>EV.cB (lJ 188) D.aAM.mk
 |55=>EV.cB (lJ 55) D.aAI.mk
 |57=>EV.cB (lJ 57) (fun a0 a1 a2 a3 a4 a5 a6 a7 a8 a9 a10 a11 a12 a13 a14 a15=>(⟨a0,a1,a2,a3,⟨a4,⟨a5,a6⟩,a7⟩,a8,⟨a9,a10,a11,a12⟩,a13,a14,⟨a15⟩⟩:D.World))
 |115=>EV.cB (lJ 115) D.aAK.mk
 |170=>EV.cB (lJ 170) D.aAJ.mk
 |99=>EV.cB (lJ 99) (fun x=>x)
 |9=>EV.cB (lJ 9) (fun x=>x)
 |_=>fun _=>none
def TI:List (Nat×EV.TInfo):=[
 (3,⟨.int .i64,1,[.int .i64]⟩),
 (4,⟨.bool,1,[.bool]⟩),
 (5,⟨.int .u8,1,[.int .u8]⟩),
 (9,⟨.str,1,[.str]⟩),
 (22,⟨.sl 90 9 104,1,[.nil]⟩),
 (23,⟨.sl 4 1 1,1,[.nil]⟩),
 (24,⟨.sl 178 6 48,1,[.nil]⟩),
 (25,⟨.sl 206 4 48,1,[.nil]⟩),
 (27,⟨.st [(0,3,1),(1,25,1)],2,[.int .i64, .nil]⟩),
 (28,⟨.sl 157 4 48,1,[.nil]⟩),
 (30,⟨.st [(0,24,1),(1,27,2),(3,28,1)],4,[.nil, .int .i64, .nil, .nil]⟩),
 (31,⟨.sl 101 6 104,1,[.nil]⟩),
 (33,⟨.st [(0,3,1),(1,3,1),(2,3,1),(3,3,1)],4,[.int .i64, .int .i64, .int .i64, .int .i64]⟩),
 (34,⟨.sl 109 7 72,1,[.nil]⟩),
 (35,⟨.sl 190 4 32,1,[.nil]⟩),
 (37,⟨.st [(0,35,1)],1,[.nil]⟩),
 (39,⟨.st [(0,3,1),(1,3,1),(2,22,1),(3,23,1),(4,30,4),(8,31,1),(9,33,4),(13,34,1),(14,3,1),(15,37,1)],16,[.int .i64, .int .i64, .nil, .nil, .nil, .int .i64, .nil, .nil, .nil, .int .i64, .int .i64, .int .i64, .int .i64, .nil, .int .i64, .nil]⟩),
 (42,⟨.sl 123 9 104,1,[.nil]⟩),
 (43,⟨.sl 176 6 48,1,[.nil]⟩),
 (44,⟨.sl 236 4 48,1,[.nil]⟩),
 (46,⟨.st [(0,3,1),(1,44,1)],2,[.int .i64, .nil]⟩),
 (47,⟨.sl 180 4 48,1,[.nil]⟩),
 (49,⟨.st [(0,43,1),(1,46,2),(3,47,1)],4,[.nil, .int .i64, .nil, .nil]⟩),
 (50,⟨.sl 133 6 104,1,[.nil]⟩),
 (51,⟨.st [(0,3,1),(1,3,1),(2,3,1),(3,3,1)],4,[.int .i64, .int .i64, .int .i64, .int .i64]⟩),
 (52,⟨.sl 140 7 72,1,[.nil]⟩),
 (53,⟨.sl 188 4 32,1,[.nil]⟩),
 (55,⟨.st [(0,53,1)],1,[.nil]⟩),
 (57,⟨.st [(0,3,1),(1,3,1),(2,42,1),(3,23,1),(4,49,4),(8,50,1),(9,51,4),(13,52,1),(14,3,1),(15,55,1)],16,[.int .i64, .int .i64, .nil, .nil, .nil, .int .i64, .nil, .nil, .nil, .int .i64, .int .i64, .int .i64, .int .i64, .nil, .int .i64, .nil]⟩),
 (85,⟨.st [(0,3,1),(1,3,1),(2,3,1),(3,3,1)],4,[.int .i64, .int .i64, .int .i64, .int .i64]⟩),
 (86,⟨.sl 274 4 32,1,[.nil]⟩),
 (88,⟨.st [(0,86,1)],1,[.nil]⟩),
 (90,⟨.st [(0,85,4),(4,24,1),(5,3,1),(6,3,1),(7,3,1),(8,88,1)],9,[.int .i64, .int .i64, .int .i64, .int .i64, .nil, .int .i64, .int .i64, .int .i64, .nil]⟩),
 (95,⟨.sl 211 3 40,1,[.nil]⟩),
 (96,⟨.sl 277 3 24,1,[.nil]⟩),
 (98,⟨.st [(0,3,1),(1,3,1),(2,96,1)],3,[.int .i64, .int .i64, .nil]⟩),
 (99,⟨.sl 3 1 8,1,[.nil]⟩),
 (101,⟨.st [(0,9,1),(1,95,1),(2,98,3),(5,99,1)],6,[.str, .nil, .int .i64, .int .i64, .nil, .nil]⟩),
 (104,⟨.st [(0,3,1),(1,3,1)],2,[.int .i64, .int .i64]⟩),
 (106,⟨.st [(0,104,2),(2,3,1),(3,3,1),(4,3,1)],5,[.int .i64, .int .i64, .int .i64, .int .i64, .int .i64]⟩),
 (107,⟨.sl 106 5 40,1,[.nil]⟩),
 (109,⟨.st [(0,106,5),(5,107,1),(6,3,1)],7,[.int .i64, .int .i64, .int .i64, .int .i64, .int .i64, .nil, .int .i64]⟩),
 (115,⟨.st [(0,4,1),(1,9,1),(2,3,1)],3,[.bool, .str, .int .i64]⟩),
 (118,⟨.st [(0,3,1),(1,3,1),(2,3,1),(3,3,1)],4,[.int .i64, .int .i64, .int .i64, .int .i64]⟩),
 (119,⟨.sl 272 4 32,1,[.nil]⟩),
 (121,⟨.st [(0,119,1)],1,[.nil]⟩),
 (123,⟨.st [(0,118,4),(4,43,1),(5,3,1),(6,3,1),(7,3,1),(8,121,1)],9,[.int .i64, .int .i64, .int .i64, .int .i64, .nil, .int .i64, .int .i64, .int .i64, .nil]⟩),
 (128,⟨.sl 223 3 40,1,[.nil]⟩),
 (129,⟨.sl 256 3 24,1,[.nil]⟩),
 (131,⟨.st [(0,3,1),(1,3,1),(2,129,1)],3,[.int .i64, .int .i64, .nil]⟩),
 (133,⟨.st [(0,9,1),(1,128,1),(2,131,3),(5,99,1)],6,[.str, .nil, .int .i64, .int .i64, .nil, .nil]⟩),
 (135,⟨.st [(0,3,1),(1,3,1)],2,[.int .i64, .int .i64]⟩),
 (137,⟨.st [(0,135,2),(2,3,1),(3,3,1),(4,3,1)],5,[.int .i64, .int .i64, .int .i64, .int .i64, .int .i64]⟩),
 (138,⟨.sl 137 5 40,1,[.nil]⟩),
 (140,⟨.st [(0,137,5),(5,138,1),(6,3,1)],7,[.int .i64, .int .i64, .int .i64, .int .i64, .int .i64, .nil, .int .i64]⟩),
 (155,⟨.sl 5 1 1,1,[.nil]⟩),
 (157,⟨.st [(0,3,1),(1,3,1),(2,155,1),(3,3,1)],4,[.int .i64, .int .i64, .nil, .int .i64]⟩),
 (170,⟨.st [(0,9,1),(1,9,1),(2,3,1),(3,3,1),(4,4,1),(5,3,1),(6,3,1)],7,[.str, .str, .int .i64, .int .i64, .bool, .int .i64, .int .i64]⟩),
 (176,⟨.st [(0,3,1),(1,3,1),(2,3,1),(3,3,1),(4,3,1),(5,3,1)],6,[.int .i64, .int .i64, .int .i64, .int .i64, .int .i64, .int .i64]⟩),
 (178,⟨.st [(0,3,1),(1,3,1),(2,3,1),(3,3,1),(4,3,1),(5,3,1)],6,[.int .i64, .int .i64, .int .i64, .int .i64, .int .i64, .int .i64]⟩),
 (180,⟨.st [(0,3,1),(1,3,1),(2,155,1),(3,3,1)],4,[.int .i64, .int .i64, .nil, .int .i64]⟩),
 (188,⟨.st [(0,3,1),(1,3,1),(2,3,1),(3,4,1)],4,[.int .i64, .int .i64, .int .i64, .bool]⟩),
 (190,⟨.st [(0,3,1),(1,3,1),(2,3,1),(3,4,1)],4,[.int .i64, .int .i64, .int .i64, .bool]⟩),
 (206,⟨.st [(0,3,1),(1,3,1),(2,155,1),(3,3,1)],4,[.int .i64, .int .i64, .nil, .int .i64]⟩),
 (209,⟨.sl 306 4 32,1,[.nil]⟩),
 (211,⟨.st [(0,3,1),(1,3,1),(2,209,1)],3,[.int .i64, .int .i64, .nil]⟩),
 (221,⟨.sl 292 4 32,1,[.nil]⟩),
 (223,⟨.st [(0,3,1),(1,3,1),(2,221,1)],3,[.int .i64, .int .i64, .nil]⟩),
 (236,⟨.st [(0,3,1),(1,3,1),(2,155,1),(3,3,1)],4,[.int .i64, .int .i64, .nil, .int .i64]⟩),
 (256,⟨.st [(0,3,1),(1,3,1),(2,3,1)],3,[.int .i64, .int .i64, .int .i64]⟩),
 (272,⟨.st [(0,3,1),(1,3,1),(2,3,1),(3,4,1)],4,[.int .i64, .int .i64, .int .i64, .bool]⟩),
 (274,⟨.st [(0,3,1),(1,3,1),(2,3,1),(3,4,1)],4,[.int .i64, .int .i64, .int .i64, .bool]⟩),
 (277,⟨.st [(0,3,1),(1,3,1),(2,3,1)],3,[.int .i64, .int .i64, .int .i64]⟩),
 (286,⟨.sl 99 1 24,1,[.nil]⟩),
 (292,⟨.st [(0,3,1),(1,3,1),(2,3,1),(3,4,1)],4,[.int .i64, .int .i64, .int .i64, .bool]⟩),
 (295,⟨.sl 9 1 16,1,[.nil]⟩),
 (306,⟨.st [(0,3,1),(1,3,1),(2,3,1),(3,4,1)],4,[.int .i64, .int .i64, .int .i64, .bool]⟩)]
theorem lay (τ:Nat):(∀x:El τ,((aJz τ x).map EV.Lf.toV=aVs τ x∧(aJz τ x).length=Un.K τ)∧(aJz τ x).map EV.kdL=(lJ τ).map some)∧∀(cs:List (EV.Lf Un)) (x:El τ),aWu τ cs=some x→cs=aJz τ x:=by
 by_cases h:τ∈[85,178,274,88,90,4,5,206,27,157,30,306,211,277,98,3,101,33,104,106,109,190,37,39,118,176,272,121,123,236,46,180,49,292,223,256,131,133,51,135,137,140,188,55,57,115,170,99,9]
 ·simp only[List.mem_cons,List.not_mem_nil,or_false] at h
  rcases h with rfl|rfl|rfl|rfl|rfl|rfl|rfl|rfl|rfl|rfl|rfl|rfl|rfl|rfl|rfl|rfl|rfl|rfl|rfl|rfl|rfl|rfl|rfl|rfl|rfl|rfl|rfl|rfl|rfl|rfl|rfl|rfl|rfl|rfl|rfl|rfl|rfl|rfl|rfl|rfl|rfl|rfl|rfl|rfl|rfl|rfl|rfl|rfl|rfl<;>exact⟨fun _=>⟨⟨rfl,rfl⟩,rfl⟩,fun _ _ h=>by obtain⟨t,rfl,rfl⟩:=EV.aOe h;rfl⟩
 ·have e:El τ=Empty:=by
   unfold El
   split<;>first|(exfalso;revert h;decide)|rfl
  exact⟨fun x=>(cast e x).elim,fun _ x=>(cast e x).elim⟩
theorem hc1 (τ:Nat)(x:El τ):(aJz τ x).map EV.Lf.toV=aVs τ x:=((lay τ).1 x).1.1
theorem hc2 (τ:Nat)(x:El τ):(aJz τ x).length=Un.K τ:=((lay τ).1 x).1.2
theorem hc3 (τ:Nat)(x:El τ)(c:EV.Lf Un)(hc:c∈aJz τ x):c.aBA=true:=EV.aRf ((lay τ).1 x).2 c hc
def Yn:EV.Lay Un:=⟨⟨aJz,aWu,hc1,hc2,hc3,fun τ=>(lay τ).2⟩,lJ,5,fun n=>n,fun n=>n,fun _=>rfl,fun _=>rfl⟩
theorem ly1 (τ:Nat)(x:El τ):(aJz τ x).map EV.kdL=(lJ τ).map some:=((lay τ).1 x).2
theorem ly2:∀(τ τ':Nat),EV.Kd.sl τ'∈lJ τ→0<Un.K τ':=by
 intro τ τ' h
 unfold lJ at h
 split at h<;>simp only[List.mem_cons,List.not_mem_nil,or_false,reduceCtorEq,false_or,or_self,EV.Kd.sl.injEq] at h<;>first|exact h.elim|(subst h;exact Nat.le_of_ble_eq_true rfl)|(rcases h with h|h|h|h|h|h|h|h<;>(subst h;exact Nat.le_of_ble_eq_true rfl))|(rcases h with h|h|h|h|h|h|h<;>(subst h;exact Nat.le_of_ble_eq_true rfl))|(rcases h with h|h|h|h|h|h<;>(subst h;exact Nat.le_of_ble_eq_true rfl))|(rcases h with h|h|h|h|h<;>(subst h;exact Nat.le_of_ble_eq_true rfl))|(rcases h with h|h|h|h<;>(subst h;exact Nat.le_of_ble_eq_true rfl))|(rcases h with h|h|h<;>(subst h;exact Nat.le_of_ble_eq_true rfl))|(rcases h with h|h<;>(subst h;exact Nat.le_of_ble_eq_true rfl))
theorem aWv:EV.LayOk Yn:=⟨ly1,ly2⟩
def aJ0 (f:Func):Code:=match f.body with|some c=>c|none=> .skip
theorem T.mix:Tryz.prog.follows .mixedOrders=true:=by kernel_rfl
theorem aB:EV.Good Tryz.prog G0 Yn TI []:=⟨by kernel_rfl,aWv,fun f S h=>by simp at h⟩
abbrev SU:=EV.Sum Un
def OK (f:Nat)(S:SU):Prop:=EV.uL Tryz.prog G0 Yn f S
def aWw:SU:=⟨[],[],false,false,fun _=>none⟩
theorem aSe (f:Nat):OK f aWw:=fun _ _ hr=>nomatch hr
def SIl:SU:=⟨[],[],false,true,fun _=>none⟩
theorem sIl (f:Nat):OK f SIl:=fun _ _ hr=>nomatch hr
def IL:EV.Il:=[(193,aJ0 Tryz.f193,16,[.cell 4 57]),(149,aJ0 Tryz.f149,37,[.cell 8 57, .tmp 9])]
theorem aWx:EV.nG Tryz.prog IL:=EV.aR6 Tryz.func193 rfl Tryz.ntmps193 rfl (fun _ _=>by kernel_rfl)<|EV.aR6 Tryz.func149 rfl Tryz.ntmps149 rfl (fun _ _=>by kernel_rfl)<|EV.aVk
def od (n:Nat)(l:List Nat):List (Nat×Bool):=(List.range n).map fun i=>(i, !l.contains i)
theorem gc {f:Nat}{S:SU}{FZ:List (Nat×SU)}(h:OK f S)(G:EV.Good Tryz.prog G0 Yn TI FZ):EV.Good Tryz.prog G0 Yn TI ((f,S)::FZ):=EV.aIp h G
theorem gcp {f:Nat}{S:SU}{FZ:List (Nat×SU)}(h:OK f S)(G:EV.Good Tryz.prog G0 Yn TI FZ)(hw:S.wt=false:=by rfl)(hf:S.fr=true:=by rfl):EV.Good Tryz.prog G0 Yn TI ((f,S.pl)::FZ):=EV.aIp (EV.aVq h hw hf) G
theorem mkS {f:FuncId}{fn:Func}{n:Nat}{S:SU}{FZ:List (Nat×SU)}{m:EV.nD Un S.ar→Option (EV.nD Un S.rs)}(an:EV.An)(l:List ResultVar)(G:EV.Good Tryz.prog G0 Yn TI FZ)(hf:Tryz.prog.funcs[f]? =some fn)(hn:fn.ntmps=n)(ht:∀a r,S.m a=some r→m a=some r)(h:∀a,(fn.name== "runtime.NumGoroutine",EV.evF Yn TI FZ IL an (aJ0 fn) n S.ar S.rs S.fr l a)=(false,m a))(hb:fn.body=some (aJ0 fn):=by rfl)(hl:fn.results=l.toArray:=by rfl)(hlen:S.ar.length≤n:=by decide)(hw:S.wt=false:=by rfl):OK f S:=
 fun a r hr=>EV.aVn (an:=fun _=>an) G T.mix aWx hf hb hn hl (EV.aRi hf hb (congrArg Prod.fst (h a))) hlen hw (fun a r hr=>(congrArg Prod.snd (h a)).trans (ht a r hr)) a r hr
def dN:EV.Sum Un:=⟨[.str, .str],[.sl 9],false,false,fun(a:ByteArray×ByteArray)=>gd (a.1.size<4294967281∧1≤a.2.size) (some (eF a.1 a.2))⟩
theorem Yc (args:Array Value)(w:World):(callFunc 246 args).run Tryz.prog w= .ok (.enter 246 args) w:=by kernel_rfl
theorem O1 (a:ByteArray×ByteArray):(EV.aT Yn dN.ar a).map EV.sD=[.str a.1, .str a.2]:=by kernel_rfl
theorem O3 (a:ByteArray×ByteArray):jI ((EV.aT Yn dN.rs (eF a.1 a.2)).map EV.sD)= .slice 1 ((eF a.1 a.2).map sV):=by kernel_rfl
theorem O4 (a:ByteArray×ByteArray)(r:EV.nD Un dN.rs)(hr:gd (a.1.size<4294967281∧1≤a.2.size) (some (eF a.1 a.2))=some r):Spec Tryz.prog G0 246 ((EV.aT Yn dN.ar a).map EV.sD) (fun v=>v=jI ((EV.aT Yn dN.rs r).map EV.sD)):=by
 unfold gd at hr
 split at hr
 ·rename_i hp
  have e:=Option.some.inj hr
  subst e
  rw[O1,O3]
  exact aNg Yc (fun s sep m w a b c=>Tryz.strings_Split s sep m w a b c) a.1 a.2 hp.1 hp.2
 ·cases hr
theorem yT:EV.uL Tryz.prog G0 Yn 246 dN:=fun(a:ByteArray×ByteArray) r hr=>⟨fun _ _=>O4 a r hr,fun _ h=>absurd (show false=true from h) Bool.false_ne_true,fun h=>absurd (show false=true from h) Bool.false_ne_true,fun h=>absurd (show false=true from h) Bool.false_ne_true⟩
def eO:EV.Sum Un:=⟨[.sl 9, .str],[.str],false,false,fun(a:(List ByteArray)×ByteArray)=>gd (0<a.1.length∧(iT a.2 a.1).size≤140737488355328∧a.1.length≤140737488355328) (some (iT a.2 a.1))⟩
theorem O5 (args:Array Value)(w:World):(callFunc 247 args).run Tryz.prog w= .ok (.enter 247 args) w:=by kernel_rfl
theorem aB6 (a:(List ByteArray)×ByteArray):(EV.aT Yn eO.ar a).map EV.sD=[.slice 1 (a.1.map sV), .str a.2]:=by kernel_rfl
theorem aB7 (a:(List ByteArray)×ByteArray):jI ((EV.aT Yn eO.rs (iT a.2 a.1)).map EV.sD)= .str (iT a.2 a.1):=by kernel_rfl
theorem aB8 (a:(List ByteArray)×ByteArray)(r:EV.nD Un eO.rs)(hr:gd (0<a.1.length∧(iT a.2 a.1).size≤140737488355328∧a.1.length≤140737488355328) (some (iT a.2 a.1))=some r):Spec Tryz.prog G0 247 ((EV.aT Yn eO.ar a).map EV.sD) (fun v=>v=jI ((EV.aT Yn eO.rs r).map EV.sD)):=by
 unfold gd at hr
 split at hr
 ·rename_i hp
  have e:=Option.some.inj hr
  subst e
  rw[aB6,aB7]
  exact aO9 O5 Tryz.strings_Join a.1 a.2 (by intro h;have:=hp.1;rw[h] at this;simp at this) hp.2.1 hp.2.2
 ·cases hr
theorem aB9:EV.uL Tryz.prog G0 Yn 247 eO:=fun(a:(List ByteArray)×ByteArray) r hr=>⟨fun _ _=>aB8 a r hr,fun _ h=>absurd (show false=true from h) Bool.false_ne_true,fun h=>absurd (show false=true from h) Bool.false_ne_true,fun h=>absurd (show false=true from h) Bool.false_ne_true⟩
def bZ:EV.Sum Un:=⟨[.str, .str],[.int .i64],false,false,fun(a:ByteArray×ByteArray)=>gd (a.2.size=1) (some (Lib.indexByte a.1.data.toList (a.2.data.toList.getD 0 0)))⟩
theorem Dm (args:Array Value)(w:World):(callFunc 265 args).run Tryz.prog w= .ok (.enter 265 args) w:=by kernel_rfl
theorem Jj (a:ByteArray×ByteArray):(EV.aT Yn bZ.ar a).map EV.sD=[.str a.1, .str a.2]:=by kernel_rfl
theorem Jk (a:ByteArray×ByteArray):jI ((EV.aT Yn bZ.rs (Lib.indexByte a.1.data.toList (a.2.data.toList.getD 0 0))).map EV.sD)= .int .i64 (Lib.indexByte a.1.data.toList (a.2.data.toList.getD 0 0)):=by kernel_rfl
theorem Jl (a:ByteArray×ByteArray)(r:EV.nD Un bZ.rs)(hr:gd (a.2.size=1) (some (Lib.indexByte a.1.data.toList (a.2.data.toList.getD 0 0)))=some r):Spec Tryz.prog G0 265 ((EV.aT Yn bZ.ar a).map EV.sD) (fun v=>v=jI ((EV.aT Yn bZ.rs r).map EV.sD)):=by
 unfold gd at hr
 split at hr
 ·rename_i hp
  have e:=Option.some.inj hr
  subst e
  rw[Jj,Jk]
  exact aNf Dm (fun s c w=>Tryz.stringslite_Index_one s c w) a.1 a.2 hp
 ·cases hr
theorem nI:EV.uL Tryz.prog G0 Yn 265 bZ:=fun(a:ByteArray×ByteArray) r hr=>⟨fun _ _=>Jl a r hr,fun _ h=>absurd (show false=true from h) Bool.false_ne_true,fun h=>absurd (show false=true from h) Bool.false_ne_true,fun h=>absurd (show false=true from h) Bool.false_ne_true⟩
def O6:EV.Sum Un:=⟨[.str],[.int .i64, .bool],false,false,fun(a:ByteArray)=>none⟩
theorem O7:OK 279 O6:=fun _ _ h=>nomatch h
def Yd:EV.Sum Un:=⟨[.int .i64],[.str],false,false,fun(a:Int)=>none⟩
theorem Ye:OK 227 Yd:=fun _ _ h=>nomatch h
def O8:EV.Sum Un:=⟨[.str],[.int .i64, .bool],false,false,fun(a:ByteArray)=>none⟩
theorem O9:OK 260 O8:=fun _ _ h=>nomatch h
def Yf:EV.Sum Un:=⟨[.int .i64],[.str],false,false,fun(a:Int)=>none⟩
theorem Yg:OK 207 Yf:=fun _ _ h=>nomatch h
end
end Go.VK
