import Derived.Test.YtehmmnigkcmhoaaGreatDoorXmFF
import Derived.Test.YtehmmnigkcmhoaaGreatDoorEVzbtor
import Derived.Test.YtehmmnigkcmhoaaGreatDoorProg
import Derived.Test.YtehmmnigkcmhoaaGreatDoorTryzShelf
/- Printed by wip/tools: models, walks, proofs. -/
set_option linter.unusedVariables false
set_option linter.unusedSimpArgs false
set_option maxRecDepth 100000
set_option maxHeartbeats 4000000
namespace Go.VK
open Go.RowKit Go.Proofs
noncomputable section
abbrev G0:GI:=bC1 0
def El:Nat→Type
 |105=>D.aAO
 |230=>D.aAD
 |303=>D.Entry
 |108=>D.aAH
 |110=>D.Device
 |4=>Bool
 |5=>Int
 |268=>D.Box
 |27=>D.aAF
 |200=>D.aAB
 |30=>D.aAJ
 |315=>D.aAG
 |272=>D.aAE
 |306=>D.aAK
 |118=>D.aAC
 |3=>Int
 |120=>D.Site
 |33=>D.aAQ
 |123=>D.aAN
 |125=>D.aAL
 |128=>D.aAA
 |238=>D.aAM
 |37=>D.aAI
 |39=>D.World
 |130=>D.aAO
 |222=>D.aAD
 |259=>D.Entry
 |133=>D.aAH
 |135=>D.Device
 |274=>D.Box
 |46=>D.aAF
 |207=>D.aAB
 |49=>D.aAJ
 |276=>D.aAG
 |211=>D.aAE
 |264=>D.aAK
 |141=>D.aAC
 |143=>D.Site
 |51=>D.aAQ
 |168=>D.aAN
 |170=>D.aAL
 |173=>D.aAA
 |219=>D.aAM
 |55=>D.aAI
 |57=>D.World
 |40=>List Int
 |9=>ByteArray
 |_=>Empty
def bB6:(τ:Nat)→El τ→List V
 |105=>D.aAO.V
 |230=>D.aAD.V
 |303=>D.Entry.V
 |108=>D.aAH.V
 |110=>D.Device.V
 |4=>bV
 |5=>y8
 |268=>D.Box.V
 |27=>D.aAF.V
 |200=>D.aAB.V
 |30=>D.aAJ.V
 |315=>D.aAG.V
 |272=>D.aAE.V
 |306=>D.aAK.V
 |118=>D.aAC.V
 |3=>iV
 |120=>D.Site.V
 |33=>D.aAQ.V
 |123=>D.aAN.V
 |125=>D.aAL.V
 |128=>D.aAA.V
 |238=>D.aAM.V
 |37=>D.aAI.V
 |39=>D.World.V
 |130=>D.aAO.V
 |222=>D.aAD.V
 |259=>D.Entry.V
 |133=>D.aAH.V
 |135=>D.Device.V
 |274=>D.Box.V
 |46=>D.aAF.V
 |207=>D.aAB.V
 |49=>D.aAJ.V
 |276=>D.aAG.V
 |211=>D.aAE.V
 |264=>D.aAK.V
 |141=>D.aAC.V
 |143=>D.Site.V
 |51=>D.aAQ.V
 |168=>D.aAN.V
 |170=>D.aAL.V
 |173=>D.aAA.V
 |219=>D.aAM.V
 |55=>D.aAI.V
 |57=>D.World.V
 |40=>(fun l=>[V.slice 1 (l.map iV)])
 |9=>sV
 |_=>fun _=>[]
def Un:EV.Uni:=⟨El,fun|105=>4|230=>6|303=>4|108=>1|110=>9|4=>1|5=>1|268=>4|27=>2|200=>4|30=>4|315=>4|272=>3|306=>3|118=>3|3=>1|120=>6|33=>4|123=>2|125=>5|128=>7|238=>4|37=>1|39=>16|130=>4|222=>6|259=>4|133=>1|135=>9|274=>4|46=>2|207=>4|49=>4|276=>4|211=>3|264=>3|141=>3|143=>6|51=>4|168=>2|170=>5|173=>7|219=>4|55=>1|57=>16|40=>1|9=>1|_=>0,bB6⟩
def aO5:(τ:Nat)→El τ→List (EV.Lf Un)
 |105=>fun x=>[.int .i64 x.Vendor, .int .i64 x.Serial, .int .i64 x.Seed, .int .i64 x.Counter]
 |230=>fun x=>[.int .i64 x.Index, .int .i64 x.Kind, .int .i64 x.Device, .int .i64 x.By, .int .i64 x.Previous, .int .i64 x.Signature]
 |303=>fun x=>[.int .i64 x.Site, .int .i64 x.Handle, .int .i64 x.Version, .bool x.Deleted]
 |108=>fun x=>[.sl 303 x.Entries]
 |110=>fun x=>[.int .i64 x.Store.Vendor, .int .i64 x.Store.Serial, .int .i64 x.Store.Seed, .int .i64 x.Store.Counter, .sl 230 x.Log, .int .i64 x.Key, .int .i64 x.Epoch, .int .i64 x.Version, .sl 303 x.aAH.Entries]
 |4=>fun x=>[.bool x]
 |5=>fun x=>[.int .u8 x]
 |268=>fun x=>[.int .i64 x.To, .int .i64 x.Ephemeral, .sl 5 x.Data, .int .i64 x.MAC]
 |27=>fun x=>[.int .i64 x.Epoch, .sl 268 x.Boxes]
 |200=>fun x=>[.int .i64 x.Epoch, .int .i64 x.Version, .sl 5 x.Data, .int .i64 x.MAC]
 |30=>fun x=>[.sl 230 x.Log, .int .i64 x.Boxes.Epoch, .sl 268 x.Boxes.Boxes, .sl 200 x.History]
 |315=>fun x=>[.int .i64 x.Handle, .int .i64 x.Public, .int .i64 x.Counter, .bool x.Cut]
 |272=>fun x=>[.int .i64 x.Id, .int .i64 x.Minimum, .sl 315 x.Credentials]
 |306=>fun x=>[.int .i64 x.Id, .int .i64 x.aAE, .int .i64 x.Until]
 |118=>fun x=>[.int .i64 x.Seed, .int .i64 x.Next, .sl 306 x.Open]
 |3=>fun x=>[.int .i64 x]
 |120=>fun x=>[.str x.Name, .sl 272 x.Accounts, .int .i64 x.Book.Seed, .int .i64 x.Book.Next, .sl 306 x.Book.Open, .sl 3 x.Logins]
 |33=>fun x=>[.int .i64 x.Salt, .int .i64 x.Threshold, .int .i64 x.Check, .int .i64 x.Masked]
 |123=>fun x=>[.int .i64 x.Index, .int .i64 x.Value]
 |125=>fun x=>[.int .i64 x.aAN.Index, .int .i64 x.aAN.Value, .int .i64 x.Epoch, .int .i64 x.Guesses, .int .i64 x.Limit]
 |128=>fun x=>[.int .i64 x.State.aAN.Index, .int .i64 x.State.aAN.Value, .int .i64 x.State.Epoch, .int .i64 x.State.Guesses, .int .i64 x.State.Limit, .sl 125 x.Saved, .int .i64 x.Monotonic]
 |238=>fun x=>[.int .i64 x.Kind, .int .i64 x.aAE, .int .i64 x.Time, .bool x.Seen]
 |37=>fun x=>[.sl 238 x.Notices]
 |39=>fun x=>[.int .i64 x.Now, .int .i64 x.Seed, .sl 110 x.Devices, .sl 4 x.Stolen, .sl 230 x.aAJ.Log, .int .i64 x.aAJ.Boxes.Epoch, .sl 268 x.aAJ.Boxes.Boxes, .sl 200 x.aAJ.History, .sl 120 x.Sites, .int .i64 x.aAQ.Salt, .int .i64 x.aAQ.Threshold, .int .i64 x.aAQ.Check, .int .i64 x.aAQ.Masked, .sl 128 x.Hosts, .int .i64 x.Pin, .sl 238 x.Mail.Notices]
 |130=>fun x=>[.int .i64 x.Vendor, .int .i64 x.Serial, .int .i64 x.Seed, .int .i64 x.Counter]
 |222=>fun x=>[.int .i64 x.Index, .int .i64 x.Kind, .int .i64 x.Device, .int .i64 x.By, .int .i64 x.Previous, .int .i64 x.Signature]
 |259=>fun x=>[.int .i64 x.Site, .int .i64 x.Handle, .int .i64 x.Version, .bool x.Deleted]
 |133=>fun x=>[.sl 259 x.Entries]
 |135=>fun x=>[.int .i64 x.Store.Vendor, .int .i64 x.Store.Serial, .int .i64 x.Store.Seed, .int .i64 x.Store.Counter, .sl 222 x.Log, .int .i64 x.Key, .int .i64 x.Epoch, .int .i64 x.Version, .sl 259 x.aAH.Entries]
 |274=>fun x=>[.int .i64 x.To, .int .i64 x.Ephemeral, .sl 5 x.Data, .int .i64 x.MAC]
 |46=>fun x=>[.int .i64 x.Epoch, .sl 274 x.Boxes]
 |207=>fun x=>[.int .i64 x.Epoch, .int .i64 x.Version, .sl 5 x.Data, .int .i64 x.MAC]
 |49=>fun x=>[.sl 222 x.Log, .int .i64 x.Boxes.Epoch, .sl 274 x.Boxes.Boxes, .sl 207 x.History]
 |276=>fun x=>[.int .i64 x.Handle, .int .i64 x.Public, .int .i64 x.Counter, .bool x.Cut]
 |211=>fun x=>[.int .i64 x.Id, .int .i64 x.Minimum, .sl 276 x.Credentials]
 |264=>fun x=>[.int .i64 x.Id, .int .i64 x.aAE, .int .i64 x.Until]
 |141=>fun x=>[.int .i64 x.Seed, .int .i64 x.Next, .sl 264 x.Open]
 |143=>fun x=>[.str x.Name, .sl 211 x.Accounts, .int .i64 x.Book.Seed, .int .i64 x.Book.Next, .sl 264 x.Book.Open, .sl 3 x.Logins]
 |51=>fun x=>[.int .i64 x.Salt, .int .i64 x.Threshold, .int .i64 x.Check, .int .i64 x.Masked]
 |168=>fun x=>[.int .i64 x.Index, .int .i64 x.Value]
 |170=>fun x=>[.int .i64 x.aAN.Index, .int .i64 x.aAN.Value, .int .i64 x.Epoch, .int .i64 x.Guesses, .int .i64 x.Limit]
 |173=>fun x=>[.int .i64 x.State.aAN.Index, .int .i64 x.State.aAN.Value, .int .i64 x.State.Epoch, .int .i64 x.State.Guesses, .int .i64 x.State.Limit, .sl 170 x.Saved, .int .i64 x.Monotonic]
 |219=>fun x=>[.int .i64 x.Kind, .int .i64 x.aAE, .int .i64 x.Time, .bool x.Seen]
 |55=>fun x=>[.sl 219 x.Notices]
 |57=>fun x=>[.int .i64 x.Now, .int .i64 x.Seed, .sl 135 x.Devices, .sl 4 x.Stolen, .sl 222 x.aAJ.Log, .int .i64 x.aAJ.Boxes.Epoch, .sl 274 x.aAJ.Boxes.Boxes, .sl 207 x.aAJ.History, .sl 143 x.Sites, .int .i64 x.aAQ.Salt, .int .i64 x.aAQ.Threshold, .int .i64 x.aAQ.Check, .int .i64 x.aAQ.Masked, .sl 173 x.Hosts, .int .i64 x.Pin, .sl 219 x.Mail.Notices]
 |40=>fun x=>[.sl 3 x]
 |9=>fun x=>[.str x]
 |_=>fun _=>[]
def pG:Nat→List EV.Kd
 |105=>[.int .i64, .int .i64, .int .i64, .int .i64]
 |230=>[.int .i64, .int .i64, .int .i64, .int .i64, .int .i64, .int .i64]
 |303=>[.int .i64, .int .i64, .int .i64, .bool]
 |108=>[.sl 303]
 |110=>[.int .i64, .int .i64, .int .i64, .int .i64, .sl 230, .int .i64, .int .i64, .int .i64, .sl 303]
 |4=>[.bool]
 |5=>[.int .u8]
 |268=>[.int .i64, .int .i64, .sl 5, .int .i64]
 |27=>[.int .i64, .sl 268]
 |200=>[.int .i64, .int .i64, .sl 5, .int .i64]
 |30=>[.sl 230, .int .i64, .sl 268, .sl 200]
 |315=>[.int .i64, .int .i64, .int .i64, .bool]
 |272=>[.int .i64, .int .i64, .sl 315]
 |306=>[.int .i64, .int .i64, .int .i64]
 |118=>[.int .i64, .int .i64, .sl 306]
 |3=>[.int .i64]
 |120=>[.str, .sl 272, .int .i64, .int .i64, .sl 306, .sl 3]
 |33=>[.int .i64, .int .i64, .int .i64, .int .i64]
 |123=>[.int .i64, .int .i64]
 |125=>[.int .i64, .int .i64, .int .i64, .int .i64, .int .i64]
 |128=>[.int .i64, .int .i64, .int .i64, .int .i64, .int .i64, .sl 125, .int .i64]
 |238=>[.int .i64, .int .i64, .int .i64, .bool]
 |37=>[.sl 238]
 |39=>[.int .i64, .int .i64, .sl 110, .sl 4, .sl 230, .int .i64, .sl 268, .sl 200, .sl 120, .int .i64, .int .i64, .int .i64, .int .i64, .sl 128, .int .i64, .sl 238]
 |130=>[.int .i64, .int .i64, .int .i64, .int .i64]
 |222=>[.int .i64, .int .i64, .int .i64, .int .i64, .int .i64, .int .i64]
 |259=>[.int .i64, .int .i64, .int .i64, .bool]
 |133=>[.sl 259]
 |135=>[.int .i64, .int .i64, .int .i64, .int .i64, .sl 222, .int .i64, .int .i64, .int .i64, .sl 259]
 |274=>[.int .i64, .int .i64, .sl 5, .int .i64]
 |46=>[.int .i64, .sl 274]
 |207=>[.int .i64, .int .i64, .sl 5, .int .i64]
 |49=>[.sl 222, .int .i64, .sl 274, .sl 207]
 |276=>[.int .i64, .int .i64, .int .i64, .bool]
 |211=>[.int .i64, .int .i64, .sl 276]
 |264=>[.int .i64, .int .i64, .int .i64]
 |141=>[.int .i64, .int .i64, .sl 264]
 |143=>[.str, .sl 211, .int .i64, .int .i64, .sl 264, .sl 3]
 |51=>[.int .i64, .int .i64, .int .i64, .int .i64]
 |168=>[.int .i64, .int .i64]
 |170=>[.int .i64, .int .i64, .int .i64, .int .i64, .int .i64]
 |173=>[.int .i64, .int .i64, .int .i64, .int .i64, .int .i64, .sl 170, .int .i64]
 |219=>[.int .i64, .int .i64, .int .i64, .bool]
 |55=>[.sl 219]
 |57=>[.int .i64, .int .i64, .sl 135, .sl 4, .sl 222, .int .i64, .sl 274, .sl 207, .sl 143, .int .i64, .int .i64, .int .i64, .int .i64, .sl 173, .int .i64, .sl 219]
 |40=>[.sl 3]
 |9=>[.str]
 |_=>[]
def bC4:(τ:Nat)→List (EV.Lf Un)→Option (El τ)
 |105=>EV.eX (pG 105) D.aAO.mk
 |230=>EV.eX (pG 230) D.aAD.mk
 |303=>EV.eX (pG 303) D.Entry.mk
 |108=>EV.eX (pG 108) D.aAH.mk
 |110=>EV.eX (pG 110) (fun a0 a1 a2 a3 a4 a5 a6 a7 a8=>(⟨⟨a0,a1,a2,a3⟩,a4,a5,a6,a7,⟨a8⟩⟩:D.Device))
 |4=>EV.eX (pG 4) (fun x=>x)
 |5=>EV.eX (pG 5) (fun x=>x)
 |268=>EV.eX (pG 268) D.Box.mk
 |27=>EV.eX (pG 27) D.aAF.mk
 |200=>EV.eX (pG 200) D.aAB.mk
 |30=>EV.eX (pG 30) (fun a0 a1 a2 a3=>(⟨a0,⟨a1,a2⟩,a3⟩:D.aAJ))
 |315=>EV.eX (pG 315) D.aAG.mk
 |272=>EV.eX (pG 272) D.aAE.mk
 |306=>EV.eX (pG 306) D.aAK.mk
 |118=>EV.eX (pG 118) D.aAC.mk
 |3=>EV.eX (pG 3) (fun x=>x)
 |120=>EV.eX (pG 120) (fun a0 a1 a2 a3 a4 a5=>(⟨a0,a1,⟨a2,a3,a4⟩,a5⟩:D.Site))
 |33=>EV.eX (pG 33) D.aAQ.mk
 |123=>EV.eX (pG 123) D.aAN.mk
 |125=>EV.eX (pG 125) (fun a0 a1 a2 a3 a4=>(⟨⟨a0,a1⟩,a2,a3,a4⟩:D.aAL))
 |128=>EV.eX (pG 128) (fun a0 a1 a2 a3 a4 a5 a6=>(⟨⟨⟨a0,a1⟩,a2,a3,a4⟩,a5,a6⟩:D.aAA))
 |238=>EV.eX (pG 238) D.aAM.mk
 |37=>EV.eX (pG 37) D.aAI.mk
 |39=>EV.eX (pG 39) (fun a0 a1 a2 a3 a4 a5 a6 a7 a8 a9 a10 a11 a12 a13 a14 a15=>(⟨a0,a1,a2,a3,⟨a4,⟨a5,a6⟩,a7⟩,a8,⟨a9,a10,a11,a12⟩,a13,a14,⟨a15⟩⟩:D.World))
 |130=>EV.eX (pG 130) D.aAO.mk
 |222=>EV.eX (pG 222) D.aAD.mk
 |259=>EV.eX (pG 259) D.Entry.mk
 |133=>EV.eX (pG 133) D.aAH.mk
 |135=>EV.eX (pG 135) (fun a0 a1 a2 a3 a4 a5 a6 a7 a8=>(⟨⟨a0,a1,a2,a3⟩,a4,a5,a6,a7,⟨a8⟩⟩:D.Device))
 |274=>EV.eX (pG 274) D.Box.mk
 |46=>EV.eX (pG 46) D.aAF.mk
 |207=>EV.eX (pG 207) D.aAB.mk
 |49=>EV.eX (pG 49) (fun a0 a1 a2 a3=>(⟨a0,⟨a1,a2⟩,a3⟩:D.aAJ))
 |276=>EV.eX (pG 276) D.aAG.mk
 |211=>EV.eX (pG 211) D.aAE.mk
 |264=>EV.eX (pG 264) D.aAK.mk
 |141=>EV.eX (pG 141) D.aAC.mk
 |143=>EV.eX (pG 143) (fun a0 a1 a2 a3 a4 a5=>(⟨a0,a1,⟨a2,a3,a4⟩,a5⟩:D.Site))
 |51=>EV.eX (pG 51) D.aAQ.mk
 |168=>EV.eX (pG 168) D.aAN.mk
 |170=>EV.eX (pG 170) (fun a0 a1 a2 a3 a4=>(⟨⟨a0,a1⟩,a2,a3,a4⟩:D.aAL))
 |173=>EV.eX (pG 173) (fun a0 a1 a2 a3 a4 a5 a6=>(⟨⟨⟨a0,a1⟩,a2,a3,a4⟩,a5,a6⟩:D.aAA))
 |219=>EV.eX (pG 219) D.aAM.mk
 |55=>EV.eX (pG 55) D.aAI.mk
 |57=>EV.eX (pG 57) (fun a0 a1 a2 a3 a4 a5 a6 a7 a8 a9 a10 a11 a12 a13 a14 a15=>(⟨a0,a1,a2,a3,⟨a4,⟨a5,a6⟩,a7⟩,a8,⟨a9,a10,a11,a12⟩,a13,a14,⟨a15⟩⟩:D.World))
 |40=>EV.eX (pG 40) (fun x=>x)
 |9=>EV.eX (pG 9) (fun x=>x)
 |_=>fun _=>none
def TI:List (Nat×EV.TInfo):=[
 (3,⟨.int .i64,1,[.int .i64]⟩),
 (4,⟨.bool,1,[.bool]⟩),
 (5,⟨.int .u8,1,[.int .u8]⟩),
 (9,⟨.str,1,[.str]⟩),
 (22,⟨.sl 110 9 104,1,[.nil]⟩),
 (23,⟨.sl 4 1 1,1,[.nil]⟩),
 (24,⟨.sl 230 6 48,1,[.nil]⟩),
 (25,⟨.sl 268 4 48,1,[.nil]⟩),
 (27,⟨.st [(0,3,1),(1,25,1)],2,[.int .i64, .nil]⟩),
 (28,⟨.sl 200 4 48,1,[.nil]⟩),
 (30,⟨.st [(0,24,1),(1,27,2),(3,28,1)],4,[.nil, .int .i64, .nil, .nil]⟩),
 (31,⟨.sl 120 6 104,1,[.nil]⟩),
 (33,⟨.st [(0,3,1),(1,3,1),(2,3,1),(3,3,1)],4,[.int .i64, .int .i64, .int .i64, .int .i64]⟩),
 (34,⟨.sl 128 7 72,1,[.nil]⟩),
 (35,⟨.sl 238 4 32,1,[.nil]⟩),
 (37,⟨.st [(0,35,1)],1,[.nil]⟩),
 (39,⟨.st [(0,3,1),(1,3,1),(2,22,1),(3,23,1),(4,30,4),(8,31,1),(9,33,4),(13,34,1),(14,3,1),(15,37,1)],16,[.int .i64, .int .i64, .nil, .nil, .nil, .int .i64, .nil, .nil, .nil, .int .i64, .int .i64, .int .i64, .int .i64, .nil, .int .i64, .nil]⟩),
 (40,⟨.sl 3 1 8,1,[.nil]⟩),
 (42,⟨.sl 135 9 104,1,[.nil]⟩),
 (43,⟨.sl 222 6 48,1,[.nil]⟩),
 (44,⟨.sl 274 4 48,1,[.nil]⟩),
 (46,⟨.st [(0,3,1),(1,44,1)],2,[.int .i64, .nil]⟩),
 (47,⟨.sl 207 4 48,1,[.nil]⟩),
 (49,⟨.st [(0,43,1),(1,46,2),(3,47,1)],4,[.nil, .int .i64, .nil, .nil]⟩),
 (50,⟨.sl 143 6 104,1,[.nil]⟩),
 (51,⟨.st [(0,3,1),(1,3,1),(2,3,1),(3,3,1)],4,[.int .i64, .int .i64, .int .i64, .int .i64]⟩),
 (52,⟨.sl 173 7 72,1,[.nil]⟩),
 (53,⟨.sl 219 4 32,1,[.nil]⟩),
 (55,⟨.st [(0,53,1)],1,[.nil]⟩),
 (57,⟨.st [(0,3,1),(1,3,1),(2,42,1),(3,23,1),(4,49,4),(8,50,1),(9,51,4),(13,52,1),(14,3,1),(15,55,1)],16,[.int .i64, .int .i64, .nil, .nil, .nil, .int .i64, .nil, .nil, .nil, .int .i64, .int .i64, .int .i64, .int .i64, .nil, .int .i64, .nil]⟩),
 (105,⟨.st [(0,3,1),(1,3,1),(2,3,1),(3,3,1)],4,[.int .i64, .int .i64, .int .i64, .int .i64]⟩),
 (106,⟨.sl 303 4 32,1,[.nil]⟩),
 (108,⟨.st [(0,106,1)],1,[.nil]⟩),
 (110,⟨.st [(0,105,4),(4,24,1),(5,3,1),(6,3,1),(7,3,1),(8,108,1)],9,[.int .i64, .int .i64, .int .i64, .int .i64, .nil, .int .i64, .int .i64, .int .i64, .nil]⟩),
 (115,⟨.sl 272 3 40,1,[.nil]⟩),
 (116,⟨.sl 306 3 24,1,[.nil]⟩),
 (118,⟨.st [(0,3,1),(1,3,1),(2,116,1)],3,[.int .i64, .int .i64, .nil]⟩),
 (120,⟨.st [(0,9,1),(1,115,1),(2,118,3),(5,40,1)],6,[.str, .nil, .int .i64, .int .i64, .nil, .nil]⟩),
 (123,⟨.st [(0,3,1),(1,3,1)],2,[.int .i64, .int .i64]⟩),
 (125,⟨.st [(0,123,2),(2,3,1),(3,3,1),(4,3,1)],5,[.int .i64, .int .i64, .int .i64, .int .i64, .int .i64]⟩),
 (126,⟨.sl 125 5 40,1,[.nil]⟩),
 (128,⟨.st [(0,125,5),(5,126,1),(6,3,1)],7,[.int .i64, .int .i64, .int .i64, .int .i64, .int .i64, .nil, .int .i64]⟩),
 (130,⟨.st [(0,3,1),(1,3,1),(2,3,1),(3,3,1)],4,[.int .i64, .int .i64, .int .i64, .int .i64]⟩),
 (131,⟨.sl 259 4 32,1,[.nil]⟩),
 (133,⟨.st [(0,131,1)],1,[.nil]⟩),
 (135,⟨.st [(0,130,4),(4,43,1),(5,3,1),(6,3,1),(7,3,1),(8,133,1)],9,[.int .i64, .int .i64, .int .i64, .int .i64, .nil, .int .i64, .int .i64, .int .i64, .nil]⟩),
 (138,⟨.sl 211 3 40,1,[.nil]⟩),
 (139,⟨.sl 264 3 24,1,[.nil]⟩),
 (141,⟨.st [(0,3,1),(1,3,1),(2,139,1)],3,[.int .i64, .int .i64, .nil]⟩),
 (143,⟨.st [(0,9,1),(1,138,1),(2,141,3),(5,40,1)],6,[.str, .nil, .int .i64, .int .i64, .nil, .nil]⟩),
 (168,⟨.st [(0,3,1),(1,3,1)],2,[.int .i64, .int .i64]⟩),
 (170,⟨.st [(0,168,2),(2,3,1),(3,3,1),(4,3,1)],5,[.int .i64, .int .i64, .int .i64, .int .i64, .int .i64]⟩),
 (171,⟨.sl 170 5 40,1,[.nil]⟩),
 (173,⟨.st [(0,170,5),(5,171,1),(6,3,1)],7,[.int .i64, .int .i64, .int .i64, .int .i64, .int .i64, .nil, .int .i64]⟩),
 (198,⟨.sl 5 1 1,1,[.nil]⟩),
 (200,⟨.st [(0,3,1),(1,3,1),(2,198,1),(3,3,1)],4,[.int .i64, .int .i64, .nil, .int .i64]⟩),
 (207,⟨.st [(0,3,1),(1,3,1),(2,198,1),(3,3,1)],4,[.int .i64, .int .i64, .nil, .int .i64]⟩),
 (209,⟨.sl 276 4 32,1,[.nil]⟩),
 (211,⟨.st [(0,3,1),(1,3,1),(2,209,1)],3,[.int .i64, .int .i64, .nil]⟩),
 (219,⟨.st [(0,3,1),(1,3,1),(2,3,1),(3,4,1)],4,[.int .i64, .int .i64, .int .i64, .bool]⟩),
 (222,⟨.st [(0,3,1),(1,3,1),(2,3,1),(3,3,1),(4,3,1),(5,3,1)],6,[.int .i64, .int .i64, .int .i64, .int .i64, .int .i64, .int .i64]⟩),
 (230,⟨.st [(0,3,1),(1,3,1),(2,3,1),(3,3,1),(4,3,1),(5,3,1)],6,[.int .i64, .int .i64, .int .i64, .int .i64, .int .i64, .int .i64]⟩),
 (238,⟨.st [(0,3,1),(1,3,1),(2,3,1),(3,4,1)],4,[.int .i64, .int .i64, .int .i64, .bool]⟩),
 (247,⟨.sl 40 1 24,1,[.nil]⟩),
 (259,⟨.st [(0,3,1),(1,3,1),(2,3,1),(3,4,1)],4,[.int .i64, .int .i64, .int .i64, .bool]⟩),
 (264,⟨.st [(0,3,1),(1,3,1),(2,3,1)],3,[.int .i64, .int .i64, .int .i64]⟩),
 (268,⟨.st [(0,3,1),(1,3,1),(2,198,1),(3,3,1)],4,[.int .i64, .int .i64, .nil, .int .i64]⟩),
 (270,⟨.sl 315 4 32,1,[.nil]⟩),
 (272,⟨.st [(0,3,1),(1,3,1),(2,270,1)],3,[.int .i64, .int .i64, .nil]⟩),
 (274,⟨.st [(0,3,1),(1,3,1),(2,198,1),(3,3,1)],4,[.int .i64, .int .i64, .nil, .int .i64]⟩),
 (276,⟨.st [(0,3,1),(1,3,1),(2,3,1),(3,4,1)],4,[.int .i64, .int .i64, .int .i64, .bool]⟩),
 (278,⟨.sl 9 1 16,1,[.nil]⟩),
 (303,⟨.st [(0,3,1),(1,3,1),(2,3,1),(3,4,1)],4,[.int .i64, .int .i64, .int .i64, .bool]⟩),
 (306,⟨.st [(0,3,1),(1,3,1),(2,3,1)],3,[.int .i64, .int .i64, .int .i64]⟩),
 (313,⟨.sl 168 2 16,1,[.nil]⟩),
 (315,⟨.st [(0,3,1),(1,3,1),(2,3,1),(3,4,1)],4,[.int .i64, .int .i64, .int .i64, .bool]⟩),
 (330,⟨.st [],8,[.bool, .bool, .bool, .bool, .bool, .bool, .bool, .bool]⟩)]
theorem lay (τ:Nat):(∀x:El τ,((aO5 τ x).map EV.Lf.toV=bB6 τ x∧(aO5 τ x).length=Un.K τ)∧(aO5 τ x).map EV.kdL=(pG τ).map some)∧∀(cs:List (EV.Lf Un)) (x:El τ),bC4 τ cs=some x→cs=aO5 τ x:=by
 by_cases h:τ∈[105,230,303,108,110,4,5,268,27,200,30,315,272,306,118,3,120,33,123,125,128,238,37,39,130,222,259,133,135,274,46,207,49,276,211,264,141,143,51,168,170,173,219,55,57,40,9]
 ·simp only[List.mem_cons,List.not_mem_nil,or_false] at h
  rcases h with rfl|rfl|rfl|rfl|rfl|rfl|rfl|rfl|rfl|rfl|rfl|rfl|rfl|rfl|rfl|rfl|rfl|rfl|rfl|rfl|rfl|rfl|rfl|rfl|rfl|rfl|rfl|rfl|rfl|rfl|rfl|rfl|rfl|rfl|rfl|rfl|rfl|rfl|rfl|rfl|rfl|rfl|rfl|rfl|rfl|rfl|rfl<;>exact⟨fun _=>⟨⟨rfl,rfl⟩,rfl⟩,fun _ _ h=>by obtain⟨t,rfl,rfl⟩:=EV.aTo h;rfl⟩
 ·have e:El τ=Empty:=by
   unfold El
   split<;>first|(exfalso;revert h;decide)|rfl
  exact⟨fun x=>(cast e x).elim,fun _ x=>(cast e x).elim⟩
theorem hc1 (τ:Nat)(x:El τ):(aO5 τ x).map EV.Lf.toV=bB6 τ x:=((lay τ).1 x).1.1
theorem hc2 (τ:Nat)(x:El τ):(aO5 τ x).length=Un.K τ:=((lay τ).1 x).1.2
theorem hc3 (τ:Nat)(x:El τ)(c:EV.Lf Un)(hc:c∈aO5 τ x):c.aAW=true:=EV.aW1 ((lay τ).1 x).2 c hc
def Yn:EV.Lay Un:=⟨⟨aO5,bC4,hc1,hc2,hc3,fun τ=>(lay τ).2⟩,pG,5,fun n=>n,fun n=>n,fun _=>rfl,fun _=>rfl⟩
theorem ly1 (τ:Nat)(x:El τ):(aO5 τ x).map EV.kdL=(pG τ).map some:=((lay τ).1 x).2
theorem ly2:∀(τ τ':Nat),EV.Kd.sl τ'∈pG τ→0<Un.K τ':=by
 intro τ τ' h
 unfold pG at h
 split at h<;>simp only[List.mem_cons,List.not_mem_nil,or_false,reduceCtorEq,false_or,or_self,EV.Kd.sl.injEq] at h<;>first|exact h.elim|(subst h;exact Nat.le_of_ble_eq_true rfl)|(rcases h with h|h|h|h|h|h|h|h<;>(subst h;exact Nat.le_of_ble_eq_true rfl))|(rcases h with h|h|h|h|h|h|h<;>(subst h;exact Nat.le_of_ble_eq_true rfl))|(rcases h with h|h|h|h|h|h<;>(subst h;exact Nat.le_of_ble_eq_true rfl))|(rcases h with h|h|h|h|h<;>(subst h;exact Nat.le_of_ble_eq_true rfl))|(rcases h with h|h|h|h<;>(subst h;exact Nat.le_of_ble_eq_true rfl))|(rcases h with h|h|h<;>(subst h;exact Nat.le_of_ble_eq_true rfl))|(rcases h with h|h<;>(subst h;exact Nat.le_of_ble_eq_true rfl))
theorem bC5:EV.LayOk Yn:=⟨ly1,ly2⟩
def Rw (f:Func):Code:=match f.body with|some c=>c|none=> .skip
theorem T.mix:Tryz.prog.follows .mixedOrders=true:=by kernel_rfl
theorem aC:EV.Good Tryz.prog G0 Yn TI []:=⟨by kernel_rfl,bC5,fun f S h=>by simp at h⟩
abbrev SU:=EV.Sum Un
def OK (f:Nat)(S:SU):Prop:=EV.rT Tryz.prog G0 Yn f S
def bC6:SU:=⟨[],[],false,false,fun _=>none⟩
theorem bC7 (f:Nat):OK f bC6:=fun _ _ hr=>nomatch hr
def SIl:SU:=⟨[],[],false,true,fun _=>none⟩
theorem sIl (f:Nat):OK f SIl:=fun _ _ hr=>nomatch hr
def IL:EV.Il:=[(155,Rw Tryz.f155,53,[.cell 4 173, .tmp 5, .tmp 6]),(27,Rw Tryz.f27,23,[]),(39,Rw Tryz.f39,16,[.cell 4 57])]
theorem bAg:EV.mM Tryz.prog IL:=EV.aSt Tryz.func155 rfl Tryz.ntmps155 rfl (fun _ _=>by kernel_rfl)<|EV.aSt Tryz.func27 rfl Tryz.ntmps27 rfl (fun _ _=>by kernel_rfl)<|EV.aSt Tryz.func39 rfl Tryz.ntmps39 rfl (fun _ _=>by kernel_rfl)<|EV.bBv
def od (n:Nat)(l:List Nat):List (Nat×Bool):=(List.range n).map fun i=>(i, !l.contains i)
theorem gc {f:Nat}{S:SU}{FZ:List (Nat×SU)}(h:OK f S)(G:EV.Good Tryz.prog G0 Yn TI FZ):EV.Good Tryz.prog G0 Yn TI ((f,S)::FZ):=EV.aVq h G
theorem mkS {f:FuncId}{fn:Func}{n:Nat}{S:SU}{FZ:List (Nat×SU)}{m:EV.kV Un S.ar→Option (EV.kV Un S.rs)}(an:EV.An)(l:List ResultVar)(G:EV.Good Tryz.prog G0 Yn TI FZ)(hf:Tryz.prog.funcs[f]? =some fn)(hn:fn.ntmps=n)(ht:∀a r,S.m a=some r→m a=some r)(h:∀a,(fn.name== "runtime.NumGoroutine",EV.evF Yn TI FZ IL an (Rw fn) n S.ar S.rs S.fr l a)=(false,m a))(hb:fn.body=some (Rw fn):=by rfl)(hl:fn.results=l.toArray:=by rfl)(hlen:S.ar.length≤n:=by decide)(hw:S.wt=false:=by rfl):OK f S:=
 fun a r hr=>EV.bBy (an:=fun _=>an) G T.mix bAg hf hb hn hl (EV.aQu hf hb (congrArg Prod.fst (h a))) hlen hw (fun a r hr=>(congrArg Prod.snd (h a)).trans (ht a r hr)) a r hr
theorem mkW {f:FuncId}{fn:Func}{n:Nat}{kd:EV.Kd}{M m:EV.kV Un [kd, .int .i64]→Option (EV.kV Un [kd, .int .i64])}{FZ:List (Nat×SU)}(an:EV.An)(l:List ResultVar)(G:EV.Good Tryz.prog G0 Yn TI FZ)(hf:Tryz.prog.funcs[f]? =some fn)(hn:fn.ntmps=n)(ht:∀a r,M a=some r→m a=some r)(h:∀a,(fn.name== "runtime.NumGoroutine",EV.evM Yn TI FZ IL an (Rw fn) n kd l a)=(false,m a))(hb:fn.body=some (Rw fn):=by rfl)(hl:fn.results=l.toArray:=by rfl)(hlen:2≤n:=by decide):OK f ⟨[kd, .int .i64],[kd, .int .i64],false,true,M⟩:=
 fun a r hr=>EV.bBz (an:=fun _=>an) G T.mix bAg hf hb hn hl (EV.aQu hf hb (congrArg Prod.fst (h a))) hlen (fun a r hr=>(congrArg Prod.snd (h a)).trans (ht a r hr)) a r hr
def gI:EV.Sum Un:=⟨[.str, .str],[.sl 9],false,false,fun(a:ByteArray×ByteArray)=>gd (a.1.size<4294967281∧1≤a.2.size) (some (gV a.1 a.2))⟩
theorem J5 (args:Array Value)(w:World):(callFunc 271 args).run Tryz.prog w= .ok (.enter 271 args) w:=by kernel_rfl
theorem aCi (a:ByteArray×ByteArray):(EV.aY Yn gI.ar a).map EV.jZ=[.str a.1, .str a.2]:=by kernel_rfl
theorem aCj (a:ByteArray×ByteArray):gJ ((EV.aY Yn gI.rs (gV a.1 a.2)).map EV.jZ)= .slice 1 ((gV a.1 a.2).map sV):=by kernel_rfl
theorem aCk (a:ByteArray×ByteArray)(r:EV.kV Un gI.rs)(hr:gd (a.1.size<4294967281∧1≤a.2.size) (some (gV a.1 a.2))=some r):Spec Tryz.prog G0 271 ((EV.aY Yn gI.ar a).map EV.jZ) (fun v=>v=gJ ((EV.aY Yn gI.rs r).map EV.jZ)):=by
 unfold gd at hr
 split at hr
 ·rename_i hp
  have e:=Option.some.inj hr
  subst e
  rw[aCi,aCj]
  exact aSu J5 (fun s sep m w a b c=>Tryz.strings_Split s sep m w a b c) a.1 a.2 hp.1 hp.2
 ·cases hr
theorem Cx:EV.rT Tryz.prog G0 Yn 271 gI:=fun(a:ByteArray×ByteArray) r hr=>⟨fun _ _=>aCk a r hr,fun _ h=>absurd (show false=true from h) Bool.false_ne_true,fun h=>absurd (show false=true from h) Bool.false_ne_true,fun h=>absurd (show false=true from h) Bool.false_ne_true⟩
def iA:EV.Sum Un:=⟨[.sl 9, .str],[.str],false,false,fun(a:(List ByteArray)×ByteArray)=>gd (0<a.1.length∧(kU a.2 a.1).size≤140737488355328∧a.1.length≤140737488355328) (some (kU a.2 a.1))⟩
theorem aCl (args:Array Value)(w:World):(callFunc 272 args).run Tryz.prog w= .ok (.enter 272 args) w:=by kernel_rfl
theorem aGs (a:(List ByteArray)×ByteArray):(EV.aY Yn iA.ar a).map EV.jZ=[.slice 1 (a.1.map sV), .str a.2]:=by kernel_rfl
theorem aGt (a:(List ByteArray)×ByteArray):gJ ((EV.aY Yn iA.rs (kU a.2 a.1)).map EV.jZ)= .str (kU a.2 a.1):=by kernel_rfl
theorem aGu (a:(List ByteArray)×ByteArray)(r:EV.kV Un iA.rs)(hr:gd (0<a.1.length∧(kU a.2 a.1).size≤140737488355328∧a.1.length≤140737488355328) (some (kU a.2 a.1))=some r):Spec Tryz.prog G0 272 ((EV.aY Yn iA.ar a).map EV.jZ) (fun v=>v=gJ ((EV.aY Yn iA.rs r).map EV.jZ)):=by
 unfold gd at hr
 split at hr
 ·rename_i hp
  have e:=Option.some.inj hr
  subst e
  rw[aGs,aGt]
  exact aUq aCl Tryz.strings_Join a.1 a.2 (by intro h;have:=hp.1;rw[h] at this;simp at this) hp.2.1 hp.2.2
 ·cases hr
theorem aGv:EV.rT Tryz.prog G0 Yn 272 iA:=fun(a:(List ByteArray)×ByteArray) r hr=>⟨fun _ _=>aGu a r hr,fun _ h=>absurd (show false=true from h) Bool.false_ne_true,fun h=>absurd (show false=true from h) Bool.false_ne_true,fun h=>absurd (show false=true from h) Bool.false_ne_true⟩
end
end Go.VK
