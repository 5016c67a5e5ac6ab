import Derived.Test.YtinkjfapmhcgmaaGreatDoorXjFF
import Derived.Test.YtinkjfapmhcgmaaGreatDoorEWr
import Derived.Test.YtinkjfapmhcgmaaGreatDoorProg
import Derived.Test.YtinkjfapmhcgmaaGreatDoorTryzShelf
/- Printed by wip/tools: models, walks, proofs. -/
set_option linter.unusedVariables false
set_option linter.unusedSimpArgs false
set_option maxRecDepth 100000
set_option maxHeartbeats 4000000
namespace Go.VK
open Go.RowKit Go.Proofs
noncomputable section
abbrev G0:GI:=bMh 0
def El:Nat→Type
 |120=>D.aAJ
 |253=>D.aAB
 |340=>D.Entry
 |123=>D.aAD
 |125=>D.Device
 |4=>Bool
 |5=>Int
 |288=>D.Box
 |27=>D.aAE
 |222=>D.aAA
 |30=>D.aAH
 |355=>D.aAI
 |292=>D.aAG
 |343=>D.aAL
 |133=>D.aAF
 |3=>Int
 |135=>D.Site
 |33=>D.aAQ
 |138=>D.aAO
 |140=>D.aAN
 |143=>D.aAC
 |262=>D.aAM
 |37=>D.aAK
 |39=>D.World
 |77=>D.aAJ
 |230=>D.aAB
 |279=>D.Entry
 |80=>D.aAD
 |82=>D.Device
 |298=>D.Box
 |45=>D.aAE
 |176=>D.aAA
 |48=>D.aAH
 |171=>D.aAI
 |93=>D.aAG
 |284=>D.aAL
 |87=>D.aAF
 |90=>D.Site
 |50=>D.aAQ
 |187=>D.aAO
 |189=>D.aAN
 |192=>D.aAC
 |249=>D.aAM
 |54=>D.aAK
 |56=>D.World
 |88=>List Int
 |9=>ByteArray
 |_=>Empty
def bLq:(τ:Nat)→El τ→List V
 |120=>D.aAJ.V
 |253=>D.aAB.V
 |340=>D.Entry.V
 |123=>D.aAD.V
 |125=>D.Device.V
 |4=>bV
 |5=>y8
 |288=>D.Box.V
 |27=>D.aAE.V
 |222=>D.aAA.V
 |30=>D.aAH.V
 |355=>D.aAI.V
 |292=>D.aAG.V
 |343=>D.aAL.V
 |133=>D.aAF.V
 |3=>iV
 |135=>D.Site.V
 |33=>D.aAQ.V
 |138=>D.aAO.V
 |140=>D.aAN.V
 |143=>D.aAC.V
 |262=>D.aAM.V
 |37=>D.aAK.V
 |39=>D.World.V
 |77=>D.aAJ.V
 |230=>D.aAB.V
 |279=>D.Entry.V
 |80=>D.aAD.V
 |82=>D.Device.V
 |298=>D.Box.V
 |45=>D.aAE.V
 |176=>D.aAA.V
 |48=>D.aAH.V
 |171=>D.aAI.V
 |93=>D.aAG.V
 |284=>D.aAL.V
 |87=>D.aAF.V
 |90=>D.Site.V
 |50=>D.aAQ.V
 |187=>D.aAO.V
 |189=>D.aAN.V
 |192=>D.aAC.V
 |249=>D.aAM.V
 |54=>D.aAK.V
 |56=>D.World.V
 |88=>(fun l=>[V.slice 1 (l.map iV)])
 |9=>sV
 |_=>fun _=>[]
def Un:EV.Uni:=⟨El,fun|120=>4|253=>6|340=>4|123=>1|125=>9|4=>1|5=>1|288=>4|27=>2|222=>4|30=>4|355=>4|292=>3|343=>3|133=>3|3=>1|135=>6|33=>4|138=>2|140=>5|143=>7|262=>4|37=>1|39=>16|77=>4|230=>6|279=>4|80=>1|82=>9|298=>4|45=>2|176=>4|48=>4|171=>4|93=>3|284=>3|87=>3|90=>6|50=>4|187=>2|189=>5|192=>7|249=>4|54=>1|56=>16|88=>1|9=>1|_=>0,bLq⟩
def aXm:(τ:Nat)→El τ→List (EV.Lf Un)
 |120=>fun x=>[.int .i64 x.Vendor, .int .i64 x.Serial, .int .i64 x.Seed, .int .i64 x.Counter]
 |253=>fun x=>[.int .i64 x.Index, .int .i64 x.Kind, .int .i64 x.Device, .int .i64 x.By, .int .i64 x.Previous, .int .i64 x.Signature]
 |340=>fun x=>[.int .i64 x.Site, .int .i64 x.Handle, .int .i64 x.Version, .bool x.Deleted]
 |123=>fun x=>[.sl 340 x.Entries]
 |125=>fun x=>[.int .i64 x.Store.Vendor, .int .i64 x.Store.Serial, .int .i64 x.Store.Seed, .int .i64 x.Store.Counter, .sl 253 x.Log, .int .i64 x.Key, .int .i64 x.Epoch, .int .i64 x.Version, .sl 340 x.aAD.Entries]
 |4=>fun x=>[.bool x]
 |5=>fun x=>[.int .u8 x]
 |288=>fun x=>[.int .i64 x.To, .int .i64 x.Ephemeral, .sl 5 x.Data, .int .i64 x.MAC]
 |27=>fun x=>[.int .i64 x.Epoch, .sl 288 x.Boxes]
 |222=>fun x=>[.int .i64 x.Epoch, .int .i64 x.Version, .sl 5 x.Data, .int .i64 x.MAC]
 |30=>fun x=>[.sl 253 x.Log, .int .i64 x.Boxes.Epoch, .sl 288 x.Boxes.Boxes, .sl 222 x.History]
 |355=>fun x=>[.int .i64 x.Handle, .int .i64 x.Public, .int .i64 x.Counter, .bool x.Cut]
 |292=>fun x=>[.int .i64 x.Id, .int .i64 x.Minimum, .sl 355 x.Credentials]
 |343=>fun x=>[.int .i64 x.Id, .int .i64 x.aAG, .int .i64 x.Until]
 |133=>fun x=>[.int .i64 x.Seed, .int .i64 x.Next, .sl 343 x.Open]
 |3=>fun x=>[.int .i64 x]
 |135=>fun x=>[.str x.Name, .sl 292 x.Accounts, .int .i64 x.Book.Seed, .int .i64 x.Book.Next, .sl 343 x.Book.Open, .sl 3 x.Logins]
 |33=>fun x=>[.int .i64 x.Salt, .int .i64 x.Threshold, .int .i64 x.Check, .int .i64 x.Masked]
 |138=>fun x=>[.int .i64 x.Index, .int .i64 x.Value]
 |140=>fun x=>[.int .i64 x.aAO.Index, .int .i64 x.aAO.Value, .int .i64 x.Epoch, .int .i64 x.Guesses, .int .i64 x.Limit]
 |143=>fun x=>[.int .i64 x.State.aAO.Index, .int .i64 x.State.aAO.Value, .int .i64 x.State.Epoch, .int .i64 x.State.Guesses, .int .i64 x.State.Limit, .sl 140 x.Saved, .int .i64 x.Monotonic]
 |262=>fun x=>[.int .i64 x.Kind, .int .i64 x.aAG, .int .i64 x.Time, .bool x.Seen]
 |37=>fun x=>[.sl 262 x.Notices]
 |39=>fun x=>[.int .i64 x.Now, .int .i64 x.Seed, .sl 125 x.Devices, .sl 4 x.Stolen, .sl 253 x.aAH.Log, .int .i64 x.aAH.Boxes.Epoch, .sl 288 x.aAH.Boxes.Boxes, .sl 222 x.aAH.History, .sl 135 x.Sites, .int .i64 x.aAQ.Salt, .int .i64 x.aAQ.Threshold, .int .i64 x.aAQ.Check, .int .i64 x.aAQ.Masked, .sl 143 x.Hosts, .int .i64 x.Pin, .sl 262 x.Mail.Notices]
 |77=>fun x=>[.int .i64 x.Vendor, .int .i64 x.Serial, .int .i64 x.Seed, .int .i64 x.Counter]
 |230=>fun x=>[.int .i64 x.Index, .int .i64 x.Kind, .int .i64 x.Device, .int .i64 x.By, .int .i64 x.Previous, .int .i64 x.Signature]
 |279=>fun x=>[.int .i64 x.Site, .int .i64 x.Handle, .int .i64 x.Version, .bool x.Deleted]
 |80=>fun x=>[.sl 279 x.Entries]
 |82=>fun x=>[.int .i64 x.Store.Vendor, .int .i64 x.Store.Serial, .int .i64 x.Store.Seed, .int .i64 x.Store.Counter, .sl 230 x.Log, .int .i64 x.Key, .int .i64 x.Epoch, .int .i64 x.Version, .sl 279 x.aAD.Entries]
 |298=>fun x=>[.int .i64 x.To, .int .i64 x.Ephemeral, .sl 5 x.Data, .int .i64 x.MAC]
 |45=>fun x=>[.int .i64 x.Epoch, .sl 298 x.Boxes]
 |176=>fun x=>[.int .i64 x.Epoch, .int .i64 x.Version, .sl 5 x.Data, .int .i64 x.MAC]
 |48=>fun x=>[.sl 230 x.Log, .int .i64 x.Boxes.Epoch, .sl 298 x.Boxes.Boxes, .sl 176 x.History]
 |171=>fun x=>[.int .i64 x.Handle, .int .i64 x.Public, .int .i64 x.Counter, .bool x.Cut]
 |93=>fun x=>[.int .i64 x.Id, .int .i64 x.Minimum, .sl 171 x.Credentials]
 |284=>fun x=>[.int .i64 x.Id, .int .i64 x.aAG, .int .i64 x.Until]
 |87=>fun x=>[.int .i64 x.Seed, .int .i64 x.Next, .sl 284 x.Open]
 |90=>fun x=>[.str x.Name, .sl 93 x.Accounts, .int .i64 x.Book.Seed, .int .i64 x.Book.Next, .sl 284 x.Book.Open, .sl 3 x.Logins]
 |50=>fun x=>[.int .i64 x.Salt, .int .i64 x.Threshold, .int .i64 x.Check, .int .i64 x.Masked]
 |187=>fun x=>[.int .i64 x.Index, .int .i64 x.Value]
 |189=>fun x=>[.int .i64 x.aAO.Index, .int .i64 x.aAO.Value, .int .i64 x.Epoch, .int .i64 x.Guesses, .int .i64 x.Limit]
 |192=>fun x=>[.int .i64 x.State.aAO.Index, .int .i64 x.State.aAO.Value, .int .i64 x.State.Epoch, .int .i64 x.State.Guesses, .int .i64 x.State.Limit, .sl 189 x.Saved, .int .i64 x.Monotonic]
 |249=>fun x=>[.int .i64 x.Kind, .int .i64 x.aAG, .int .i64 x.Time, .bool x.Seen]
 |54=>fun x=>[.sl 249 x.Notices]
 |56=>fun x=>[.int .i64 x.Now, .int .i64 x.Seed, .sl 82 x.Devices, .sl 4 x.Stolen, .sl 230 x.aAH.Log, .int .i64 x.aAH.Boxes.Epoch, .sl 298 x.aAH.Boxes.Boxes, .sl 176 x.aAH.History, .sl 90 x.Sites, .int .i64 x.aAQ.Salt, .int .i64 x.aAQ.Threshold, .int .i64 x.aAQ.Check, .int .i64 x.aAQ.Masked, .sl 192 x.Hosts, .int .i64 x.Pin, .sl 249 x.Mail.Notices]
 |88=>fun x=>[.sl 3 x]
 |9=>fun x=>[.str x]
 |_=>fun _=>[]
def sP:Nat→List EV.Kd
 |120=>[.int .i64, .int .i64, .int .i64, .int .i64]
 |253=>[.int .i64, .int .i64, .int .i64, .int .i64, .int .i64, .int .i64]
 |340=>[.int .i64, .int .i64, .int .i64, .bool]
 |123=>[.sl 340]
 |125=>[.int .i64, .int .i64, .int .i64, .int .i64, .sl 253, .int .i64, .int .i64, .int .i64, .sl 340]
 |4=>[.bool]
 |5=>[.int .u8]
 |288=>[.int .i64, .int .i64, .sl 5, .int .i64]
 |27=>[.int .i64, .sl 288]
 |222=>[.int .i64, .int .i64, .sl 5, .int .i64]
 |30=>[.sl 253, .int .i64, .sl 288, .sl 222]
 |355=>[.int .i64, .int .i64, .int .i64, .bool]
 |292=>[.int .i64, .int .i64, .sl 355]
 |343=>[.int .i64, .int .i64, .int .i64]
 |133=>[.int .i64, .int .i64, .sl 343]
 |3=>[.int .i64]
 |135=>[.str, .sl 292, .int .i64, .int .i64, .sl 343, .sl 3]
 |33=>[.int .i64, .int .i64, .int .i64, .int .i64]
 |138=>[.int .i64, .int .i64]
 |140=>[.int .i64, .int .i64, .int .i64, .int .i64, .int .i64]
 |143=>[.int .i64, .int .i64, .int .i64, .int .i64, .int .i64, .sl 140, .int .i64]
 |262=>[.int .i64, .int .i64, .int .i64, .bool]
 |37=>[.sl 262]
 |39=>[.int .i64, .int .i64, .sl 125, .sl 4, .sl 253, .int .i64, .sl 288, .sl 222, .sl 135, .int .i64, .int .i64, .int .i64, .int .i64, .sl 143, .int .i64, .sl 262]
 |77=>[.int .i64, .int .i64, .int .i64, .int .i64]
 |230=>[.int .i64, .int .i64, .int .i64, .int .i64, .int .i64, .int .i64]
 |279=>[.int .i64, .int .i64, .int .i64, .bool]
 |80=>[.sl 279]
 |82=>[.int .i64, .int .i64, .int .i64, .int .i64, .sl 230, .int .i64, .int .i64, .int .i64, .sl 279]
 |298=>[.int .i64, .int .i64, .sl 5, .int .i64]
 |45=>[.int .i64, .sl 298]
 |176=>[.int .i64, .int .i64, .sl 5, .int .i64]
 |48=>[.sl 230, .int .i64, .sl 298, .sl 176]
 |171=>[.int .i64, .int .i64, .int .i64, .bool]
 |93=>[.int .i64, .int .i64, .sl 171]
 |284=>[.int .i64, .int .i64, .int .i64]
 |87=>[.int .i64, .int .i64, .sl 284]
 |90=>[.str, .sl 93, .int .i64, .int .i64, .sl 284, .sl 3]
 |50=>[.int .i64, .int .i64, .int .i64, .int .i64]
 |187=>[.int .i64, .int .i64]
 |189=>[.int .i64, .int .i64, .int .i64, .int .i64, .int .i64]
 |192=>[.int .i64, .int .i64, .int .i64, .int .i64, .int .i64, .sl 189, .int .i64]
 |249=>[.int .i64, .int .i64, .int .i64, .bool]
 |54=>[.sl 249]
 |56=>[.int .i64, .int .i64, .sl 82, .sl 4, .sl 230, .int .i64, .sl 298, .sl 176, .sl 90, .int .i64, .int .i64, .int .i64, .int .i64, .sl 192, .int .i64, .sl 249]
 |88=>[.sl 3]
 |9=>[.str]
 |_=>[]
def bMm:(τ:Nat)→List (EV.Lf Un)→Option (El τ)
 |120=>EV.gF (sP 120) D.aAJ.mk
 |253=>EV.gF (sP 253) D.aAB.mk
 |340=>EV.gF (sP 340) D.Entry.mk
 |123=>EV.gF (sP 123) D.aAD.mk
 |125=>EV.gF (sP 125) (fun a0 a1 a2 a3 a4 a5 a6 a7 a8=>(⟨⟨a0,a1,a2,a3⟩,a4,a5,a6,a7,⟨a8⟩⟩:D.Device))
 |4=>EV.gF (sP 4) (fun x=>x)
 |5=>EV.gF (sP 5) (fun x=>x)
 |288=>EV.gF (sP 288) D.Box.mk
 |27=>EV.gF (sP 27) D.aAE.mk
 |222=>EV.gF (sP 222) D.aAA.mk
 |30=>EV.gF (sP 30) (fun a0 a1 a2 a3=>(⟨a0,⟨a1,a2⟩,a3⟩:D.aAH))
 |355=>EV.gF (sP 355) D.aAI.mk
 |292=>EV.gF (sP 292) D.aAG.mk
 |343=>EV.gF (sP 343) D.aAL.mk
 |133=>EV.gF (sP 133) D.aAF.mk
 |3=>EV.gF (sP 3) (fun x=>x)
 |135=>EV.gF (sP 135) (fun a0 a1 a2 a3 a4 a5=>(⟨a0,a1,⟨a2,a3,a4⟩,a5⟩:D.Site))
 |33=>EV.gF (sP 33) D.aAQ.mk
 |138=>EV.gF (sP 138) D.aAO.mk
 |140=>EV.gF (sP 140) (fun a0 a1 a2 a3 a4=>(⟨⟨a0,a1⟩,a2,a3,a4⟩:D.aAN))
 |143=>EV.gF (sP 143) (fun a0 a1 a2 a3 a4 a5 a6=>(⟨⟨⟨a0,a1⟩,a2,a3,a4⟩,a5,a6⟩:D.aAC))
 |262=>EV.gF (sP 262) D.aAM.mk
 |37=>EV.gF (sP 37) D.aAK.mk
 |39=>EV.gF (sP 39) (fun a0 a1 a2 a3 a4 a5 a6 a7 a8 a9 a10 a11 a12 a13 a14 a15=>(⟨a0,a1,a2,a3,⟨a4,⟨a5,a6⟩,a7⟩,a8,⟨a9,a10,a11,a12⟩,a13,a14,⟨a15⟩⟩:D.World))
 |77=>EV.gF (sP 77) D.aAJ.mk
 |230=>EV.gF (sP 230) D.aAB.mk
 |279=>EV.gF (sP 279) D.Entry.mk
 |80=>EV.gF (sP 80) D.aAD.mk
 |82=>EV.gF (sP 82) (fun a0 a1 a2 a3 a4 a5 a6 a7 a8=>(⟨⟨a0,a1,a2,a3⟩,a4,a5,a6,a7,⟨a8⟩⟩:D.Device))
 |298=>EV.gF (sP 298) D.Box.mk
 |45=>EV.gF (sP 45) D.aAE.mk
 |176=>EV.gF (sP 176) D.aAA.mk
 |48=>EV.gF (sP 48) (fun a0 a1 a2 a3=>(⟨a0,⟨a1,a2⟩,a3⟩:D.aAH))
 |171=>EV.gF (sP 171) D.aAI.mk
 |93=>EV.gF (sP 93) D.aAG.mk
 |284=>EV.gF (sP 284) D.aAL.mk
 |87=>EV.gF (sP 87) D.aAF.mk
 |90=>EV.gF (sP 90) (fun a0 a1 a2 a3 a4 a5=>(⟨a0,a1,⟨a2,a3,a4⟩,a5⟩:D.Site))
 |50=>EV.gF (sP 50) D.aAQ.mk
 |187=>EV.gF (sP 187) D.aAO.mk
 |189=>EV.gF (sP 189) (fun a0 a1 a2 a3 a4=>(⟨⟨a0,a1⟩,a2,a3,a4⟩:D.aAN))
 |192=>EV.gF (sP 192) (fun a0 a1 a2 a3 a4 a5 a6=>(⟨⟨⟨a0,a1⟩,a2,a3,a4⟩,a5,a6⟩:D.aAC))
 |249=>EV.gF (sP 249) D.aAM.mk
 |54=>EV.gF (sP 54) D.aAK.mk
 |56=>EV.gF (sP 56) (fun a0 a1 a2 a3 a4 a5 a6 a7 a8 a9 a10 a11 a12 a13 a14 a15=>(⟨a0,a1,a2,a3,⟨a4,⟨a5,a6⟩,a7⟩,a8,⟨a9,a10,a11,a12⟩,a13,a14,⟨a15⟩⟩:D.World))
 |88=>EV.gF (sP 88) (fun x=>x)
 |9=>EV.gF (sP 9) (fun x=>x)
 |_=>fun _=>none
def TI:List (Nat×EV.TInfo):=[
 (3,⟨.int .i64,1,[.int .i64]⟩),
 (4,⟨.bool,1,[.bool]⟩),
 (5,⟨.int .u8,1,[.int .u8]⟩),
 (9,⟨.str,1,[.str]⟩),
 (22,⟨.sl 125 9 104,1,[.nil]⟩),
 (23,⟨.sl 4 1 1,1,[.nil]⟩),
 (24,⟨.sl 253 6 48,1,[.nil]⟩),
 (25,⟨.sl 288 4 48,1,[.nil]⟩),
 (27,⟨.st [(0,3,1),(1,25,1)],2,[.int .i64, .nil]⟩),
 (28,⟨.sl 222 4 48,1,[.nil]⟩),
 (30,⟨.st [(0,24,1),(1,27,2),(3,28,1)],4,[.nil, .int .i64, .nil, .nil]⟩),
 (31,⟨.sl 135 6 104,1,[.nil]⟩),
 (33,⟨.st [(0,3,1),(1,3,1),(2,3,1),(3,3,1)],4,[.int .i64, .int .i64, .int .i64, .int .i64]⟩),
 (34,⟨.sl 143 7 72,1,[.nil]⟩),
 (35,⟨.sl 262 4 32,1,[.nil]⟩),
 (37,⟨.st [(0,35,1)],1,[.nil]⟩),
 (39,⟨.st [(0,3,1),(1,3,1),(2,22,1),(3,23,1),(4,30,4),(8,31,1),(9,33,4),(13,34,1),(14,3,1),(15,37,1)],16,[.int .i64, .int .i64, .nil, .nil, .nil, .int .i64, .nil, .nil, .nil, .int .i64, .int .i64, .int .i64, .int .i64, .nil, .int .i64, .nil]⟩),
 (41,⟨.sl 82 9 104,1,[.nil]⟩),
 (42,⟨.sl 230 6 48,1,[.nil]⟩),
 (43,⟨.sl 298 4 48,1,[.nil]⟩),
 (45,⟨.st [(0,3,1),(1,43,1)],2,[.int .i64, .nil]⟩),
 (46,⟨.sl 176 4 48,1,[.nil]⟩),
 (48,⟨.st [(0,42,1),(1,45,2),(3,46,1)],4,[.nil, .int .i64, .nil, .nil]⟩),
 (49,⟨.sl 90 6 104,1,[.nil]⟩),
 (50,⟨.st [(0,3,1),(1,3,1),(2,3,1),(3,3,1)],4,[.int .i64, .int .i64, .int .i64, .int .i64]⟩),
 (51,⟨.sl 192 7 72,1,[.nil]⟩),
 (52,⟨.sl 249 4 32,1,[.nil]⟩),
 (54,⟨.st [(0,52,1)],1,[.nil]⟩),
 (56,⟨.st [(0,3,1),(1,3,1),(2,41,1),(3,23,1),(4,48,4),(8,49,1),(9,50,4),(13,51,1),(14,3,1),(15,54,1)],16,[.int .i64, .int .i64, .nil, .nil, .nil, .int .i64, .nil, .nil, .nil, .int .i64, .int .i64, .int .i64, .int .i64, .nil, .int .i64, .nil]⟩),
 (77,⟨.st [(0,3,1),(1,3,1),(2,3,1),(3,3,1)],4,[.int .i64, .int .i64, .int .i64, .int .i64]⟩),
 (78,⟨.sl 279 4 32,1,[.nil]⟩),
 (80,⟨.st [(0,78,1)],1,[.nil]⟩),
 (82,⟨.st [(0,77,4),(4,42,1),(5,3,1),(6,3,1),(7,3,1),(8,80,1)],9,[.int .i64, .int .i64, .int .i64, .int .i64, .nil, .int .i64, .int .i64, .int .i64, .nil]⟩),
 (84,⟨.sl 93 3 40,1,[.nil]⟩),
 (85,⟨.sl 284 3 24,1,[.nil]⟩),
 (87,⟨.st [(0,3,1),(1,3,1),(2,85,1)],3,[.int .i64, .int .i64, .nil]⟩),
 (88,⟨.sl 3 1 8,1,[.nil]⟩),
 (90,⟨.st [(0,9,1),(1,84,1),(2,87,3),(5,88,1)],6,[.str, .nil, .int .i64, .int .i64, .nil, .nil]⟩),
 (91,⟨.sl 171 4 32,1,[.nil]⟩),
 (93,⟨.st [(0,3,1),(1,3,1),(2,91,1)],3,[.int .i64, .int .i64, .nil]⟩),
 (120,⟨.st [(0,3,1),(1,3,1),(2,3,1),(3,3,1)],4,[.int .i64, .int .i64, .int .i64, .int .i64]⟩),
 (121,⟨.sl 340 4 32,1,[.nil]⟩),
 (123,⟨.st [(0,121,1)],1,[.nil]⟩),
 (125,⟨.st [(0,120,4),(4,24,1),(5,3,1),(6,3,1),(7,3,1),(8,123,1)],9,[.int .i64, .int .i64, .int .i64, .int .i64, .nil, .int .i64, .int .i64, .int .i64, .nil]⟩),
 (130,⟨.sl 292 3 40,1,[.nil]⟩),
 (131,⟨.sl 343 3 24,1,[.nil]⟩),
 (133,⟨.st [(0,3,1),(1,3,1),(2,131,1)],3,[.int .i64, .int .i64, .nil]⟩),
 (135,⟨.st [(0,9,1),(1,130,1),(2,133,3),(5,88,1)],6,[.str, .nil, .int .i64, .int .i64, .nil, .nil]⟩),
 (138,⟨.st [(0,3,1),(1,3,1)],2,[.int .i64, .int .i64]⟩),
 (140,⟨.st [(0,138,2),(2,3,1),(3,3,1),(4,3,1)],5,[.int .i64, .int .i64, .int .i64, .int .i64, .int .i64]⟩),
 (141,⟨.sl 140 5 40,1,[.nil]⟩),
 (143,⟨.st [(0,140,5),(5,141,1),(6,3,1)],7,[.int .i64, .int .i64, .int .i64, .int .i64, .int .i64, .nil, .int .i64]⟩),
 (171,⟨.st [(0,3,1),(1,3,1),(2,3,1),(3,4,1)],4,[.int .i64, .int .i64, .int .i64, .bool]⟩),
 (174,⟨.sl 5 1 1,1,[.nil]⟩),
 (176,⟨.st [(0,3,1),(1,3,1),(2,174,1),(3,3,1)],4,[.int .i64, .int .i64, .nil, .int .i64]⟩),
 (187,⟨.st [(0,3,1),(1,3,1)],2,[.int .i64, .int .i64]⟩),
 (189,⟨.st [(0,187,2),(2,3,1),(3,3,1),(4,3,1)],5,[.int .i64, .int .i64, .int .i64, .int .i64, .int .i64]⟩),
 (190,⟨.sl 189 5 40,1,[.nil]⟩),
 (192,⟨.st [(0,189,5),(5,190,1),(6,3,1)],7,[.int .i64, .int .i64, .int .i64, .int .i64, .int .i64, .nil, .int .i64]⟩),
 (222,⟨.st [(0,3,1),(1,3,1),(2,174,1),(3,3,1)],4,[.int .i64, .int .i64, .nil, .int .i64]⟩),
 (230,⟨.st [(0,3,1),(1,3,1),(2,3,1),(3,3,1),(4,3,1),(5,3,1)],6,[.int .i64, .int .i64, .int .i64, .int .i64, .int .i64, .int .i64]⟩),
 (249,⟨.st [(0,3,1),(1,3,1),(2,3,1),(3,4,1)],4,[.int .i64, .int .i64, .int .i64, .bool]⟩),
 (253,⟨.st [(0,3,1),(1,3,1),(2,3,1),(3,3,1),(4,3,1),(5,3,1)],6,[.int .i64, .int .i64, .int .i64, .int .i64, .int .i64, .int .i64]⟩),
 (262,⟨.st [(0,3,1),(1,3,1),(2,3,1),(3,4,1)],4,[.int .i64, .int .i64, .int .i64, .bool]⟩),
 (279,⟨.st [(0,3,1),(1,3,1),(2,3,1),(3,4,1)],4,[.int .i64, .int .i64, .int .i64, .bool]⟩),
 (284,⟨.st [(0,3,1),(1,3,1),(2,3,1)],3,[.int .i64, .int .i64, .int .i64]⟩),
 (288,⟨.st [(0,3,1),(1,3,1),(2,174,1),(3,3,1)],4,[.int .i64, .int .i64, .nil, .int .i64]⟩),
 (290,⟨.sl 355 4 32,1,[.nil]⟩),
 (292,⟨.st [(0,3,1),(1,3,1),(2,290,1)],3,[.int .i64, .int .i64, .nil]⟩),
 (298,⟨.st [(0,3,1),(1,3,1),(2,174,1),(3,3,1)],4,[.int .i64, .int .i64, .nil, .int .i64]⟩),
 (321,⟨.sl 88 1 24,1,[.nil]⟩),
 (340,⟨.st [(0,3,1),(1,3,1),(2,3,1),(3,4,1)],4,[.int .i64, .int .i64, .int .i64, .bool]⟩),
 (343,⟨.st [(0,3,1),(1,3,1),(2,3,1)],3,[.int .i64, .int .i64, .int .i64]⟩),
 (344,⟨.sl 9 1 16,1,[.nil]⟩),
 (355,⟨.st [(0,3,1),(1,3,1),(2,3,1),(3,4,1)],4,[.int .i64, .int .i64, .int .i64, .bool]⟩)]
theorem lay (τ:Nat):(∀x:El τ,((aXm τ x).map EV.Lf.toV=bLq τ x∧(aXm τ x).length=Un.K τ)∧(aXm τ x).map EV.kdL=(sP τ).map some)∧∀(cs:List (EV.Lf Un)) (x:El τ),bMm τ cs=some x→cs=aXm τ x:=by
 by_cases h:τ∈[120,253,340,123,125,4,5,288,27,222,30,355,292,343,133,3,135,33,138,140,143,262,37,39,77,230,279,80,82,298,45,176,48,171,93,284,87,90,50,187,189,192,249,54,56,88,9]
 ·simp only[List.mem_cons,List.not_mem_nil,or_false] at h
  rcases h with rfl|rfl|rfl|rfl|rfl|rfl|rfl|rfl|rfl|rfl|rfl|rfl|rfl|rfl|rfl|rfl|rfl|rfl|rfl|rfl|rfl|rfl|rfl|rfl|rfl|rfl|rfl|rfl|rfl|rfl|rfl|rfl|rfl|rfl|rfl|rfl|rfl|rfl|rfl|rfl|rfl|rfl|rfl|rfl|rfl|rfl|rfl<;>exact⟨fun _=>⟨⟨rfl,rfl⟩,rfl⟩,fun _ _ h=>by obtain⟨t,rfl,rfl⟩:=EV.bCv h;rfl⟩
 ·have e:El τ=Empty:=by
   unfold El
   split<;>first|(exfalso;revert h;decide)|rfl
  exact⟨fun x=>(cast e x).elim,fun _ x=>(cast e x).elim⟩
theorem hc1 (τ:Nat)(x:El τ):(aXm τ x).map EV.Lf.toV=bLq τ x:=((lay τ).1 x).1.1
theorem hc2 (τ:Nat)(x:El τ):(aXm τ x).length=Un.K τ:=((lay τ).1 x).1.2
theorem hc3 (τ:Nat)(x:El τ)(c:EV.Lf Un)(hc:c∈aXm τ x):c.aAY=true:=EV.bGa ((lay τ).1 x).2 c hc
def Yn:EV.Lay Un:=⟨⟨aXm,bMm,hc1,hc2,hc3,fun τ=>(lay τ).2⟩,sP,5,fun n=>n,fun n=>n,fun _=>rfl,fun _=>rfl⟩
theorem ly1 (τ:Nat)(x:El τ):(aXm τ x).map EV.kdL=(sP τ).map some:=((lay τ).1 x).2
theorem ly2:∀(τ τ':Nat),EV.Kd.sl τ'∈sP τ→0<Un.K τ':=by
 intro τ τ' h
 unfold sP at h
 split at h<;>simp only[List.mem_cons,List.not_mem_nil,or_false,reduceCtorEq,false_or,or_self,EV.Kd.sl.injEq] at h<;>first|exact h.elim|(subst h;exact Nat.le_of_ble_eq_true rfl)|(rcases h with h|h|h|h|h|h|h|h<;>(subst h;exact Nat.le_of_ble_eq_true rfl))|(rcases h with h|h|h|h|h|h|h<;>(subst h;exact Nat.le_of_ble_eq_true rfl))|(rcases h with h|h|h|h|h|h<;>(subst h;exact Nat.le_of_ble_eq_true rfl))|(rcases h with h|h|h|h|h<;>(subst h;exact Nat.le_of_ble_eq_true rfl))|(rcases h with h|h|h|h<;>(subst h;exact Nat.le_of_ble_eq_true rfl))|(rcases h with h|h|h<;>(subst h;exact Nat.le_of_ble_eq_true rfl))|(rcases h with h|h<;>(subst h;exact Nat.le_of_ble_eq_true rfl))
theorem bMn:EV.LayOk Yn:=⟨ly1,ly2⟩
def sW (f:Func):Code:=match f.body with|some c=>c|none=> .skip
theorem T.mix:Tryz.prog.follows .mixedOrders=true:=by kernel_rfl
theorem aB:EV.Good Tryz.prog G0 Yn TI []:=⟨by kernel_rfl,bMn,fun f S h=>by simp at h⟩
abbrev SU:=EV.Sum Un
def OK (f:Nat)(S:SU):Prop:=EV.Ie Tryz.prog G0 Yn f S
def bMo:SU:=⟨[],[],false,false,fun _=>none⟩
theorem bJo (f:Nat):OK f bMo:=fun _ _ hr=>nomatch hr
def SIl:SU:=⟨[],[],false,true,fun _=>none⟩
theorem sIl (f:Nat):OK f SIl:=fun _ _ hr=>nomatch hr
def IL:EV.Il:=[(20,sW Tryz.f20,111,[.tmp 10]),(25,sW Tryz.f25,48,[.tmp 4]),(26,sW Tryz.f26,23,[]),(118,sW Tryz.f118,39,[.cell 6 56, .tmp 7]),(123,sW Tryz.f123,32,[.cell 8 56]),(122,sW Tryz.f122,42,[.cell 4 56, .tmp 5]),(124,sW Tryz.f124,16,[.cell 4 56]),(38,sW Tryz.f38,135,[.cell 6 56, .tmp 7])]
theorem bJq:EV.pE Tryz.prog IL:=EV.Nr Tryz.func20 rfl Tryz.ntmps20 rfl (fun _ _=>by kernel_rfl)<|EV.Nr Tryz.func25 rfl Tryz.ntmps25 rfl (fun _ _=>by kernel_rfl)<|EV.Nr Tryz.func26 rfl Tryz.ntmps26 rfl (fun _ _=>by kernel_rfl)<|EV.Nr Tryz.func118 rfl Tryz.ntmps118 rfl (fun _ _=>by kernel_rfl)<|EV.Nr Tryz.func123 rfl Tryz.ntmps123 rfl (fun _ _=>by kernel_rfl)<|EV.Nr Tryz.func122 rfl Tryz.ntmps122 rfl (fun _ _=>by kernel_rfl)<|EV.Nr Tryz.func124 rfl Tryz.ntmps124 rfl (fun _ _=>by kernel_rfl)<|EV.Nr Tryz.func38 rfl Tryz.ntmps38 rfl (fun _ _=>by kernel_rfl)<|EV.bLc
def od (n:Nat)(l:List Nat):List (Nat×Bool):=(List.range n).map fun i=>(i, !l.contains i)
theorem gc {f:Nat}{S:SU}{FZ:List (Nat×SU)}(h:OK f S)(G:EV.Good Tryz.prog G0 Yn TI FZ):EV.Good Tryz.prog G0 Yn TI ((f,S)::FZ):=EV.aVo h G
theorem gcp {f:Nat}{S:SU}{FZ:List (Nat×SU)}(h:OK f S)(G:EV.Good Tryz.prog G0 Yn TI FZ)(hw:S.wt=false:=by rfl)(hf:S.fr=true:=by rfl):EV.Good Tryz.prog G0 Yn TI ((f,S.pl)::FZ):=EV.aVo (EV.bLk h hw hf) G
theorem mkS {f:FuncId}{fn:Func}{n:Nat}{S:SU}{FZ:List (Nat×SU)}{m:EV.qZ Un S.ar→Option (EV.qZ Un S.rs)}(an:EV.An)(l:List ResultVar)(G:EV.Good Tryz.prog G0 Yn TI FZ)(hf:Tryz.prog.funcs[f]? =some fn)(hn:fn.ntmps=n)(ht:∀a r,S.m a=some r→m a=some r)(h:∀a,(fn.name== "runtime.NumGoroutine",EV.evF Yn TI FZ IL an (sW fn) n S.ar S.rs S.fr l a)=(false,m a))(hb:fn.body=some (sW fn):=by rfl)(hl:fn.results=l.toArray:=by rfl)(hlen:S.ar.length≤n:=by decide)(hw:S.wt=false:=by rfl):OK f S:=
 fun a r hr=>EV.bLf (an:=fun _=>an) G T.mix bJq hf hb hn hl (EV.aY8 hf hb (congrArg Prod.fst (h a))) hlen hw (fun a r hr=>(congrArg Prod.snd (h a)).trans (ht a r hr)) a r hr
theorem mkW {f:FuncId}{fn:Func}{n:Nat}{kd:EV.Kd}{M m:EV.qZ Un [kd, .int .i64]→Option (EV.qZ Un [kd, .int .i64])}{FZ:List (Nat×SU)}(an:EV.An)(l:List ResultVar)(G:EV.Good Tryz.prog G0 Yn TI FZ)(hf:Tryz.prog.funcs[f]? =some fn)(hn:fn.ntmps=n)(ht:∀a r,M a=some r→m a=some r)(h:∀a,(fn.name== "runtime.NumGoroutine",EV.evM Yn TI FZ IL an (sW fn) n kd l a)=(false,m a))(hb:fn.body=some (sW fn):=by rfl)(hl:fn.results=l.toArray:=by rfl)(hlen:2≤n:=by decide):OK f ⟨[kd, .int .i64],[kd, .int .i64],false,true,M⟩:=
 fun a r hr=>EV.bLg (an:=fun _=>an) G T.mix bJq hf hb hn hl (EV.aY8 hf hb (congrArg Prod.fst (h a))) hlen (fun a r hr=>(congrArg Prod.snd (h a)).trans (ht a r hr)) a r hr
def iP:EV.Sum Un:=⟨[.str, .str],[.sl 9],false,false,fun(a:ByteArray×ByteArray)=>gd (a.1.size<4294967281∧1≤a.2.size) (some (jI a.1 a.2))⟩
theorem aDn (args:Array Value)(w:World):(callFunc 314 args).run Tryz.prog w= .ok (.enter 314 args) w:=by kernel_rfl
theorem aI5 (a:ByteArray×ByteArray):(EV.dH Yn iP.ar a).map EV.Ic=[.str a.1, .str a.2]:=by kernel_rfl
theorem aI6 (a:ByteArray×ByteArray):vD ((EV.dH Yn iP.rs (jI a.1 a.2)).map EV.Ic)= .slice 1 ((jI a.1 a.2).map sV):=by kernel_rfl
theorem aI7 (a:ByteArray×ByteArray)(r:EV.qZ Un iP.rs)(hr:gd (a.1.size<4294967281∧1≤a.2.size) (some (jI a.1 a.2))=some r):Spec Tryz.prog G0 314 ((EV.dH Yn iP.ar a).map EV.Ic) (fun v=>v=vD ((EV.dH Yn iP.rs r).map EV.Ic)):=by
 unfold gd at hr
 split at hr
 ·rename_i hp
  have e:=Option.some.inj hr
  subst e
  rw[aI5,aI6]
  exact bBp aDn (fun s sep m w a b c=>Tryz.strings_Split s sep m w a b c) a.1 a.2 hp.1 hp.2
 ·cases hr
theorem Ik:EV.Ie Tryz.prog G0 Yn 314 iP:=fun(a:ByteArray×ByteArray) r hr=>⟨fun _ _=>aI7 a r hr,fun _ h=>absurd (show false=true from h) Bool.false_ne_true,fun h=>absurd (show false=true from h) Bool.false_ne_true⟩
def jK:EV.Sum Un:=⟨[.sl 9, .str],[.str],false,false,fun(a:(List ByteArray)×ByteArray)=>gd (0<a.1.length∧(nC a.2 a.1).size≤140737488355328∧a.1.length≤140737488355328) (some (nC a.2 a.1))⟩
theorem aI8 (args:Array Value)(w:World):(callFunc 315 args).run Tryz.prog w= .ok (.enter 315 args) w:=by kernel_rfl
theorem aN0 (a:(List ByteArray)×ByteArray):(EV.dH Yn jK.ar a).map EV.Ic=[.slice 1 (a.1.map sV), .str a.2]:=by kernel_rfl
theorem aN1 (a:(List ByteArray)×ByteArray):vD ((EV.dH Yn jK.rs (nC a.2 a.1)).map EV.Ic)= .str (nC a.2 a.1):=by kernel_rfl
theorem aN2 (a:(List ByteArray)×ByteArray)(r:EV.qZ Un jK.rs)(hr:gd (0<a.1.length∧(nC a.2 a.1).size≤140737488355328∧a.1.length≤140737488355328) (some (nC a.2 a.1))=some r):Spec Tryz.prog G0 315 ((EV.dH Yn jK.ar a).map EV.Ic) (fun v=>v=vD ((EV.dH Yn jK.rs r).map EV.Ic)):=by
 unfold gd at hr
 split at hr
 ·rename_i hp
  have e:=Option.some.inj hr
  subst e
  rw[aN0,aN1]
  exact bD3 aI8 Tryz.strings_Join a.1 a.2 (by intro h;have:=hp.1;rw[h] at this;simp at this) hp.2.1 hp.2.2
 ·cases hr
theorem aN3:EV.Ie Tryz.prog G0 Yn 315 jK:=fun(a:(List ByteArray)×ByteArray) r hr=>⟨fun _ _=>aN2 a r hr,fun _ h=>absurd (show false=true from h) Bool.false_ne_true,fun h=>absurd (show false=true from h) Bool.false_ne_true⟩
end
end Go.VK
