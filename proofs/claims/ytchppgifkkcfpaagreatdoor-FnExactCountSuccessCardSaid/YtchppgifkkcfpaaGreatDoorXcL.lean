import Derived.Test.YtchppgifkkcfpaaGreatDoorXcFF
import Derived.Test.YtchppgifkkcfpaaGreatDoorEVztor
import Derived.Test.YtchppgifkkcfpaaGreatDoorProg
import Derived.Test.YtchppgifkkcfpaaGreatDoorTrycShelf
/- Printed by wip/tools: models, walks, proofs. -/
set_option linter.all false
set_option maxRecDepth 100000
set_option maxHeartbeats 4000000
namespace Go.VK
open Go.RowKit Go.Proofs D
noncomputable section
abbrev G0:GI:=cDk 0
def El:Nat->Type
 |94=>AN
 |183=>AG
 |318=>AI
 |97=>AD
 |99=>AF
 |4=>Bool
 |5=>Int
 |212=>AK
 |27=>AO
 |161=>AJ
 |30=>AP
 |361=>AV
 |217=>AH
 |321=>AY
 |107=>AM
 |3=>Int
 |110=>AB
 |33=>A3
 |113=>AX
 |115=>AZ
 |118=>AC
 |195=>AR
 |37=>AU
 |39=>AA
 |83=>AS
 |123=>AN
 |181=>AG
 |316=>AI
 |126=>AD
 |128=>AF
 |256=>AK
 |48=>AO
 |185=>AJ
 |51=>AP
 |308=>AV
 |225=>AH
 |289=>AY
 |136=>AM
 |138=>AB
 |53=>A3
 |140=>AX
 |142=>AZ
 |145=>AC
 |193=>AR
 |57=>AU
 |59=>AA
 |74=>AS
 |265=>AQ
 |328=>A0
 |9=>ByteArray
 |108=>List Int
 |_=>Empty
def cB6:(τ:Nat)->El τ->List V
 |94=>AN.V
 |183=>AG.V
 |318=>AI.V
 |97=>AD.V
 |99=>AF.V
 |4=>bV
 |5=>y8
 |212=>AK.V
 |27=>AO.V
 |161=>AJ.V
 |30=>AP.V
 |361=>AV.V
 |217=>AH.V
 |321=>AY.V
 |107=>AM.V
 |3=>iV
 |110=>AB.V
 |33=>A3.V
 |113=>AX.V
 |115=>AZ.V
 |118=>AC.V
 |195=>AR.V
 |37=>AU.V
 |39=>AA.V
 |83=>AS.V
 |123=>AN.V
 |181=>AG.V
 |316=>AI.V
 |126=>AD.V
 |128=>AF.V
 |256=>AK.V
 |48=>AO.V
 |185=>AJ.V
 |51=>AP.V
 |308=>AV.V
 |225=>AH.V
 |289=>AY.V
 |136=>AM.V
 |138=>AB.V
 |53=>A3.V
 |140=>AX.V
 |142=>AZ.V
 |145=>AC.V
 |193=>AR.V
 |57=>AU.V
 |59=>AA.V
 |74=>AS.V
 |265=>AQ.V
 |328=>A0.V
 |9=>sV
 |108=>(λl=>[V.slice 1 (l.map iV)])
 |_=>λ_=>[]
def Un:EV.Uni:=⟨El,λ|94=>4|183=>6|318=>4|97=>1|99=>9|4=>1|5=>1|212=>4|27=>2|161=>4|30=>4|361=>4|217=>3|321=>3|107=>3|3=>1|110=>6|33=>4|113=>2|115=>5|118=>7|195=>4|37=>1|39=>16|83=>5|123=>4|181=>6|316=>4|126=>1|128=>9|256=>4|48=>2|185=>4|51=>4|308=>4|225=>3|289=>3|136=>3|138=>6|53=>4|140=>2|142=>5|145=>7|193=>4|57=>1|59=>16|74=>5|265=>3|328=>7|9=>1|108=>1|_=>0,cB6⟩
def bKp:(τ:Nat)->El τ->List (EV.Lf Un)
 |94=>λx=>[.int .i64 x.Vendor, .int .i64 x.Serial, .int .i64 x.Seed, .int .i64 x.Counter]
 |183=>λx=>[.int .i64 x.Index, .int .i64 x.Kind, .int .i64 x.Device, .int .i64 x.By, .int .i64 x.Previous, .int .i64 x.Signature]
 |318=>λx=>[.int .i64 x.Site, .int .i64 x.Handle, .int .i64 x.Version, .bool x.Deleted]
 |97=>λx=>[.sl 318 x.Entries]
 |99=>λx=>[.int .i64 x.Store.Vendor, .int .i64 x.Store.Serial, .int .i64 x.Store.Seed, .int .i64 x.Store.Counter, .sl 183 x.Log, .int .i64 x.Key, .int .i64 x.Epoch, .int .i64 x.Version, .sl 318 x.aAE.Entries]
 |4=>λx=>[.bool x]
 |5=>λx=>[.int .u8 x]
 |212=>λx=>[.int .i64 x.To, .int .i64 x.Ephemeral, .sl 5 x.Data, .int .i64 x.MAC]
 |27=>λx=>[.int .i64 x.Epoch, .sl 212 x.Boxes]
 |161=>λx=>[.int .i64 x.Epoch, .int .i64 x.Version, .sl 5 x.Data, .int .i64 x.MAC]
 |30=>λx=>[.sl 183 x.Log, .int .i64 x.Boxes.Epoch, .sl 212 x.Boxes.Boxes, .sl 161 x.History]
 |361=>λx=>[.int .i64 x.Handle, .int .i64 x.Public, .int .i64 x.Counter, .bool x.Cut]
 |217=>λx=>[.int .i64 x.Id, .int .i64 x.Minimum, .sl 361 x.Credentials]
 |321=>λx=>[.int .i64 x.Id, .int .i64 x.aAF, .int .i64 x.Until]
 |107=>λx=>[.int .i64 x.Seed, .int .i64 x.Next, .sl 321 x.Open]
 |3=>λx=>[.int .i64 x]
 |110=>λx=>[.str x.Name, .sl 217 x.Accounts, .int .i64 x.Book.Seed, .int .i64 x.Book.Next, .sl 321 x.Book.Open, .sl 3 x.Logins]
 |33=>λx=>[.int .i64 x.Salt, .int .i64 x.Threshold, .int .i64 x.Check, .int .i64 x.Masked]
 |113=>λx=>[.int .i64 x.Index, .int .i64 x.Value]
 |115=>λx=>[.int .i64 x.aAQ.Index, .int .i64 x.aAQ.Value, .int .i64 x.Epoch, .int .i64 x.Guesses, .int .i64 x.Limit]
 |118=>λx=>[.int .i64 x.State.aAQ.Index, .int .i64 x.State.aAQ.Value, .int .i64 x.State.Epoch, .int .i64 x.State.Guesses, .int .i64 x.State.Limit, .sl 115 x.Saved, .int .i64 x.Monotonic]
 |195=>λx=>[.int .i64 x.Kind, .int .i64 x.aAF, .int .i64 x.Time, .bool x.Seen]
 |37=>λx=>[.sl 195 x.Notices]
 |39=>λx=>[.int .i64 x.Now, .int .i64 x.Seed, .sl 99 x.Devices, .sl 4 x.Stolen, .sl 183 x.aAH.Log, .int .i64 x.aAH.Boxes.Epoch, .sl 212 x.aAH.Boxes.Boxes, .sl 161 x.aAH.History, .sl 110 x.Sites, .int .i64 x.aAP.Salt, .int .i64 x.aAP.Threshold, .int .i64 x.aAP.Check, .int .i64 x.aAP.Masked, .sl 118 x.Hosts, .int .i64 x.Pin, .sl 195 x.Mail.Notices]
 |83=>λx=>[.int .i64 x.Kind, .int .i64 x.Device, .int .i64 x.Other, .int .i64 x.Value, .bool x.Flag]
 |123=>λx=>[.int .i64 x.Vendor, .int .i64 x.Serial, .int .i64 x.Seed, .int .i64 x.Counter]
 |181=>λx=>[.int .i64 x.Index, .int .i64 x.Kind, .int .i64 x.Device, .int .i64 x.By, .int .i64 x.Previous, .int .i64 x.Signature]
 |316=>λx=>[.int .i64 x.Site, .int .i64 x.Handle, .int .i64 x.Version, .bool x.Deleted]
 |126=>λx=>[.sl 316 x.Entries]
 |128=>λx=>[.int .i64 x.Store.Vendor, .int .i64 x.Store.Serial, .int .i64 x.Store.Seed, .int .i64 x.Store.Counter, .sl 181 x.Log, .int .i64 x.Key, .int .i64 x.Epoch, .int .i64 x.Version, .sl 316 x.aAE.Entries]
 |256=>λx=>[.int .i64 x.To, .int .i64 x.Ephemeral, .sl 5 x.Data, .int .i64 x.MAC]
 |48=>λx=>[.int .i64 x.Epoch, .sl 256 x.Boxes]
 |185=>λx=>[.int .i64 x.Epoch, .int .i64 x.Version, .sl 5 x.Data, .int .i64 x.MAC]
 |51=>λx=>[.sl 181 x.Log, .int .i64 x.Boxes.Epoch, .sl 256 x.Boxes.Boxes, .sl 185 x.History]
 |308=>λx=>[.int .i64 x.Handle, .int .i64 x.Public, .int .i64 x.Counter, .bool x.Cut]
 |225=>λx=>[.int .i64 x.Id, .int .i64 x.Minimum, .sl 308 x.Credentials]
 |289=>λx=>[.int .i64 x.Id, .int .i64 x.aAF, .int .i64 x.Until]
 |136=>λx=>[.int .i64 x.Seed, .int .i64 x.Next, .sl 289 x.Open]
 |138=>λx=>[.str x.Name, .sl 225 x.Accounts, .int .i64 x.Book.Seed, .int .i64 x.Book.Next, .sl 289 x.Book.Open, .sl 3 x.Logins]
 |53=>λx=>[.int .i64 x.Salt, .int .i64 x.Threshold, .int .i64 x.Check, .int .i64 x.Masked]
 |140=>λx=>[.int .i64 x.Index, .int .i64 x.Value]
 |142=>λx=>[.int .i64 x.aAQ.Index, .int .i64 x.aAQ.Value, .int .i64 x.Epoch, .int .i64 x.Guesses, .int .i64 x.Limit]
 |145=>λx=>[.int .i64 x.State.aAQ.Index, .int .i64 x.State.aAQ.Value, .int .i64 x.State.Epoch, .int .i64 x.State.Guesses, .int .i64 x.State.Limit, .sl 142 x.Saved, .int .i64 x.Monotonic]
 |193=>λx=>[.int .i64 x.Kind, .int .i64 x.aAF, .int .i64 x.Time, .bool x.Seen]
 |57=>λx=>[.sl 193 x.Notices]
 |59=>λx=>[.int .i64 x.Now, .int .i64 x.Seed, .sl 128 x.Devices, .sl 4 x.Stolen, .sl 181 x.aAH.Log, .int .i64 x.aAH.Boxes.Epoch, .sl 256 x.aAH.Boxes.Boxes, .sl 185 x.aAH.History, .sl 138 x.Sites, .int .i64 x.aAP.Salt, .int .i64 x.aAP.Threshold, .int .i64 x.aAP.Check, .int .i64 x.aAP.Masked, .sl 145 x.Hosts, .int .i64 x.Pin, .sl 193 x.Mail.Notices]
 |74=>λx=>[.int .i64 x.Kind, .int .i64 x.Device, .int .i64 x.Other, .int .i64 x.Value, .bool x.Flag]
 |265=>λx=>[.bool x.Secure, .str x.Host, .int .i64 x.Port]
 |328=>λx=>[.str x.Site, .str x.aAL, .int .i64 x.aAK, .int .i64 x.Handle, .bool x.Present, .int .i64 x.Counter, .int .i64 x.Signature]
 |9=>λx=>[.str x]
 |108=>λx=>[.sl 3 x]
 |_=>λ_=>[]
def uX:Nat->List EV.Kd
 |94=>[.int .i64, .int .i64, .int .i64, .int .i64]
 |183=>[.int .i64, .int .i64, .int .i64, .int .i64, .int .i64, .int .i64]
 |318=>[.int .i64, .int .i64, .int .i64, .bool]
 |97=>[.sl 318]
 |99=>[.int .i64, .int .i64, .int .i64, .int .i64, .sl 183, .int .i64, .int .i64, .int .i64, .sl 318]
 |4=>[.bool]
 |5=>[.int .u8]
 |212=>[.int .i64, .int .i64, .sl 5, .int .i64]
 |27=>[.int .i64, .sl 212]
 |161=>[.int .i64, .int .i64, .sl 5, .int .i64]
 |30=>[.sl 183, .int .i64, .sl 212, .sl 161]
 |361=>[.int .i64, .int .i64, .int .i64, .bool]
 |217=>[.int .i64, .int .i64, .sl 361]
 |321=>[.int .i64, .int .i64, .int .i64]
 |107=>[.int .i64, .int .i64, .sl 321]
 |3=>[.int .i64]
 |110=>[.str, .sl 217, .int .i64, .int .i64, .sl 321, .sl 3]
 |33=>[.int .i64, .int .i64, .int .i64, .int .i64]
 |113=>[.int .i64, .int .i64]
 |115=>[.int .i64, .int .i64, .int .i64, .int .i64, .int .i64]
 |118=>[.int .i64, .int .i64, .int .i64, .int .i64, .int .i64, .sl 115, .int .i64]
 |195=>[.int .i64, .int .i64, .int .i64, .bool]
 |37=>[.sl 195]
 |39=>[.int .i64, .int .i64, .sl 99, .sl 4, .sl 183, .int .i64, .sl 212, .sl 161, .sl 110, .int .i64, .int .i64, .int .i64, .int .i64, .sl 118, .int .i64, .sl 195]
 |83=>[.int .i64, .int .i64, .int .i64, .int .i64, .bool]
 |123=>[.int .i64, .int .i64, .int .i64, .int .i64]
 |181=>[.int .i64, .int .i64, .int .i64, .int .i64, .int .i64, .int .i64]
 |316=>[.int .i64, .int .i64, .int .i64, .bool]
 |126=>[.sl 316]
 |128=>[.int .i64, .int .i64, .int .i64, .int .i64, .sl 181, .int .i64, .int .i64, .int .i64, .sl 316]
 |256=>[.int .i64, .int .i64, .sl 5, .int .i64]
 |48=>[.int .i64, .sl 256]
 |185=>[.int .i64, .int .i64, .sl 5, .int .i64]
 |51=>[.sl 181, .int .i64, .sl 256, .sl 185]
 |308=>[.int .i64, .int .i64, .int .i64, .bool]
 |225=>[.int .i64, .int .i64, .sl 308]
 |289=>[.int .i64, .int .i64, .int .i64]
 |136=>[.int .i64, .int .i64, .sl 289]
 |138=>[.str, .sl 225, .int .i64, .int .i64, .sl 289, .sl 3]
 |53=>[.int .i64, .int .i64, .int .i64, .int .i64]
 |140=>[.int .i64, .int .i64]
 |142=>[.int .i64, .int .i64, .int .i64, .int .i64, .int .i64]
 |145=>[.int .i64, .int .i64, .int .i64, .int .i64, .int .i64, .sl 142, .int .i64]
 |193=>[.int .i64, .int .i64, .int .i64, .bool]
 |57=>[.sl 193]
 |59=>[.int .i64, .int .i64, .sl 128, .sl 4, .sl 181, .int .i64, .sl 256, .sl 185, .sl 138, .int .i64, .int .i64, .int .i64, .int .i64, .sl 145, .int .i64, .sl 193]
 |74=>[.int .i64, .int .i64, .int .i64, .int .i64, .bool]
 |265=>[.bool, .str, .int .i64]
 |328=>[.str, .str, .int .i64, .int .i64, .bool, .int .i64, .int .i64]
 |9=>[.str]
 |108=>[.sl 3]
 |_=>[]
def cDr:(τ:Nat)->List (EV.Lf Un)->Option (El τ)
 |94=>EV.fQ (uX 94) AN.mk
 |183=>EV.fQ (uX 183) AG.mk
 |318=>EV.fQ (uX 318) AI.mk
 |97=>EV.fQ (uX 97) AD.mk
 |99=>EV.fQ (uX 99) (λa0 a b c d e f h i=>(⟨⟨a0,a,b,c⟩,d,e,f,h,⟨i⟩⟩:AF))
 |4=>EV.fQ (uX 4) (λx=>x)
 |5=>EV.fQ (uX 5) (λx=>x)
 |212=>EV.fQ (uX 212) AK.mk
 |27=>EV.fQ (uX 27) AO.mk
 |161=>EV.fQ (uX 161) AJ.mk
 |30=>EV.fQ (uX 30) (λa0 a b c=>(⟨a0,⟨a,b⟩,c⟩:AP))
 |361=>EV.fQ (uX 361) AV.mk
 |217=>EV.fQ (uX 217) AH.mk
 |321=>EV.fQ (uX 321) AY.mk
 |107=>EV.fQ (uX 107) AM.mk
 |3=>EV.fQ (uX 3) (λx=>x)
 |110=>EV.fQ (uX 110) (λa0 a b c d e=>(⟨a0,a,⟨b,c,d⟩,e⟩:AB))
 |33=>EV.fQ (uX 33) A3.mk
 |113=>EV.fQ (uX 113) AX.mk
 |115=>EV.fQ (uX 115) (λa0 a b c d=>(⟨⟨a0,a⟩,b,c,d⟩:AZ))
 |118=>EV.fQ (uX 118) (λa0 a b c d e f=>(⟨⟨⟨a0,a⟩,b,c,d⟩,e,f⟩:AC))
 |195=>EV.fQ (uX 195) AR.mk
 |37=>EV.fQ (uX 37) AU.mk
 |39=>EV.fQ (uX 39) (λa0 a b c d e f h i p j k l m n o=>(⟨a0,a,b,c,⟨d,⟨e,f⟩,h⟩,i,⟨p,j,k,l⟩,m,n,⟨o⟩⟩:AA))
 |83=>EV.fQ (uX 83) AS.mk
 |123=>EV.fQ (uX 123) AN.mk
 |181=>EV.fQ (uX 181) AG.mk
 |316=>EV.fQ (uX 316) AI.mk
 |126=>EV.fQ (uX 126) AD.mk
 |128=>EV.fQ (uX 128) (λa0 a b c d e f h i=>(⟨⟨a0,a,b,c⟩,d,e,f,h,⟨i⟩⟩:AF))
 |256=>EV.fQ (uX 256) AK.mk
 |48=>EV.fQ (uX 48) AO.mk
 |185=>EV.fQ (uX 185) AJ.mk
 |51=>EV.fQ (uX 51) (λa0 a b c=>(⟨a0,⟨a,b⟩,c⟩:AP))
 |308=>EV.fQ (uX 308) AV.mk
 |225=>EV.fQ (uX 225) AH.mk
 |289=>EV.fQ (uX 289) AY.mk
 |136=>EV.fQ (uX 136) AM.mk
 |138=>EV.fQ (uX 138) (λa0 a b c d e=>(⟨a0,a,⟨b,c,d⟩,e⟩:AB))
 |53=>EV.fQ (uX 53) A3.mk
 |140=>EV.fQ (uX 140) AX.mk
 |142=>EV.fQ (uX 142) (λa0 a b c d=>(⟨⟨a0,a⟩,b,c,d⟩:AZ))
 |145=>EV.fQ (uX 145) (λa0 a b c d e f=>(⟨⟨⟨a0,a⟩,b,c,d⟩,e,f⟩:AC))
 |193=>EV.fQ (uX 193) AR.mk
 |57=>EV.fQ (uX 57) AU.mk
 |59=>EV.fQ (uX 59) (λa0 a b c d e f h i p j k l m n o=>(⟨a0,a,b,c,⟨d,⟨e,f⟩,h⟩,i,⟨p,j,k,l⟩,m,n,⟨o⟩⟩:AA))
 |74=>EV.fQ (uX 74) AS.mk
 |265=>EV.fQ (uX 265) AQ.mk
 |328=>EV.fQ (uX 328) A0.mk
 |9=>EV.fQ (uX 9) (λx=>x)
 |108=>EV.fQ (uX 108) (λx=>x)
 |_=>λ_=>none
def TI:List (Nat×EV.TInfo):=[
 (3,⟨.int .i64,1,[.int .i64]⟩),
 (4,⟨.bool,1,[.bool]⟩),
 (5,⟨.int .u8,1,[.int .u8]⟩),
 (9,⟨.str,1,[.str]⟩),
 (22,⟨.sl 99 9 104,1,[.nil]⟩),
 (23,⟨.sl 4 1 1,1,[.nil]⟩),
 (24,⟨.sl 183 6 48,1,[.nil]⟩),
 (25,⟨.sl 212 4 48,1,[.nil]⟩),
 (27,⟨.st [(0,3,1),(1,25,1)],2,[.int .i64, .nil]⟩),
 (28,⟨.sl 161 4 48,1,[.nil]⟩),
 (30,⟨.st [(0,24,1),(1,27,2),(3,28,1)],4,[.nil, .int .i64, .nil, .nil]⟩),
 (31,⟨.sl 110 6 104,1,[.nil]⟩),
 (33,⟨.st [(0,3,1),(1,3,1),(2,3,1),(3,3,1)],4,[.int .i64, .int .i64, .int .i64, .int .i64]⟩),
 (34,⟨.sl 118 7 72,1,[.nil]⟩),
 (35,⟨.sl 195 4 32,1,[.nil]⟩),
 (37,⟨.st [(0,35,1)],1,[.nil]⟩),
 (39,⟨.st [(0,3,1),(1,3,1),(2,22,1),(3,23,1),(4,30,4),(8,31,1),(9,33,4),(13,34,1),(14,3,1),(15,37,1)],16,[.int .i64, .int .i64, .nil, .nil, .nil, .int .i64, .nil, .nil, .nil, .int .i64, .int .i64, .int .i64, .int .i64, .nil, .int .i64, .nil]⟩),
 (40,⟨.sl 83 5 40,1,[.nil]⟩),
 (44,⟨.sl 128 9 104,1,[.nil]⟩),
 (45,⟨.sl 181 6 48,1,[.nil]⟩),
 (46,⟨.sl 256 4 48,1,[.nil]⟩),
 (48,⟨.st [(0,3,1),(1,46,1)],2,[.int .i64, .nil]⟩),
 (49,⟨.sl 185 4 48,1,[.nil]⟩),
 (51,⟨.st [(0,45,1),(1,48,2),(3,49,1)],4,[.nil, .int .i64, .nil, .nil]⟩),
 (52,⟨.sl 138 6 104,1,[.nil]⟩),
 (53,⟨.st [(0,3,1),(1,3,1),(2,3,1),(3,3,1)],4,[.int .i64, .int .i64, .int .i64, .int .i64]⟩),
 (54,⟨.sl 145 7 72,1,[.nil]⟩),
 (55,⟨.sl 193 4 32,1,[.nil]⟩),
 (57,⟨.st [(0,55,1)],1,[.nil]⟩),
 (59,⟨.st [(0,3,1),(1,3,1),(2,44,1),(3,23,1),(4,51,4),(8,52,1),(9,53,4),(13,54,1),(14,3,1),(15,57,1)],16,[.int .i64, .int .i64, .nil, .nil, .nil, .int .i64, .nil, .nil, .nil, .int .i64, .int .i64, .int .i64, .int .i64, .nil, .int .i64, .nil]⟩),
 (61,⟨.sl 74 5 40,1,[.nil]⟩),
 (74,⟨.st [(0,3,1),(1,3,1),(2,3,1),(3,3,1),(4,4,1)],5,[.int .i64, .int .i64, .int .i64, .int .i64, .bool]⟩),
 (83,⟨.st [(0,3,1),(1,3,1),(2,3,1),(3,3,1),(4,4,1)],5,[.int .i64, .int .i64, .int .i64, .int .i64, .bool]⟩),
 (94,⟨.st [(0,3,1),(1,3,1),(2,3,1),(3,3,1)],4,[.int .i64, .int .i64, .int .i64, .int .i64]⟩),
 (95,⟨.sl 318 4 32,1,[.nil]⟩),
 (97,⟨.st [(0,95,1)],1,[.nil]⟩),
 (99,⟨.st [(0,94,4),(4,24,1),(5,3,1),(6,3,1),(7,3,1),(8,97,1)],9,[.int .i64, .int .i64, .int .i64, .int .i64, .nil, .int .i64, .int .i64, .int .i64, .nil]⟩),
 (104,⟨.sl 217 3 40,1,[.nil]⟩),
 (105,⟨.sl 321 3 24,1,[.nil]⟩),
 (107,⟨.st [(0,3,1),(1,3,1),(2,105,1)],3,[.int .i64, .int .i64, .nil]⟩),
 (108,⟨.sl 3 1 8,1,[.nil]⟩),
 (110,⟨.st [(0,9,1),(1,104,1),(2,107,3),(5,108,1)],6,[.str, .nil, .int .i64, .int .i64, .nil, .nil]⟩),
 (113,⟨.st [(0,3,1),(1,3,1)],2,[.int .i64, .int .i64]⟩),
 (115,⟨.st [(0,113,2),(2,3,1),(3,3,1),(4,3,1)],5,[.int .i64, .int .i64, .int .i64, .int .i64, .int .i64]⟩),
 (116,⟨.sl 115 5 40,1,[.nil]⟩),
 (118,⟨.st [(0,115,5),(5,116,1),(6,3,1)],7,[.int .i64, .int .i64, .int .i64, .int .i64, .int .i64, .nil, .int .i64]⟩),
 (123,⟨.st [(0,3,1),(1,3,1),(2,3,1),(3,3,1)],4,[.int .i64, .int .i64, .int .i64, .int .i64]⟩),
 (124,⟨.sl 316 4 32,1,[.nil]⟩),
 (126,⟨.st [(0,124,1)],1,[.nil]⟩),
 (128,⟨.st [(0,123,4),(4,45,1),(5,3,1),(6,3,1),(7,3,1),(8,126,1)],9,[.int .i64, .int .i64, .int .i64, .int .i64, .nil, .int .i64, .int .i64, .int .i64, .nil]⟩),
 (133,⟨.sl 225 3 40,1,[.nil]⟩),
 (134,⟨.sl 289 3 24,1,[.nil]⟩),
 (136,⟨.st [(0,3,1),(1,3,1),(2,134,1)],3,[.int .i64, .int .i64, .nil]⟩),
 (138,⟨.st [(0,9,1),(1,133,1),(2,136,3),(5,108,1)],6,[.str, .nil, .int .i64, .int .i64, .nil, .nil]⟩),
 (140,⟨.st [(0,3,1),(1,3,1)],2,[.int .i64, .int .i64]⟩),
 (142,⟨.st [(0,140,2),(2,3,1),(3,3,1),(4,3,1)],5,[.int .i64, .int .i64, .int .i64, .int .i64, .int .i64]⟩),
 (143,⟨.sl 142 5 40,1,[.nil]⟩),
 (145,⟨.st [(0,142,5),(5,143,1),(6,3,1)],7,[.int .i64, .int .i64, .int .i64, .int .i64, .int .i64, .nil, .int .i64]⟩),
 (159,⟨.sl 5 1 1,1,[.nil]⟩),
 (161,⟨.st [(0,3,1),(1,3,1),(2,159,1),(3,3,1)],4,[.int .i64, .int .i64, .nil, .int .i64]⟩),
 (181,⟨.st [(0,3,1),(1,3,1),(2,3,1),(3,3,1),(4,3,1),(5,3,1)],6,[.int .i64, .int .i64, .int .i64, .int .i64, .int .i64, .int .i64]⟩),
 (183,⟨.st [(0,3,1),(1,3,1),(2,3,1),(3,3,1),(4,3,1),(5,3,1)],6,[.int .i64, .int .i64, .int .i64, .int .i64, .int .i64, .int .i64]⟩),
 (185,⟨.st [(0,3,1),(1,3,1),(2,159,1),(3,3,1)],4,[.int .i64, .int .i64, .nil, .int .i64]⟩),
 (193,⟨.st [(0,3,1),(1,3,1),(2,3,1),(3,4,1)],4,[.int .i64, .int .i64, .int .i64, .bool]⟩),
 (195,⟨.st [(0,3,1),(1,3,1),(2,3,1),(3,4,1)],4,[.int .i64, .int .i64, .int .i64, .bool]⟩),
 (212,⟨.st [(0,3,1),(1,3,1),(2,159,1),(3,3,1)],4,[.int .i64, .int .i64, .nil, .int .i64]⟩),
 (215,⟨.sl 361 4 32,1,[.nil]⟩),
 (217,⟨.st [(0,3,1),(1,3,1),(2,215,1)],3,[.int .i64, .int .i64, .nil]⟩),
 (223,⟨.sl 308 4 32,1,[.nil]⟩),
 (225,⟨.st [(0,3,1),(1,3,1),(2,223,1)],3,[.int .i64, .int .i64, .nil]⟩),
 (256,⟨.st [(0,3,1),(1,3,1),(2,159,1),(3,3,1)],4,[.int .i64, .int .i64, .nil, .int .i64]⟩),
 (265,⟨.st [(0,4,1),(1,9,1),(2,3,1)],3,[.bool, .str, .int .i64]⟩),
 (289,⟨.st [(0,3,1),(1,3,1),(2,3,1)],3,[.int .i64, .int .i64, .int .i64]⟩),
 (308,⟨.st [(0,3,1),(1,3,1),(2,3,1),(3,4,1)],4,[.int .i64, .int .i64, .int .i64, .bool]⟩),
 (316,⟨.st [(0,3,1),(1,3,1),(2,3,1),(3,4,1)],4,[.int .i64, .int .i64, .int .i64, .bool]⟩),
 (318,⟨.st [(0,3,1),(1,3,1),(2,3,1),(3,4,1)],4,[.int .i64, .int .i64, .int .i64, .bool]⟩),
 (321,⟨.st [(0,3,1),(1,3,1),(2,3,1)],3,[.int .i64, .int .i64, .int .i64]⟩),
 (328,⟨.st [(0,9,1),(1,9,1),(2,3,1),(3,3,1),(4,4,1),(5,3,1),(6,3,1)],7,[.str, .str, .int .i64, .int .i64, .bool, .int .i64, .int .i64]⟩),
 (340,⟨.sl 140 2 16,1,[.nil]⟩),
 (348,⟨.sl 9 1 16,1,[.nil]⟩),
 (361,⟨.st [(0,3,1),(1,3,1),(2,3,1),(3,4,1)],4,[.int .i64, .int .i64, .int .i64, .bool]⟩),
 (365,⟨.sl 108 1 24,1,[.nil]⟩),
 (416,⟨.st [],8,[.bool, .bool, .bool, .bool, .bool, .bool, .bool, .bool]⟩)]
def lay (τ:Nat):(∀x:El τ,((bKp τ x).map EV.Lf.toV=cB6 τ x/\(bKp τ x).length=Un.K τ)/\(bKp τ x).map EV.kdL=(uX τ).map some)/\∀(cs:List (EV.Lf Un)) (x:El τ),cDr τ cs=some x->cs=bKp τ x:=by
 by_cases h:τ∈[94,183,318,97,99,4,5,212,27,161,30,361,217,321,107,3,110,33,113,115,118,195,37,39,83,123,181,316,126,128,256,48,185,51,308,225,289,136,138,53,140,142,145,193,57,59,74,265,328,9,108]
 ·simp only[bl,gO,or_false] at h;rcases h with rfl|rfl|rfl|rfl|rfl|rfl|rfl|rfl|rfl|rfl|rfl|rfl|rfl|rfl|rfl|rfl|rfl|rfl|rfl|rfl|rfl|rfl|rfl|rfl|rfl|rfl|rfl|rfl|rfl|rfl|rfl|rfl|rfl|rfl|rfl|rfl|rfl|rfl|rfl|rfl|rfl|rfl|rfl|rfl|rfl|rfl|rfl|rfl|rfl|rfl|rfl<;>exact⟨λ_=>⟨⟨rfl,rfl⟩,rfl⟩,λ_ _ h=>by obtain⟨t,rfl,rfl⟩:=EV.bQ3 h;rfl⟩
 ·have e:El τ=Empty:=by unfold El;split<;>first|(exfalso;revert h;decide)|rfl
  exact⟨λx=>(cast e x).elim,λ_ x=>(cast e x).elim⟩
def hc1 (τ:Nat)(x:El τ):(bKp τ x).map EV.Lf.toV=cB6 τ x:=((lay τ).1 x).1.1
def hc2 (τ:Nat)(x:El τ):(bKp τ x).length=Un.K τ:=((lay τ).1 x).1.2
def hc3 (τ:Nat)(x:El τ)(c:EV.Lf Un)(hc:c∈bKp τ x):c.aBB=true:=EV.bVs ((lay τ).1 x).2 c hc
def Yn:EV.Lay Un:=⟨⟨bKp,cDr,hc1,hc2,hc3,λτ=>(lay τ).2⟩,uX,5,λn=>n,λn=>n,λ_=>rfl,λ_=>rfl⟩
def ly1 (τ:Nat)(x:El τ):(bKp τ x).map EV.kdL=(uX τ).map some:=((lay τ).1 x).2
def ly2:∀(τ τ':Nat),EV.Kd.sl τ'∈uX τ->0<Un.K τ':=by intro τ τ' h;unfold uX at h;split at h<;>simp only[bl,gO,or_false,reduceCtorEq,false_or,or_self,EV.Kd.sl.injEq] at h<;>first|exact h.elim|(subst h;exact aE rfl)|(rcases h with h|h|h|h|h|h|h|h<;>(subst h;exact aE rfl))|(rcases h with h|h|h|h|h|h|h<;>(subst h;exact aE rfl))|(rcases h with h|h|h|h|h|h<;>(subst h;exact aE rfl))|(rcases h with h|h|h|h|h<;>(subst h;exact aE rfl))|(rcases h with h|h|h|h<;>(subst h;exact aE rfl))|(rcases h with h|h|h<;>(subst h;exact aE rfl))|(rcases h with h|h<;>(subst h;exact aE rfl))
def cDs:EV.LayOk Yn:=⟨ly1,ly2⟩
def eD (f:Func):Code:=match f.body with|some c=>c|none=> .skip
def T.mix:Tryz.prog.follows .mixedOrders=true:=by kernel_rfl
def aB:EV.Good Tryz.prog G0 Yn TI []:=⟨by kernel_rfl,cDs,λf S h=>by simp at h⟩
abbrev SU:=EV.Sum Un
def OK (f:Nat)(S:SU):Prop:=EV.Rb Tryz.prog G0 Yn f S
def cDt:SU:=⟨[],[],false,false,λ_=>none⟩
def bR4 (f:Nat):OK f cDt:=λ_ _ hr=>nomatch hr
def SIl:SU:=⟨[],[],false,true,λ_=>none⟩
def sIl (f:Nat):OK f SIl:=λ_ _ hr=>nomatch hr
def IL:EV.Il:=[(145,eD Tryz.f145,111,[.tmp 10]),(155,eD Tryz.f155,48,[.tmp 4]),(151,eD Tryz.f151,23,[]),(423,eD Tryz.f423,53,[.cell 4 145, .tmp 5, .tmp 6]),(262,eD Tryz.f262,16,[.cell 4 59]),(324,eD Tryz.f324,37,[.cell 8 59, .tmp 9]),(257,eD Tryz.f257,39,[.cell 6 59, .tmp 7]),(260,eD Tryz.f260,32,[.cell 8 59]),(187,eD Tryz.f187,42,[.cell 4 59, .tmp 5]),(183,eD Tryz.f183,126,[.cell 4 59, .tmp 5]),(185,eD Tryz.f185,135,[.cell 6 59, .tmp 7])]
def cDu:EV.Aw Tryz.prog IL:=EV.Fp Tryz.func145 rfl Tryz.ntmps145 rfl (λ_ _=>by kernel_rfl)<|EV.Fp Tryz.func155 rfl Tryz.ntmps155 rfl (λ_ _=>by kernel_rfl)<|EV.Fp Tryz.func151 rfl Tryz.ntmps151 rfl (λ_ _=>by kernel_rfl)<|EV.Fp Tryz.func423 rfl Tryz.ntmps423 rfl (λ_ _=>by kernel_rfl)<|EV.Fp Tryz.func262 rfl Tryz.ntmps262 rfl (λ_ _=>by kernel_rfl)<|EV.Fp Tryz.func324 rfl Tryz.ntmps324 rfl (λ_ _=>by kernel_rfl)<|EV.Fp Tryz.func257 rfl Tryz.ntmps257 rfl (λ_ _=>by kernel_rfl)<|EV.Fp Tryz.func260 rfl Tryz.ntmps260 rfl (λ_ _=>by kernel_rfl)<|EV.Fp Tryz.func187 rfl Tryz.ntmps187 rfl (λ_ _=>by kernel_rfl)<|EV.Fp Tryz.func183 rfl Tryz.ntmps183 rfl (λ_ _=>by kernel_rfl)<|EV.Fp Tryz.func185 rfl Tryz.ntmps185 rfl (λ_ _=>by kernel_rfl)<|EV.cBo
def gc {f:Nat}{S:SU}{FZ:List (Nat×SU)}(h:OK f S)(G:EV.Good Tryz.prog G0 Yn TI FZ):EV.Good Tryz.prog G0 Yn TI ((f,S)::FZ):=EV.bH9 h G
def gcp {f:Nat}{S:SU}{FZ:List (Nat×SU)}(h:OK f S)(G:EV.Good Tryz.prog G0 Yn TI FZ)(a:S.wt=false:=by rfl)(b:S.fr=true:=by rfl):EV.Good Tryz.prog G0 Yn TI ((f,S.pl)::FZ):=EV.bH9 (EV.bV2 h a b) G
def mkS {f:FuncId}{fn:Func}{S:SU}{FZ:List (Nat×SU)}{m:EV.fM Un S.ar->Option (EV.fM Un S.rs)}(an:EV.An)(G:EV.Good Tryz.prog G0 Yn TI FZ)(hf:Tryz.prog.funcs[f]? =some fn)(ht:∀a r,S.m a=some r->m a=some r)(h:∀a,(fn.name== "runtime.NumGoroutine",EV.evF Yn TI FZ IL an (eD fn) fn.ntmps S.ar S.rs S.fr fn.results.toList a)=(false,m a):=by intro _;kernel_rfl)(hb:fn.body=some (eD fn):=by rfl)(hl:Nat.ble S.ar.length fn.ntmps=true:=by kernel_rfl)(hw:S.wt=false:=by rfl):OK f S:=
 λa r hr=>EV.cBr (an:=λ_=>an) G T.mix cDu hf hb rfl (by simp) (EV.bVw hf hb (congrArg Prod.fst (h a))) (aE hl) hw (λa r hr=>(congrArg Prod.snd (h a)).trans (ht a r hr)) a r hr
def bIs {γ:Type}{c:Prop}{d:Decidable c}{y r:γ}(h: @gd γ c d (some y)=some r):c/\y=r:=by
 unfold gd at h;split at h
 ·exact⟨‹_›,ak h⟩
 ·cases h
def bZ (a r:List EV.Kd)(m:EV.fM Un a->Option (EV.fM Un r)):SU:=⟨a,r,false,false,m⟩
def gF (a r:List EV.Kd)(m:EV.fM Un a->Option (EV.fM Un r)):SU:=⟨a,r,true,false,m⟩
def nG {k0:EV.Kd}{γ:Type}(G:k0.ty Un->Option γ->Option γ)(F:k0.ty Un->γ)(x:EV.fM Un [k0]):Option γ:=G x (some (F x))
def bW {f:FuncId}{fn:Func}{k0:EV.Kd}{rs:List EV.Kd}{fr:Bool}{p:k0.ty Un->Prop}{g:k0.ty Un->Option (EV.fM Un rs)->Option (EV.fM Un rs)}{F:k0.ty Un->EV.fM Un rs}{m:k0.ty Un->Option (EV.fM Un rs)}{FZ:List (Nat×SU)}(an:EV.An)(G:EV.Good Tryz.prog G0 Yn TI FZ)(hf:Tryz.prog.funcs[f]? =some fn)(t:∀a0,p a0->m a0=some (F a0))(hp:∀(x:EV.fM Un [k0]) r,nG g F x=some r->p x/\F x=r:=by exact λ_ _ h=>bIs h)(h:∀x:EV.fM Un [k0],(fn.name== "runtime.NumGoroutine",EV.evF Yn TI FZ IL an (eD fn) fn.ntmps [k0] rs fr fn.results.toList x)=(false,m x):=by intro _;kernel_rfl)(hb:fn.body=some (eD fn):=by rfl)(hl:Nat.ble (List.length [k0]) fn.ntmps=true:=by kernel_rfl):OK f ⟨[k0],rs,fr,false,nG g F⟩:=mkS an G hf (λ(x:EV.fM Un [k0]) r hr=>(t x (hp x r hr).1).trans (congrArg some (hp x r hr).2)) h hb hl rfl
def cf1 {k0:EV.Kd}{γ:Type}(F:k0.ty Un->γ)(x:EV.fM Un [k0]):Option γ:=some (F x)
def kE {f:FuncId}{fn:Func}{k0:EV.Kd}{rs:List EV.Kd}{fr:Bool}{F:k0.ty Un->EV.fM Un rs}{m:k0.ty Un->Option (EV.fM Un rs)}{FZ:List (Nat×SU)}(an:EV.An)(G:EV.Good Tryz.prog G0 Yn TI FZ)(hf:Tryz.prog.funcs[f]? =some fn)(t:∀a0,m a0=some (F a0))(h:∀x:EV.fM Un [k0],(fn.name== "runtime.NumGoroutine",EV.evF Yn TI FZ IL an (eD fn) fn.ntmps [k0] rs fr fn.results.toList x)=(false,m x):=by intro _;kernel_rfl)(hb:fn.body=some (eD fn):=by rfl)(hl:Nat.ble (List.length [k0]) fn.ntmps=true:=by kernel_rfl):OK f ⟨[k0],rs,fr,false,cf1 F⟩:=mkS an G hf (λ(x:EV.fM Un [k0]) _=>(t x).trans) h hb hl rfl
def cr1 {k0:EV.Kd}{γ:Type}(m:k0.ty Un->Option γ)(x:EV.fM Un [k0]):Option γ:=m x
def cFc {f:FuncId}{fn:Func}{k0:EV.Kd}{rs:List EV.Kd}{fr:Bool}{m:k0.ty Un->Option (EV.fM Un rs)}{FZ:List (Nat×SU)}(an:EV.An)(G:EV.Good Tryz.prog G0 Yn TI FZ)(hf:Tryz.prog.funcs[f]? =some fn)(h:∀x:EV.fM Un [k0],(fn.name== "runtime.NumGoroutine",EV.evF Yn TI FZ IL an (eD fn) fn.ntmps [k0] rs fr fn.results.toList x)=(false,m x):=by intro _;kernel_rfl)(hb:fn.body=some (eD fn):=by rfl)(hl:Nat.ble (List.length [k0]) fn.ntmps=true:=by kernel_rfl):OK f ⟨[k0],rs,fr,false,cr1 m⟩:=mkS (m:=cr1 m) an G hf (λ_ _=>id) h hb hl rfl
def fP {k0 k1:EV.Kd}{γ:Type}(G:k0.ty Un->k1.ty Un->Option γ->Option γ)(F:k0.ty Un->k1.ty Un->γ)(x:EV.fM Un [k0,k1]):Option γ:=G x.1 x.2 (some (F x.1 x.2))
def aV {f:FuncId}{fn:Func}{k0 k1:EV.Kd}{rs:List EV.Kd}{fr:Bool}{p:k0.ty Un->k1.ty Un->Prop}{g:k0.ty Un->k1.ty Un->Option (EV.fM Un rs)->Option (EV.fM Un rs)}{F:k0.ty Un->k1.ty Un->EV.fM Un rs}{m:k0.ty Un->k1.ty Un->Option (EV.fM Un rs)}{FZ:List (Nat×SU)}(an:EV.An)(G:EV.Good Tryz.prog G0 Yn TI FZ)(hf:Tryz.prog.funcs[f]? =some fn)(t:∀a0 a1,p a0 a1->m a0 a1=some (F a0 a1))(hp:∀(x:EV.fM Un [k0,k1]) r,fP g F x=some r->p x.1 x.2/\F x.1 x.2=r:=by exact λ_ _ h=>bIs h)(h:∀x:EV.fM Un [k0,k1],(fn.name== "runtime.NumGoroutine",EV.evF Yn TI FZ IL an (eD fn) fn.ntmps [k0,k1] rs fr fn.results.toList x)=(false,m x.1 x.2):=by intro _;kernel_rfl)(hb:fn.body=some (eD fn):=by rfl)(hl:Nat.ble (List.length [k0,k1]) fn.ntmps=true:=by kernel_rfl):OK f ⟨[k0,k1],rs,fr,false,fP g F⟩:=mkS an G hf (λ(x:EV.fM Un [k0,k1]) r hr=>(t x.1 x.2 (hp x r hr).1).trans (congrArg some (hp x r hr).2)) h hb hl rfl
def cf2 {k0 k1:EV.Kd}{γ:Type}(F:k0.ty Un->k1.ty Un->γ)(x:EV.fM Un [k0,k1]):Option γ:=some (F x.1 x.2)
def mQ {f:FuncId}{fn:Func}{k0 k1:EV.Kd}{rs:List EV.Kd}{fr:Bool}{F:k0.ty Un->k1.ty Un->EV.fM Un rs}{m:k0.ty Un->k1.ty Un->Option (EV.fM Un rs)}{FZ:List (Nat×SU)}(an:EV.An)(G:EV.Good Tryz.prog G0 Yn TI FZ)(hf:Tryz.prog.funcs[f]? =some fn)(t:∀a0 a1,m a0 a1=some (F a0 a1))(h:∀x:EV.fM Un [k0,k1],(fn.name== "runtime.NumGoroutine",EV.evF Yn TI FZ IL an (eD fn) fn.ntmps [k0,k1] rs fr fn.results.toList x)=(false,m x.1 x.2):=by intro _;kernel_rfl)(hb:fn.body=some (eD fn):=by rfl)(hl:Nat.ble (List.length [k0,k1]) fn.ntmps=true:=by kernel_rfl):OK f ⟨[k0,k1],rs,fr,false,cf2 F⟩:=mkS an G hf (λ(x:EV.fM Un [k0,k1]) _=>(t x.1 x.2).trans) h hb hl rfl
def cr2 {k0 k1:EV.Kd}{γ:Type}(m:k0.ty Un->k1.ty Un->Option γ)(x:EV.fM Un [k0,k1]):Option γ:=m x.1 x.2
def bAb {f:FuncId}{fn:Func}{k0 k1:EV.Kd}{rs:List EV.Kd}{fr:Bool}{m:k0.ty Un->k1.ty Un->Option (EV.fM Un rs)}{FZ:List (Nat×SU)}(an:EV.An)(G:EV.Good Tryz.prog G0 Yn TI FZ)(hf:Tryz.prog.funcs[f]? =some fn)(h:∀x:EV.fM Un [k0,k1],(fn.name== "runtime.NumGoroutine",EV.evF Yn TI FZ IL an (eD fn) fn.ntmps [k0,k1] rs fr fn.results.toList x)=(false,m x.1 x.2):=by intro _;kernel_rfl)(hb:fn.body=some (eD fn):=by rfl)(hl:Nat.ble (List.length [k0,k1]) fn.ntmps=true:=by kernel_rfl):OK f ⟨[k0,k1],rs,fr,false,cr2 m⟩:=mkS (m:=cr2 m) an G hf (λ_ _=>id) h hb hl rfl
def cg3 {k0 k1 k2:EV.Kd}{γ:Type}(G:k0.ty Un->k1.ty Un->k2.ty Un->Option γ->Option γ)(F:k0.ty Un->k1.ty Un->k2.ty Un->γ)(x:EV.fM Un [k0,k1,k2]):Option γ:=G x.1 x.2.1 x.2.2 (some (F x.1 x.2.1 x.2.2))
def gV {f:FuncId}{fn:Func}{k0 k1 k2:EV.Kd}{rs:List EV.Kd}{fr:Bool}{p:k0.ty Un->k1.ty Un->k2.ty Un->Prop}{g:k0.ty Un->k1.ty Un->k2.ty Un->Option (EV.fM Un rs)->Option (EV.fM Un rs)}{F:k0.ty Un->k1.ty Un->k2.ty Un->EV.fM Un rs}{m:k0.ty Un->k1.ty Un->k2.ty Un->Option (EV.fM Un rs)}{FZ:List (Nat×SU)}(an:EV.An)(G:EV.Good Tryz.prog G0 Yn TI FZ)(hf:Tryz.prog.funcs[f]? =some fn)(t:∀a0 a1 a2,p a0 a1 a2->m a0 a1 a2=some (F a0 a1 a2))(hp:∀(x:EV.fM Un [k0,k1,k2]) r,cg3 g F x=some r->p x.1 x.2.1 x.2.2/\F x.1 x.2.1 x.2.2=r:=by exact λ_ _ h=>bIs h)(h:∀x:EV.fM Un [k0,k1,k2],(fn.name== "runtime.NumGoroutine",EV.evF Yn TI FZ IL an (eD fn) fn.ntmps [k0,k1,k2] rs fr fn.results.toList x)=(false,m x.1 x.2.1 x.2.2):=by intro _;kernel_rfl)(hb:fn.body=some (eD fn):=by rfl)(hl:Nat.ble (List.length [k0,k1,k2]) fn.ntmps=true:=by kernel_rfl):OK f ⟨[k0,k1,k2],rs,fr,false,cg3 g F⟩:=mkS an G hf (λ(x:EV.fM Un [k0,k1,k2]) r hr=>(t x.1 x.2.1 x.2.2 (hp x r hr).1).trans (congrArg some (hp x r hr).2)) h hb hl rfl
def cf3 {k0 k1 k2:EV.Kd}{γ:Type}(F:k0.ty Un->k1.ty Un->k2.ty Un->γ)(x:EV.fM Un [k0,k1,k2]):Option γ:=some (F x.1 x.2.1 x.2.2)
def bPx {f:FuncId}{fn:Func}{k0 k1 k2:EV.Kd}{rs:List EV.Kd}{fr:Bool}{F:k0.ty Un->k1.ty Un->k2.ty Un->EV.fM Un rs}{m:k0.ty Un->k1.ty Un->k2.ty Un->Option (EV.fM Un rs)}{FZ:List (Nat×SU)}(an:EV.An)(G:EV.Good Tryz.prog G0 Yn TI FZ)(hf:Tryz.prog.funcs[f]? =some fn)(t:∀a0 a1 a2,m a0 a1 a2=some (F a0 a1 a2))(h:∀x:EV.fM Un [k0,k1,k2],(fn.name== "runtime.NumGoroutine",EV.evF Yn TI FZ IL an (eD fn) fn.ntmps [k0,k1,k2] rs fr fn.results.toList x)=(false,m x.1 x.2.1 x.2.2):=by intro _;kernel_rfl)(hb:fn.body=some (eD fn):=by rfl)(hl:Nat.ble (List.length [k0,k1,k2]) fn.ntmps=true:=by kernel_rfl):OK f ⟨[k0,k1,k2],rs,fr,false,cf3 F⟩:=mkS an G hf (λ(x:EV.fM Un [k0,k1,k2]) _=>(t x.1 x.2.1 x.2.2).trans) h hb hl rfl
def cr3 {k0 k1 k2:EV.Kd}{γ:Type}(m:k0.ty Un->k1.ty Un->k2.ty Un->Option γ)(x:EV.fM Un [k0,k1,k2]):Option γ:=m x.1 x.2.1 x.2.2
def cFe {f:FuncId}{fn:Func}{k0 k1 k2:EV.Kd}{rs:List EV.Kd}{fr:Bool}{m:k0.ty Un->k1.ty Un->k2.ty Un->Option (EV.fM Un rs)}{FZ:List (Nat×SU)}(an:EV.An)(G:EV.Good Tryz.prog G0 Yn TI FZ)(hf:Tryz.prog.funcs[f]? =some fn)(h:∀x:EV.fM Un [k0,k1,k2],(fn.name== "runtime.NumGoroutine",EV.evF Yn TI FZ IL an (eD fn) fn.ntmps [k0,k1,k2] rs fr fn.results.toList x)=(false,m x.1 x.2.1 x.2.2):=by intro _;kernel_rfl)(hb:fn.body=some (eD fn):=by rfl)(hl:Nat.ble (List.length [k0,k1,k2]) fn.ntmps=true:=by kernel_rfl):OK f ⟨[k0,k1,k2],rs,fr,false,cr3 m⟩:=mkS (m:=cr3 m) an G hf (λ_ _=>id) h hb hl rfl
def cg4 {k0 k1 k2 k3:EV.Kd}{γ:Type}(G:k0.ty Un->k1.ty Un->k2.ty Un->k3.ty Un->Option γ->Option γ)(F:k0.ty Un->k1.ty Un->k2.ty Un->k3.ty Un->γ)(x:EV.fM Un [k0,k1,k2,k3]):Option γ:=G x.1 x.2.1 x.2.2.1 x.2.2.2 (some (F x.1 x.2.1 x.2.2.1 x.2.2.2))
def yG {f:FuncId}{fn:Func}{k0 k1 k2 k3:EV.Kd}{rs:List EV.Kd}{fr:Bool}{p:k0.ty Un->k1.ty Un->k2.ty Un->k3.ty Un->Prop}{g:k0.ty Un->k1.ty Un->k2.ty Un->k3.ty Un->Option (EV.fM Un rs)->Option (EV.fM Un rs)}{F:k0.ty Un->k1.ty Un->k2.ty Un->k3.ty Un->EV.fM Un rs}{m:k0.ty Un->k1.ty Un->k2.ty Un->k3.ty Un->Option (EV.fM Un rs)}{FZ:List (Nat×SU)}(an:EV.An)(G:EV.Good Tryz.prog G0 Yn TI FZ)(hf:Tryz.prog.funcs[f]? =some fn)(t:∀a0 a1 a2 a3,p a0 a1 a2 a3->m a0 a1 a2 a3=some (F a0 a1 a2 a3))(hp:∀(x:EV.fM Un [k0,k1,k2,k3]) r,cg4 g F x=some r->p x.1 x.2.1 x.2.2.1 x.2.2.2/\F x.1 x.2.1 x.2.2.1 x.2.2.2=r:=by exact λ_ _ h=>bIs h)(h:∀x:EV.fM Un [k0,k1,k2,k3],(fn.name== "runtime.NumGoroutine",EV.evF Yn TI FZ IL an (eD fn) fn.ntmps [k0,k1,k2,k3] rs fr fn.results.toList x)=(false,m x.1 x.2.1 x.2.2.1 x.2.2.2):=by intro _;kernel_rfl)(hb:fn.body=some (eD fn):=by rfl)(hl:Nat.ble (List.length [k0,k1,k2,k3]) fn.ntmps=true:=by kernel_rfl):OK f ⟨[k0,k1,k2,k3],rs,fr,false,cg4 g F⟩:=mkS an G hf (λ(x:EV.fM Un [k0,k1,k2,k3]) r hr=>(t x.1 x.2.1 x.2.2.1 x.2.2.2 (hp x r hr).1).trans (congrArg some (hp x r hr).2)) h hb hl rfl
def cg5 {k0 k1 k2 k3 k4:EV.Kd}{γ:Type}(G:k0.ty Un->k1.ty Un->k2.ty Un->k3.ty Un->k4.ty Un->Option γ->Option γ)(F:k0.ty Un->k1.ty Un->k2.ty Un->k3.ty Un->k4.ty Un->γ)(x:EV.fM Un [k0,k1,k2,k3,k4]):Option γ:=G x.1 x.2.1 x.2.2.1 x.2.2.2.1 x.2.2.2.2 (some (F x.1 x.2.1 x.2.2.1 x.2.2.2.1 x.2.2.2.2))
def bKq {f:FuncId}{fn:Func}{k0 k1 k2 k3 k4:EV.Kd}{rs:List EV.Kd}{fr:Bool}{p:k0.ty Un->k1.ty Un->k2.ty Un->k3.ty Un->k4.ty Un->Prop}{g:k0.ty Un->k1.ty Un->k2.ty Un->k3.ty Un->k4.ty Un->Option (EV.fM Un rs)->Option (EV.fM Un rs)}{F:k0.ty Un->k1.ty Un->k2.ty Un->k3.ty Un->k4.ty Un->EV.fM Un rs}{m:k0.ty Un->k1.ty Un->k2.ty Un->k3.ty Un->k4.ty Un->Option (EV.fM Un rs)}{FZ:List (Nat×SU)}(an:EV.An)(G:EV.Good Tryz.prog G0 Yn TI FZ)(hf:Tryz.prog.funcs[f]? =some fn)(t:∀a0 a1 a2 a3 a4,p a0 a1 a2 a3 a4->m a0 a1 a2 a3 a4=some (F a0 a1 a2 a3 a4))(hp:∀(x:EV.fM Un [k0,k1,k2,k3,k4]) r,cg5 g F x=some r->p x.1 x.2.1 x.2.2.1 x.2.2.2.1 x.2.2.2.2/\F x.1 x.2.1 x.2.2.1 x.2.2.2.1 x.2.2.2.2=r:=by exact λ_ _ h=>bIs h)(h:∀x:EV.fM Un [k0,k1,k2,k3,k4],(fn.name== "runtime.NumGoroutine",EV.evF Yn TI FZ IL an (eD fn) fn.ntmps [k0,k1,k2,k3,k4] rs fr fn.results.toList x)=(false,m x.1 x.2.1 x.2.2.1 x.2.2.2.1 x.2.2.2.2):=by intro _;kernel_rfl)(hb:fn.body=some (eD fn):=by rfl)(hl:Nat.ble (List.length [k0,k1,k2,k3,k4]) fn.ntmps=true:=by kernel_rfl):OK f ⟨[k0,k1,k2,k3,k4],rs,fr,false,cg5 g F⟩:=mkS an G hf (λ(x:EV.fM Un [k0,k1,k2,k3,k4]) r hr=>(t x.1 x.2.1 x.2.2.1 x.2.2.2.1 x.2.2.2.2 (hp x r hr).1).trans (congrArg some (hp x r hr).2)) h hb hl rfl
def cg6 {k0 k1 k2 k3 k4 k5:EV.Kd}{γ:Type}(G:k0.ty Un->k1.ty Un->k2.ty Un->k3.ty Un->k4.ty Un->k5.ty Un->Option γ->Option γ)(F:k0.ty Un->k1.ty Un->k2.ty Un->k3.ty Un->k4.ty Un->k5.ty Un->γ)(x:EV.fM Un [k0,k1,k2,k3,k4,k5]):Option γ:=G x.1 x.2.1 x.2.2.1 x.2.2.2.1 x.2.2.2.2.1 x.2.2.2.2.2 (some (F x.1 x.2.1 x.2.2.1 x.2.2.2.1 x.2.2.2.2.1 x.2.2.2.2.2))
def cDv {f:FuncId}{fn:Func}{k0 k1 k2 k3 k4 k5:EV.Kd}{rs:List EV.Kd}{fr:Bool}{p:k0.ty Un->k1.ty Un->k2.ty Un->k3.ty Un->k4.ty Un->k5.ty Un->Prop}{g:k0.ty Un->k1.ty Un->k2.ty Un->k3.ty Un->k4.ty Un->k5.ty Un->Option (EV.fM Un rs)->Option (EV.fM Un rs)}{F:k0.ty Un->k1.ty Un->k2.ty Un->k3.ty Un->k4.ty Un->k5.ty Un->EV.fM Un rs}{m:k0.ty Un->k1.ty Un->k2.ty Un->k3.ty Un->k4.ty Un->k5.ty Un->Option (EV.fM Un rs)}{FZ:List (Nat×SU)}(an:EV.An)(G:EV.Good Tryz.prog G0 Yn TI FZ)(hf:Tryz.prog.funcs[f]? =some fn)(t:∀a0 a1 a2 a3 a4 a5,p a0 a1 a2 a3 a4 a5->m a0 a1 a2 a3 a4 a5=some (F a0 a1 a2 a3 a4 a5))(hp:∀(x:EV.fM Un [k0,k1,k2,k3,k4,k5]) r,cg6 g F x=some r->p x.1 x.2.1 x.2.2.1 x.2.2.2.1 x.2.2.2.2.1 x.2.2.2.2.2/\F x.1 x.2.1 x.2.2.1 x.2.2.2.1 x.2.2.2.2.1 x.2.2.2.2.2=r:=by exact λ_ _ h=>bIs h)(h:∀x:EV.fM Un [k0,k1,k2,k3,k4,k5],(fn.name== "runtime.NumGoroutine",EV.evF Yn TI FZ IL an (eD fn) fn.ntmps [k0,k1,k2,k3,k4,k5] rs fr fn.results.toList x)=(false,m x.1 x.2.1 x.2.2.1 x.2.2.2.1 x.2.2.2.2.1 x.2.2.2.2.2):=by intro _;kernel_rfl)(hb:fn.body=some (eD fn):=by rfl)(hl:Nat.ble (List.length [k0,k1,k2,k3,k4,k5]) fn.ntmps=true:=by kernel_rfl):OK f ⟨[k0,k1,k2,k3,k4,k5],rs,fr,false,cg6 g F⟩:=mkS an G hf (λ(x:EV.fM Un [k0,k1,k2,k3,k4,k5]) r hr=>(t x.1 x.2.1 x.2.2.1 x.2.2.2.1 x.2.2.2.2.1 x.2.2.2.2.2 (hp x r hr).1).trans (congrArg some (hp x r hr).2)) h hb hl rfl
def jH:EV.Sum Un:=⟨[.str, .str],[.sl 9],false,false,λ(a:ByteArray×ByteArray)=>gd (a.1.size<4294967281/\1<=a.2.size) (some (kT a.1 a.2))⟩
def aQs (args:Array Value)(w:World):(callFunc 383 args).run Tryz.prog w= .ok (.enter 383 args) w:=by kernel_rfl
def aVg (a:ByteArray×ByteArray):(EV.bG Yn jH.ar a).map EV.pJ=[.str a.1, .str a.2]:=by kernel_rfl
def aVh (a:ByteArray×ByteArray):jC ((EV.bG Yn jH.rs (kT a.1 a.2)).map EV.pJ)= .slice 1 ((kT a.1 a.2).map sV):=by kernel_rfl
def aVi (a:ByteArray×ByteArray)(r:EV.fM Un jH.rs)(hr:gd (a.1.size<4294967281/\1<=a.2.size) (some (kT a.1 a.2))=some r):Spec Tryz.prog G0 383 ((EV.bG Yn jH.ar a).map EV.pJ) (λv=>v=jC ((EV.bG Yn jH.rs r).map EV.pJ)):=by
 unfold gd at hr;split at hr
 ·rename_i hp;have e:=ak hr;subst e;rw[aVg,aVh];exact bPh aQs (λs sep m w a b c=>Tryz.strings_Split s sep m w a b c) a.1 a.2 hp.1 hp.2
 ·cases hr
def Yj:EV.Rb Tryz.prog G0 Yn 383 jH:=λ(a:ByteArray×ByteArray) r hr=>⟨λ_ _=>aVi a r hr,λ_ h=>absurd (show false=true from h) cP,λh=>absurd (show false=true from h) cP,λh=>absurd (show false=true from h) cP⟩
def lC:EV.Sum Un:=⟨[.sl 9, .str],[.str],false,false,λ(a:(List ByteArray)×ByteArray)=>gd (0<a.1.length/\(qY a.2 a.1).size<=140737488355328/\a.1.length<=140737488355328) (some (qY a.2 a.1))⟩
def aVj (args:Array Value)(w:World):(callFunc 384 args).run Tryz.prog w= .ok (.enter 384 args) w:=by kernel_rfl
def bAc (a:(List ByteArray)×ByteArray):(EV.bG Yn lC.ar a).map EV.pJ=[.slice 1 (a.1.map sV), .str a.2]:=by kernel_rfl
def bAd (a:(List ByteArray)×ByteArray):jC ((EV.bG Yn lC.rs (qY a.2 a.1)).map EV.pJ)= .str (qY a.2 a.1):=by kernel_rfl
def bAe (a:(List ByteArray)×ByteArray)(r:EV.fM Un lC.rs)(hr:gd (0<a.1.length/\(qY a.2 a.1).size<=140737488355328/\a.1.length<=140737488355328) (some (qY a.2 a.1))=some r):Spec Tryz.prog G0 384 ((EV.bG Yn lC.ar a).map EV.pJ) (λv=>v=jC ((EV.bG Yn lC.rs r).map EV.pJ)):=by
 unfold gd at hr;split at hr
 ·rename_i hp;have e:=ak hr;subst e;rw[bAc,bAd];exact bSz aVj Tryz.strings_Join a.1 a.2 (by intro h;have:=hp.1;rw[h] at this;simp at this) hp.2.1 hp.2.2
 ·cases hr
def bAf:EV.Rb Tryz.prog G0 Yn 384 lC:=λ(a:(List ByteArray)×ByteArray) r hr=>⟨λ_ _=>bAe a r hr,λ_ h=>absurd (show false=true from h) cP,λh=>absurd (show false=true from h) cP,λh=>absurd (show false=true from h) cP⟩
def gB:EV.Sum Un:=⟨[.str, .str],[.int .i64],false,false,λ(a:ByteArray×ByteArray)=>gd (a.2.size=1) (some (Lib.indexByte a.1.data.toList (a.2.data.toList.getD 0 0)))⟩
def O0 (args:Array Value)(w:World):(callFunc 482 args).run Tryz.prog w= .ok (.enter 482 args) w:=by kernel_rfl
def aDi (a:ByteArray×ByteArray):(EV.bG Yn gB.ar a).map EV.pJ=[.str a.1, .str a.2]:=by kernel_rfl
def aDj (a:ByteArray×ByteArray):jC ((EV.bG Yn gB.rs (Lib.indexByte a.1.data.toList (a.2.data.toList.getD 0 0))).map EV.pJ)= .int .i64 (Lib.indexByte a.1.data.toList (a.2.data.toList.getD 0 0)):=by kernel_rfl
def aDk (a:ByteArray×ByteArray)(r:EV.fM Un gB.rs)(hr:gd (a.2.size=1) (some (Lib.indexByte a.1.data.toList (a.2.data.toList.getD 0 0)))=some r):Spec Tryz.prog G0 482 ((EV.bG Yn gB.ar a).map EV.pJ) (λv=>v=jC ((EV.bG Yn gB.rs r).map EV.pJ)):=by
 unfold gd at hr;split at hr
 ·rename_i hp;have e:=ak hr;subst e;rw[aDi,aDj];exact bPg O0 (λs c w=>Tryz.stringslite_Index_one s c w) a.1 a.2 hp
 ·cases hr
def Bb:EV.Rb Tryz.prog G0 Yn 482 gB:=λ(a:ByteArray×ByteArray) r hr=>⟨λ_ _=>aDk a r hr,λ_ h=>absurd (show false=true from h) cP,λh=>absurd (show false=true from h) cP,λh=>absurd (show false=true from h) cP⟩
def aVk:EV.Sum Un:=⟨[.str],[.int .i64, .bool],false,false,λ(a:ByteArray)=>none⟩
def aVl:OK 496 aVk:=λ_ _ h=>nomatch h
def aQt:EV.Sum Un:=⟨[.int .i64],[.str],false,false,λ(a:Int)=>none⟩
def aQu:OK 440 aQt:=λ_ _ h=>nomatch h
def aVm:EV.Sum Un:=⟨[.str],[.int .i64, .bool],false,false,λ(a:ByteArray)=>none⟩
def aVn:OK 487 aVm:=λ_ _ h=>nomatch h
def aQv:EV.Sum Un:=⟨[.int .i64],[.str],false,false,λ(a:Int)=>none⟩
def aQw:OK 461 aQv:=λ_ _ h=>nomatch h
end
end Go.VK
