import Derived.Test.YtbaeclcknbiehaaGreatDoorXyFF
import Derived.Test.YtbaeclcknbiehaaGreatDoorEVztod
import Derived.Test.YtbaeclcknbiehaaGreatDoorProg
import Derived.Test.YtbaeclcknbiehaaGreatDoorTrybShelf
/- Printed by wip/tools: models, walks, proofs. -/
set_option linter.all false
set_option maxRecDepth 100000
set_option maxHeartbeats 4000000
namespace Go.VK
open Go.RowKit Go.Proofs D
noncomputable section
abbrev G0:GI:=cCs 0
def El:Nat->Type
 |5=>Int
 |73=>AJ
 |170=>AG
 |231=>AH
 |76=>AF
 |78=>AD
 |4=>Bool
 |234=>AQ
 |29=>AP
 |117=>AK
 |32=>AR
 |229=>AZ
 |150=>AI
 |190=>A0
 |83=>AN
 |3=>Int
 |85=>AB
 |35=>A4
 |128=>AX
 |130=>A3
 |133=>AC
 |164=>AU
 |39=>AV
 |41=>AA
 |43=>AS
 |9=>ByteArray
 |97=>AM
 |111=>AO
 |192=>AY
 |62=>List Int
 |_=>Empty
def cBi:(τ:Nat)->El τ->List V
 |5=>y8
 |73=>AJ.V
 |170=>AG.V
 |231=>AH.V
 |76=>AF.V
 |78=>AD.V
 |4=>bV
 |234=>AQ.V
 |29=>AP.V
 |117=>AK.V
 |32=>AR.V
 |229=>AZ.V
 |150=>AI.V
 |190=>A0.V
 |83=>AN.V
 |3=>iV
 |85=>AB.V
 |35=>A4.V
 |128=>AX.V
 |130=>A3.V
 |133=>AC.V
 |164=>AU.V
 |39=>AV.V
 |41=>AA.V
 |43=>AS.V
 |9=>sV
 |97=>AM.V
 |111=>AO.V
 |192=>AY.V
 |62=>(λl=>[V.slice 1 (l.map iV)])
 |_=>λ_=>[]
def Un:EV.Uni:=⟨El,λ|5=>1|73=>4|170=>6|231=>4|76=>1|78=>9|4=>1|234=>4|29=>2|117=>4|32=>4|229=>4|150=>3|190=>3|83=>3|3=>1|85=>6|35=>4|128=>2|130=>5|133=>7|164=>4|39=>1|41=>16|43=>5|9=>1|97=>3|111=>3|192=>7|62=>1|_=>0,cBi⟩
def bFf:(τ:Nat)->El τ->List (EV.Lf Un)
 |5=>λx=>[.int .u8 x]
 |73=>λx=>[.int .i64 x.Vendor, .int .i64 x.Serial, .int .i64 x.Seed, .int .i64 x.Counter]
 |170=>λx=>[.int .i64 x.Index, .int .i64 x.Kind, .int .i64 x.Device, .int .i64 x.By, .int .i64 x.Previous, .int .i64 x.Signature]
 |231=>λx=>[.int .i64 x.Site, .int .i64 x.Handle, .int .i64 x.Version, .bool x.Deleted]
 |76=>λx=>[.sl 231 x.Entries]
 |78=>λx=>[.int .i64 x.Store.Vendor, .int .i64 x.Store.Serial, .int .i64 x.Store.Seed, .int .i64 x.Store.Counter, .sl 170 x.Log, .int .i64 x.Key, .int .i64 x.Epoch, .int .i64 x.Version, .sl 231 x.aAE.Entries]
 |4=>λx=>[.bool x]
 |234=>λx=>[.int .i64 x.To, .int .i64 x.Ephemeral, .sl 5 x.Data, .int .i64 x.MAC]
 |29=>λx=>[.int .i64 x.Epoch, .sl 234 x.Boxes]
 |117=>λx=>[.int .i64 x.Epoch, .int .i64 x.Version, .sl 5 x.Data, .int .i64 x.MAC]
 |32=>λx=>[.sl 170 x.Log, .int .i64 x.Boxes.Epoch, .sl 234 x.Boxes.Boxes, .sl 117 x.History]
 |229=>λx=>[.int .i64 x.Handle, .int .i64 x.Public, .int .i64 x.Counter, .bool x.Cut]
 |150=>λx=>[.int .i64 x.Id, .int .i64 x.Minimum, .sl 229 x.Credentials]
 |190=>λx=>[.int .i64 x.Id, .int .i64 x.aAH, .int .i64 x.Until]
 |83=>λx=>[.int .i64 x.Seed, .int .i64 x.Next, .sl 190 x.Open]
 |3=>λx=>[.int .i64 x]
 |85=>λx=>[.str x.Name, .sl 150 x.Accounts, .int .i64 x.Book.Seed, .int .i64 x.Book.Next, .sl 190 x.Book.Open, .sl 3 x.Logins]
 |35=>λx=>[.int .i64 x.Salt, .int .i64 x.Threshold, .int .i64 x.Check, .int .i64 x.Masked]
 |128=>λx=>[.int .i64 x.Index, .int .i64 x.Value]
 |130=>λx=>[.int .i64 x.aAP.Index, .int .i64 x.aAP.Value, .int .i64 x.Epoch, .int .i64 x.Guesses, .int .i64 x.Limit]
 |133=>λx=>[.int .i64 x.State.aAP.Index, .int .i64 x.State.aAP.Value, .int .i64 x.State.Epoch, .int .i64 x.State.Guesses, .int .i64 x.State.Limit, .sl 130 x.Saved, .int .i64 x.Monotonic]
 |164=>λx=>[.int .i64 x.Kind, .int .i64 x.aAH, .int .i64 x.Time, .bool x.Seen]
 |39=>λx=>[.sl 164 x.Notices]
 |41=>λx=>[.int .i64 x.Now, .int .i64 x.Seed, .sl 78 x.Devices, .sl 4 x.Stolen, .sl 170 x.aAF.Log, .int .i64 x.aAF.Boxes.Epoch, .sl 234 x.aAF.Boxes.Boxes, .sl 117 x.aAF.History, .sl 85 x.Sites, .int .i64 x.aAO.Salt, .int .i64 x.aAO.Threshold, .int .i64 x.aAO.Check, .int .i64 x.aAO.Masked, .sl 133 x.Hosts, .int .i64 x.Pin, .sl 164 x.Mail.Notices]
 |43=>λx=>[.int .i64 x.Kind, .int .i64 x.Device, .int .i64 x.Other, .int .i64 x.Value, .bool x.Flag]
 |9=>λx=>[.str x]
 |97=>λx=>[.sl 5 x.b, .int .i64 x.i, .int .i64 x.h]
 |111=>λx=>[.bool x.Secure, .str x.Host, .int .i64 x.Port]
 |192=>λx=>[.str x.Site, .str x.aAJ, .int .i64 x.aAM, .int .i64 x.Handle, .bool x.Present, .int .i64 x.Counter, .int .i64 x.Signature]
 |62=>λx=>[.sl 3 x]
 |_=>λ_=>[]
def P9:Nat->List EV.Kd
 |5=>[.int .u8]
 |73=>[.int .i64, .int .i64, .int .i64, .int .i64]
 |170=>[.int .i64, .int .i64, .int .i64, .int .i64, .int .i64, .int .i64]
 |231=>[.int .i64, .int .i64, .int .i64, .bool]
 |76=>[.sl 231]
 |78=>[.int .i64, .int .i64, .int .i64, .int .i64, .sl 170, .int .i64, .int .i64, .int .i64, .sl 231]
 |4=>[.bool]
 |234=>[.int .i64, .int .i64, .sl 5, .int .i64]
 |29=>[.int .i64, .sl 234]
 |117=>[.int .i64, .int .i64, .sl 5, .int .i64]
 |32=>[.sl 170, .int .i64, .sl 234, .sl 117]
 |229=>[.int .i64, .int .i64, .int .i64, .bool]
 |150=>[.int .i64, .int .i64, .sl 229]
 |190=>[.int .i64, .int .i64, .int .i64]
 |83=>[.int .i64, .int .i64, .sl 190]
 |3=>[.int .i64]
 |85=>[.str, .sl 150, .int .i64, .int .i64, .sl 190, .sl 3]
 |35=>[.int .i64, .int .i64, .int .i64, .int .i64]
 |128=>[.int .i64, .int .i64]
 |130=>[.int .i64, .int .i64, .int .i64, .int .i64, .int .i64]
 |133=>[.int .i64, .int .i64, .int .i64, .int .i64, .int .i64, .sl 130, .int .i64]
 |164=>[.int .i64, .int .i64, .int .i64, .bool]
 |39=>[.sl 164]
 |41=>[.int .i64, .int .i64, .sl 78, .sl 4, .sl 170, .int .i64, .sl 234, .sl 117, .sl 85, .int .i64, .int .i64, .int .i64, .int .i64, .sl 133, .int .i64, .sl 164]
 |43=>[.int .i64, .int .i64, .int .i64, .int .i64, .bool]
 |9=>[.str]
 |97=>[.sl 5, .int .i64, .int .i64]
 |111=>[.bool, .str, .int .i64]
 |192=>[.str, .str, .int .i64, .int .i64, .bool, .int .i64, .int .i64]
 |62=>[.sl 3]
 |_=>[]
def cC1:(τ:Nat)->List (EV.Lf Un)->Option (El τ)
 |5=>EV.nQ (P9 5) (λx=>x)
 |73=>EV.nQ (P9 73) AJ.mk
 |170=>EV.nQ (P9 170) AG.mk
 |231=>EV.nQ (P9 231) AH.mk
 |76=>EV.nQ (P9 76) AF.mk
 |78=>EV.nQ (P9 78) (λa0 a b c d e f h i=>(⟨⟨a0,a,b,c⟩,d,e,f,h,⟨i⟩⟩:AD))
 |4=>EV.nQ (P9 4) (λx=>x)
 |234=>EV.nQ (P9 234) AQ.mk
 |29=>EV.nQ (P9 29) AP.mk
 |117=>EV.nQ (P9 117) AK.mk
 |32=>EV.nQ (P9 32) (λa0 a b c=>(⟨a0,⟨a,b⟩,c⟩:AR))
 |229=>EV.nQ (P9 229) AZ.mk
 |150=>EV.nQ (P9 150) AI.mk
 |190=>EV.nQ (P9 190) A0.mk
 |83=>EV.nQ (P9 83) AN.mk
 |3=>EV.nQ (P9 3) (λx=>x)
 |85=>EV.nQ (P9 85) (λa0 a b c d e=>(⟨a0,a,⟨b,c,d⟩,e⟩:AB))
 |35=>EV.nQ (P9 35) A4.mk
 |128=>EV.nQ (P9 128) AX.mk
 |130=>EV.nQ (P9 130) (λa0 a b c d=>(⟨⟨a0,a⟩,b,c,d⟩:A3))
 |133=>EV.nQ (P9 133) (λa0 a b c d e f=>(⟨⟨⟨a0,a⟩,b,c,d⟩,e,f⟩:AC))
 |164=>EV.nQ (P9 164) AU.mk
 |39=>EV.nQ (P9 39) AV.mk
 |41=>EV.nQ (P9 41) (λa0 a b c d e f h i p j k l m n o=>(⟨a0,a,b,c,⟨d,⟨e,f⟩,h⟩,i,⟨p,j,k,l⟩,m,n,⟨o⟩⟩:AA))
 |43=>EV.nQ (P9 43) AS.mk
 |9=>EV.nQ (P9 9) (λx=>x)
 |97=>EV.nQ (P9 97) AM.mk
 |111=>EV.nQ (P9 111) AO.mk
 |192=>EV.nQ (P9 192) AY.mk
 |62=>EV.nQ (P9 62) (λx=>x)
 |_=>λ_=>none
def TI:List (Nat×EV.TInfo):=[
 (3,⟨.int .i64,1,[.int .i64]⟩),
 (4,⟨.bool,1,[.bool]⟩),
 (5,⟨.int .u8,1,[.int .u8]⟩),
 (9,⟨.str,1,[.str]⟩),
 (22,⟨.sl 5 1 1,1,[.nil]⟩),
 (24,⟨.sl 78 9 104,1,[.nil]⟩),
 (25,⟨.sl 4 1 1,1,[.nil]⟩),
 (26,⟨.sl 170 6 48,1,[.nil]⟩),
 (27,⟨.sl 234 4 48,1,[.nil]⟩),
 (29,⟨.st [(0,3,1),(1,27,1)],2,[.int .i64, .nil]⟩),
 (30,⟨.sl 117 4 48,1,[.nil]⟩),
 (32,⟨.st [(0,26,1),(1,29,2),(3,30,1)],4,[.nil, .int .i64, .nil, .nil]⟩),
 (33,⟨.sl 85 6 104,1,[.nil]⟩),
 (35,⟨.st [(0,3,1),(1,3,1),(2,3,1),(3,3,1)],4,[.int .i64, .int .i64, .int .i64, .int .i64]⟩),
 (36,⟨.sl 133 7 72,1,[.nil]⟩),
 (37,⟨.sl 164 4 32,1,[.nil]⟩),
 (39,⟨.st [(0,37,1)],1,[.nil]⟩),
 (41,⟨.st [(0,3,1),(1,3,1),(2,24,1),(3,25,1),(4,32,4),(8,33,1),(9,35,4),(13,36,1),(14,3,1),(15,39,1)],16,[.int .i64, .int .i64, .nil, .nil, .nil, .int .i64, .nil, .nil, .nil, .int .i64, .int .i64, .int .i64, .int .i64, .nil, .int .i64, .nil]⟩),
 (43,⟨.st [(0,3,1),(1,3,1),(2,3,1),(3,3,1),(4,4,1)],5,[.int .i64, .int .i64, .int .i64, .int .i64, .bool]⟩),
 (50,⟨.sl 43 5 40,1,[.nil]⟩),
 (62,⟨.sl 3 1 8,1,[.nil]⟩),
 (73,⟨.st [(0,3,1),(1,3,1),(2,3,1),(3,3,1)],4,[.int .i64, .int .i64, .int .i64, .int .i64]⟩),
 (74,⟨.sl 231 4 32,1,[.nil]⟩),
 (76,⟨.st [(0,74,1)],1,[.nil]⟩),
 (78,⟨.st [(0,73,4),(4,26,1),(5,3,1),(6,3,1),(7,3,1),(8,76,1)],9,[.int .i64, .int .i64, .int .i64, .int .i64, .nil, .int .i64, .int .i64, .int .i64, .nil]⟩),
 (80,⟨.sl 150 3 40,1,[.nil]⟩),
 (81,⟨.sl 190 3 24,1,[.nil]⟩),
 (83,⟨.st [(0,3,1),(1,3,1),(2,81,1)],3,[.int .i64, .int .i64, .nil]⟩),
 (85,⟨.st [(0,9,1),(1,80,1),(2,83,3),(5,62,1)],6,[.str, .nil, .int .i64, .int .i64, .nil, .nil]⟩),
 (95,⟨.sl 9 1 16,1,[.nil]⟩),
 (97,⟨.st [(0,22,1),(1,3,1),(2,3,1)],3,[.nil, .int .i64, .int .i64]⟩),
 (111,⟨.st [(0,4,1),(1,9,1),(2,3,1)],3,[.bool, .str, .int .i64]⟩),
 (117,⟨.st [(0,3,1),(1,3,1),(2,22,1),(3,3,1)],4,[.int .i64, .int .i64, .nil, .int .i64]⟩),
 (128,⟨.st [(0,3,1),(1,3,1)],2,[.int .i64, .int .i64]⟩),
 (130,⟨.st [(0,128,2),(2,3,1),(3,3,1),(4,3,1)],5,[.int .i64, .int .i64, .int .i64, .int .i64, .int .i64]⟩),
 (131,⟨.sl 130 5 40,1,[.nil]⟩),
 (133,⟨.st [(0,130,5),(5,131,1),(6,3,1)],7,[.int .i64, .int .i64, .int .i64, .int .i64, .int .i64, .nil, .int .i64]⟩),
 (148,⟨.sl 229 4 32,1,[.nil]⟩),
 (150,⟨.st [(0,3,1),(1,3,1),(2,148,1)],3,[.int .i64, .int .i64, .nil]⟩),
 (164,⟨.st [(0,3,1),(1,3,1),(2,3,1),(3,4,1)],4,[.int .i64, .int .i64, .int .i64, .bool]⟩),
 (170,⟨.st [(0,3,1),(1,3,1),(2,3,1),(3,3,1),(4,3,1),(5,3,1)],6,[.int .i64, .int .i64, .int .i64, .int .i64, .int .i64, .int .i64]⟩),
 (190,⟨.st [(0,3,1),(1,3,1),(2,3,1)],3,[.int .i64, .int .i64, .int .i64]⟩),
 (192,⟨.st [(0,9,1),(1,9,1),(2,3,1),(3,3,1),(4,4,1),(5,3,1),(6,3,1)],7,[.str, .str, .int .i64, .int .i64, .bool, .int .i64, .int .i64]⟩),
 (216,⟨.sl 128 2 16,1,[.nil]⟩),
 (229,⟨.st [(0,3,1),(1,3,1),(2,3,1),(3,4,1)],4,[.int .i64, .int .i64, .int .i64, .bool]⟩),
 (231,⟨.st [(0,3,1),(1,3,1),(2,3,1),(3,4,1)],4,[.int .i64, .int .i64, .int .i64, .bool]⟩),
 (234,⟨.st [(0,3,1),(1,3,1),(2,22,1),(3,3,1)],4,[.int .i64, .int .i64, .nil, .int .i64]⟩),
 (249,⟨.sl 62 1 24,1,[.nil]⟩),
 (305,⟨.st [],8,[.bool, .bool, .bool, .bool, .bool, .bool, .bool, .bool]⟩)]
def lay (τ:Nat):(∀x:El τ,((bFf τ x).map EV.Lf.toV=cBi τ x/\(bFf τ x).length=Un.K τ)/\(bFf τ x).map EV.kdL=(P9 τ).map some)/\∀(cs:List (EV.Lf Un)) (x:El τ),cC1 τ cs=some x->cs=bFf τ x:=by
 by_cases h:τ∈[5,73,170,231,76,78,4,234,29,117,32,229,150,190,83,3,85,35,128,130,133,164,39,41,43,9,97,111,192,62]
 ·simp only[bg,eW,or_false] at h;rcases h with rfl|rfl|rfl|rfl|rfl|rfl|rfl|rfl|rfl|rfl|rfl|rfl|rfl|rfl|rfl|rfl|rfl|rfl|rfl|rfl|rfl|rfl|rfl|rfl|rfl|rfl|rfl|rfl|rfl|rfl<;>exact⟨λ_=>⟨⟨rfl,rfl⟩,rfl⟩,λ_ _ h=>by obtain⟨t,rfl,rfl⟩:=EV.bMz h;rfl⟩
 ·have e:El τ=Empty:=by unfold El;split<;>first|(exfalso;revert h;decide)|rfl
  exact⟨λx=>(cast e x).elim,λ_ x=>(cast e x).elim⟩
def hc1 (τ:Nat)(x:El τ):(bFf τ x).map EV.Lf.toV=cBi τ x:=((lay τ).1 x).1.1
def hc2 (τ:Nat)(x:El τ):(bFf τ x).length=Un.K τ:=((lay τ).1 x).1.2
def hc3 (τ:Nat)(x:El τ)(c:EV.Lf Un)(hc:c∈bFf τ x):c.aBA=true:=EV.bSk ((lay τ).1 x).2 c hc
def Yn:EV.Lay Un:=⟨⟨bFf,cC1,hc1,hc2,hc3,λτ=>(lay τ).2⟩,P9,5,λn=>n,λn=>n,λ_=>rfl,λ_=>rfl⟩
def ly1 (τ:Nat)(x:El τ):(bFf τ x).map EV.kdL=(P9 τ).map some:=((lay τ).1 x).2
def ly2:∀(τ τ':Nat),EV.Kd.sl τ'∈P9 τ->0<Un.K τ':=by intro τ τ' h;unfold P9 at h;split at h<;>simp only[bg,eW,or_false,reduceCtorEq,false_or,or_self,EV.Kd.sl.injEq] at h<;>first|exact h.elim|(subst h;exact ba rfl)|(rcases h with h|h|h|h|h|h|h|h<;>(subst h;exact ba rfl))|(rcases h with h|h|h|h|h|h|h<;>(subst h;exact ba rfl))|(rcases h with h|h|h|h|h|h<;>(subst h;exact ba rfl))|(rcases h with h|h|h|h|h<;>(subst h;exact ba rfl))|(rcases h with h|h|h|h<;>(subst h;exact ba rfl))|(rcases h with h|h|h<;>(subst h;exact ba rfl))|(rcases h with h|h<;>(subst h;exact ba rfl))
def cC2:EV.LayOk Yn:=⟨ly1,ly2⟩
def jJ (f:Func):Code:=match f.body with|some c=>c|none=> .skip
def T.mix:Tryz.prog.follows .mixedOrders=true:=by kernel_rfl
def aC:EV.Good Tryz.prog G0 Yn TI []:=⟨by kernel_rfl,cC2,λf S h=>by simp at h⟩
abbrev SU:=EV.Sum Un
def OK (f:Nat)(S:SU):Prop:=EV.Cq Tryz.prog G0 Yn f S
def cC3:SU:=⟨[],[],false,false,λ_=>none⟩
def bDe (f:Nat):OK f cC3:=λ_ _ hr=>nomatch hr
def SIl:SU:=⟨[],[],false,true,λ_=>none⟩
def sIl (f:Nat):OK f SIl:=λ_ _ hr=>nomatch hr
def IL:EV.Il:=[(15,jJ Tryz.f15,32,[.tmp 2]),(294,jJ Tryz.f294,52,[.tmp 4]),(131,jJ Tryz.f131,21,[.cell 2 41]),(109,jJ Tryz.f109,48,[.tmp 4]),(99,jJ Tryz.f99,111,[.tmp 10]),(105,jJ Tryz.f105,23,[]),(132,jJ Tryz.f132,92,[.cell 4 41]),(60,jJ Tryz.f60,20,[.cell 4 41]),(128,jJ Tryz.f128,56,[.cell 2 39]),(130,jJ Tryz.f130,66,[.cell 2 32]),(59,jJ Tryz.f59,49,[.cell 4 41]),(16,jJ Tryz.f16,7,[.cell 2 41]),(160,jJ Tryz.f160,16,[.cell 4 41]),(240,jJ Tryz.f240,37,[.cell 8 41, .tmp 9]),(155,jJ Tryz.f155,39,[.cell 6 41, .tmp 7]),(158,jJ Tryz.f158,32,[.cell 8 41]),(81,jJ Tryz.f81,42,[.cell 4 41, .tmp 5]),(77,jJ Tryz.f77,126,[.cell 4 41, .tmp 5]),(79,jJ Tryz.f79,135,[.cell 6 41, .tmp 7]),(392,jJ Tryz.f392,53,[.cell 4 133, .tmp 5, .tmp 6]),(228,jJ Tryz.f228,225,[.cell 10 41])]
def bYi:EV.wL Tryz.prog IL:=EV.lW Tryz.func15 rfl Tryz.ntmps15 rfl (λ_ _=>by kernel_rfl)<|EV.lW Tryz.func294 rfl Tryz.ntmps294 rfl (λ_ _=>by kernel_rfl)<|EV.lW Tryz.func131 rfl Tryz.ntmps131 rfl (λ_ _=>by kernel_rfl)<|EV.lW Tryz.func109 rfl Tryz.ntmps109 rfl (λ_ _=>by kernel_rfl)<|EV.lW Tryz.func99 rfl Tryz.ntmps99 rfl (λ_ _=>by kernel_rfl)<|EV.lW Tryz.func105 rfl Tryz.ntmps105 rfl (λ_ _=>by kernel_rfl)<|EV.lW Tryz.func132 rfl Tryz.ntmps132 rfl (λ_ _=>by kernel_rfl)<|EV.lW Tryz.func60 rfl Tryz.ntmps60 rfl (λ_ _=>by kernel_rfl)<|EV.lW Tryz.func128 rfl Tryz.ntmps128 rfl (λ_ _=>by kernel_rfl)<|EV.lW Tryz.func130 rfl Tryz.ntmps130 rfl (λ_ _=>by kernel_rfl)<|EV.lW Tryz.func59 rfl Tryz.ntmps59 rfl (λ_ _=>by kernel_rfl)<|EV.lW Tryz.func16 rfl Tryz.ntmps16 rfl (λ_ _=>by kernel_rfl)<|EV.lW Tryz.func160 rfl Tryz.ntmps160 rfl (λ_ _=>by kernel_rfl)<|EV.lW Tryz.func240 rfl Tryz.ntmps240 rfl (λ_ _=>by kernel_rfl)<|EV.lW Tryz.func155 rfl Tryz.ntmps155 rfl (λ_ _=>by kernel_rfl)<|EV.lW Tryz.func158 rfl Tryz.ntmps158 rfl (λ_ _=>by kernel_rfl)<|EV.lW Tryz.func81 rfl Tryz.ntmps81 rfl (λ_ _=>by kernel_rfl)<|EV.lW Tryz.func77 rfl Tryz.ntmps77 rfl (λ_ _=>by kernel_rfl)<|EV.lW Tryz.func79 rfl Tryz.ntmps79 rfl (λ_ _=>by kernel_rfl)<|EV.lW Tryz.func392 rfl Tryz.ntmps392 rfl (λ_ _=>by kernel_rfl)<|EV.lW Tryz.func228 rfl Tryz.ntmps228 rfl (λ_ _=>by kernel_rfl)<|EV.cAz
def od (n:Nat)(l:List Nat):List (Nat×Bool):=(List.range n).map λi=>(i, !l.contains i)
def gc {f:Nat}{S:SU}{FZ:List (Nat×SU)}(h:OK f S)(G:EV.Good Tryz.prog G0 Yn TI FZ):EV.Good Tryz.prog G0 Yn TI ((f,S)::FZ):=EV.bCh h G
def gcp {f:Nat}{S:SU}{FZ:List (Nat×SU)}(h:OK f S)(G:EV.Good Tryz.prog G0 Yn TI FZ)(a:S.wt=false:=by rfl)(b:S.fr=true:=by rfl):EV.Good Tryz.prog G0 Yn TI ((f,S.pl)::FZ):=EV.bCh (EV.bSs h a b) G
def mkS {f:FuncId}{fn:Func}{n:Nat}{S:SU}{FZ:List (Nat×SU)}{m:EV.sW Un S.ar->Option (EV.sW Un S.rs)}(an:EV.An)(l:List ResultVar)(G:EV.Good Tryz.prog G0 Yn TI FZ)(hf:Tryz.prog.funcs[f]? =some fn)(hn:fn.ntmps=n)(ht:∀a r,S.m a=some r->m a=some r)(h:∀a,(fn.name== "runtime.NumGoroutine",EV.yZ Yn TI FZ IL an (jJ fn) n S.ar S.rs S.fr l a)=(false,m a):=by intro _;kernel_rfl)(hb:fn.body=some (jJ fn):=by rfl)(hl:fn.results=l.toArray:=by rfl)(hlen:S.ar.length<=n:=by decide)(hw:S.wt=false:=by rfl):OK f S:=
 λa r hr=>EV.cA2 (an:=λ_=>an) G T.mix bYi hf hb hn hl (EV.bG7 hf hb (congrArg Prod.fst (h a))) hlen hw (λa r hr=>(congrArg Prod.snd (h a)).trans (ht a r hr)) a r hr
def mkP {f:FuncId}{fn:Func}{n T:Nat}{ks rs:List EV.Kd}{M m:EV.sW Un (.st T::ks)->Option (EV.sW Un (.st T::rs))}{FZ:List (Nat×SU)}(an:EV.An)(l:List ResultVar)(G:EV.Good Tryz.prog G0 Yn TI FZ)(hf:Tryz.prog.funcs[f]? =some fn)(hn:fn.ntmps=n)(ht:∀a r,M a=some r->m a=some r)(h:∀a,(fn.name== "runtime.NumGoroutine",EV.evP Yn TI FZ IL an (jJ fn) n T ks rs l a)=(false,m a))(hb:fn.body=some (jJ fn):=by rfl)(hl:fn.results=l.toArray:=by rfl)(hlen:ks.length+1<=n:=by decide):OK f ⟨.st T::ks, .st T::rs,true,true,M⟩:=
 λa r hr=>EV.cA5 (an:=λ_=>an) G Go.VK.T.mix bYi hf hb hn hl (EV.bG7 hf hb (congrArg Prod.fst (h a))) hlen (λa r hr=>(congrArg Prod.snd (h a)).trans (ht a r hr)) a r hr
def kU:EV.Sum Un:=⟨[.str, .str],[.sl 9],false,false,λ(a:ByteArray×ByteArray)=>gd (a.1.size<4294967281/\1<=a.2.size) (some (mR a.1 a.2))⟩
def aO0 (args:Array Value)(w:World):(callFunc 296 args).run Tryz.prog w= .ok (.enter 296 args) w:=by kernel_rfl
def aSu (a:ByteArray×ByteArray):(EV.bK Yn kU.ar a).map EV.qF=[.str a.1, .str a.2]:=by kernel_rfl
def aSv (a:ByteArray×ByteArray):iZ ((EV.bK Yn kU.rs (mR a.1 a.2)).map EV.qF)= .slice 1 ((mR a.1 a.2).map sV):=by kernel_rfl
def aSw (a:ByteArray×ByteArray)(r:EV.sW Un kU.rs)(hr:gd (a.1.size<4294967281/\1<=a.2.size) (some (mR a.1 a.2))=some r):Spec Tryz.prog G0 296 ((EV.bK Yn kU.ar a).map EV.qF) (λv=>v=iZ ((EV.bK Yn kU.rs r).map EV.qF)):=by
 unfold gd at hr;split at hr
 ·rename_i hp;have e:=ao hr;subst e;rw[aSu,aSv];exact bKs aO0 (λs sep m w a b c=>Tryz.strings_Split s sep m w a b c) a.1 a.2 hp.1 hp.2
 ·cases hr
def Ze:EV.Cq Tryz.prog G0 Yn 296 kU:=λ(a:ByteArray×ByteArray) r hr=>⟨λ_ _=>aSw a r hr,λ_ h=>absurd (show false=true from h) cW,λh=>absurd (show false=true from h) cW,λh=>absurd (show false=true from h) cW⟩
def nA:EV.Sum Un:=⟨[.sl 9, .str],[.str],false,false,λ(a:(List ByteArray)×ByteArray)=>gd (0<a.1.length/\(tX a.2 a.1).size<=140737488355328/\a.1.length<=140737488355328) (some (tX a.2 a.1))⟩
def aSx (args:Array Value)(w:World):(callFunc 297 args).run Tryz.prog w= .ok (.enter 297 args) w:=by kernel_rfl
def aW9 (a:(List ByteArray)×ByteArray):(EV.bK Yn nA.ar a).map EV.qF=[.slice 1 (a.1.map sV), .str a.2]:=by kernel_rfl
def aXa (a:(List ByteArray)×ByteArray):iZ ((EV.bK Yn nA.rs (tX a.2 a.1)).map EV.qF)= .str (tX a.2 a.1):=by kernel_rfl
def aXb (a:(List ByteArray)×ByteArray)(r:EV.sW Un nA.rs)(hr:gd (0<a.1.length/\(tX a.2 a.1).size<=140737488355328/\a.1.length<=140737488355328) (some (tX a.2 a.1))=some r):Spec Tryz.prog G0 297 ((EV.bK Yn nA.ar a).map EV.qF) (λv=>v=iZ ((EV.bK Yn nA.rs r).map EV.qF)):=by
 unfold gd at hr;split at hr
 ·rename_i hp;have e:=ao hr;subst e;rw[aW9,aXa];exact bO6 aSx Tryz.strings_Join a.1 a.2 (by intro h;have:=hp.1;rw[h] at this;simp at this) hp.2.1 hp.2.2
 ·cases hr
def aXc:EV.Cq Tryz.prog G0 Yn 297 nA:=λ(a:(List ByteArray)×ByteArray) r hr=>⟨λ_ _=>aXb a r hr,λ_ h=>absurd (show false=true from h) cW,λh=>absurd (show false=true from h) cW,λh=>absurd (show false=true from h) cW⟩
def iC:EV.Sum Un:=⟨[.str, .str],[.int .i64],false,false,λ(a:ByteArray×ByteArray)=>gd (a.2.size=1) (some (Lib.indexByte a.1.data.toList (a.2.data.toList.getD 0 0)))⟩
def Q0 (args:Array Value)(w:World):(callFunc 420 args).run Tryz.prog w= .ok (.enter 420 args) w:=by kernel_rfl
def aCy (a:ByteArray×ByteArray):(EV.bK Yn iC.ar a).map EV.qF=[.str a.1, .str a.2]:=by kernel_rfl
def aCz (a:ByteArray×ByteArray):iZ ((EV.bK Yn iC.rs (Lib.indexByte a.1.data.toList (a.2.data.toList.getD 0 0))).map EV.qF)= .int .i64 (Lib.indexByte a.1.data.toList (a.2.data.toList.getD 0 0)):=by kernel_rfl
def aC0 (a:ByteArray×ByteArray)(r:EV.sW Un iC.rs)(hr:gd (a.2.size=1) (some (Lib.indexByte a.1.data.toList (a.2.data.toList.getD 0 0)))=some r):Spec Tryz.prog G0 420 ((EV.bK Yn iC.ar a).map EV.qF) (λv=>v=iZ ((EV.bK Yn iC.rs r).map EV.qF)):=by
 unfold gd at hr;split at hr
 ·rename_i hp;have e:=ao hr;subst e;rw[aCy,aCz];exact bKr Q0 (λs c w=>Tryz.stringslite_Index_one s c w) a.1 a.2 hp
 ·cases hr
def Ct:EV.Cq Tryz.prog G0 Yn 420 iC:=λ(a:ByteArray×ByteArray) r hr=>⟨λ_ _=>aC0 a r hr,λ_ h=>absurd (show false=true from h) cW,λh=>absurd (show false=true from h) cW,λh=>absurd (show false=true from h) cW⟩
def aSy:EV.Sum Un:=⟨[.str],[.int .i64, .bool],false,false,λ(a:ByteArray)=>none⟩
def aSz:OK 435 aSy:=λ_ _ h=>nomatch h
def aO1:EV.Sum Un:=⟨[.int .i64],[.str],false,false,λ(a:Int)=>none⟩
def aO2:OK 359 aO1:=λ_ _ h=>nomatch h
def aS0:EV.Sum Un:=⟨[.str],[.int .i64, .bool],false,false,λ(a:ByteArray)=>none⟩
def aS1:OK 436 aS0:=λ_ _ h=>nomatch h
def aO3:EV.Sum Un:=⟨[.int .i64],[.str],false,false,λ(a:Int)=>none⟩
def aO4:OK 411 aO3:=λ_ _ h=>nomatch h
end
end Go.VK
