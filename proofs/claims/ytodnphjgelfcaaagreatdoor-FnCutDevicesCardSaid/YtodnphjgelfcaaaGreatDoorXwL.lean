import Derived.Test.YtodnphjgelfcaaaGreatDoorXwFF
import Derived.Test.YtodnphjgelfcaaaGreatDoorEVyltod
import Derived.Test.YtodnphjgelfcaaaGreatDoorProg
import Derived.Test.YtodnphjgelfcaaaGreatDoorTrywShelf
/- Printed by wip/tools: models, walks, proofs. -/
set_option linter.all false
set_option maxRecDepth 100000
set_option maxHeartbeats 4000000
namespace Go.VK
open Go.RowKit Go.Proofs D
noncomputable section
abbrev G0:GI:=bXf 0
def El:Nat->Type
 |5=>Int
 |57=>AJ
 |181=>AD
 |205=>AG
 |60=>AC
 |62=>AB
 |4=>Bool
 |210=>AO
 |29=>AK
 |93=>AI
 |32=>AM
 |137=>AV
 |81=>AH
 |207=>AZ
 |75=>AR
 |3=>Int
 |78=>AF
 |35=>AY
 |153=>A0
 |155=>A3
 |158=>AN
 |160=>AU
 |39=>AP
 |41=>AA
 |53=>AS
 |99=>AX
 |110=>AQ
 |9=>ByteArray
 |76=>List Int
 |_=>Empty
def bWe:(τ:Nat)->El τ->List V
 |5=>y8
 |57=>AJ.V
 |181=>AD.V
 |205=>AG.V
 |60=>AC.V
 |62=>AB.V
 |4=>bV
 |210=>AO.V
 |29=>AK.V
 |93=>AI.V
 |32=>AM.V
 |137=>AV.V
 |81=>AH.V
 |207=>AZ.V
 |75=>AR.V
 |3=>iV
 |78=>AF.V
 |35=>AY.V
 |153=>A0.V
 |155=>A3.V
 |158=>AN.V
 |160=>AU.V
 |39=>AP.V
 |41=>AA.V
 |53=>AS.V
 |99=>AX.V
 |110=>AQ.V
 |9=>sV
 |76=>(λl=>[V.slice 1 (l.map iV)])
 |_=>λ_=>[]
def Un:EV.Uni:=⟨El,λ|5=>1|57=>4|181=>6|205=>4|60=>1|62=>9|4=>1|210=>4|29=>2|93=>4|32=>4|137=>4|81=>3|207=>3|75=>3|3=>1|78=>6|35=>4|153=>2|155=>5|158=>7|160=>4|39=>1|41=>16|53=>3|99=>7|110=>3|9=>1|76=>1|_=>0,bWe⟩
def aZg:(τ:Nat)->El τ->List (EV.Lf Un)
 |5=>λx=>[.int .u8 x]
 |57=>λx=>[.int .i64 x.Vendor, .int .i64 x.Serial, .int .i64 x.Seed, .int .i64 x.Counter]
 |181=>λx=>[.int .i64 x.Index, .int .i64 x.Kind, .int .i64 x.Device, .int .i64 x.By, .int .i64 x.Previous, .int .i64 x.Signature]
 |205=>λx=>[.int .i64 x.Site, .int .i64 x.Handle, .int .i64 x.Version, .bool x.Deleted]
 |60=>λx=>[.sl 205 x.Entries]
 |62=>λx=>[.int .i64 x.Store.Vendor, .int .i64 x.Store.Serial, .int .i64 x.Store.Seed, .int .i64 x.Store.Counter, .sl 181 x.Log, .int .i64 x.Key, .int .i64 x.Epoch, .int .i64 x.Version, .sl 205 x.aAD.Entries]
 |4=>λx=>[.bool x]
 |210=>λx=>[.int .i64 x.To, .int .i64 x.Ephemeral, .sl 5 x.Data, .int .i64 x.MAC]
 |29=>λx=>[.int .i64 x.Epoch, .sl 210 x.Boxes]
 |93=>λx=>[.int .i64 x.Epoch, .int .i64 x.Version, .sl 5 x.Data, .int .i64 x.MAC]
 |32=>λx=>[.sl 181 x.Log, .int .i64 x.Boxes.Epoch, .sl 210 x.Boxes.Boxes, .sl 93 x.History]
 |137=>λx=>[.int .i64 x.Handle, .int .i64 x.Public, .int .i64 x.Counter, .bool x.Cut]
 |81=>λx=>[.int .i64 x.Id, .int .i64 x.Minimum, .sl 137 x.Credentials]
 |207=>λx=>[.int .i64 x.Id, .int .i64 x.aAH, .int .i64 x.Until]
 |75=>λx=>[.int .i64 x.Seed, .int .i64 x.Next, .sl 207 x.Open]
 |3=>λx=>[.int .i64 x]
 |78=>λx=>[.str x.Name, .sl 81 x.Accounts, .int .i64 x.Book.Seed, .int .i64 x.Book.Next, .sl 207 x.Book.Open, .sl 3 x.Logins]
 |35=>λx=>[.int .i64 x.Salt, .int .i64 x.Threshold, .int .i64 x.Check, .int .i64 x.Masked]
 |153=>λx=>[.int .i64 x.Index, .int .i64 x.Value]
 |155=>λx=>[.int .i64 x.aAS.Index, .int .i64 x.aAS.Value, .int .i64 x.Epoch, .int .i64 x.Guesses, .int .i64 x.Limit]
 |158=>λx=>[.int .i64 x.State.aAS.Index, .int .i64 x.State.aAS.Value, .int .i64 x.State.Epoch, .int .i64 x.State.Guesses, .int .i64 x.State.Limit, .sl 155 x.Saved, .int .i64 x.Monotonic]
 |160=>λx=>[.int .i64 x.Kind, .int .i64 x.aAH, .int .i64 x.Time, .bool x.Seen]
 |39=>λx=>[.sl 160 x.Notices]
 |41=>λx=>[.int .i64 x.Now, .int .i64 x.Seed, .sl 62 x.Devices, .sl 4 x.Stolen, .sl 181 x.aAA.Log, .int .i64 x.aAA.Boxes.Epoch, .sl 210 x.aAA.Boxes.Boxes, .sl 93 x.aAA.History, .sl 78 x.Sites, .int .i64 x.aAP.Salt, .int .i64 x.aAP.Threshold, .int .i64 x.aAP.Check, .int .i64 x.aAP.Masked, .sl 158 x.Hosts, .int .i64 x.Pin, .sl 160 x.Mail.Notices]
 |53=>λx=>[.bool x.Secure, .str x.Host, .int .i64 x.Port]
 |99=>λx=>[.str x.Site, .str x.aAL, .int .i64 x.aAN, .int .i64 x.Handle, .bool x.Present, .int .i64 x.Counter, .int .i64 x.Signature]
 |110=>λx=>[.sl 5 x.b, .int .i64 x.i, .int .i64 x.h]
 |9=>λx=>[.str x]
 |76=>λx=>[.sl 3 x]
 |_=>λ_=>[]
def Yd:Nat->List EV.Kd
 |5=>[.int .u8]
 |57=>[.int .i64, .int .i64, .int .i64, .int .i64]
 |181=>[.int .i64, .int .i64, .int .i64, .int .i64, .int .i64, .int .i64]
 |205=>[.int .i64, .int .i64, .int .i64, .bool]
 |60=>[.sl 205]
 |62=>[.int .i64, .int .i64, .int .i64, .int .i64, .sl 181, .int .i64, .int .i64, .int .i64, .sl 205]
 |4=>[.bool]
 |210=>[.int .i64, .int .i64, .sl 5, .int .i64]
 |29=>[.int .i64, .sl 210]
 |93=>[.int .i64, .int .i64, .sl 5, .int .i64]
 |32=>[.sl 181, .int .i64, .sl 210, .sl 93]
 |137=>[.int .i64, .int .i64, .int .i64, .bool]
 |81=>[.int .i64, .int .i64, .sl 137]
 |207=>[.int .i64, .int .i64, .int .i64]
 |75=>[.int .i64, .int .i64, .sl 207]
 |3=>[.int .i64]
 |78=>[.str, .sl 81, .int .i64, .int .i64, .sl 207, .sl 3]
 |35=>[.int .i64, .int .i64, .int .i64, .int .i64]
 |153=>[.int .i64, .int .i64]
 |155=>[.int .i64, .int .i64, .int .i64, .int .i64, .int .i64]
 |158=>[.int .i64, .int .i64, .int .i64, .int .i64, .int .i64, .sl 155, .int .i64]
 |160=>[.int .i64, .int .i64, .int .i64, .bool]
 |39=>[.sl 160]
 |41=>[.int .i64, .int .i64, .sl 62, .sl 4, .sl 181, .int .i64, .sl 210, .sl 93, .sl 78, .int .i64, .int .i64, .int .i64, .int .i64, .sl 158, .int .i64, .sl 160]
 |53=>[.bool, .str, .int .i64]
 |99=>[.str, .str, .int .i64, .int .i64, .bool, .int .i64, .int .i64]
 |110=>[.sl 5, .int .i64, .int .i64]
 |9=>[.str]
 |76=>[.sl 3]
 |_=>[]
def bXu:(τ:Nat)->List (EV.Lf Un)->Option (El τ)
 |5=>EV.nE (Yd 5) (λx=>x)
 |57=>EV.nE (Yd 57) AJ.mk
 |181=>EV.nE (Yd 181) AD.mk
 |205=>EV.nE (Yd 205) AG.mk
 |60=>EV.nE (Yd 60) AC.mk
 |62=>EV.nE (Yd 62) (λa0 a b c d e f h i=>(⟨⟨a0,a,b,c⟩,d,e,f,h,⟨i⟩⟩:AB))
 |4=>EV.nE (Yd 4) (λx=>x)
 |210=>EV.nE (Yd 210) AO.mk
 |29=>EV.nE (Yd 29) AK.mk
 |93=>EV.nE (Yd 93) AI.mk
 |32=>EV.nE (Yd 32) (λa0 a b c=>(⟨a0,⟨a,b⟩,c⟩:AM))
 |137=>EV.nE (Yd 137) AV.mk
 |81=>EV.nE (Yd 81) AH.mk
 |207=>EV.nE (Yd 207) AZ.mk
 |75=>EV.nE (Yd 75) AR.mk
 |3=>EV.nE (Yd 3) (λx=>x)
 |78=>EV.nE (Yd 78) (λa0 a b c d e=>(⟨a0,a,⟨b,c,d⟩,e⟩:AF))
 |35=>EV.nE (Yd 35) AY.mk
 |153=>EV.nE (Yd 153) A0.mk
 |155=>EV.nE (Yd 155) (λa0 a b c d=>(⟨⟨a0,a⟩,b,c,d⟩:A3))
 |158=>EV.nE (Yd 158) (λa0 a b c d e f=>(⟨⟨⟨a0,a⟩,b,c,d⟩,e,f⟩:AN))
 |160=>EV.nE (Yd 160) AU.mk
 |39=>EV.nE (Yd 39) AP.mk
 |41=>EV.nE (Yd 41) (λa0 a b c d e f h i p j k l m n o=>(⟨a0,a,b,c,⟨d,⟨e,f⟩,h⟩,i,⟨p,j,k,l⟩,m,n,⟨o⟩⟩:AA))
 |53=>EV.nE (Yd 53) AS.mk
 |99=>EV.nE (Yd 99) AX.mk
 |110=>EV.nE (Yd 110) AQ.mk
 |9=>EV.nE (Yd 9) (λx=>x)
 |76=>EV.nE (Yd 76) (λx=>x)
 |_=>λ_=>none
def TI:List (Nat×EV.TInfo):=[
 (3,⟨.int .i64,1,[.int .i64]⟩),
 (4,⟨.bool,1,[.bool]⟩),
 (5,⟨.int .u8,1,[.int .u8]⟩),
 (9,⟨.str,1,[.str]⟩),
 (22,⟨.sl 5 1 1,1,[.nil]⟩),
 (24,⟨.sl 62 9 104,1,[.nil]⟩),
 (25,⟨.sl 4 1 1,1,[.nil]⟩),
 (26,⟨.sl 181 6 48,1,[.nil]⟩),
 (27,⟨.sl 210 4 48,1,[.nil]⟩),
 (29,⟨.st [(0,3,1),(1,27,1)],2,[.int .i64, .nil]⟩),
 (30,⟨.sl 93 4 48,1,[.nil]⟩),
 (32,⟨.st [(0,26,1),(1,29,2),(3,30,1)],4,[.nil, .int .i64, .nil, .nil]⟩),
 (33,⟨.sl 78 6 104,1,[.nil]⟩),
 (35,⟨.st [(0,3,1),(1,3,1),(2,3,1),(3,3,1)],4,[.int .i64, .int .i64, .int .i64, .int .i64]⟩),
 (36,⟨.sl 158 7 72,1,[.nil]⟩),
 (37,⟨.sl 160 4 32,1,[.nil]⟩),
 (39,⟨.st [(0,37,1)],1,[.nil]⟩),
 (41,⟨.st [(0,3,1),(1,3,1),(2,24,1),(3,25,1),(4,32,4),(8,33,1),(9,35,4),(13,36,1),(14,3,1),(15,39,1)],16,[.int .i64, .int .i64, .nil, .nil, .nil, .int .i64, .nil, .nil, .nil, .int .i64, .int .i64, .int .i64, .int .i64, .nil, .int .i64, .nil]⟩),
 (53,⟨.st [(0,4,1),(1,9,1),(2,3,1)],3,[.bool, .str, .int .i64]⟩),
 (57,⟨.st [(0,3,1),(1,3,1),(2,3,1),(3,3,1)],4,[.int .i64, .int .i64, .int .i64, .int .i64]⟩),
 (58,⟨.sl 205 4 32,1,[.nil]⟩),
 (60,⟨.st [(0,58,1)],1,[.nil]⟩),
 (62,⟨.st [(0,57,4),(4,26,1),(5,3,1),(6,3,1),(7,3,1),(8,60,1)],9,[.int .i64, .int .i64, .int .i64, .int .i64, .nil, .int .i64, .int .i64, .int .i64, .nil]⟩),
 (72,⟨.sl 81 3 40,1,[.nil]⟩),
 (73,⟨.sl 207 3 24,1,[.nil]⟩),
 (75,⟨.st [(0,3,1),(1,3,1),(2,73,1)],3,[.int .i64, .int .i64, .nil]⟩),
 (76,⟨.sl 3 1 8,1,[.nil]⟩),
 (78,⟨.st [(0,9,1),(1,72,1),(2,75,3),(5,76,1)],6,[.str, .nil, .int .i64, .int .i64, .nil, .nil]⟩),
 (79,⟨.sl 137 4 32,1,[.nil]⟩),
 (81,⟨.st [(0,3,1),(1,3,1),(2,79,1)],3,[.int .i64, .int .i64, .nil]⟩),
 (93,⟨.st [(0,3,1),(1,3,1),(2,22,1),(3,3,1)],4,[.int .i64, .int .i64, .nil, .int .i64]⟩),
 (99,⟨.st [(0,9,1),(1,9,1),(2,3,1),(3,3,1),(4,4,1),(5,3,1),(6,3,1)],7,[.str, .str, .int .i64, .int .i64, .bool, .int .i64, .int .i64]⟩),
 (110,⟨.st [(0,22,1),(1,3,1),(2,3,1)],3,[.nil, .int .i64, .int .i64]⟩),
 (137,⟨.st [(0,3,1),(1,3,1),(2,3,1),(3,4,1)],4,[.int .i64, .int .i64, .int .i64, .bool]⟩),
 (153,⟨.st [(0,3,1),(1,3,1)],2,[.int .i64, .int .i64]⟩),
 (155,⟨.st [(0,153,2),(2,3,1),(3,3,1),(4,3,1)],5,[.int .i64, .int .i64, .int .i64, .int .i64, .int .i64]⟩),
 (156,⟨.sl 155 5 40,1,[.nil]⟩),
 (158,⟨.st [(0,155,5),(5,156,1),(6,3,1)],7,[.int .i64, .int .i64, .int .i64, .int .i64, .int .i64, .nil, .int .i64]⟩),
 (160,⟨.st [(0,3,1),(1,3,1),(2,3,1),(3,4,1)],4,[.int .i64, .int .i64, .int .i64, .bool]⟩),
 (181,⟨.st [(0,3,1),(1,3,1),(2,3,1),(3,3,1),(4,3,1),(5,3,1)],6,[.int .i64, .int .i64, .int .i64, .int .i64, .int .i64, .int .i64]⟩),
 (205,⟨.st [(0,3,1),(1,3,1),(2,3,1),(3,4,1)],4,[.int .i64, .int .i64, .int .i64, .bool]⟩),
 (207,⟨.st [(0,3,1),(1,3,1),(2,3,1)],3,[.int .i64, .int .i64, .int .i64]⟩),
 (210,⟨.st [(0,3,1),(1,3,1),(2,22,1),(3,3,1)],4,[.int .i64, .int .i64, .nil, .int .i64]⟩),
 (237,⟨.sl 9 1 16,1,[.nil]⟩),
 (244,⟨.sl 76 1 24,1,[.nil]⟩),
 (299,⟨.sl 153 2 16,1,[.nil]⟩)]
def lay (τ:Nat):(∀x:El τ,((aZg τ x).map EV.Lf.toV=bWe τ x/\(aZg τ x).length=Un.K τ)/\(aZg τ x).map EV.kdL=(Yd τ).map some)/\∀(cs:List (EV.Lf Un)) (x:El τ),bXu τ cs=some x->cs=aZg τ x:=by
 by_cases h:τ∈[5,57,181,205,60,62,4,210,29,93,32,137,81,207,75,3,78,35,153,155,158,160,39,41,53,99,110,9,76]
 ·simp only[bc,dx,or_false] at h;rcases h with rfl|rfl|rfl|rfl|rfl|rfl|rfl|rfl|rfl|rfl|rfl|rfl|rfl|rfl|rfl|rfl|rfl|rfl|rfl|rfl|rfl|rfl|rfl|rfl|rfl|rfl|rfl|rfl|rfl<;>exact⟨λ_=>⟨⟨rfl,rfl⟩,rfl⟩,λ_ _ h=>by obtain⟨t,rfl,rfl⟩:=EV.bGh h;rfl⟩
 ·have e:El τ=Empty:=by unfold El;split<;>first|(exfalso;revert h;decide)|rfl
  exact⟨λx=>(cast e x).elim,λ_ x=>(cast e x).elim⟩
def hc1 (τ:Nat)(x:El τ):(aZg τ x).map EV.Lf.toV=bWe τ x:=((lay τ).1 x).1.1
def hc2 (τ:Nat)(x:El τ):(aZg τ x).length=Un.K τ:=((lay τ).1 x).1.2
def hc3 (τ:Nat)(x:El τ)(c:EV.Lf Un)(hc:c∈aZg τ x):c.aBA=true:=EV.bL1 ((lay τ).1 x).2 c hc
def Yn:EV.Lay Un:=⟨⟨aZg,bXu,hc1,hc2,hc3,λτ=>(lay τ).2⟩,Yd,5,λn=>n,λn=>n,λ_=>rfl,λ_=>rfl⟩
def ly1 (τ:Nat)(x:El τ):(aZg τ x).map EV.kdL=(Yd τ).map some:=((lay τ).1 x).2
def ly2:∀(τ τ':Nat),EV.Kd.sl τ'∈Yd τ->0<Un.K τ':=by intro τ τ' h;unfold Yd at h;split at h<;>simp only[bc,dx,or_false,reduceCtorEq,false_or,or_self,EV.Kd.sl.injEq] at h<;>first|exact h.elim|(subst h;exact ba rfl)|(rcases h with h|h|h|h|h|h|h|h<;>(subst h;exact ba rfl))|(rcases h with h|h|h|h|h|h|h<;>(subst h;exact ba rfl))|(rcases h with h|h|h|h|h|h<;>(subst h;exact ba rfl))|(rcases h with h|h|h|h|h<;>(subst h;exact ba rfl))|(rcases h with h|h|h|h<;>(subst h;exact ba rfl))|(rcases h with h|h|h<;>(subst h;exact ba rfl))|(rcases h with h|h<;>(subst h;exact ba rfl))
def bXv:EV.LayOk Yn:=⟨ly1,ly2⟩
def kM (f:Func):Code:=match f.body with|some c=>c|none=> .skip
def T.mix:Tryz.prog.follows .mixedOrders=true:=by kernel_rfl
def aI:EV.Good Tryz.prog G0 Yn TI []:=⟨by kernel_rfl,bXv,λf S h=>by simp at h⟩
abbrev SU:=EV.Sum Un
def OK (f:Nat)(S:SU):Prop:=EV.Dq Tryz.prog G0 Yn f S
def bXw:SU:=⟨[],[],false,false,λ_=>none⟩
def aP9 (f:Nat):OK f bXw:=λ_ _ hr=>nomatch hr
def SIl:SU:=⟨[],[],false,true,λ_=>none⟩
def sIl (f:Nat):OK f SIl:=λ_ _ hr=>nomatch hr
def IL:EV.Il:=[(17,kM Tryz.f17,32,[.tmp 2]),(292,kM Tryz.f292,52,[.tmp 4]),(248,kM Tryz.f248,21,[.cell 2 41]),(31,kM Tryz.f31,48,[.tmp 4]),(26,kM Tryz.f26,111,[.tmp 10]),(32,kM Tryz.f32,23,[]),(249,kM Tryz.f249,92,[.cell 4 41]),(199,kM Tryz.f199,20,[.cell 4 41]),(245,kM Tryz.f245,56,[.cell 2 39]),(247,kM Tryz.f247,66,[.cell 2 32]),(198,kM Tryz.f198,49,[.cell 4 41]),(126,kM Tryz.f126,7,[.cell 2 41]),(70,kM Tryz.f70,39,[.cell 6 41, .tmp 7]),(74,kM Tryz.f74,32,[.cell 8 41]),(40,kM Tryz.f40,42,[.cell 4 41, .tmp 5]),(75,kM Tryz.f75,16,[.cell 4 41]),(23,kM Tryz.f23,135,[.cell 6 41, .tmp 7]),(41,kM Tryz.f41,126,[.cell 4 41, .tmp 5]),(275,kM Tryz.f275,225,[.cell 10 41])]
def bS5:EV.sJ Tryz.prog IL:=EV.mQ Tryz.func17 rfl Tryz.ntmps17 rfl (λ_ _=>by kernel_rfl)<|EV.mQ Tryz.func292 rfl Tryz.ntmps292 rfl (λ_ _=>by kernel_rfl)<|EV.mQ Tryz.func248 rfl Tryz.ntmps248 rfl (λ_ _=>by kernel_rfl)<|EV.mQ Tryz.func31 rfl Tryz.ntmps31 rfl (λ_ _=>by kernel_rfl)<|EV.mQ Tryz.func26 rfl Tryz.ntmps26 rfl (λ_ _=>by kernel_rfl)<|EV.mQ Tryz.func32 rfl Tryz.ntmps32 rfl (λ_ _=>by kernel_rfl)<|EV.mQ Tryz.func249 rfl Tryz.ntmps249 rfl (λ_ _=>by kernel_rfl)<|EV.mQ Tryz.func199 rfl Tryz.ntmps199 rfl (λ_ _=>by kernel_rfl)<|EV.mQ Tryz.func245 rfl Tryz.ntmps245 rfl (λ_ _=>by kernel_rfl)<|EV.mQ Tryz.func247 rfl Tryz.ntmps247 rfl (λ_ _=>by kernel_rfl)<|EV.mQ Tryz.func198 rfl Tryz.ntmps198 rfl (λ_ _=>by kernel_rfl)<|EV.mQ Tryz.func126 rfl Tryz.ntmps126 rfl (λ_ _=>by kernel_rfl)<|EV.mQ Tryz.func70 rfl Tryz.ntmps70 rfl (λ_ _=>by kernel_rfl)<|EV.mQ Tryz.func74 rfl Tryz.ntmps74 rfl (λ_ _=>by kernel_rfl)<|EV.mQ Tryz.func40 rfl Tryz.ntmps40 rfl (λ_ _=>by kernel_rfl)<|EV.mQ Tryz.func75 rfl Tryz.ntmps75 rfl (λ_ _=>by kernel_rfl)<|EV.mQ Tryz.func23 rfl Tryz.ntmps23 rfl (λ_ _=>by kernel_rfl)<|EV.mQ Tryz.func41 rfl Tryz.ntmps41 rfl (λ_ _=>by kernel_rfl)<|EV.mQ Tryz.func275 rfl Tryz.ntmps275 rfl (λ_ _=>by kernel_rfl)<|EV.bU3
def od (n:Nat)(l:List Nat):List (Nat×Bool):=(List.range n).map λi=>(i, !l.contains i)
def gc {f:Nat}{S:SU}{FZ:List (Nat×SU)}(h:OK f S)(G:EV.Good Tryz.prog G0 Yn TI FZ):EV.Good Tryz.prog G0 Yn TI ((f,S)::FZ):=EV.aWi h G
def gcp {f:Nat}{S:SU}{FZ:List (Nat×SU)}(h:OK f S)(G:EV.Good Tryz.prog G0 Yn TI FZ)(a:S.wt=false:=by rfl)(b:S.fr=true:=by rfl):EV.Good Tryz.prog G0 Yn TI ((f,S.pl)::FZ):=EV.aWi (EV.bL9 h a b) G
def mkS {f:FuncId}{fn:Func}{n:Nat}{S:SU}{FZ:List (Nat×SU)}{m:EV.sF Un S.ar->Option (EV.sF Un S.rs)}(an:EV.An)(l:List ResultVar)(G:EV.Good Tryz.prog G0 Yn TI FZ)(hf:Tryz.prog.funcs[f]? =some fn)(hn:fn.ntmps=n)(ht:∀a r,S.m a=some r->m a=some r)(h:∀a,(fn.name== "runtime.NumGoroutine",EV.evF Yn TI FZ IL an (kM fn) n S.ar S.rs S.fr l a)=(false,m a):=by intro _;kernel_rfl)(hb:fn.body=some (kM fn):=by rfl)(hl:fn.results=l.toArray:=by rfl)(hlen:S.ar.length<=n:=by decide)(hw:S.wt=false:=by rfl):OK f S:=
 λa r hr=>EV.bU6 (an:=λ_=>an) G T.mix bS5 hf hb hn hl (EV.bA2 hf hb (congrArg Prod.fst (h a))) hlen hw (λa r hr=>(congrArg Prod.snd (h a)).trans (ht a r hr)) a r hr
def mkP {f:FuncId}{fn:Func}{n T:Nat}{ks rs:List EV.Kd}{M m:EV.sF Un (.st T::ks)->Option (EV.sF Un (.st T::rs))}{FZ:List (Nat×SU)}(an:EV.An)(l:List ResultVar)(G:EV.Good Tryz.prog G0 Yn TI FZ)(hf:Tryz.prog.funcs[f]? =some fn)(hn:fn.ntmps=n)(ht:∀a r,M a=some r->m a=some r)(h:∀a,(fn.name== "runtime.NumGoroutine",EV.evP Yn TI FZ IL an (kM fn) n T ks rs l a)=(false,m a))(hb:fn.body=some (kM fn):=by rfl)(hl:fn.results=l.toArray:=by rfl)(hlen:ks.length+1<=n:=by decide):OK f ⟨.st T::ks, .st T::rs,true,true,M⟩:=
 λa r hr=>EV.bU9 (an:=λ_=>an) G Go.VK.T.mix bS5 hf hb hn hl (EV.bA2 hf hb (congrArg Prod.fst (h a))) hlen (λa r hr=>(congrArg Prod.snd (h a)).trans (ht a r hr)) a r hr
def kT:EV.Sum Un:=⟨[.str, .str],[.sl 9],false,false,λ(a:ByteArray×ByteArray)=>gd (a.1.size<4294967281/\1<=a.2.size) (some (lY a.1 a.2))⟩
def aG4 (args:Array Value)(w:World):(callFunc 250 args).run Tryz.prog w= .ok (.enter 250 args) w:=by kernel_rfl
def aK8 (a:ByteArray×ByteArray):(EV.dG Yn kT.ar a).map EV.yQ=[.str a.1, .str a.2]:=by kernel_rfl
def aK9 (a:ByteArray×ByteArray):oI ((EV.dG Yn kT.rs (lY a.1 a.2)).map EV.yQ)= .slice 1 ((lY a.1 a.2).map sV):=by kernel_rfl
def aLa (a:ByteArray×ByteArray)(r:EV.sF Un kT.rs)(hr:gd (a.1.size<4294967281/\1<=a.2.size) (some (lY a.1 a.2))=some r):Spec Tryz.prog G0 250 ((EV.dG Yn kT.ar a).map EV.yQ) (λv=>v=oI ((EV.dG Yn kT.rs r).map EV.yQ)):=by
 unfold gd at hr;split at hr
 ·rename_i hp;have e:=aj hr;subst e;rw[aK8,aK9];exact bEg aG4 (λs sep m w a b c=>Tryz.strings_Split s sep m w a b c) a.1 a.2 hp.1 hp.2
 ·cases hr
def Np:EV.Dq Tryz.prog G0 Yn 250 kT:=λ(a:ByteArray×ByteArray) r hr=>⟨λ_ _=>aLa a r hr,λ_ h=>absurd (show false=true from h) fe,λh=>absurd (show false=true from h) fe,λh=>absurd (show false=true from h) fe⟩
def mE:EV.Sum Un:=⟨[.sl 9, .str],[.str],false,false,λ(a:(List ByteArray)×ByteArray)=>gd (0<a.1.length/\(rH a.2 a.1).size<=140737488355328/\a.1.length<=140737488355328) (some (rH a.2 a.1))⟩
def aLb (args:Array Value)(w:World):(callFunc 251 args).run Tryz.prog w= .ok (.enter 251 args) w:=by kernel_rfl
def aQa (a:(List ByteArray)×ByteArray):(EV.dG Yn mE.ar a).map EV.yQ=[.slice 1 (a.1.map sV), .str a.2]:=by kernel_rfl
def aQb (a:(List ByteArray)×ByteArray):oI ((EV.dG Yn mE.rs (rH a.2 a.1)).map EV.yQ)= .str (rH a.2 a.1):=by kernel_rfl
def aQc (a:(List ByteArray)×ByteArray)(r:EV.sF Un mE.rs)(hr:gd (0<a.1.length/\(rH a.2 a.1).size<=140737488355328/\a.1.length<=140737488355328) (some (rH a.2 a.1))=some r):Spec Tryz.prog G0 251 ((EV.dG Yn mE.ar a).map EV.yQ) (λv=>v=oI ((EV.dG Yn mE.rs r).map EV.yQ)):=by
 unfold gd at hr;split at hr
 ·rename_i hp;have e:=aj hr;subst e;rw[aQa,aQb];exact bIc aLb Tryz.strings_Join a.1 a.2 (by intro h;have:=hp.1;rw[h] at this;simp at this) hp.2.1 hp.2.2
 ·cases hr
def aQd:EV.Dq Tryz.prog G0 Yn 251 mE:=λ(a:(List ByteArray)×ByteArray) r hr=>⟨λ_ _=>aQc a r hr,λ_ h=>absurd (show false=true from h) fe,λh=>absurd (show false=true from h) fe,λh=>absurd (show false=true from h) fe⟩
def aLc:EV.Sum Un:=⟨[.str],[.int .i64, .bool],false,false,λ(a:ByteArray)=>none⟩
def aLd:OK 288 aLc:=λ_ _ h=>nomatch h
def aG5:EV.Sum Un:=⟨[.int .i64],[.str],false,false,λ(a:Int)=>none⟩
def aG6:OK 238 aG5:=λ_ _ h=>nomatch h
end
end Go.VK
