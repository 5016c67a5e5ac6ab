import Derived.Test.YtmnliljalhgmiaaGreatDoorXuFF
import Derived.Test.YtmnliljalhgmiaaGreatDoorEVztod
import Derived.Test.YtmnliljalhgmiaaGreatDoorProg
import Derived.Test.YtmnliljalhgmiaaGreatDoorTryzShelf
/- Printed by wip/tools: models, walks, proofs. -/
set_option linter.all false
set_option maxRecDepth 100000
set_option maxHeartbeats 4000000
namespace Go.VK
open Go.RowKit Go.Proofs D
noncomputable section
abbrev G0:GI:=cCh 0
def El:Nat->Type
 |5=>Int
 |69=>AK
 |136=>AF
 |148=>AG
 |61=>AB
 |71=>AD
 |4=>Bool
 |219=>AN
 |29=>AM
 |150=>AJ
 |32=>AO
 |112=>AV
 |110=>AI
 |204=>A4
 |86=>AQ
 |3=>Int
 |88=>AC
 |35=>A0
 |100=>AS
 |102=>A3
 |105=>AH
 |200=>AX
 |39=>AU
 |41=>AA
 |80=>AY
 |58=>AP
 |93=>AZ
 |119=>AR
 |49=>List Int
 |9=>ByteArray
 |_=>Empty
def cA0:(τ:Nat)->El τ->List V
 |5=>y8
 |69=>AK.V
 |136=>AF.V
 |148=>AG.V
 |61=>AB.V
 |71=>AD.V
 |4=>bV
 |219=>AN.V
 |29=>AM.V
 |150=>AJ.V
 |32=>AO.V
 |112=>AV.V
 |110=>AI.V
 |204=>A4.V
 |86=>AQ.V
 |3=>iV
 |88=>AC.V
 |35=>A0.V
 |100=>AS.V
 |102=>A3.V
 |105=>AH.V
 |200=>AX.V
 |39=>AU.V
 |41=>AA.V
 |80=>AY.V
 |58=>AP.V
 |93=>AZ.V
 |119=>AR.V
 |49=>(λl=>[V.slice 1 (l.map iV)])
 |9=>sV
 |_=>λ_=>[]
def Un:EV.Uni:=⟨El,λ|5=>1|69=>4|136=>6|148=>4|61=>1|71=>9|4=>1|219=>4|29=>2|150=>4|32=>4|112=>4|110=>3|204=>3|86=>3|3=>1|88=>6|35=>4|100=>2|102=>5|105=>7|200=>4|39=>1|41=>16|80=>5|58=>3|93=>7|119=>3|49=>1|9=>1|_=>0,cA0⟩
def bD7:(τ:Nat)->El τ->List (EV.Lf Un)
 |5=>λx=>[.int .u8 x]
 |69=>λx=>[.int .i64 x.Vendor, .int .i64 x.Serial, .int .i64 x.Seed, .int .i64 x.Counter]
 |136=>λx=>[.int .i64 x.Index, .int .i64 x.Kind, .int .i64 x.Device, .int .i64 x.By, .int .i64 x.Previous, .int .i64 x.Signature]
 |148=>λx=>[.int .i64 x.Site, .int .i64 x.Handle, .int .i64 x.Version, .bool x.Deleted]
 |61=>λx=>[.sl 148 x.Entries]
 |71=>λx=>[.int .i64 x.Store.Vendor, .int .i64 x.Store.Serial, .int .i64 x.Store.Seed, .int .i64 x.Store.Counter, .sl 136 x.Log, .int .i64 x.Key, .int .i64 x.Epoch, .int .i64 x.Version, .sl 148 x.aAC.Entries]
 |4=>λx=>[.bool x]
 |219=>λx=>[.int .i64 x.To, .int .i64 x.Ephemeral, .sl 5 x.Data, .int .i64 x.MAC]
 |29=>λx=>[.int .i64 x.Epoch, .sl 219 x.Boxes]
 |150=>λx=>[.int .i64 x.Epoch, .int .i64 x.Version, .sl 5 x.Data, .int .i64 x.MAC]
 |32=>λx=>[.sl 136 x.Log, .int .i64 x.Boxes.Epoch, .sl 219 x.Boxes.Boxes, .sl 150 x.History]
 |112=>λx=>[.int .i64 x.Handle, .int .i64 x.Public, .int .i64 x.Counter, .bool x.Cut]
 |110=>λx=>[.int .i64 x.Id, .int .i64 x.Minimum, .sl 112 x.Credentials]
 |204=>λx=>[.int .i64 x.Id, .int .i64 x.aAH, .int .i64 x.Until]
 |86=>λx=>[.int .i64 x.Seed, .int .i64 x.Next, .sl 204 x.Open]
 |3=>λx=>[.int .i64 x]
 |88=>λx=>[.str x.Name, .sl 110 x.Accounts, .int .i64 x.Book.Seed, .int .i64 x.Book.Next, .sl 204 x.Book.Open, .sl 3 x.Logins]
 |35=>λx=>[.int .i64 x.Salt, .int .i64 x.Threshold, .int .i64 x.Check, .int .i64 x.Masked]
 |100=>λx=>[.int .i64 x.Index, .int .i64 x.Value]
 |102=>λx=>[.int .i64 x.aAQ.Index, .int .i64 x.aAQ.Value, .int .i64 x.Epoch, .int .i64 x.Guesses, .int .i64 x.Limit]
 |105=>λx=>[.int .i64 x.State.aAQ.Index, .int .i64 x.State.aAQ.Value, .int .i64 x.State.Epoch, .int .i64 x.State.Guesses, .int .i64 x.State.Limit, .sl 102 x.Saved, .int .i64 x.Monotonic]
 |200=>λx=>[.int .i64 x.Kind, .int .i64 x.aAH, .int .i64 x.Time, .bool x.Seen]
 |39=>λx=>[.sl 200 x.Notices]
 |41=>λx=>[.int .i64 x.Now, .int .i64 x.Seed, .sl 71 x.Devices, .sl 4 x.Stolen, .sl 136 x.aAE.Log, .int .i64 x.aAE.Boxes.Epoch, .sl 219 x.aAE.Boxes.Boxes, .sl 150 x.aAE.History, .sl 88 x.Sites, .int .i64 x.aAK.Salt, .int .i64 x.aAK.Threshold, .int .i64 x.aAK.Check, .int .i64 x.aAK.Masked, .sl 105 x.Hosts, .int .i64 x.Pin, .sl 200 x.Mail.Notices]
 |80=>λx=>[.int .i64 x.Kind, .int .i64 x.Device, .int .i64 x.Other, .int .i64 x.Value, .bool x.Flag]
 |58=>λx=>[.bool x.Secure, .str x.Host, .int .i64 x.Port]
 |93=>λx=>[.str x.Site, .str x.aAL, .int .i64 x.aAN, .int .i64 x.Handle, .bool x.Present, .int .i64 x.Counter, .int .i64 x.Signature]
 |119=>λx=>[.sl 5 x.b, .int .i64 x.i, .int .i64 x.h]
 |49=>λx=>[.sl 3 x]
 |9=>λx=>[.str x]
 |_=>λ_=>[]
def Vr:Nat->List EV.Kd
 |5=>[.int .u8]
 |69=>[.int .i64, .int .i64, .int .i64, .int .i64]
 |136=>[.int .i64, .int .i64, .int .i64, .int .i64, .int .i64, .int .i64]
 |148=>[.int .i64, .int .i64, .int .i64, .bool]
 |61=>[.sl 148]
 |71=>[.int .i64, .int .i64, .int .i64, .int .i64, .sl 136, .int .i64, .int .i64, .int .i64, .sl 148]
 |4=>[.bool]
 |219=>[.int .i64, .int .i64, .sl 5, .int .i64]
 |29=>[.int .i64, .sl 219]
 |150=>[.int .i64, .int .i64, .sl 5, .int .i64]
 |32=>[.sl 136, .int .i64, .sl 219, .sl 150]
 |112=>[.int .i64, .int .i64, .int .i64, .bool]
 |110=>[.int .i64, .int .i64, .sl 112]
 |204=>[.int .i64, .int .i64, .int .i64]
 |86=>[.int .i64, .int .i64, .sl 204]
 |3=>[.int .i64]
 |88=>[.str, .sl 110, .int .i64, .int .i64, .sl 204, .sl 3]
 |35=>[.int .i64, .int .i64, .int .i64, .int .i64]
 |100=>[.int .i64, .int .i64]
 |102=>[.int .i64, .int .i64, .int .i64, .int .i64, .int .i64]
 |105=>[.int .i64, .int .i64, .int .i64, .int .i64, .int .i64, .sl 102, .int .i64]
 |200=>[.int .i64, .int .i64, .int .i64, .bool]
 |39=>[.sl 200]
 |41=>[.int .i64, .int .i64, .sl 71, .sl 4, .sl 136, .int .i64, .sl 219, .sl 150, .sl 88, .int .i64, .int .i64, .int .i64, .int .i64, .sl 105, .int .i64, .sl 200]
 |80=>[.int .i64, .int .i64, .int .i64, .int .i64, .bool]
 |58=>[.bool, .str, .int .i64]
 |93=>[.str, .str, .int .i64, .int .i64, .bool, .int .i64, .int .i64]
 |119=>[.sl 5, .int .i64, .int .i64]
 |49=>[.sl 3]
 |9=>[.str]
 |_=>[]
def cCu:(τ:Nat)->List (EV.Lf Un)->Option (El τ)
 |5=>EV.nG (Vr 5) (λx=>x)
 |69=>EV.nG (Vr 69) AK.mk
 |136=>EV.nG (Vr 136) AF.mk
 |148=>EV.nG (Vr 148) AG.mk
 |61=>EV.nG (Vr 61) AB.mk
 |71=>EV.nG (Vr 71) (λa0 a b c d e f h i=>(⟨⟨a0,a,b,c⟩,d,e,f,h,⟨i⟩⟩:AD))
 |4=>EV.nG (Vr 4) (λx=>x)
 |219=>EV.nG (Vr 219) AN.mk
 |29=>EV.nG (Vr 29) AM.mk
 |150=>EV.nG (Vr 150) AJ.mk
 |32=>EV.nG (Vr 32) (λa0 a b c=>(⟨a0,⟨a,b⟩,c⟩:AO))
 |112=>EV.nG (Vr 112) AV.mk
 |110=>EV.nG (Vr 110) AI.mk
 |204=>EV.nG (Vr 204) A4.mk
 |86=>EV.nG (Vr 86) AQ.mk
 |3=>EV.nG (Vr 3) (λx=>x)
 |88=>EV.nG (Vr 88) (λa0 a b c d e=>(⟨a0,a,⟨b,c,d⟩,e⟩:AC))
 |35=>EV.nG (Vr 35) A0.mk
 |100=>EV.nG (Vr 100) AS.mk
 |102=>EV.nG (Vr 102) (λa0 a b c d=>(⟨⟨a0,a⟩,b,c,d⟩:A3))
 |105=>EV.nG (Vr 105) (λa0 a b c d e f=>(⟨⟨⟨a0,a⟩,b,c,d⟩,e,f⟩:AH))
 |200=>EV.nG (Vr 200) AX.mk
 |39=>EV.nG (Vr 39) AU.mk
 |41=>EV.nG (Vr 41) (λa0 a b c d e f h i p j k l m n o=>(⟨a0,a,b,c,⟨d,⟨e,f⟩,h⟩,i,⟨p,j,k,l⟩,m,n,⟨o⟩⟩:AA))
 |80=>EV.nG (Vr 80) AY.mk
 |58=>EV.nG (Vr 58) AP.mk
 |93=>EV.nG (Vr 93) AZ.mk
 |119=>EV.nG (Vr 119) AR.mk
 |49=>EV.nG (Vr 49) (λx=>x)
 |9=>EV.nG (Vr 9) (λx=>x)
 |_=>λ_=>none
def TI:List (Nat×EV.TInfo):=[
 (3,⟨.int .i64,1,[.int .i64]⟩),
 (4,⟨.bool,1,[.bool]⟩),
 (5,⟨.int .u8,1,[.int .u8]⟩),
 (9,⟨.str,1,[.str]⟩),
 (22,⟨.sl 5 1 1,1,[.nil]⟩),
 (24,⟨.sl 71 9 104,1,[.nil]⟩),
 (25,⟨.sl 4 1 1,1,[.nil]⟩),
 (26,⟨.sl 136 6 48,1,[.nil]⟩),
 (27,⟨.sl 219 4 48,1,[.nil]⟩),
 (29,⟨.st [(0,3,1),(1,27,1)],2,[.int .i64, .nil]⟩),
 (30,⟨.sl 150 4 48,1,[.nil]⟩),
 (32,⟨.st [(0,26,1),(1,29,2),(3,30,1)],4,[.nil, .int .i64, .nil, .nil]⟩),
 (33,⟨.sl 88 6 104,1,[.nil]⟩),
 (35,⟨.st [(0,3,1),(1,3,1),(2,3,1),(3,3,1)],4,[.int .i64, .int .i64, .int .i64, .int .i64]⟩),
 (36,⟨.sl 105 7 72,1,[.nil]⟩),
 (37,⟨.sl 200 4 32,1,[.nil]⟩),
 (39,⟨.st [(0,37,1)],1,[.nil]⟩),
 (41,⟨.st [(0,3,1),(1,3,1),(2,24,1),(3,25,1),(4,32,4),(8,33,1),(9,35,4),(13,36,1),(14,3,1),(15,39,1)],16,[.int .i64, .int .i64, .nil, .nil, .nil, .int .i64, .nil, .nil, .nil, .int .i64, .int .i64, .int .i64, .int .i64, .nil, .int .i64, .nil]⟩),
 (42,⟨.sl 80 5 40,1,[.nil]⟩),
 (49,⟨.sl 3 1 8,1,[.nil]⟩),
 (58,⟨.st [(0,4,1),(1,9,1),(2,3,1)],3,[.bool, .str, .int .i64]⟩),
 (59,⟨.sl 148 4 32,1,[.nil]⟩),
 (61,⟨.st [(0,59,1)],1,[.nil]⟩),
 (69,⟨.st [(0,3,1),(1,3,1),(2,3,1),(3,3,1)],4,[.int .i64, .int .i64, .int .i64, .int .i64]⟩),
 (71,⟨.st [(0,69,4),(4,26,1),(5,3,1),(6,3,1),(7,3,1),(8,61,1)],9,[.int .i64, .int .i64, .int .i64, .int .i64, .nil, .int .i64, .int .i64, .int .i64, .nil]⟩),
 (80,⟨.st [(0,3,1),(1,3,1),(2,3,1),(3,3,1),(4,4,1)],5,[.int .i64, .int .i64, .int .i64, .int .i64, .bool]⟩),
 (83,⟨.sl 110 3 40,1,[.nil]⟩),
 (84,⟨.sl 204 3 24,1,[.nil]⟩),
 (86,⟨.st [(0,3,1),(1,3,1),(2,84,1)],3,[.int .i64, .int .i64, .nil]⟩),
 (88,⟨.st [(0,9,1),(1,83,1),(2,86,3),(5,49,1)],6,[.str, .nil, .int .i64, .int .i64, .nil, .nil]⟩),
 (93,⟨.st [(0,9,1),(1,9,1),(2,3,1),(3,3,1),(4,4,1),(5,3,1),(6,3,1)],7,[.str, .str, .int .i64, .int .i64, .bool, .int .i64, .int .i64]⟩),
 (100,⟨.st [(0,3,1),(1,3,1)],2,[.int .i64, .int .i64]⟩),
 (102,⟨.st [(0,100,2),(2,3,1),(3,3,1),(4,3,1)],5,[.int .i64, .int .i64, .int .i64, .int .i64, .int .i64]⟩),
 (103,⟨.sl 102 5 40,1,[.nil]⟩),
 (105,⟨.st [(0,102,5),(5,103,1),(6,3,1)],7,[.int .i64, .int .i64, .int .i64, .int .i64, .int .i64, .nil, .int .i64]⟩),
 (108,⟨.sl 112 4 32,1,[.nil]⟩),
 (110,⟨.st [(0,3,1),(1,3,1),(2,108,1)],3,[.int .i64, .int .i64, .nil]⟩),
 (112,⟨.st [(0,3,1),(1,3,1),(2,3,1),(3,4,1)],4,[.int .i64, .int .i64, .int .i64, .bool]⟩),
 (119,⟨.st [(0,22,1),(1,3,1),(2,3,1)],3,[.nil, .int .i64, .int .i64]⟩),
 (136,⟨.st [(0,3,1),(1,3,1),(2,3,1),(3,3,1),(4,3,1),(5,3,1)],6,[.int .i64, .int .i64, .int .i64, .int .i64, .int .i64, .int .i64]⟩),
 (148,⟨.st [(0,3,1),(1,3,1),(2,3,1),(3,4,1)],4,[.int .i64, .int .i64, .int .i64, .bool]⟩),
 (150,⟨.st [(0,3,1),(1,3,1),(2,22,1),(3,3,1)],4,[.int .i64, .int .i64, .nil, .int .i64]⟩),
 (200,⟨.st [(0,3,1),(1,3,1),(2,3,1),(3,4,1)],4,[.int .i64, .int .i64, .int .i64, .bool]⟩),
 (204,⟨.st [(0,3,1),(1,3,1),(2,3,1)],3,[.int .i64, .int .i64, .int .i64]⟩),
 (219,⟨.st [(0,3,1),(1,3,1),(2,22,1),(3,3,1)],4,[.int .i64, .int .i64, .nil, .int .i64]⟩),
 (238,⟨.sl 100 2 16,1,[.nil]⟩),
 (244,⟨.sl 49 1 24,1,[.nil]⟩),
 (278,⟨.sl 9 1 16,1,[.nil]⟩),
 (302,⟨.st [],8,[.bool, .bool, .bool, .bool, .bool, .bool, .bool, .bool]⟩)]
def lay (τ:Nat):(∀x:El τ,((bD7 τ x).map EV.Lf.toV=cA0 τ x/\(bD7 τ x).length=Un.K τ)/\(bD7 τ x).map EV.kdL=(Vr τ).map some)/\∀(cs:List (EV.Lf Un)) (x:El τ),cCu τ cs=some x->cs=bD7 τ x:=by
 by_cases h:τ∈[5,69,136,148,61,71,4,219,29,150,32,112,110,204,86,3,88,35,100,102,105,200,39,41,80,58,93,119,49,9]
 ·simp only[ba,gy,or_false] at h;rcases h with rfl|rfl|rfl|rfl|rfl|rfl|rfl|rfl|rfl|rfl|rfl|rfl|rfl|rfl|rfl|rfl|rfl|rfl|rfl|rfl|rfl|rfl|rfl|rfl|rfl|rfl|rfl|rfl|rfl|rfl<;>exact⟨λ_=>⟨⟨rfl,rfl⟩,rfl⟩,λ_ _ h=>by obtain⟨t,rfl,rfl⟩:=EV.bLq h;rfl⟩
 ·have e:El τ=Empty:=by unfold El;split<;>first|(exfalso;revert h;decide)|rfl
  exact⟨λx=>(cast e x).elim,λ_ x=>(cast e x).elim⟩
def hc1 (τ:Nat)(x:El τ):(bD7 τ x).map EV.Lf.toV=cA0 τ x:=((lay τ).1 x).1.1
def hc2 (τ:Nat)(x:El τ):(bD7 τ x).length=Un.K τ:=((lay τ).1 x).1.2
def hc3 (τ:Nat)(x:El τ)(c:EV.Lf Un)(hc:c∈bD7 τ x):c.aBC=true:=EV.bRo ((lay τ).1 x).2 c hc
def Yn:EV.Lay Un:=⟨⟨bD7,cCu,hc1,hc2,hc3,λτ=>(lay τ).2⟩,Vr,5,λn=>n,λn=>n,λ_=>rfl,λ_=>rfl⟩
def ly1 (τ:Nat)(x:El τ):(bD7 τ x).map EV.kdL=(Vr τ).map some:=((lay τ).1 x).2
def ly2:∀(τ τ':Nat),EV.Kd.sl τ'∈Vr τ->0<Un.K τ':=by intro τ τ' h;unfold Vr at h;split at h<;>simp only[ba,gy,or_false,reduceCtorEq,false_or,or_self,EV.Kd.sl.injEq] at h<;>first|exact h.elim|(subst h;exact bf rfl)|(rcases h with h|h|h|h|h|h|h|h<;>(subst h;exact bf rfl))|(rcases h with h|h|h|h|h|h|h<;>(subst h;exact bf rfl))|(rcases h with h|h|h|h|h|h<;>(subst h;exact bf rfl))|(rcases h with h|h|h|h|h<;>(subst h;exact bf rfl))|(rcases h with h|h|h|h<;>(subst h;exact bf rfl))|(rcases h with h|h|h<;>(subst h;exact bf rfl))|(rcases h with h|h<;>(subst h;exact bf rfl))
def cCv:EV.LayOk Yn:=⟨ly1,ly2⟩
def wU (f:Func):Code:=match f.body with|some c=>c|none=> .skip
def T.mix:Tryz.prog.follows .mixedOrders=true:=by kernel_rfl
def aF:EV.Good Tryz.prog G0 Yn TI []:=⟨by kernel_rfl,cCv,λf S h=>by simp at h⟩
abbrev SU:=EV.Sum Un
def OK (f:Nat)(S:SU):Prop:=EV.zF Tryz.prog G0 Yn f S
def cCw:SU:=⟨[],[],false,false,λ_=>none⟩
def bYg (f:Nat):OK f cCw:=λ_ _ hr=>nomatch hr
def SIl:SU:=⟨[],[],false,true,λ_=>none⟩
def sIl (f:Nat):OK f SIl:=λ_ _ hr=>nomatch hr
def IL:EV.Il:=[(26,wU Tryz.f26,32,[.tmp 2]),(103,wU Tryz.f103,52,[.tmp 4]),(144,wU Tryz.f144,16,[.cell 4 41]),(82,wU Tryz.f82,37,[.cell 8 41, .tmp 9]),(189,wU Tryz.f189,39,[.cell 6 41, .tmp 7]),(192,wU Tryz.f192,32,[.cell 8 41]),(86,wU Tryz.f86,42,[.cell 4 41, .tmp 5]),(123,wU Tryz.f123,126,[.cell 4 41, .tmp 5]),(124,wU Tryz.f124,135,[.cell 6 41, .tmp 7])]
def bYh:EV.vG Tryz.prog IL:=EV.Pb Tryz.func26 rfl Tryz.ntmps26 rfl (λ_ _=>by kernel_rfl)<|EV.Pb Tryz.func103 rfl Tryz.ntmps103 rfl (λ_ _=>by kernel_rfl)<|EV.Pb Tryz.func144 rfl Tryz.ntmps144 rfl (λ_ _=>by kernel_rfl)<|EV.Pb Tryz.func82 rfl Tryz.ntmps82 rfl (λ_ _=>by kernel_rfl)<|EV.Pb Tryz.func189 rfl Tryz.ntmps189 rfl (λ_ _=>by kernel_rfl)<|EV.Pb Tryz.func192 rfl Tryz.ntmps192 rfl (λ_ _=>by kernel_rfl)<|EV.Pb Tryz.func86 rfl Tryz.ntmps86 rfl (λ_ _=>by kernel_rfl)<|EV.Pb Tryz.func123 rfl Tryz.ntmps123 rfl (λ_ _=>by kernel_rfl)<|EV.Pb Tryz.func124 rfl Tryz.ntmps124 rfl (λ_ _=>by kernel_rfl)<|EV.cAd
def od (n:Nat)(l:List Nat):List (Nat×Bool):=(List.range n).map λi=>(i, !l.contains i)
def gc {f:Nat}{S:SU}{FZ:List (Nat×SU)}(h:OK f S)(G:EV.Good Tryz.prog G0 Yn TI FZ):EV.Good Tryz.prog G0 Yn TI ((f,S)::FZ):=EV.bBl h G
def gcp {f:Nat}{S:SU}{FZ:List (Nat×SU)}(h:OK f S)(G:EV.Good Tryz.prog G0 Yn TI FZ)(a:S.wt=false:=by rfl)(b:S.fr=true:=by rfl):EV.Good Tryz.prog G0 Yn TI ((f,S.pl)::FZ):=EV.bBl (EV.bRw h a b) G
def mkS {f:FuncId}{fn:Func}{n:Nat}{S:SU}{FZ:List (Nat×SU)}{m:EV.rX Un S.ar->Option (EV.rX Un S.rs)}(an:EV.An)(l:List ResultVar)(G:EV.Good Tryz.prog G0 Yn TI FZ)(hf:Tryz.prog.funcs[f]? =some fn)(hn:fn.ntmps=n)(ht:∀a r,S.m a=some r->m a=some r)(h:∀a,(fn.name== "runtime.NumGoroutine",EV.evF Yn TI FZ IL an (wU fn) n S.ar S.rs S.fr l a)=(false,m a):=by intro _;kernel_rfl)(hb:fn.body=some (wU fn):=by rfl)(hl:fn.results=l.toArray:=by rfl)(hlen:S.ar.length<=n:=by decide)(hw:S.wt=false:=by rfl):OK f S:=
 λa r hr=>EV.cAg (an:=λ_=>an) G T.mix bYh hf hb hn hl (EV.bFt hf hb (congrArg Prod.fst (h a))) hlen hw (λa r hr=>(congrArg Prod.snd (h a)).trans (ht a r hr)) a r hr
def mkP {f:FuncId}{fn:Func}{n T:Nat}{ks rs:List EV.Kd}{M m:EV.rX Un (.st T::ks)->Option (EV.rX Un (.st T::rs))}{FZ:List (Nat×SU)}(an:EV.An)(l:List ResultVar)(G:EV.Good Tryz.prog G0 Yn TI FZ)(hf:Tryz.prog.funcs[f]? =some fn)(hn:fn.ntmps=n)(ht:∀a r,M a=some r->m a=some r)(h:∀a,(fn.name== "runtime.NumGoroutine",EV.evP Yn TI FZ IL an (wU fn) n T ks rs l a)=(false,m a))(hb:fn.body=some (wU fn):=by rfl)(hl:fn.results=l.toArray:=by rfl)(hlen:ks.length+1<=n:=by decide):OK f ⟨.st T::ks, .st T::rs,true,true,M⟩:=
 λa r hr=>EV.cAj (an:=λ_=>an) G Go.VK.T.mix bYh hf hb hn hl (EV.bFt hf hb (congrArg Prod.fst (h a))) hlen (λa r hr=>(congrArg Prod.snd (h a)).trans (ht a r hr)) a r hr
def lI:EV.Sum Un:=⟨[.str, .str],[.sl 9],false,false,λ(a:ByteArray×ByteArray)=>gd (a.1.size<4294967281/\1<=a.2.size) (some (mP a.1 a.2))⟩
def aKv (args:Array Value)(w:World):(callFunc 269 args).run Tryz.prog w= .ok (.enter 269 args) w:=by kernel_rfl
def aPq (a:ByteArray×ByteArray):(EV.bM Yn lI.ar a).map EV.pM=[.str a.1, .str a.2]:=by kernel_rfl
def aPr (a:ByteArray×ByteArray):jY ((EV.bM Yn lI.rs (mP a.1 a.2)).map EV.pM)= .slice 1 ((mP a.1 a.2).map sV):=by kernel_rfl
def aPs (a:ByteArray×ByteArray)(r:EV.rX Un lI.rs)(hr:gd (a.1.size<4294967281/\1<=a.2.size) (some (mP a.1 a.2))=some r):Spec Tryz.prog G0 269 ((EV.bM Yn lI.ar a).map EV.pM) (λv=>v=jY ((EV.bM Yn lI.rs r).map EV.pM)):=by
 unfold gd at hr;split at hr
 ·rename_i hp;have e:=ak hr;subst e;rw[aPq,aPr];exact bJk aKv (λs sep m w a b c=>Tryz.strings_Split s sep m w a b c) a.1 a.2 hp.1 hp.2
 ·cases hr
def Qm:EV.zF Tryz.prog G0 Yn 269 lI:=λ(a:ByteArray×ByteArray) r hr=>⟨λ_ _=>aPs a r hr,λ_ h=>absurd (show false=true from h) db,λh=>absurd (show false=true from h) db,λh=>absurd (show false=true from h) db⟩
def mV:EV.Sum Un:=⟨[.sl 9, .str],[.str],false,false,λ(a:(List ByteArray)×ByteArray)=>gd (0<a.1.length/\(sN a.2 a.1).size<=140737488355328/\a.1.length<=140737488355328) (some (sN a.2 a.1))⟩
def aPt (args:Array Value)(w:World):(callFunc 270 args).run Tryz.prog w= .ok (.enter 270 args) w:=by kernel_rfl
def aUx (a:(List ByteArray)×ByteArray):(EV.bM Yn mV.ar a).map EV.pM=[.slice 1 (a.1.map sV), .str a.2]:=by kernel_rfl
def aUy (a:(List ByteArray)×ByteArray):jY ((EV.bM Yn mV.rs (sN a.2 a.1)).map EV.pM)= .str (sN a.2 a.1):=by kernel_rfl
def aUz (a:(List ByteArray)×ByteArray)(r:EV.rX Un mV.rs)(hr:gd (0<a.1.length/\(sN a.2 a.1).size<=140737488355328/\a.1.length<=140737488355328) (some (sN a.2 a.1))=some r):Spec Tryz.prog G0 270 ((EV.bM Yn mV.ar a).map EV.pM) (λv=>v=jY ((EV.bM Yn mV.rs r).map EV.pM)):=by
 unfold gd at hr;split at hr
 ·rename_i hp;have e:=ak hr;subst e;rw[aUx,aUy];exact bNt aPt Tryz.strings_Join a.1 a.2 (by intro h;have:=hp.1;rw[h] at this;simp at this) hp.2.1 hp.2.2
 ·cases hr
def aU0:EV.zF Tryz.prog G0 Yn 270 mV:=λ(a:(List ByteArray)×ByteArray) r hr=>⟨λ_ _=>aUz a r hr,λ_ h=>absurd (show false=true from h) db,λh=>absurd (show false=true from h) db,λh=>absurd (show false=true from h) db⟩
def jC:EV.Sum Un:=⟨[.str, .str],[.int .i64],false,false,λ(a:ByteArray×ByteArray)=>gd (a.2.size=1) (some (Lib.indexByte a.1.data.toList (a.2.data.toList.getD 0 0)))⟩
def Vs (args:Array Value)(w:World):(callFunc 313 args).run Tryz.prog w= .ok (.enter 313 args) w:=by kernel_rfl
def F7 (a:ByteArray×ByteArray):(EV.bM Yn jC.ar a).map EV.pM=[.str a.1, .str a.2]:=by kernel_rfl
def F8 (a:ByteArray×ByteArray):jY ((EV.bM Yn jC.rs (Lib.indexByte a.1.data.toList (a.2.data.toList.getD 0 0))).map EV.pM)= .int .i64 (Lib.indexByte a.1.data.toList (a.2.data.toList.getD 0 0)):=by kernel_rfl
def F9 (a:ByteArray×ByteArray)(r:EV.rX Un jC.rs)(hr:gd (a.2.size=1) (some (Lib.indexByte a.1.data.toList (a.2.data.toList.getD 0 0)))=some r):Spec Tryz.prog G0 313 ((EV.bM Yn jC.ar a).map EV.pM) (λv=>v=jY ((EV.bM Yn jC.rs r).map EV.pM)):=by
 unfold gd at hr;split at hr
 ·rename_i hp;have e:=ak hr;subst e;rw[F7,F8];exact bJj Vs (λs c w=>Tryz.stringslite_Index_one s c w) a.1 a.2 hp
 ·cases hr
def zI:EV.zF Tryz.prog G0 Yn 313 jC:=λ(a:ByteArray×ByteArray) r hr=>⟨λ_ _=>F9 a r hr,λ_ h=>absurd (show false=true from h) db,λh=>absurd (show false=true from h) db,λh=>absurd (show false=true from h) db⟩
def aPu:EV.Sum Un:=⟨[.str],[.int .i64, .bool],false,false,λ(a:ByteArray)=>none⟩
def aPv:OK 343 aPu:=λ_ _ h=>nomatch h
def aKw:EV.Sum Un:=⟨[.int .i64],[.str],false,false,λ(a:Int)=>none⟩
def aKx:OK 213 aKw:=λ_ _ h=>nomatch h
end
end Go.VK
