import Derived.Test.YtpnhnhhcncnldaaGreatDoorXtFF
import Derived.Test.YtpnhnhhcncnldaaGreatDoorEVyltod
import Derived.Test.YtpnhnhhcncnldaaGreatDoorProg
import Derived.Test.YtpnhnhhcncnldaaGreatDoorTryzShelf
/- Printed by wip/tools: models, walks, proofs. -/
set_option linter.all false
set_option maxRecDepth 100000
set_option maxHeartbeats 4000000
namespace Go.VK
open Go.RowKit Go.Proofs D
noncomputable section
abbrev G0:GI:=bWo 0
def El:Nat->Type
 |5=>Int
 |59=>AK
 |78=>AF
 |101=>AH
 |48=>AB
 |61=>AD
 |4=>Bool
 |211=>AO
 |29=>AN
 |109=>AI
 |32=>AM
 |124=>AV
 |122=>AJ
 |213=>A3
 |89=>AP
 |3=>Int
 |91=>AC
 |35=>A4
 |128=>AU
 |130=>AZ
 |133=>AG
 |180=>AX
 |39=>AS
 |41=>AA
 |71=>A0
 |80=>AR
 |216=>AQ
 |55=>List Int
 |9=>ByteArray
 |251=>AY
 |_=>Empty
def bVi:(τ:Nat)->El τ->List V
 |5=>y8
 |59=>AK.V
 |78=>AF.V
 |101=>AH.V
 |48=>AB.V
 |61=>AD.V
 |4=>bV
 |211=>AO.V
 |29=>AN.V
 |109=>AI.V
 |32=>AM.V
 |124=>AV.V
 |122=>AJ.V
 |213=>A3.V
 |89=>AP.V
 |3=>iV
 |91=>AC.V
 |35=>A4.V
 |128=>AU.V
 |130=>AZ.V
 |133=>AG.V
 |180=>AX.V
 |39=>AS.V
 |41=>AA.V
 |71=>A0.V
 |80=>AR.V
 |216=>AQ.V
 |55=>(λl=>[V.slice 1 (l.map iV)])
 |9=>sV
 |251=>AY.V
 |_=>λ_=>[]
def Un:EV.Uni:=⟨El,λ|5=>1|59=>4|78=>6|101=>4|48=>1|61=>9|4=>1|211=>4|29=>2|109=>4|32=>4|124=>4|122=>3|213=>3|89=>3|3=>1|91=>6|35=>4|128=>2|130=>5|133=>7|180=>4|39=>1|41=>16|71=>5|80=>3|216=>3|55=>1|9=>1|251=>7|_=>0,bVi⟩
def aZ9:(τ:Nat)->El τ->List (EV.Lf Un)
 |5=>λx=>[.int .u8 x]
 |59=>λx=>[.int .i64 x.Vendor, .int .i64 x.Serial, .int .i64 x.Seed, .int .i64 x.Counter]
 |78=>λx=>[.int .i64 x.Index, .int .i64 x.Kind, .int .i64 x.Device, .int .i64 x.By, .int .i64 x.Previous, .int .i64 x.Signature]
 |101=>λx=>[.int .i64 x.Site, .int .i64 x.Handle, .int .i64 x.Version, .bool x.Deleted]
 |48=>λx=>[.sl 101 x.Entries]
 |61=>λx=>[.int .i64 x.Store.Vendor, .int .i64 x.Store.Serial, .int .i64 x.Store.Seed, .int .i64 x.Store.Counter, .sl 78 x.Log, .int .i64 x.Key, .int .i64 x.Epoch, .int .i64 x.Version, .sl 101 x.aAD.Entries]
 |4=>λx=>[.bool x]
 |211=>λx=>[.int .i64 x.To, .int .i64 x.Ephemeral, .sl 5 x.Data, .int .i64 x.MAC]
 |29=>λx=>[.int .i64 x.Epoch, .sl 211 x.Boxes]
 |109=>λx=>[.int .i64 x.Epoch, .int .i64 x.Version, .sl 5 x.Data, .int .i64 x.MAC]
 |32=>λx=>[.sl 78 x.Log, .int .i64 x.Boxes.Epoch, .sl 211 x.Boxes.Boxes, .sl 109 x.History]
 |124=>λx=>[.int .i64 x.Handle, .int .i64 x.Public, .int .i64 x.Counter, .bool x.Cut]
 |122=>λx=>[.int .i64 x.Id, .int .i64 x.Minimum, .sl 124 x.Credentials]
 |213=>λx=>[.int .i64 x.Id, .int .i64 x.aAH, .int .i64 x.Until]
 |89=>λx=>[.int .i64 x.Seed, .int .i64 x.Next, .sl 213 x.Open]
 |3=>λx=>[.int .i64 x]
 |91=>λx=>[.str x.Name, .sl 122 x.Accounts, .int .i64 x.Book.Seed, .int .i64 x.Book.Next, .sl 213 x.Book.Open, .sl 3 x.Logins]
 |35=>λx=>[.int .i64 x.Salt, .int .i64 x.Threshold, .int .i64 x.Check, .int .i64 x.Masked]
 |128=>λx=>[.int .i64 x.Index, .int .i64 x.Value]
 |130=>λx=>[.int .i64 x.aAQ.Index, .int .i64 x.aAQ.Value, .int .i64 x.Epoch, .int .i64 x.Guesses, .int .i64 x.Limit]
 |133=>λx=>[.int .i64 x.State.aAQ.Index, .int .i64 x.State.aAQ.Value, .int .i64 x.State.Epoch, .int .i64 x.State.Guesses, .int .i64 x.State.Limit, .sl 130 x.Saved, .int .i64 x.Monotonic]
 |180=>λx=>[.int .i64 x.Kind, .int .i64 x.aAH, .int .i64 x.Time, .bool x.Seen]
 |39=>λx=>[.sl 180 x.Notices]
 |41=>λx=>[.int .i64 x.Now, .int .i64 x.Seed, .sl 61 x.Devices, .sl 4 x.Stolen, .sl 78 x.aAC.Log, .int .i64 x.aAC.Boxes.Epoch, .sl 211 x.aAC.Boxes.Boxes, .sl 109 x.aAC.History, .sl 91 x.Sites, .int .i64 x.aAO.Salt, .int .i64 x.aAO.Threshold, .int .i64 x.aAO.Check, .int .i64 x.aAO.Masked, .sl 133 x.Hosts, .int .i64 x.Pin, .sl 180 x.Mail.Notices]
 |71=>λx=>[.int .i64 x.Kind, .int .i64 x.Device, .int .i64 x.Other, .int .i64 x.Value, .bool x.Flag]
 |80=>λx=>[.sl 5 x.b, .int .i64 x.i, .int .i64 x.h]
 |216=>λx=>[.bool x.Secure, .str x.Host, .int .i64 x.Port]
 |55=>λx=>[.sl 3 x]
 |9=>λx=>[.str x]
 |251=>λx=>[.str x.Site, .str x.aAK, .int .i64 x.aAL, .int .i64 x.Handle, .bool x.Present, .int .i64 x.Counter, .int .i64 x.Signature]
 |_=>λ_=>[]
def Tq:Nat->List EV.Kd
 |5=>[.int .u8]
 |59=>[.int .i64, .int .i64, .int .i64, .int .i64]
 |78=>[.int .i64, .int .i64, .int .i64, .int .i64, .int .i64, .int .i64]
 |101=>[.int .i64, .int .i64, .int .i64, .bool]
 |48=>[.sl 101]
 |61=>[.int .i64, .int .i64, .int .i64, .int .i64, .sl 78, .int .i64, .int .i64, .int .i64, .sl 101]
 |4=>[.bool]
 |211=>[.int .i64, .int .i64, .sl 5, .int .i64]
 |29=>[.int .i64, .sl 211]
 |109=>[.int .i64, .int .i64, .sl 5, .int .i64]
 |32=>[.sl 78, .int .i64, .sl 211, .sl 109]
 |124=>[.int .i64, .int .i64, .int .i64, .bool]
 |122=>[.int .i64, .int .i64, .sl 124]
 |213=>[.int .i64, .int .i64, .int .i64]
 |89=>[.int .i64, .int .i64, .sl 213]
 |3=>[.int .i64]
 |91=>[.str, .sl 122, .int .i64, .int .i64, .sl 213, .sl 3]
 |35=>[.int .i64, .int .i64, .int .i64, .int .i64]
 |128=>[.int .i64, .int .i64]
 |130=>[.int .i64, .int .i64, .int .i64, .int .i64, .int .i64]
 |133=>[.int .i64, .int .i64, .int .i64, .int .i64, .int .i64, .sl 130, .int .i64]
 |180=>[.int .i64, .int .i64, .int .i64, .bool]
 |39=>[.sl 180]
 |41=>[.int .i64, .int .i64, .sl 61, .sl 4, .sl 78, .int .i64, .sl 211, .sl 109, .sl 91, .int .i64, .int .i64, .int .i64, .int .i64, .sl 133, .int .i64, .sl 180]
 |71=>[.int .i64, .int .i64, .int .i64, .int .i64, .bool]
 |80=>[.sl 5, .int .i64, .int .i64]
 |216=>[.bool, .str, .int .i64]
 |55=>[.sl 3]
 |9=>[.str]
 |251=>[.str, .str, .int .i64, .int .i64, .bool, .int .i64, .int .i64]
 |_=>[]
def bWz:(τ:Nat)->List (EV.Lf Un)->Option (El τ)
 |5=>EV.mI (Tq 5) (λx=>x)
 |59=>EV.mI (Tq 59) AK.mk
 |78=>EV.mI (Tq 78) AF.mk
 |101=>EV.mI (Tq 101) AH.mk
 |48=>EV.mI (Tq 48) AB.mk
 |61=>EV.mI (Tq 61) (λa0 a b c d e f h i=>(⟨⟨a0,a,b,c⟩,d,e,f,h,⟨i⟩⟩:AD))
 |4=>EV.mI (Tq 4) (λx=>x)
 |211=>EV.mI (Tq 211) AO.mk
 |29=>EV.mI (Tq 29) AN.mk
 |109=>EV.mI (Tq 109) AI.mk
 |32=>EV.mI (Tq 32) (λa0 a b c=>(⟨a0,⟨a,b⟩,c⟩:AM))
 |124=>EV.mI (Tq 124) AV.mk
 |122=>EV.mI (Tq 122) AJ.mk
 |213=>EV.mI (Tq 213) A3.mk
 |89=>EV.mI (Tq 89) AP.mk
 |3=>EV.mI (Tq 3) (λx=>x)
 |91=>EV.mI (Tq 91) (λa0 a b c d e=>(⟨a0,a,⟨b,c,d⟩,e⟩:AC))
 |35=>EV.mI (Tq 35) A4.mk
 |128=>EV.mI (Tq 128) AU.mk
 |130=>EV.mI (Tq 130) (λa0 a b c d=>(⟨⟨a0,a⟩,b,c,d⟩:AZ))
 |133=>EV.mI (Tq 133) (λa0 a b c d e f=>(⟨⟨⟨a0,a⟩,b,c,d⟩,e,f⟩:AG))
 |180=>EV.mI (Tq 180) AX.mk
 |39=>EV.mI (Tq 39) AS.mk
 |41=>EV.mI (Tq 41) (λa0 a b c d e f h i p j k l m n o=>(⟨a0,a,b,c,⟨d,⟨e,f⟩,h⟩,i,⟨p,j,k,l⟩,m,n,⟨o⟩⟩:AA))
 |71=>EV.mI (Tq 71) A0.mk
 |80=>EV.mI (Tq 80) AR.mk
 |216=>EV.mI (Tq 216) AQ.mk
 |55=>EV.mI (Tq 55) (λx=>x)
 |9=>EV.mI (Tq 9) (λx=>x)
 |251=>EV.mI (Tq 251) AY.mk
 |_=>λ_=>none
def TI:List (Nat×EV.TInfo):=[
 (3,⟨.int .i64,1,[.int .i64]⟩),
 (4,⟨.bool,1,[.bool]⟩),
 (5,⟨.int .u8,1,[.int .u8]⟩),
 (9,⟨.str,1,[.str]⟩),
 (22,⟨.sl 5 1 1,1,[.nil]⟩),
 (24,⟨.sl 61 9 104,1,[.nil]⟩),
 (25,⟨.sl 4 1 1,1,[.nil]⟩),
 (26,⟨.sl 78 6 48,1,[.nil]⟩),
 (27,⟨.sl 211 4 48,1,[.nil]⟩),
 (29,⟨.st [(0,3,1),(1,27,1)],2,[.int .i64, .nil]⟩),
 (30,⟨.sl 109 4 48,1,[.nil]⟩),
 (32,⟨.st [(0,26,1),(1,29,2),(3,30,1)],4,[.nil, .int .i64, .nil, .nil]⟩),
 (33,⟨.sl 91 6 104,1,[.nil]⟩),
 (35,⟨.st [(0,3,1),(1,3,1),(2,3,1),(3,3,1)],4,[.int .i64, .int .i64, .int .i64, .int .i64]⟩),
 (36,⟨.sl 133 7 72,1,[.nil]⟩),
 (37,⟨.sl 180 4 32,1,[.nil]⟩),
 (39,⟨.st [(0,37,1)],1,[.nil]⟩),
 (41,⟨.st [(0,3,1),(1,3,1),(2,24,1),(3,25,1),(4,32,4),(8,33,1),(9,35,4),(13,36,1),(14,3,1),(15,39,1)],16,[.int .i64, .int .i64, .nil, .nil, .nil, .int .i64, .nil, .nil, .nil, .int .i64, .int .i64, .int .i64, .int .i64, .nil, .int .i64, .nil]⟩),
 (42,⟨.sl 71 5 40,1,[.nil]⟩),
 (46,⟨.sl 101 4 32,1,[.nil]⟩),
 (48,⟨.st [(0,46,1)],1,[.nil]⟩),
 (55,⟨.sl 3 1 8,1,[.nil]⟩),
 (59,⟨.st [(0,3,1),(1,3,1),(2,3,1),(3,3,1)],4,[.int .i64, .int .i64, .int .i64, .int .i64]⟩),
 (61,⟨.st [(0,59,4),(4,26,1),(5,3,1),(6,3,1),(7,3,1),(8,48,1)],9,[.int .i64, .int .i64, .int .i64, .int .i64, .nil, .int .i64, .int .i64, .int .i64, .nil]⟩),
 (71,⟨.st [(0,3,1),(1,3,1),(2,3,1),(3,3,1),(4,4,1)],5,[.int .i64, .int .i64, .int .i64, .int .i64, .bool]⟩),
 (78,⟨.st [(0,3,1),(1,3,1),(2,3,1),(3,3,1),(4,3,1),(5,3,1)],6,[.int .i64, .int .i64, .int .i64, .int .i64, .int .i64, .int .i64]⟩),
 (80,⟨.st [(0,22,1),(1,3,1),(2,3,1)],3,[.nil, .int .i64, .int .i64]⟩),
 (86,⟨.sl 122 3 40,1,[.nil]⟩),
 (87,⟨.sl 213 3 24,1,[.nil]⟩),
 (89,⟨.st [(0,3,1),(1,3,1),(2,87,1)],3,[.int .i64, .int .i64, .nil]⟩),
 (91,⟨.st [(0,9,1),(1,86,1),(2,89,3),(5,55,1)],6,[.str, .nil, .int .i64, .int .i64, .nil, .nil]⟩),
 (101,⟨.st [(0,3,1),(1,3,1),(2,3,1),(3,4,1)],4,[.int .i64, .int .i64, .int .i64, .bool]⟩),
 (109,⟨.st [(0,3,1),(1,3,1),(2,22,1),(3,3,1)],4,[.int .i64, .int .i64, .nil, .int .i64]⟩),
 (120,⟨.sl 124 4 32,1,[.nil]⟩),
 (122,⟨.st [(0,3,1),(1,3,1),(2,120,1)],3,[.int .i64, .int .i64, .nil]⟩),
 (124,⟨.st [(0,3,1),(1,3,1),(2,3,1),(3,4,1)],4,[.int .i64, .int .i64, .int .i64, .bool]⟩),
 (128,⟨.st [(0,3,1),(1,3,1)],2,[.int .i64, .int .i64]⟩),
 (130,⟨.st [(0,128,2),(2,3,1),(3,3,1),(4,3,1)],5,[.int .i64, .int .i64, .int .i64, .int .i64, .int .i64]⟩),
 (131,⟨.sl 130 5 40,1,[.nil]⟩),
 (133,⟨.st [(0,130,5),(5,131,1),(6,3,1)],7,[.int .i64, .int .i64, .int .i64, .int .i64, .int .i64, .nil, .int .i64]⟩),
 (180,⟨.st [(0,3,1),(1,3,1),(2,3,1),(3,4,1)],4,[.int .i64, .int .i64, .int .i64, .bool]⟩),
 (206,⟨.sl 128 2 16,1,[.nil]⟩),
 (211,⟨.st [(0,3,1),(1,3,1),(2,22,1),(3,3,1)],4,[.int .i64, .int .i64, .nil, .int .i64]⟩),
 (213,⟨.st [(0,3,1),(1,3,1),(2,3,1)],3,[.int .i64, .int .i64, .int .i64]⟩),
 (216,⟨.st [(0,4,1),(1,9,1),(2,3,1)],3,[.bool, .str, .int .i64]⟩),
 (234,⟨.sl 55 1 24,1,[.nil]⟩),
 (241,⟨.sl 9 1 16,1,[.nil]⟩),
 (251,⟨.st [(0,9,1),(1,9,1),(2,3,1),(3,3,1),(4,4,1),(5,3,1),(6,3,1)],7,[.str, .str, .int .i64, .int .i64, .bool, .int .i64, .int .i64]⟩)]
def lay (τ:Nat):(∀x:El τ,((aZ9 τ x).map EV.Lf.toV=bVi τ x/\(aZ9 τ x).length=Un.K τ)/\(aZ9 τ x).map EV.kdL=(Tq τ).map some)/\∀(cs:List (EV.Lf Un)) (x:El τ),bWz τ cs=some x->cs=aZ9 τ x:=by
 by_cases h:τ∈[5,59,78,101,48,61,4,211,29,109,32,124,122,213,89,3,91,35,128,130,133,180,39,41,71,80,216,55,9,251]
 ·simp only[ba,gR,or_false] at h;rcases h with rfl|rfl|rfl|rfl|rfl|rfl|rfl|rfl|rfl|rfl|rfl|rfl|rfl|rfl|rfl|rfl|rfl|rfl|rfl|rfl|rfl|rfl|rfl|rfl|rfl|rfl|rfl|rfl|rfl|rfl<;>exact⟨λ_=>⟨⟨rfl,rfl⟩,rfl⟩,λ_ _ h=>by obtain⟨t,rfl,rfl⟩:=EV.bG2 h;rfl⟩
 ·have e:El τ=Empty:=by unfold El;split<;>first|(exfalso;revert h;decide)|rfl
  exact⟨λx=>(cast e x).elim,λ_ x=>(cast e x).elim⟩
def hc1 (τ:Nat)(x:El τ):(aZ9 τ x).map EV.Lf.toV=bVi τ x:=((lay τ).1 x).1.1
def hc2 (τ:Nat)(x:El τ):(aZ9 τ x).length=Un.K τ:=((lay τ).1 x).1.2
def hc3 (τ:Nat)(x:El τ)(c:EV.Lf Un)(hc:c∈aZ9 τ x):c.aBB=true:=EV.bMj ((lay τ).1 x).2 c hc
def Yn:EV.Lay Un:=⟨⟨aZ9,bWz,hc1,hc2,hc3,λτ=>(lay τ).2⟩,Tq,5,λn=>n,λn=>n,λ_=>rfl,λ_=>rfl⟩
def ly1 (τ:Nat)(x:El τ):(aZ9 τ x).map EV.kdL=(Tq τ).map some:=((lay τ).1 x).2
def ly2:∀(τ τ':Nat),EV.Kd.sl τ'∈Tq τ->0<Un.K τ':=by intro τ τ' h;unfold Tq at h;split at h<;>simp only[ba,gR,or_false,reduceCtorEq,false_or,or_self,EV.Kd.sl.injEq] at h<;>first|exact h.elim|(subst h;exact bf rfl)|(rcases h with h|h|h|h|h|h|h|h<;>(subst h;exact bf rfl))|(rcases h with h|h|h|h|h|h|h<;>(subst h;exact bf rfl))|(rcases h with h|h|h|h|h|h<;>(subst h;exact bf rfl))|(rcases h with h|h|h|h|h<;>(subst h;exact bf rfl))|(rcases h with h|h|h|h<;>(subst h;exact bf rfl))|(rcases h with h|h|h<;>(subst h;exact bf rfl))|(rcases h with h|h<;>(subst h;exact bf rfl))
def bW0:EV.LayOk Yn:=⟨ly1,ly2⟩
def Ai (f:Func):Code:=match f.body with|some c=>c|none=> .skip
def T.mix:Tryz.prog.follows .mixedOrders=true:=by kernel_rfl
def aI:EV.Good Tryz.prog G0 Yn TI []:=⟨by kernel_rfl,bW0,λf S h=>by simp at h⟩
abbrev SU:=EV.Sum Un
def OK (f:Nat)(S:SU):Prop:=EV.Dl Tryz.prog G0 Yn f S
def bW1:SU:=⟨[],[],false,false,λ_=>none⟩
def bPb (f:Nat):OK f bW1:=λ_ _ hr=>nomatch hr
def SIl:SU:=⟨[],[],false,true,λ_=>none⟩
def sIl (f:Nat):OK f SIl:=λ_ _ hr=>nomatch hr
def IL:EV.Il:=[(15,Ai Tryz.f15,32,[.tmp 2]),(95,Ai Tryz.f95,52,[.tmp 4]),(115,Ai Tryz.f115,111,[.tmp 10]),(121,Ai Tryz.f121,48,[.tmp 4]),(119,Ai Tryz.f119,23,[]),(285,Ai Tryz.f285,53,[.cell 4 133, .tmp 5, .tmp 6]),(67,Ai Tryz.f67,42,[.cell 4 41, .tmp 5])]
def bTc:EV.uB Tryz.prog IL:=EV.P7 Tryz.func15 rfl Tryz.ntmps15 rfl (λ_ _=>by kernel_rfl)<|EV.P7 Tryz.func95 rfl Tryz.ntmps95 rfl (λ_ _=>by kernel_rfl)<|EV.P7 Tryz.func115 rfl Tryz.ntmps115 rfl (λ_ _=>by kernel_rfl)<|EV.P7 Tryz.func121 rfl Tryz.ntmps121 rfl (λ_ _=>by kernel_rfl)<|EV.P7 Tryz.func119 rfl Tryz.ntmps119 rfl (λ_ _=>by kernel_rfl)<|EV.P7 Tryz.func285 rfl Tryz.ntmps285 rfl (λ_ _=>by kernel_rfl)<|EV.P7 Tryz.func67 rfl Tryz.ntmps67 rfl (λ_ _=>by kernel_rfl)<|EV.bUs
def od (n:Nat)(l:List Nat):List (Nat×Bool):=(List.range n).map λi=>(i, !l.contains i)
def gc {f:Nat}{S:SU}{FZ:List (Nat×SU)}(h:OK f S)(G:EV.Good Tryz.prog G0 Yn TI FZ):EV.Good Tryz.prog G0 Yn TI ((f,S)::FZ):=EV.aXl h G
def gcp {f:Nat}{S:SU}{FZ:List (Nat×SU)}(h:OK f S)(G:EV.Good Tryz.prog G0 Yn TI FZ)(a:S.wt=false:=by rfl)(b:S.fr=true:=by rfl):EV.Good Tryz.prog G0 Yn TI ((f,S.pl)::FZ):=EV.aXl (EV.bMq h a b) G
def mkS {f:FuncId}{fn:Func}{n:Nat}{S:SU}{FZ:List (Nat×SU)}{m:EV.rU Un S.ar->Option (EV.rU Un S.rs)}(an:EV.An)(l:List ResultVar)(G:EV.Good Tryz.prog G0 Yn TI FZ)(hf:Tryz.prog.funcs[f]? =some fn)(hn:fn.ntmps=n)(ht:∀a r,S.m a=some r->m a=some r)(h:∀a,(fn.name== "runtime.NumGoroutine",EV.evF Yn TI FZ IL an (Ai fn) n S.ar S.rs S.fr l a)=(false,m a):=by intro _;kernel_rfl)(hb:fn.body=some (Ai fn):=by rfl)(hl:fn.results=l.toArray:=by rfl)(hlen:S.ar.length<=n:=by decide)(hw:S.wt=false:=by rfl):OK f S:=
 λa r hr=>EV.bUv (an:=λ_=>an) G T.mix bTc hf hb hn hl (EV.bBj hf hb (congrArg Prod.fst (h a))) hlen hw (λa r hr=>(congrArg Prod.snd (h a)).trans (ht a r hr)) a r hr
def mkP {f:FuncId}{fn:Func}{n T:Nat}{ks rs:List EV.Kd}{M m:EV.rU Un (.st T::ks)->Option (EV.rU Un (.st T::rs))}{FZ:List (Nat×SU)}(an:EV.An)(l:List ResultVar)(G:EV.Good Tryz.prog G0 Yn TI FZ)(hf:Tryz.prog.funcs[f]? =some fn)(hn:fn.ntmps=n)(ht:∀a r,M a=some r->m a=some r)(h:∀a,(fn.name== "runtime.NumGoroutine",EV.evP Yn TI FZ IL an (Ai fn) n T ks rs l a)=(false,m a))(hb:fn.body=some (Ai fn):=by rfl)(hl:fn.results=l.toArray:=by rfl)(hlen:ks.length+1<=n:=by decide):OK f ⟨.st T::ks, .st T::rs,true,true,M⟩:=
 λa r hr=>EV.bUz (an:=λ_=>an) G Go.VK.T.mix bTc hf hb hn hl (EV.bBj hf hb (congrArg Prod.fst (h a))) hlen (λa r hr=>(congrArg Prod.snd (h a)).trans (ht a r hr)) a r hr
def kS:EV.Sum Un:=⟨[.str, .str],[.sl 9],false,false,λ(a:ByteArray×ByteArray)=>gd (a.1.size<4294967281/\1<=a.2.size) (some (lV a.1 a.2))⟩
def aHu (args:Array Value)(w:World):(callFunc 237 args).run Tryz.prog w= .ok (.enter 237 args) w:=by kernel_rfl
def aL8 (a:ByteArray×ByteArray):(EV.cO Yn kS.ar a).map EV.zA=[.str a.1, .str a.2]:=by kernel_rfl
def aL9 (a:ByteArray×ByteArray):nY ((EV.cO Yn kS.rs (lV a.1 a.2)).map EV.zA)= .slice 1 ((lV a.1 a.2).map sV):=by kernel_rfl
def aMa (a:ByteArray×ByteArray)(r:EV.rU Un kS.rs)(hr:gd (a.1.size<4294967281/\1<=a.2.size) (some (lV a.1 a.2))=some r):Spec Tryz.prog G0 237 ((EV.cO Yn kS.ar a).map EV.zA) (λv=>v=nY ((EV.cO Yn kS.rs r).map EV.zA)):=by
 unfold gd at hr;split at hr
 ·rename_i hp;have e:=aq hr;subst e;rw[aL8,aL9];exact bEx aHu (λs sep m w a b c=>Tryz.strings_Split s sep m w a b c) a.1 a.2 hp.1 hp.2
 ·cases hr
def Og:EV.Dl Tryz.prog G0 Yn 237 kS:=λ(a:ByteArray×ByteArray) r hr=>⟨λ_ _=>aMa a r hr,λ_ h=>absurd (show false=true from h) fh,λh=>absurd (show false=true from h) fh,λh=>absurd (show false=true from h) fh⟩
def lZ:EV.Sum Un:=⟨[.sl 9, .str],[.str],false,false,λ(a:(List ByteArray)×ByteArray)=>gd (0<a.1.length/\(rA a.2 a.1).size<=140737488355328/\a.1.length<=140737488355328) (some (rA a.2 a.1))⟩
def aMb (args:Array Value)(w:World):(callFunc 238 args).run Tryz.prog w= .ok (.enter 238 args) w:=by kernel_rfl
def aQ5 (a:(List ByteArray)×ByteArray):(EV.cO Yn lZ.ar a).map EV.zA=[.slice 1 (a.1.map sV), .str a.2]:=by kernel_rfl
def aQ6 (a:(List ByteArray)×ByteArray):nY ((EV.cO Yn lZ.rs (rA a.2 a.1)).map EV.zA)= .str (rA a.2 a.1):=by kernel_rfl
def aQ7 (a:(List ByteArray)×ByteArray)(r:EV.rU Un lZ.rs)(hr:gd (0<a.1.length/\(rA a.2 a.1).size<=140737488355328/\a.1.length<=140737488355328) (some (rA a.2 a.1))=some r):Spec Tryz.prog G0 238 ((EV.cO Yn lZ.ar a).map EV.zA) (λv=>v=nY ((EV.cO Yn lZ.rs r).map EV.zA)):=by
 unfold gd at hr;split at hr
 ·rename_i hp;have e:=aq hr;subst e;rw[aQ5,aQ6];exact bIu aMb Tryz.strings_Join a.1 a.2 (by intro h;have:=hp.1;rw[h] at this;simp at this) hp.2.1 hp.2.2
 ·cases hr
def aQ8:EV.Dl Tryz.prog G0 Yn 238 lZ:=λ(a:(List ByteArray)×ByteArray) r hr=>⟨λ_ _=>aQ7 a r hr,λ_ h=>absurd (show false=true from h) fh,λh=>absurd (show false=true from h) fh,λh=>absurd (show false=true from h) fh⟩
def aMc:EV.Sum Un:=⟨[.str],[.int .i64, .bool],false,false,λ(a:ByteArray)=>none⟩
def aMd:OK 314 aMc:=λ_ _ h=>nomatch h
def aHv:EV.Sum Un:=⟨[.int .i64],[.str],false,false,λ(a:Int)=>none⟩
def aHw:OK 296 aHv:=λ_ _ h=>nomatch h
end
end Go.VK
