import Derived.Test.YtahdlpfokhapfaaGreatDoorXvFF
import Derived.Test.YtahdlpfokhapfaaGreatDoorEVyltod
import Derived.Test.YtahdlpfokhapfaaGreatDoorProg
import Derived.Test.YtahdlpfokhapfaaGreatDoorTryzShelf
/- Printed by wip/tools: models, walks, proofs. -/
set_option linter.all false
set_option maxRecDepth 100000
set_option maxHeartbeats 4000000
namespace Go.VK
open Go.RowKit Go.Proofs D
noncomputable section
abbrev G0:GI:=bE7 0
def El:Nat->Type
 |5=>Int
 |70=>AK
 |186=>AC
 |238=>AG
 |73=>AF
 |75=>AB
 |4=>Bool
 |243=>AN
 |29=>AM
 |124=>AI
 |32=>AO
 |68=>AP
 |60=>AH
 |240=>AY
 |64=>AQ
 |3=>Int
 |66=>AD
 |35=>A3
 |77=>AV
 |79=>AU
 |82=>AJ
 |133=>AS
 |39=>AR
 |41=>AA
 |144=>AZ
 |151=>A0
 |42=>List Int
 |9=>ByteArray
 |_=>Empty
def bD3:(τ:Nat)->El τ->List V
 |5=>y8
 |70=>AK.V
 |186=>AC.V
 |238=>AG.V
 |73=>AF.V
 |75=>AB.V
 |4=>bV
 |243=>AN.V
 |29=>AM.V
 |124=>AI.V
 |32=>AO.V
 |68=>AP.V
 |60=>AH.V
 |240=>AY.V
 |64=>AQ.V
 |3=>iV
 |66=>AD.V
 |35=>A3.V
 |77=>AV.V
 |79=>AU.V
 |82=>AJ.V
 |133=>AS.V
 |39=>AR.V
 |41=>AA.V
 |144=>AZ.V
 |151=>A0.V
 |42=>(λl=>[V.slice 1 (l.map iV)])
 |9=>sV
 |_=>λ_=>[]
def Un:EV.Uni:=⟨El,λ|5=>1|70=>4|186=>6|238=>4|73=>1|75=>9|4=>1|243=>4|29=>2|124=>4|32=>4|68=>4|60=>3|240=>3|64=>3|3=>1|66=>6|35=>4|77=>2|79=>5|82=>7|133=>4|39=>1|41=>16|144=>5|151=>3|42=>1|9=>1|_=>0,bD3⟩
def aKo:(τ:Nat)->El τ->List (EV.Lf Un)
 |5=>λx=>[.int .u8 x]
 |70=>λx=>[.int .i64 x.Vendor, .int .i64 x.Serial, .int .i64 x.Seed, .int .i64 x.Counter]
 |186=>λx=>[.int .i64 x.Index, .int .i64 x.Kind, .int .i64 x.Device, .int .i64 x.By, .int .i64 x.Previous, .int .i64 x.Signature]
 |238=>λx=>[.int .i64 x.Site, .int .i64 x.Handle, .int .i64 x.Version, .bool x.Deleted]
 |73=>λx=>[.sl 238 x.Entries]
 |75=>λx=>[.int .i64 x.Store.Vendor, .int .i64 x.Store.Serial, .int .i64 x.Store.Seed, .int .i64 x.Store.Counter, .sl 186 x.Log, .int .i64 x.Key, .int .i64 x.Epoch, .int .i64 x.Version, .sl 238 x.aAD.Entries]
 |4=>λx=>[.bool x]
 |243=>λx=>[.int .i64 x.To, .int .i64 x.Ephemeral, .sl 5 x.Data, .int .i64 x.MAC]
 |29=>λx=>[.int .i64 x.Epoch, .sl 243 x.Boxes]
 |124=>λx=>[.int .i64 x.Epoch, .int .i64 x.Version, .sl 5 x.Data, .int .i64 x.MAC]
 |32=>λx=>[.sl 186 x.Log, .int .i64 x.Boxes.Epoch, .sl 243 x.Boxes.Boxes, .sl 124 x.History]
 |68=>λx=>[.int .i64 x.Handle, .int .i64 x.Public, .int .i64 x.Counter, .bool x.Cut]
 |60=>λx=>[.int .i64 x.Id, .int .i64 x.Minimum, .sl 68 x.Credentials]
 |240=>λx=>[.int .i64 x.Id, .int .i64 x.aAH, .int .i64 x.Until]
 |64=>λx=>[.int .i64 x.Seed, .int .i64 x.Next, .sl 240 x.Open]
 |3=>λx=>[.int .i64 x]
 |66=>λx=>[.str x.Name, .sl 60 x.Accounts, .int .i64 x.Book.Seed, .int .i64 x.Book.Next, .sl 240 x.Book.Open, .sl 3 x.Logins]
 |35=>λx=>[.int .i64 x.Salt, .int .i64 x.Threshold, .int .i64 x.Check, .int .i64 x.Masked]
 |77=>λx=>[.int .i64 x.Index, .int .i64 x.Value]
 |79=>λx=>[.int .i64 x.aAQ.Index, .int .i64 x.aAQ.Value, .int .i64 x.Epoch, .int .i64 x.Guesses, .int .i64 x.Limit]
 |82=>λx=>[.int .i64 x.State.aAQ.Index, .int .i64 x.State.aAQ.Value, .int .i64 x.State.Epoch, .int .i64 x.State.Guesses, .int .i64 x.State.Limit, .sl 79 x.Saved, .int .i64 x.Monotonic]
 |133=>λx=>[.int .i64 x.Kind, .int .i64 x.aAH, .int .i64 x.Time, .bool x.Seen]
 |39=>λx=>[.sl 133 x.Notices]
 |41=>λx=>[.int .i64 x.Now, .int .i64 x.Seed, .sl 75 x.Devices, .sl 4 x.Stolen, .sl 186 x.aAB.Log, .int .i64 x.aAB.Boxes.Epoch, .sl 243 x.aAB.Boxes.Boxes, .sl 124 x.aAB.History, .sl 66 x.Sites, .int .i64 x.aAP.Salt, .int .i64 x.aAP.Threshold, .int .i64 x.aAP.Check, .int .i64 x.aAP.Masked, .sl 82 x.Hosts, .int .i64 x.Pin, .sl 133 x.Mail.Notices]
 |144=>λx=>[.int .i64 x.Kind, .int .i64 x.Device, .int .i64 x.Other, .int .i64 x.Value, .bool x.Flag]
 |151=>λx=>[.sl 5 x.b, .int .i64 x.i, .int .i64 x.h]
 |42=>λx=>[.sl 3 x]
 |9=>λx=>[.str x]
 |_=>λ_=>[]
def Kh:Nat->List EV.Kd
 |5=>[.int .u8]
 |70=>[.int .i64, .int .i64, .int .i64, .int .i64]
 |186=>[.int .i64, .int .i64, .int .i64, .int .i64, .int .i64, .int .i64]
 |238=>[.int .i64, .int .i64, .int .i64, .bool]
 |73=>[.sl 238]
 |75=>[.int .i64, .int .i64, .int .i64, .int .i64, .sl 186, .int .i64, .int .i64, .int .i64, .sl 238]
 |4=>[.bool]
 |243=>[.int .i64, .int .i64, .sl 5, .int .i64]
 |29=>[.int .i64, .sl 243]
 |124=>[.int .i64, .int .i64, .sl 5, .int .i64]
 |32=>[.sl 186, .int .i64, .sl 243, .sl 124]
 |68=>[.int .i64, .int .i64, .int .i64, .bool]
 |60=>[.int .i64, .int .i64, .sl 68]
 |240=>[.int .i64, .int .i64, .int .i64]
 |64=>[.int .i64, .int .i64, .sl 240]
 |3=>[.int .i64]
 |66=>[.str, .sl 60, .int .i64, .int .i64, .sl 240, .sl 3]
 |35=>[.int .i64, .int .i64, .int .i64, .int .i64]
 |77=>[.int .i64, .int .i64]
 |79=>[.int .i64, .int .i64, .int .i64, .int .i64, .int .i64]
 |82=>[.int .i64, .int .i64, .int .i64, .int .i64, .int .i64, .sl 79, .int .i64]
 |133=>[.int .i64, .int .i64, .int .i64, .bool]
 |39=>[.sl 133]
 |41=>[.int .i64, .int .i64, .sl 75, .sl 4, .sl 186, .int .i64, .sl 243, .sl 124, .sl 66, .int .i64, .int .i64, .int .i64, .int .i64, .sl 82, .int .i64, .sl 133]
 |144=>[.int .i64, .int .i64, .int .i64, .int .i64, .bool]
 |151=>[.sl 5, .int .i64, .int .i64]
 |42=>[.sl 3]
 |9=>[.str]
 |_=>[]
def bFw:(τ:Nat)->List (EV.Lf Un)->Option (El τ)
 |5=>EV.kM (Kh 5) (λx=>x)
 |70=>EV.kM (Kh 70) AK.mk
 |186=>EV.kM (Kh 186) AC.mk
 |238=>EV.kM (Kh 238) AG.mk
 |73=>EV.kM (Kh 73) AF.mk
 |75=>EV.kM (Kh 75) (λa0 a b c d e f h i=>(⟨⟨a0,a,b,c⟩,d,e,f,h,⟨i⟩⟩:AB))
 |4=>EV.kM (Kh 4) (λx=>x)
 |243=>EV.kM (Kh 243) AN.mk
 |29=>EV.kM (Kh 29) AM.mk
 |124=>EV.kM (Kh 124) AI.mk
 |32=>EV.kM (Kh 32) (λa0 a b c=>(⟨a0,⟨a,b⟩,c⟩:AO))
 |68=>EV.kM (Kh 68) AP.mk
 |60=>EV.kM (Kh 60) AH.mk
 |240=>EV.kM (Kh 240) AY.mk
 |64=>EV.kM (Kh 64) AQ.mk
 |3=>EV.kM (Kh 3) (λx=>x)
 |66=>EV.kM (Kh 66) (λa0 a b c d e=>(⟨a0,a,⟨b,c,d⟩,e⟩:AD))
 |35=>EV.kM (Kh 35) A3.mk
 |77=>EV.kM (Kh 77) AV.mk
 |79=>EV.kM (Kh 79) (λa0 a b c d=>(⟨⟨a0,a⟩,b,c,d⟩:AU))
 |82=>EV.kM (Kh 82) (λa0 a b c d e f=>(⟨⟨⟨a0,a⟩,b,c,d⟩,e,f⟩:AJ))
 |133=>EV.kM (Kh 133) AS.mk
 |39=>EV.kM (Kh 39) AR.mk
 |41=>EV.kM (Kh 41) (λa0 a b c d e f h i p j k l m n o=>(⟨a0,a,b,c,⟨d,⟨e,f⟩,h⟩,i,⟨p,j,k,l⟩,m,n,⟨o⟩⟩:AA))
 |144=>EV.kM (Kh 144) AZ.mk
 |151=>EV.kM (Kh 151) A0.mk
 |42=>EV.kM (Kh 42) (λx=>x)
 |9=>EV.kM (Kh 9) (λx=>x)
 |_=>λ_=>none
def TI:List (Nat×EV.TInfo):=[
 (3,⟨.int .i64,1,[.int .i64]⟩),
 (4,⟨.bool,1,[.bool]⟩),
 (5,⟨.int .u8,1,[.int .u8]⟩),
 (9,⟨.str,1,[.str]⟩),
 (22,⟨.sl 5 1 1,1,[.nil]⟩),
 (24,⟨.sl 75 9 104,1,[.nil]⟩),
 (25,⟨.sl 4 1 1,1,[.nil]⟩),
 (26,⟨.sl 186 6 48,1,[.nil]⟩),
 (27,⟨.sl 243 4 48,1,[.nil]⟩),
 (29,⟨.st [(0,3,1),(1,27,1)],2,[.int .i64, .nil]⟩),
 (30,⟨.sl 124 4 48,1,[.nil]⟩),
 (32,⟨.st [(0,26,1),(1,29,2),(3,30,1)],4,[.nil, .int .i64, .nil, .nil]⟩),
 (33,⟨.sl 66 6 104,1,[.nil]⟩),
 (35,⟨.st [(0,3,1),(1,3,1),(2,3,1),(3,3,1)],4,[.int .i64, .int .i64, .int .i64, .int .i64]⟩),
 (36,⟨.sl 82 7 72,1,[.nil]⟩),
 (37,⟨.sl 133 4 32,1,[.nil]⟩),
 (39,⟨.st [(0,37,1)],1,[.nil]⟩),
 (41,⟨.st [(0,3,1),(1,3,1),(2,24,1),(3,25,1),(4,32,4),(8,33,1),(9,35,4),(13,36,1),(14,3,1),(15,39,1)],16,[.int .i64, .int .i64, .nil, .nil, .nil, .int .i64, .nil, .nil, .nil, .int .i64, .int .i64, .int .i64, .int .i64, .nil, .int .i64, .nil]⟩),
 (42,⟨.sl 3 1 8,1,[.nil]⟩),
 (56,⟨.sl 144 5 40,1,[.nil]⟩),
 (58,⟨.sl 68 4 32,1,[.nil]⟩),
 (60,⟨.st [(0,3,1),(1,3,1),(2,58,1)],3,[.int .i64, .int .i64, .nil]⟩),
 (61,⟨.sl 60 3 40,1,[.nil]⟩),
 (62,⟨.sl 240 3 24,1,[.nil]⟩),
 (64,⟨.st [(0,3,1),(1,3,1),(2,62,1)],3,[.int .i64, .int .i64, .nil]⟩),
 (66,⟨.st [(0,9,1),(1,61,1),(2,64,3),(5,42,1)],6,[.str, .nil, .int .i64, .int .i64, .nil, .nil]⟩),
 (68,⟨.st [(0,3,1),(1,3,1),(2,3,1),(3,4,1)],4,[.int .i64, .int .i64, .int .i64, .bool]⟩),
 (70,⟨.st [(0,3,1),(1,3,1),(2,3,1),(3,3,1)],4,[.int .i64, .int .i64, .int .i64, .int .i64]⟩),
 (71,⟨.sl 238 4 32,1,[.nil]⟩),
 (73,⟨.st [(0,71,1)],1,[.nil]⟩),
 (75,⟨.st [(0,70,4),(4,26,1),(5,3,1),(6,3,1),(7,3,1),(8,73,1)],9,[.int .i64, .int .i64, .int .i64, .int .i64, .nil, .int .i64, .int .i64, .int .i64, .nil]⟩),
 (77,⟨.st [(0,3,1),(1,3,1)],2,[.int .i64, .int .i64]⟩),
 (79,⟨.st [(0,77,2),(2,3,1),(3,3,1),(4,3,1)],5,[.int .i64, .int .i64, .int .i64, .int .i64, .int .i64]⟩),
 (80,⟨.sl 79 5 40,1,[.nil]⟩),
 (82,⟨.st [(0,79,5),(5,80,1),(6,3,1)],7,[.int .i64, .int .i64, .int .i64, .int .i64, .int .i64, .nil, .int .i64]⟩),
 (124,⟨.st [(0,3,1),(1,3,1),(2,22,1),(3,3,1)],4,[.int .i64, .int .i64, .nil, .int .i64]⟩),
 (133,⟨.st [(0,3,1),(1,3,1),(2,3,1),(3,4,1)],4,[.int .i64, .int .i64, .int .i64, .bool]⟩),
 (144,⟨.st [(0,3,1),(1,3,1),(2,3,1),(3,3,1),(4,4,1)],5,[.int .i64, .int .i64, .int .i64, .int .i64, .bool]⟩),
 (151,⟨.st [(0,22,1),(1,3,1),(2,3,1)],3,[.nil, .int .i64, .int .i64]⟩),
 (186,⟨.st [(0,3,1),(1,3,1),(2,3,1),(3,3,1),(4,3,1),(5,3,1)],6,[.int .i64, .int .i64, .int .i64, .int .i64, .int .i64, .int .i64]⟩),
 (208,⟨.sl 77 2 16,1,[.nil]⟩),
 (235,⟨.sl 42 1 24,1,[.nil]⟩),
 (238,⟨.st [(0,3,1),(1,3,1),(2,3,1),(3,4,1)],4,[.int .i64, .int .i64, .int .i64, .bool]⟩),
 (240,⟨.st [(0,3,1),(1,3,1),(2,3,1)],3,[.int .i64, .int .i64, .int .i64]⟩),
 (243,⟨.st [(0,3,1),(1,3,1),(2,22,1),(3,3,1)],4,[.int .i64, .int .i64, .nil, .int .i64]⟩),
 (246,⟨.sl 9 1 16,1,[.nil]⟩),
 (318,⟨.st [],8,[.bool, .bool, .bool, .bool, .bool, .bool, .bool, .bool]⟩)]
def lay (τ:Nat):(∀x:El τ,((aKo τ x).map EV.Lf.toV=bD3 τ x/\(aKo τ x).length=Un.K τ)/\(aKo τ x).map EV.kdL=(Kh τ).map some)/\∀(cs:List (EV.Lf Un)) (x:El τ),bFw τ cs=some x->cs=aKo τ x:=by
 by_cases h:τ∈[5,70,186,238,73,75,4,243,29,124,32,68,60,240,64,3,66,35,77,79,82,133,39,41,144,151,42,9]
 ·simp only[ba,gk,or_false] at h;rcases h with rfl|rfl|rfl|rfl|rfl|rfl|rfl|rfl|rfl|rfl|rfl|rfl|rfl|rfl|rfl|rfl|rfl|rfl|rfl|rfl|rfl|rfl|rfl|rfl|rfl|rfl|rfl|rfl<;>exact⟨λ_=>⟨⟨rfl,rfl⟩,rfl⟩,λ_ _ h=>by obtain⟨t,rfl,rfl⟩:=EV.aQk h;rfl⟩
 ·have e:El τ=Empty:=by unfold El;split<;>first|(exfalso;revert h;decide)|rfl
  exact⟨λx=>(cast e x).elim,λ_ x=>(cast e x).elim⟩
def hc1 (τ:Nat)(x:El τ):(aKo τ x).map EV.Lf.toV=bD3 τ x:=((lay τ).1 x).1.1
def hc2 (τ:Nat)(x:El τ):(aKo τ x).length=Un.K τ:=((lay τ).1 x).1.2
def hc3 (τ:Nat)(x:El τ)(c:EV.Lf Un)(hc:c∈aKo τ x):c.aBA=true:=EV.aVm ((lay τ).1 x).2 c hc
def Yn:EV.Lay Un:=⟨⟨aKo,bFw,hc1,hc2,hc3,λτ=>(lay τ).2⟩,Kh,5,λn=>n,λn=>n,λ_=>rfl,λ_=>rfl⟩
def ly1 (τ:Nat)(x:El τ):(aKo τ x).map EV.kdL=(Kh τ).map some:=((lay τ).1 x).2
def ly2:∀(τ τ':Nat),EV.Kd.sl τ'∈Kh τ->0<Un.K τ':=by intro τ τ' h;unfold Kh at h;split at h<;>simp only[ba,gk,or_false,reduceCtorEq,false_or,or_self,EV.Kd.sl.injEq] at h<;>first|exact h.elim|(subst h;exact az rfl)|(rcases h with h|h|h|h|h|h|h|h<;>(subst h;exact az rfl))|(rcases h with h|h|h|h|h|h|h<;>(subst h;exact az rfl))|(rcases h with h|h|h|h|h|h<;>(subst h;exact az rfl))|(rcases h with h|h|h|h|h<;>(subst h;exact az rfl))|(rcases h with h|h|h|h<;>(subst h;exact az rfl))|(rcases h with h|h|h<;>(subst h;exact az rfl))|(rcases h with h|h<;>(subst h;exact az rfl))
def bFx:EV.LayOk Yn:=⟨ly1,ly2⟩
def kE (f:Func):Code:=match f.body with|some c=>c|none=> .skip
def T.mix:Tryz.prog.follows .mixedOrders=true:=by kernel_rfl
def aI:EV.Good Tryz.prog G0 Yn TI []:=⟨by kernel_rfl,bFx,λf S h=>by simp at h⟩
abbrev SU:=EV.Sum Un
def OK (f:Nat)(S:SU):Prop:=EV.xL Tryz.prog G0 Yn f S
def bFy:SU:=⟨[],[],false,false,λ_=>none⟩
def bFz (f:Nat):OK f bFy:=λ_ _ hr=>nomatch hr
def SIl:SU:=⟨[],[],false,true,λ_=>none⟩
def sIl (f:Nat):OK f SIl:=λ_ _ hr=>nomatch hr
def IL:EV.Il:=[(23,kE Tryz.f23,32,[.tmp 2]),(56,kE Tryz.f56,52,[.tmp 4]),(79,kE Tryz.f79,21,[.cell 2 41]),(204,kE Tryz.f204,53,[.cell 4 82, .tmp 5, .tmp 6]),(37,kE Tryz.f37,23,[]),(176,kE Tryz.f176,56,[.cell 2 39]),(178,kE Tryz.f178,66,[.cell 2 32]),(83,kE Tryz.f83,49,[.cell 4 41]),(24,kE Tryz.f24,49,[.cell 2 41]),(33,kE Tryz.f33,16,[.cell 4 41]),(65,kE Tryz.f65,111,[.tmp 10]),(69,kE Tryz.f69,48,[.tmp 4]),(11,kE Tryz.f11,225,[.cell 10 41]),(82,kE Tryz.f82,40,[.cell 4 41, .tmp 5]),(8,kE Tryz.f8,46,[.cell 6 41, .tmp 7, .tmp 8]),(36,kE Tryz.f36,85,[.tmp 10, .tmp 11, .tmp 12]),(110,kE Tryz.f110,61,[.tmp 6, .tmp 7, .tmp 8])]
def bF0:EV.pX Tryz.prog IL:=EV.kW Tryz.func23 rfl Tryz.ntmps23 rfl (λ_ _=>by kernel_rfl)<|EV.kW Tryz.func56 rfl Tryz.ntmps56 rfl (λ_ _=>by kernel_rfl)<|EV.kW Tryz.func79 rfl Tryz.ntmps79 rfl (λ_ _=>by kernel_rfl)<|EV.kW Tryz.func204 rfl Tryz.ntmps204 rfl (λ_ _=>by kernel_rfl)<|EV.kW Tryz.func37 rfl Tryz.ntmps37 rfl (λ_ _=>by kernel_rfl)<|EV.kW Tryz.func176 rfl Tryz.ntmps176 rfl (λ_ _=>by kernel_rfl)<|EV.kW Tryz.func178 rfl Tryz.ntmps178 rfl (λ_ _=>by kernel_rfl)<|EV.kW Tryz.func83 rfl Tryz.ntmps83 rfl (λ_ _=>by kernel_rfl)<|EV.kW Tryz.func24 rfl Tryz.ntmps24 rfl (λ_ _=>by kernel_rfl)<|EV.kW Tryz.func33 rfl Tryz.ntmps33 rfl (λ_ _=>by kernel_rfl)<|EV.kW Tryz.func65 rfl Tryz.ntmps65 rfl (λ_ _=>by kernel_rfl)<|EV.kW Tryz.func69 rfl Tryz.ntmps69 rfl (λ_ _=>by kernel_rfl)<|EV.kW Tryz.func11 rfl Tryz.ntmps11 rfl (λ_ _=>by kernel_rfl)<|EV.kW Tryz.func82 rfl Tryz.ntmps82 rfl (λ_ _=>by kernel_rfl)<|EV.kW Tryz.func8 rfl Tryz.ntmps8 rfl (λ_ _=>by kernel_rfl)<|EV.kW Tryz.func36 rfl Tryz.ntmps36 rfl (λ_ _=>by kernel_rfl)<|EV.kW Tryz.func110 rfl Tryz.ntmps110 rfl (λ_ _=>by kernel_rfl)<|EV.bC5
def od (n:Nat)(l:List Nat):List (Nat×Bool):=(List.range n).map λi=>(i, !l.contains i)
def gc {f:Nat}{S:SU}{FZ:List (Nat×SU)}(h:OK f S)(G:EV.Good Tryz.prog G0 Yn TI FZ):EV.Good Tryz.prog G0 Yn TI ((f,S)::FZ):=EV.aHu h G
def gcp {f:Nat}{S:SU}{FZ:List (Nat×SU)}(h:OK f S)(G:EV.Good Tryz.prog G0 Yn TI FZ)(a:S.wt=false:=by rfl)(b:S.fr=true:=by rfl):EV.Good Tryz.prog G0 Yn TI ((f,S.pl)::FZ):=EV.aHu (EV.aVv h a b) G
def mkS {f:FuncId}{fn:Func}{n:Nat}{S:SU}{FZ:List (Nat×SU)}{m:EV.rH Un S.ar->Option (EV.rH Un S.rs)}(an:EV.An)(l:List ResultVar)(G:EV.Good Tryz.prog G0 Yn TI FZ)(hf:Tryz.prog.funcs[f]? =some fn)(hn:fn.ntmps=n)(ht:∀a r,S.m a=some r->m a=some r)(h:∀a,(fn.name== "runtime.NumGoroutine",EV.evF Yn TI FZ IL an (kE fn) n S.ar S.rs S.fr l a)=(false,m a):=by intro _;kernel_rfl)(hb:fn.body=some (kE fn):=by rfl)(hl:fn.results=l.toArray:=by rfl)(hlen:S.ar.length<=n:=by decide)(hw:S.wt=false:=by rfl):OK f S:=
 λa r hr=>EV.bC8 (an:=λ_=>an) G T.mix bF0 hf hb hn hl (EV.aVq hf hb (congrArg Prod.fst (h a))) hlen hw (λa r hr=>(congrArg Prod.snd (h a)).trans (ht a r hr)) a r hr
def iR:EV.Sum Un:=⟨[.str, .str],[.sl 9],false,false,λ(a:ByteArray×ByteArray)=>gd (a.1.size<4294967281/\1<=a.2.size) (some (jL a.1 a.2))⟩
def Yl (args:Array Value)(w:World):(callFunc 287 args).run Tryz.prog w= .ok (.enter 287 args) w:=by kernel_rfl
def N7 (a:ByteArray×ByteArray):(EV.bY Yn iR.ar a).map EV.vF=[.str a.1, .str a.2]:=by kernel_rfl
def N8 (a:ByteArray×ByteArray):mP ((EV.bY Yn iR.rs (jL a.1 a.2)).map EV.vF)= .slice 1 ((jL a.1 a.2).map sV):=by kernel_rfl
def N9 (a:ByteArray×ByteArray)(r:EV.rH Un iR.rs)(hr:gd (a.1.size<4294967281/\1<=a.2.size) (some (jL a.1 a.2))=some r):Spec Tryz.prog G0 287 ((EV.bY Yn iR.ar a).map EV.vF) (λv=>v=mP ((EV.bY Yn iR.rs r).map EV.vF)):=by
 unfold gd at hr;split at hr
 ·rename_i hp;have e:=ai hr;subst e;rw[N7,N8];exact aOt Yl (λs sep m w a b c=>Tryz.strings_Split s sep m w a b c) a.1 a.2 hp.1 hp.2
 ·cases hr
def Bn:EV.xL Tryz.prog G0 Yn 287 iR:=λ(a:ByteArray×ByteArray) r hr=>⟨λ_ _=>N9 a r hr,λ_ h=>absurd (show false=true from h) eK,λh=>absurd (show false=true from h) eK,λh=>absurd (show false=true from h) eK⟩
def jQ:EV.Sum Un:=⟨[.sl 9, .str],[.str],false,false,λ(a:(List ByteArray)×ByteArray)=>gd (0<a.1.length/\(mQ a.2 a.1).size<=140737488355328/\a.1.length<=140737488355328) (some (mQ a.2 a.1))⟩
def O0 (args:Array Value)(w:World):(callFunc 288 args).run Tryz.prog w= .ok (.enter 288 args) w:=by kernel_rfl
def aCd (a:(List ByteArray)×ByteArray):(EV.bY Yn jQ.ar a).map EV.vF=[.slice 1 (a.1.map sV), .str a.2]:=by kernel_rfl
def aCe (a:(List ByteArray)×ByteArray):mP ((EV.bY Yn jQ.rs (mQ a.2 a.1)).map EV.vF)= .str (mQ a.2 a.1):=by kernel_rfl
def aCf (a:(List ByteArray)×ByteArray)(r:EV.rH Un jQ.rs)(hr:gd (0<a.1.length/\(mQ a.2 a.1).size<=140737488355328/\a.1.length<=140737488355328) (some (mQ a.2 a.1))=some r):Spec Tryz.prog G0 288 ((EV.bY Yn jQ.ar a).map EV.vF) (λv=>v=mP ((EV.bY Yn jQ.rs r).map EV.vF)):=by
 unfold gd at hr;split at hr
 ·rename_i hp;have e:=ai hr;subst e;rw[aCd,aCe];exact aR6 O0 Tryz.strings_Join a.1 a.2 (by intro h;have:=hp.1;rw[h] at this;simp at this) hp.2.1 hp.2.2
 ·cases hr
def aCg:EV.xL Tryz.prog G0 Yn 288 jQ:=λ(a:(List ByteArray)×ByteArray) r hr=>⟨λ_ _=>aCf a r hr,λ_ h=>absurd (show false=true from h) eK,λh=>absurd (show false=true from h) eK,λh=>absurd (show false=true from h) eK⟩
def Tz:EV.Sum Un:=⟨[.st 41, .st 144],[.st 41, .bool],true,false,λ(a:AA×AZ)=>none⟩
def Ua:OK 70 Tz:=λ_ _ h=>nomatch h
end
end Go.VK
