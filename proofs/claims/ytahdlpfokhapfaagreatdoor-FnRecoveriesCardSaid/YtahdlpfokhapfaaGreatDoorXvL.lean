import Derived.Test.YtahdlpfokhapfaaGreatDoorXvFF
import Derived.Test.YtahdlpfokhapfaaGreatDoorEVyltod
import Derived.Test.YtahdlpfokhapfaaGreatDoorProg
import Derived.Test.YtahdlpfokhapfaaGreatDoorTryzShelf
/- Printed by wip/tools: models, walks, proofs. -/
set_option linter.all false
set_option maxRecDepth 100000
set_option maxHeartbeats 4000000
namespace Go.VK
open Go.RowKit Go.Proofs D
noncomputable section
abbrev G0:GI:=bLi 0
def El:Nat->Type
 |5=>Int
 |70=>AO
 |186=>AD
 |238=>AI
 |73=>AE
 |75=>AC
 |4=>Bool
 |243=>AN
 |29=>AK
 |124=>AH
 |32=>AL
 |68=>AV
 |60=>AJ
 |240=>AX
 |64=>AQ
 |3=>Int
 |66=>AF
 |35=>AS
 |77=>AR
 |79=>AU
 |82=>AB
 |133=>AP
 |39=>AM
 |41=>AA
 |144=>AZ
 |151=>AG
 |42=>List Int
 |9=>ByteArray
 |_=>Empty
def bKc:(τ:Nat)->El τ->List V
 |5=>y8
 |70=>AO.V
 |186=>AD.V
 |238=>AI.V
 |73=>AE.V
 |75=>AC.V
 |4=>bV
 |243=>AN.V
 |29=>AK.V
 |124=>AH.V
 |32=>AL.V
 |68=>AV.V
 |60=>AJ.V
 |240=>AX.V
 |64=>AQ.V
 |3=>iV
 |66=>AF.V
 |35=>AS.V
 |77=>AR.V
 |79=>AU.V
 |82=>AB.V
 |133=>AP.V
 |39=>AM.V
 |41=>AA.V
 |144=>AZ.V
 |151=>AG.V
 |42=>(λl=>[V.slice 1 (l.map iV)])
 |9=>sV
 |_=>λ_=>[]
def Un:EV.Uni:=⟨El,λ|5=>1|70=>4|186=>6|238=>4|73=>1|75=>9|4=>1|243=>4|29=>2|124=>4|32=>4|68=>4|60=>3|240=>3|64=>3|3=>1|66=>6|35=>4|77=>2|79=>5|82=>7|133=>4|39=>1|41=>16|144=>5|151=>3|42=>1|9=>1|_=>0,bKc⟩
def aP4:(τ:Nat)->El τ->List (EV.Lf Un)
 |5=>λx=>[.int .u8 x]
 |70=>λx=>[.int .i64 x.Vendor, .int .i64 x.Serial, .int .i64 x.Seed, .int .i64 x.Counter]
 |186=>λx=>[.int .i64 x.Index, .int .i64 x.Kind, .int .i64 x.Device, .int .i64 x.By, .int .i64 x.Previous, .int .i64 x.Signature]
 |238=>λx=>[.int .i64 x.Site, .int .i64 x.Handle, .int .i64 x.Version, .bool x.Deleted]
 |73=>λx=>[.sl 238 x.Entries]
 |75=>λx=>[.int .i64 x.Store.Vendor, .int .i64 x.Store.Serial, .int .i64 x.Store.Seed, .int .i64 x.Store.Counter, .sl 186 x.Log, .int .i64 x.Key, .int .i64 x.Epoch, .int .i64 x.Version, .sl 238 x.aAF.Entries]
 |4=>λx=>[.bool x]
 |243=>λx=>[.int .i64 x.To, .int .i64 x.Ephemeral, .sl 5 x.Data, .int .i64 x.MAC]
 |29=>λx=>[.int .i64 x.Epoch, .sl 243 x.Boxes]
 |124=>λx=>[.int .i64 x.Epoch, .int .i64 x.Version, .sl 5 x.Data, .int .i64 x.MAC]
 |32=>λx=>[.sl 186 x.Log, .int .i64 x.Boxes.Epoch, .sl 243 x.Boxes.Boxes, .sl 124 x.History]
 |68=>λx=>[.int .i64 x.Handle, .int .i64 x.Public, .int .i64 x.Counter, .bool x.Cut]
 |60=>λx=>[.int .i64 x.Id, .int .i64 x.Minimum, .sl 68 x.Credentials]
 |240=>λx=>[.int .i64 x.Id, .int .i64 x.aAG, .int .i64 x.Until]
 |64=>λx=>[.int .i64 x.Seed, .int .i64 x.Next, .sl 240 x.Open]
 |3=>λx=>[.int .i64 x]
 |66=>λx=>[.str x.Name, .sl 60 x.Accounts, .int .i64 x.Book.Seed, .int .i64 x.Book.Next, .sl 240 x.Book.Open, .sl 3 x.Logins]
 |35=>λx=>[.int .i64 x.Salt, .int .i64 x.Threshold, .int .i64 x.Check, .int .i64 x.Masked]
 |77=>λx=>[.int .i64 x.Index, .int .i64 x.Value]
 |79=>λx=>[.int .i64 x.aAM.Index, .int .i64 x.aAM.Value, .int .i64 x.Epoch, .int .i64 x.Guesses, .int .i64 x.Limit]
 |82=>λx=>[.int .i64 x.State.aAM.Index, .int .i64 x.State.aAM.Value, .int .i64 x.State.Epoch, .int .i64 x.State.Guesses, .int .i64 x.State.Limit, .sl 79 x.Saved, .int .i64 x.Monotonic]
 |133=>λx=>[.int .i64 x.Kind, .int .i64 x.aAG, .int .i64 x.Time, .bool x.Seen]
 |39=>λx=>[.sl 133 x.Notices]
 |41=>λx=>[.int .i64 x.Now, .int .i64 x.Seed, .sl 75 x.Devices, .sl 4 x.Stolen, .sl 186 x.aAH.Log, .int .i64 x.aAH.Boxes.Epoch, .sl 243 x.aAH.Boxes.Boxes, .sl 124 x.aAH.History, .sl 66 x.Sites, .int .i64 x.aAK.Salt, .int .i64 x.aAK.Threshold, .int .i64 x.aAK.Check, .int .i64 x.aAK.Masked, .sl 82 x.Hosts, .int .i64 x.Pin, .sl 133 x.Mail.Notices]
 |144=>λx=>[.int .i64 x.Kind, .int .i64 x.Device, .int .i64 x.Other, .int .i64 x.Value, .bool x.Flag]
 |151=>λx=>[.sl 5 x.b, .int .i64 x.i, .int .i64 x.h]
 |42=>λx=>[.sl 3 x]
 |9=>λx=>[.str x]
 |_=>λ_=>[]
def Qh:Nat->List EV.Kd
 |5=>[.int .u8]
 |70=>[.int .i64, .int .i64, .int .i64, .int .i64]
 |186=>[.int .i64, .int .i64, .int .i64, .int .i64, .int .i64, .int .i64]
 |238=>[.int .i64, .int .i64, .int .i64, .bool]
 |73=>[.sl 238]
 |75=>[.int .i64, .int .i64, .int .i64, .int .i64, .sl 186, .int .i64, .int .i64, .int .i64, .sl 238]
 |4=>[.bool]
 |243=>[.int .i64, .int .i64, .sl 5, .int .i64]
 |29=>[.int .i64, .sl 243]
 |124=>[.int .i64, .int .i64, .sl 5, .int .i64]
 |32=>[.sl 186, .int .i64, .sl 243, .sl 124]
 |68=>[.int .i64, .int .i64, .int .i64, .bool]
 |60=>[.int .i64, .int .i64, .sl 68]
 |240=>[.int .i64, .int .i64, .int .i64]
 |64=>[.int .i64, .int .i64, .sl 240]
 |3=>[.int .i64]
 |66=>[.str, .sl 60, .int .i64, .int .i64, .sl 240, .sl 3]
 |35=>[.int .i64, .int .i64, .int .i64, .int .i64]
 |77=>[.int .i64, .int .i64]
 |79=>[.int .i64, .int .i64, .int .i64, .int .i64, .int .i64]
 |82=>[.int .i64, .int .i64, .int .i64, .int .i64, .int .i64, .sl 79, .int .i64]
 |133=>[.int .i64, .int .i64, .int .i64, .bool]
 |39=>[.sl 133]
 |41=>[.int .i64, .int .i64, .sl 75, .sl 4, .sl 186, .int .i64, .sl 243, .sl 124, .sl 66, .int .i64, .int .i64, .int .i64, .int .i64, .sl 82, .int .i64, .sl 133]
 |144=>[.int .i64, .int .i64, .int .i64, .int .i64, .bool]
 |151=>[.sl 5, .int .i64, .int .i64]
 |42=>[.sl 3]
 |9=>[.str]
 |_=>[]
def bL9:(τ:Nat)->List (EV.Lf Un)->Option (El τ)
 |5=>EV.kW (Qh 5) (λx=>x)
 |70=>EV.kW (Qh 70) AO.mk
 |186=>EV.kW (Qh 186) AD.mk
 |238=>EV.kW (Qh 238) AI.mk
 |73=>EV.kW (Qh 73) AE.mk
 |75=>EV.kW (Qh 75) (λa0 a b c d e f h i=>(⟨⟨a0,a,b,c⟩,d,e,f,h,⟨i⟩⟩:AC))
 |4=>EV.kW (Qh 4) (λx=>x)
 |243=>EV.kW (Qh 243) AN.mk
 |29=>EV.kW (Qh 29) AK.mk
 |124=>EV.kW (Qh 124) AH.mk
 |32=>EV.kW (Qh 32) (λa0 a b c=>(⟨a0,⟨a,b⟩,c⟩:AL))
 |68=>EV.kW (Qh 68) AV.mk
 |60=>EV.kW (Qh 60) AJ.mk
 |240=>EV.kW (Qh 240) AX.mk
 |64=>EV.kW (Qh 64) AQ.mk
 |3=>EV.kW (Qh 3) (λx=>x)
 |66=>EV.kW (Qh 66) (λa0 a b c d e=>(⟨a0,a,⟨b,c,d⟩,e⟩:AF))
 |35=>EV.kW (Qh 35) AS.mk
 |77=>EV.kW (Qh 77) AR.mk
 |79=>EV.kW (Qh 79) (λa0 a b c d=>(⟨⟨a0,a⟩,b,c,d⟩:AU))
 |82=>EV.kW (Qh 82) (λa0 a b c d e f=>(⟨⟨⟨a0,a⟩,b,c,d⟩,e,f⟩:AB))
 |133=>EV.kW (Qh 133) AP.mk
 |39=>EV.kW (Qh 39) AM.mk
 |41=>EV.kW (Qh 41) (λa0 a b c d e f h i p j k l m n o=>(⟨a0,a,b,c,⟨d,⟨e,f⟩,h⟩,i,⟨p,j,k,l⟩,m,n,⟨o⟩⟩:AA))
 |144=>EV.kW (Qh 144) AZ.mk
 |151=>EV.kW (Qh 151) AG.mk
 |42=>EV.kW (Qh 42) (λx=>x)
 |9=>EV.kW (Qh 9) (λx=>x)
 |_=>λ_=>none
def TI:List (Nat×EV.TInfo):=[
 (3,⟨.int .i64,1,[.int .i64]⟩),
 (4,⟨.bool,1,[.bool]⟩),
 (5,⟨.int .u8,1,[.int .u8]⟩),
 (9,⟨.str,1,[.str]⟩),
 (22,⟨.sl 5 1 1,1,[.nil]⟩),
 (24,⟨.sl 75 9 104,1,[.nil]⟩),
 (25,⟨.sl 4 1 1,1,[.nil]⟩),
 (26,⟨.sl 186 6 48,1,[.nil]⟩),
 (27,⟨.sl 243 4 48,1,[.nil]⟩),
 (29,⟨.st [(0,3,1),(1,27,1)],2,[.int .i64, .nil]⟩),
 (30,⟨.sl 124 4 48,1,[.nil]⟩),
 (32,⟨.st [(0,26,1),(1,29,2),(3,30,1)],4,[.nil, .int .i64, .nil, .nil]⟩),
 (33,⟨.sl 66 6 104,1,[.nil]⟩),
 (35,⟨.st [(0,3,1),(1,3,1),(2,3,1),(3,3,1)],4,[.int .i64, .int .i64, .int .i64, .int .i64]⟩),
 (36,⟨.sl 82 7 72,1,[.nil]⟩),
 (37,⟨.sl 133 4 32,1,[.nil]⟩),
 (39,⟨.st [(0,37,1)],1,[.nil]⟩),
 (41,⟨.st [(0,3,1),(1,3,1),(2,24,1),(3,25,1),(4,32,4),(8,33,1),(9,35,4),(13,36,1),(14,3,1),(15,39,1)],16,[.int .i64, .int .i64, .nil, .nil, .nil, .int .i64, .nil, .nil, .nil, .int .i64, .int .i64, .int .i64, .int .i64, .nil, .int .i64, .nil]⟩),
 (42,⟨.sl 3 1 8,1,[.nil]⟩),
 (56,⟨.sl 144 5 40,1,[.nil]⟩),
 (58,⟨.sl 68 4 32,1,[.nil]⟩),
 (60,⟨.st [(0,3,1),(1,3,1),(2,58,1)],3,[.int .i64, .int .i64, .nil]⟩),
 (61,⟨.sl 60 3 40,1,[.nil]⟩),
 (62,⟨.sl 240 3 24,1,[.nil]⟩),
 (64,⟨.st [(0,3,1),(1,3,1),(2,62,1)],3,[.int .i64, .int .i64, .nil]⟩),
 (66,⟨.st [(0,9,1),(1,61,1),(2,64,3),(5,42,1)],6,[.str, .nil, .int .i64, .int .i64, .nil, .nil]⟩),
 (68,⟨.st [(0,3,1),(1,3,1),(2,3,1),(3,4,1)],4,[.int .i64, .int .i64, .int .i64, .bool]⟩),
 (70,⟨.st [(0,3,1),(1,3,1),(2,3,1),(3,3,1)],4,[.int .i64, .int .i64, .int .i64, .int .i64]⟩),
 (71,⟨.sl 238 4 32,1,[.nil]⟩),
 (73,⟨.st [(0,71,1)],1,[.nil]⟩),
 (75,⟨.st [(0,70,4),(4,26,1),(5,3,1),(6,3,1),(7,3,1),(8,73,1)],9,[.int .i64, .int .i64, .int .i64, .int .i64, .nil, .int .i64, .int .i64, .int .i64, .nil]⟩),
 (77,⟨.st [(0,3,1),(1,3,1)],2,[.int .i64, .int .i64]⟩),
 (79,⟨.st [(0,77,2),(2,3,1),(3,3,1),(4,3,1)],5,[.int .i64, .int .i64, .int .i64, .int .i64, .int .i64]⟩),
 (80,⟨.sl 79 5 40,1,[.nil]⟩),
 (82,⟨.st [(0,79,5),(5,80,1),(6,3,1)],7,[.int .i64, .int .i64, .int .i64, .int .i64, .int .i64, .nil, .int .i64]⟩),
 (124,⟨.st [(0,3,1),(1,3,1),(2,22,1),(3,3,1)],4,[.int .i64, .int .i64, .nil, .int .i64]⟩),
 (133,⟨.st [(0,3,1),(1,3,1),(2,3,1),(3,4,1)],4,[.int .i64, .int .i64, .int .i64, .bool]⟩),
 (144,⟨.st [(0,3,1),(1,3,1),(2,3,1),(3,3,1),(4,4,1)],5,[.int .i64, .int .i64, .int .i64, .int .i64, .bool]⟩),
 (151,⟨.st [(0,22,1),(1,3,1),(2,3,1)],3,[.nil, .int .i64, .int .i64]⟩),
 (186,⟨.st [(0,3,1),(1,3,1),(2,3,1),(3,3,1),(4,3,1),(5,3,1)],6,[.int .i64, .int .i64, .int .i64, .int .i64, .int .i64, .int .i64]⟩),
 (208,⟨.sl 77 2 16,1,[.nil]⟩),
 (235,⟨.sl 42 1 24,1,[.nil]⟩),
 (238,⟨.st [(0,3,1),(1,3,1),(2,3,1),(3,4,1)],4,[.int .i64, .int .i64, .int .i64, .bool]⟩),
 (240,⟨.st [(0,3,1),(1,3,1),(2,3,1)],3,[.int .i64, .int .i64, .int .i64]⟩),
 (243,⟨.st [(0,3,1),(1,3,1),(2,22,1),(3,3,1)],4,[.int .i64, .int .i64, .nil, .int .i64]⟩),
 (246,⟨.sl 9 1 16,1,[.nil]⟩),
 (318,⟨.st [],8,[.bool, .bool, .bool, .bool, .bool, .bool, .bool, .bool]⟩)]
def lay (τ:Nat):(∀x:El τ,((aP4 τ x).map EV.Lf.toV=bKc τ x/\(aP4 τ x).length=Un.K τ)/\(aP4 τ x).map EV.kdL=(Qh τ).map some)/\∀(cs:List (EV.Lf Un)) (x:El τ),bL9 τ cs=some x->cs=aP4 τ x:=by
 by_cases h:τ∈[5,70,186,238,73,75,4,243,29,124,32,68,60,240,64,3,66,35,77,79,82,133,39,41,144,151,42,9]
 ·simp only[ay,fb,or_false] at h;rcases h with rfl|rfl|rfl|rfl|rfl|rfl|rfl|rfl|rfl|rfl|rfl|rfl|rfl|rfl|rfl|rfl|rfl|rfl|rfl|rfl|rfl|rfl|rfl|rfl|rfl|rfl|rfl|rfl<;>exact⟨λ_=>⟨⟨rfl,rfl⟩,rfl⟩,λ_ _ h=>by obtain⟨t,rfl,rfl⟩:=EV.aWo h;rfl⟩
 ·have e:El τ=Empty:=by unfold El;split<;>first|(exfalso;revert h;decide)|rfl
  exact⟨λx=>(cast e x).elim,λ_ x=>(cast e x).elim⟩
def hc1 (τ:Nat)(x:El τ):(aP4 τ x).map EV.Lf.toV=bKc τ x:=((lay τ).1 x).1.1
def hc2 (τ:Nat)(x:El τ):(aP4 τ x).length=Un.K τ:=((lay τ).1 x).1.2
def hc3 (τ:Nat)(x:El τ)(c:EV.Lf Un)(hc:c∈aP4 τ x):c.aBA=true:=EV.bBz ((lay τ).1 x).2 c hc
def Yn:EV.Lay Un:=⟨⟨aP4,bL9,hc1,hc2,hc3,λτ=>(lay τ).2⟩,Qh,5,λn=>n,λn=>n,λ_=>rfl,λ_=>rfl⟩
def ly1 (τ:Nat)(x:El τ):(aP4 τ x).map EV.kdL=(Qh τ).map some:=((lay τ).1 x).2
def ly2:∀(τ τ':Nat),EV.Kd.sl τ'∈Qh τ->0<Un.K τ':=by intro τ τ' h;unfold Qh at h;split at h<;>simp only[ay,fb,or_false,reduceCtorEq,false_or,or_self,EV.Kd.sl.injEq] at h<;>first|exact h.elim|(subst h;exact aw rfl)|(rcases h with h|h|h|h|h|h|h|h<;>(subst h;exact aw rfl))|(rcases h with h|h|h|h|h|h|h<;>(subst h;exact aw rfl))|(rcases h with h|h|h|h|h|h<;>(subst h;exact aw rfl))|(rcases h with h|h|h|h|h<;>(subst h;exact aw rfl))|(rcases h with h|h|h|h<;>(subst h;exact aw rfl))|(rcases h with h|h|h<;>(subst h;exact aw rfl))|(rcases h with h|h<;>(subst h;exact aw rfl))
def bMa:EV.LayOk Yn:=⟨ly1,ly2⟩
def jG (f:Func):Code:=match f.body with|some c=>c|none=> .skip
def T.mix:Tryz.prog.follows .mixedOrders=true:=by kernel_rfl
def aC:EV.Good Tryz.prog G0 Yn TI []:=⟨by kernel_rfl,bMa,λf S h=>by simp at h⟩
abbrev SU:=EV.Sum Un
def OK (f:Nat)(S:SU):Prop:=EV.vN Tryz.prog G0 Yn f S
def bMb:SU:=⟨[],[],false,false,λ_=>none⟩
def aN5 (f:Nat):OK f bMb:=λ_ _ hr=>nomatch hr
def SIl:SU:=⟨[],[],false,true,λ_=>none⟩
def sIl (f:Nat):OK f SIl:=λ_ _ hr=>nomatch hr
def IL:EV.Il:=[(23,jG Tryz.f23,32,[.tmp 2]),(56,jG Tryz.f56,52,[.tmp 4]),(79,jG Tryz.f79,21,[.cell 2 41]),(204,jG Tryz.f204,53,[.cell 4 82, .tmp 5, .tmp 6]),(37,jG Tryz.f37,23,[]),(176,jG Tryz.f176,56,[.cell 2 39]),(178,jG Tryz.f178,66,[.cell 2 32]),(83,jG Tryz.f83,49,[.cell 4 41]),(24,jG Tryz.f24,49,[.cell 2 41]),(33,jG Tryz.f33,16,[.cell 4 41]),(65,jG Tryz.f65,111,[.tmp 10]),(69,jG Tryz.f69,48,[.tmp 4]),(11,jG Tryz.f11,225,[.cell 10 41]),(82,jG Tryz.f82,40,[.cell 4 41, .tmp 5]),(8,jG Tryz.f8,46,[.cell 6 41, .tmp 7, .tmp 8]),(36,jG Tryz.f36,85,[.tmp 10, .tmp 11, .tmp 12]),(110,jG Tryz.f110,61,[.tmp 6, .tmp 7, .tmp 8])]
def bHv:EV.oC Tryz.prog IL:=EV.lL Tryz.func23 rfl Tryz.ntmps23 rfl (λ_ _=>by kernel_rfl)<|EV.lL Tryz.func56 rfl Tryz.ntmps56 rfl (λ_ _=>by kernel_rfl)<|EV.lL Tryz.func79 rfl Tryz.ntmps79 rfl (λ_ _=>by kernel_rfl)<|EV.lL Tryz.func204 rfl Tryz.ntmps204 rfl (λ_ _=>by kernel_rfl)<|EV.lL Tryz.func37 rfl Tryz.ntmps37 rfl (λ_ _=>by kernel_rfl)<|EV.lL Tryz.func176 rfl Tryz.ntmps176 rfl (λ_ _=>by kernel_rfl)<|EV.lL Tryz.func178 rfl Tryz.ntmps178 rfl (λ_ _=>by kernel_rfl)<|EV.lL Tryz.func83 rfl Tryz.ntmps83 rfl (λ_ _=>by kernel_rfl)<|EV.lL Tryz.func24 rfl Tryz.ntmps24 rfl (λ_ _=>by kernel_rfl)<|EV.lL Tryz.func33 rfl Tryz.ntmps33 rfl (λ_ _=>by kernel_rfl)<|EV.lL Tryz.func65 rfl Tryz.ntmps65 rfl (λ_ _=>by kernel_rfl)<|EV.lL Tryz.func69 rfl Tryz.ntmps69 rfl (λ_ _=>by kernel_rfl)<|EV.lL Tryz.func11 rfl Tryz.ntmps11 rfl (λ_ _=>by kernel_rfl)<|EV.lL Tryz.func82 rfl Tryz.ntmps82 rfl (λ_ _=>by kernel_rfl)<|EV.lL Tryz.func8 rfl Tryz.ntmps8 rfl (λ_ _=>by kernel_rfl)<|EV.lL Tryz.func36 rfl Tryz.ntmps36 rfl (λ_ _=>by kernel_rfl)<|EV.lL Tryz.func110 rfl Tryz.ntmps110 rfl (λ_ _=>by kernel_rfl)<|EV.bJj
def od (n:Nat)(l:List Nat):List (Nat×Bool):=(List.range n).map λi=>(i, !l.contains i)
def gc {f:Nat}{S:SU}{FZ:List (Nat×SU)}(h:OK f S)(G:EV.Good Tryz.prog G0 Yn TI FZ):EV.Good Tryz.prog G0 Yn TI ((f,S)::FZ):=EV.aNg h G
def gcp {f:Nat}{S:SU}{FZ:List (Nat×SU)}(h:OK f S)(G:EV.Good Tryz.prog G0 Yn TI FZ)(a:S.wt=false:=by rfl)(b:S.fr=true:=by rfl):EV.Good Tryz.prog G0 Yn TI ((f,S.pl)::FZ):=EV.aNg (EV.bB7 h a b) G
def mkS {f:FuncId}{fn:Func}{n:Nat}{S:SU}{FZ:List (Nat×SU)}{m:EV.nR Un S.ar->Option (EV.nR Un S.rs)}(an:EV.An)(l:List ResultVar)(G:EV.Good Tryz.prog G0 Yn TI FZ)(hf:Tryz.prog.funcs[f]? =some fn)(hn:fn.ntmps=n)(ht:∀a r,S.m a=some r->m a=some r)(h:∀a,(fn.name== "runtime.NumGoroutine",EV.evF Yn TI FZ IL an (jG fn) n S.ar S.rs S.fr l a)=(false,m a):=by intro _;kernel_rfl)(hb:fn.body=some (jG fn):=by rfl)(hl:fn.results=l.toArray:=by rfl)(hlen:S.ar.length<=n:=by decide)(hw:S.wt=false:=by rfl):OK f S:=
 λa r hr=>EV.bJm (an:=λ_=>an) G T.mix bHv hf hb hn hl (EV.aRn hf hb (congrArg Prod.fst (h a))) hlen hw (λa r hr=>(congrArg Prod.snd (h a)).trans (ht a r hr)) a r hr
def mkP {f:FuncId}{fn:Func}{n T:Nat}{ks rs:List EV.Kd}{M m:EV.nR Un (.st T::ks)->Option (EV.nR Un (.st T::rs))}{FZ:List (Nat×SU)}(an:EV.An)(l:List ResultVar)(G:EV.Good Tryz.prog G0 Yn TI FZ)(hf:Tryz.prog.funcs[f]? =some fn)(hn:fn.ntmps=n)(ht:∀a r,M a=some r->m a=some r)(h:∀a,(fn.name== "runtime.NumGoroutine",EV.evP Yn TI FZ IL an (jG fn) n T ks rs l a)=(false,m a))(hb:fn.body=some (jG fn):=by rfl)(hl:fn.results=l.toArray:=by rfl)(hlen:ks.length+1<=n:=by decide):OK f ⟨.st T::ks, .st T::rs,true,true,M⟩:=
 λa r hr=>EV.bJp (an:=λ_=>an) G Go.VK.T.mix bHv hf hb hn hl (EV.aRn hf hb (congrArg Prod.fst (h a))) hlen (λa r hr=>(congrArg Prod.snd (h a)).trans (ht a r hr)) a r hr
def iN:EV.Sum Un:=⟨[.str, .str],[.sl 9],false,false,λ(a:ByteArray×ByteArray)=>gd (a.1.size<4294967281/\1<=a.2.size) (some (jN a.1 a.2))⟩
def Z0 (args:Array Value)(w:World):(callFunc 287 args).run Tryz.prog w= .ok (.enter 287 args) w:=by kernel_rfl
def aDv (a:ByteArray×ByteArray):(EV.aZ Yn iN.ar a).map EV.mU=[.str a.1, .str a.2]:=by kernel_rfl
def aDw (a:ByteArray×ByteArray):gZ ((EV.aZ Yn iN.rs (jN a.1 a.2)).map EV.mU)= .slice 1 ((jN a.1 a.2).map sV):=by kernel_rfl
def aDx (a:ByteArray×ByteArray)(r:EV.nR Un iN.rs)(hr:gd (a.1.size<4294967281/\1<=a.2.size) (some (jN a.1 a.2))=some r):Spec Tryz.prog G0 287 ((EV.aZ Yn iN.ar a).map EV.mU) (λv=>v=gZ ((EV.aZ Yn iN.rs r).map EV.mU)):=by
 unfold gd at hr;split at hr
 ·rename_i hp;have e:=aj hr;subst e;rw[aDv,aDw];exact aUs Z0 (λs sep m w a b c=>Tryz.strings_Split s sep m w a b c) a.1 a.2 hp.1 hp.2
 ·cases hr
def Gq:EV.vN Tryz.prog G0 Yn 287 iN:=λ(a:ByteArray×ByteArray) r hr=>⟨λ_ _=>aDx a r hr,λ_ h=>absurd (show false=true from h) dq,λh=>absurd (show false=true from h) dq,λh=>absurd (show false=true from h) dq⟩
def jU:EV.Sum Un:=⟨[.sl 9, .str],[.str],false,false,λ(a:(List ByteArray)×ByteArray)=>gd (0<a.1.length/\(nQ a.2 a.1).size<=140737488355328/\a.1.length<=140737488355328) (some (nQ a.2 a.1))⟩
def aDy (args:Array Value)(w:World):(callFunc 288 args).run Tryz.prog w= .ok (.enter 288 args) w:=by kernel_rfl
def aH0 (a:(List ByteArray)×ByteArray):(EV.aZ Yn jU.ar a).map EV.mU=[.slice 1 (a.1.map sV), .str a.2]:=by kernel_rfl
def aH1 (a:(List ByteArray)×ByteArray):gZ ((EV.aZ Yn jU.rs (nQ a.2 a.1)).map EV.mU)= .str (nQ a.2 a.1):=by kernel_rfl
def aH2 (a:(List ByteArray)×ByteArray)(r:EV.nR Un jU.rs)(hr:gd (0<a.1.length/\(nQ a.2 a.1).size<=140737488355328/\a.1.length<=140737488355328) (some (nQ a.2 a.1))=some r):Spec Tryz.prog G0 288 ((EV.aZ Yn jU.ar a).map EV.mU) (λv=>v=gZ ((EV.aZ Yn jU.rs r).map EV.mU)):=by
 unfold gd at hr;split at hr
 ·rename_i hp;have e:=aj hr;subst e;rw[aH0,aH1];exact aYl aDy Tryz.strings_Join a.1 a.2 (by intro h;have:=hp.1;rw[h] at this;simp at this) hp.2.1 hp.2.2
 ·cases hr
def aH3:EV.vN Tryz.prog G0 Yn 288 jU:=λ(a:(List ByteArray)×ByteArray) r hr=>⟨λ_ _=>aH2 a r hr,λ_ h=>absurd (show false=true from h) dq,λh=>absurd (show false=true from h) dq,λh=>absurd (show false=true from h) dq⟩
end
end Go.VK
