import Derived.Test.YtfllllgehgablaaGreatDoorXsFF
import Derived.Test.YtfllllgehgablaaGreatDoorEVyltod
import Derived.Test.YtfllllgehgablaaGreatDoorProg
import Derived.Test.YtfllllgehgablaaGreatDoorTrysShelf
/- Printed by wip/tools: models, walks, proofs. -/
set_option linter.all false
set_option maxRecDepth 100000
set_option maxHeartbeats 4000000
namespace Go.VK
open Go.RowKit Go.Proofs
noncomputable section
abbrev G0:GI:=bQf 0
def El:Nat->Type
 |5=>Int
 |55=>D.aAI
 |165=>D.aAC
 |149=>D.Entry
 |58=>D.aAB
 |60=>D.Device
 |4=>Bool
 |186=>D.Box
 |29=>D.aAF
 |69=>D.aAA
 |32=>D.aAD
 |183=>D.aAK
 |127=>D.aAH
 |181=>D.aAM
 |80=>D.aAE
 |3=>Int
 |83=>D.Site
 |35=>D.aAO
 |132=>D.aAS
 |134=>D.aAV
 |137=>D.aAG
 |139=>D.aAR
 |39=>D.aAJ
 |41=>D.World
 |9=>ByteArray
 |97=>D.aAQ
 |81=>List Int
 |231=>D.aAN
 |257=>D.aAL
 |_=>Empty
def bPc:(τ:Nat)->El τ->List V
 |5=>y8
 |55=>D.aAI.V
 |165=>D.aAC.V
 |149=>D.Entry.V
 |58=>D.aAB.V
 |60=>D.Device.V
 |4=>bV
 |186=>D.Box.V
 |29=>D.aAF.V
 |69=>D.aAA.V
 |32=>D.aAD.V
 |183=>D.aAK.V
 |127=>D.aAH.V
 |181=>D.aAM.V
 |80=>D.aAE.V
 |3=>iV
 |83=>D.Site.V
 |35=>D.aAO.V
 |132=>D.aAS.V
 |134=>D.aAV.V
 |137=>D.aAG.V
 |139=>D.aAR.V
 |39=>D.aAJ.V
 |41=>D.World.V
 |9=>sV
 |97=>D.aAQ.V
 |81=>(λl=>[V.slice 1 (l.map iV)])
 |231=>D.aAN.V
 |257=>D.aAL.V
 |_=>λ_=>[]
def Un:EV.Uni:=⟨El,λ|5=>1|55=>4|165=>6|149=>4|58=>1|60=>9|4=>1|186=>4|29=>2|69=>4|32=>4|183=>4|127=>3|181=>3|80=>3|3=>1|83=>6|35=>4|132=>2|134=>5|137=>7|139=>4|39=>1|41=>16|9=>1|97=>3|81=>1|231=>3|257=>7|_=>0,bPc⟩
def aUj:(τ:Nat)->El τ->List (EV.Lf Un)
 |5=>λx=>[.int .u8 x]
 |55=>λx=>[.int .i64 x.Vendor, .int .i64 x.Serial, .int .i64 x.Seed, .int .i64 x.Counter]
 |165=>λx=>[.int .i64 x.Index, .int .i64 x.Kind, .int .i64 x.Device, .int .i64 x.By, .int .i64 x.Previous, .int .i64 x.Signature]
 |149=>λx=>[.int .i64 x.Site, .int .i64 x.Handle, .int .i64 x.Version, .bool x.Deleted]
 |58=>λx=>[.sl 149 x.Entries]
 |60=>λx=>[.int .i64 x.Store.Vendor, .int .i64 x.Store.Serial, .int .i64 x.Store.Seed, .int .i64 x.Store.Counter, .sl 165 x.Log, .int .i64 x.Key, .int .i64 x.Epoch, .int .i64 x.Version, .sl 149 x.aAB.Entries]
 |4=>λx=>[.bool x]
 |186=>λx=>[.int .i64 x.To, .int .i64 x.Ephemeral, .sl 5 x.Data, .int .i64 x.MAC]
 |29=>λx=>[.int .i64 x.Epoch, .sl 186 x.Boxes]
 |69=>λx=>[.int .i64 x.Epoch, .int .i64 x.Version, .sl 5 x.Data, .int .i64 x.MAC]
 |32=>λx=>[.sl 165 x.Log, .int .i64 x.Boxes.Epoch, .sl 186 x.Boxes.Boxes, .sl 69 x.History]
 |183=>λx=>[.int .i64 x.Handle, .int .i64 x.Public, .int .i64 x.Counter, .bool x.Cut]
 |127=>λx=>[.int .i64 x.Id, .int .i64 x.Minimum, .sl 183 x.Credentials]
 |181=>λx=>[.int .i64 x.Id, .int .i64 x.aAH, .int .i64 x.Until]
 |80=>λx=>[.int .i64 x.Seed, .int .i64 x.Next, .sl 181 x.Open]
 |3=>λx=>[.int .i64 x]
 |83=>λx=>[.str x.Name, .sl 127 x.Accounts, .int .i64 x.Book.Seed, .int .i64 x.Book.Next, .sl 181 x.Book.Open, .sl 3 x.Logins]
 |35=>λx=>[.int .i64 x.Salt, .int .i64 x.Threshold, .int .i64 x.Check, .int .i64 x.Masked]
 |132=>λx=>[.int .i64 x.Index, .int .i64 x.Value]
 |134=>λx=>[.int .i64 x.aAS.Index, .int .i64 x.aAS.Value, .int .i64 x.Epoch, .int .i64 x.Guesses, .int .i64 x.Limit]
 |137=>λx=>[.int .i64 x.State.aAS.Index, .int .i64 x.State.aAS.Value, .int .i64 x.State.Epoch, .int .i64 x.State.Guesses, .int .i64 x.State.Limit, .sl 134 x.Saved, .int .i64 x.Monotonic]
 |139=>λx=>[.int .i64 x.Kind, .int .i64 x.aAH, .int .i64 x.Time, .bool x.Seen]
 |39=>λx=>[.sl 139 x.Notices]
 |41=>λx=>[.int .i64 x.Now, .int .i64 x.Seed, .sl 60 x.Devices, .sl 4 x.Stolen, .sl 165 x.aAD.Log, .int .i64 x.aAD.Boxes.Epoch, .sl 186 x.aAD.Boxes.Boxes, .sl 69 x.aAD.History, .sl 83 x.Sites, .int .i64 x.aAO.Salt, .int .i64 x.aAO.Threshold, .int .i64 x.aAO.Check, .int .i64 x.aAO.Masked, .sl 137 x.Hosts, .int .i64 x.Pin, .sl 139 x.Mail.Notices]
 |9=>λx=>[.str x]
 |97=>λx=>[.sl 5 x.b, .int .i64 x.i, .int .i64 x.h]
 |81=>λx=>[.sl 3 x]
 |231=>λx=>[.bool x.Secure, .str x.Host, .int .i64 x.Port]
 |257=>λx=>[.str x.Site, .str x.aAN, .int .i64 x.aAM, .int .i64 x.Handle, .bool x.Present, .int .i64 x.Counter, .int .i64 x.Signature]
 |_=>λ_=>[]
def Sz:Nat->List EV.Kd
 |5=>[.int .u8]
 |55=>[.int .i64, .int .i64, .int .i64, .int .i64]
 |165=>[.int .i64, .int .i64, .int .i64, .int .i64, .int .i64, .int .i64]
 |149=>[.int .i64, .int .i64, .int .i64, .bool]
 |58=>[.sl 149]
 |60=>[.int .i64, .int .i64, .int .i64, .int .i64, .sl 165, .int .i64, .int .i64, .int .i64, .sl 149]
 |4=>[.bool]
 |186=>[.int .i64, .int .i64, .sl 5, .int .i64]
 |29=>[.int .i64, .sl 186]
 |69=>[.int .i64, .int .i64, .sl 5, .int .i64]
 |32=>[.sl 165, .int .i64, .sl 186, .sl 69]
 |183=>[.int .i64, .int .i64, .int .i64, .bool]
 |127=>[.int .i64, .int .i64, .sl 183]
 |181=>[.int .i64, .int .i64, .int .i64]
 |80=>[.int .i64, .int .i64, .sl 181]
 |3=>[.int .i64]
 |83=>[.str, .sl 127, .int .i64, .int .i64, .sl 181, .sl 3]
 |35=>[.int .i64, .int .i64, .int .i64, .int .i64]
 |132=>[.int .i64, .int .i64]
 |134=>[.int .i64, .int .i64, .int .i64, .int .i64, .int .i64]
 |137=>[.int .i64, .int .i64, .int .i64, .int .i64, .int .i64, .sl 134, .int .i64]
 |139=>[.int .i64, .int .i64, .int .i64, .bool]
 |39=>[.sl 139]
 |41=>[.int .i64, .int .i64, .sl 60, .sl 4, .sl 165, .int .i64, .sl 186, .sl 69, .sl 83, .int .i64, .int .i64, .int .i64, .int .i64, .sl 137, .int .i64, .sl 139]
 |9=>[.str]
 |97=>[.sl 5, .int .i64, .int .i64]
 |81=>[.sl 3]
 |231=>[.bool, .str, .int .i64]
 |257=>[.str, .str, .int .i64, .int .i64, .bool, .int .i64, .int .i64]
 |_=>[]
def bQp:(τ:Nat)->List (EV.Lf Un)->Option (El τ)
 |5=>EV.kX (Sz 5) (λx=>x)
 |55=>EV.kX (Sz 55) D.aAI.mk
 |165=>EV.kX (Sz 165) D.aAC.mk
 |149=>EV.kX (Sz 149) D.Entry.mk
 |58=>EV.kX (Sz 58) D.aAB.mk
 |60=>EV.kX (Sz 60) (λa0 a1 a2 a3 a4 a5 a6 a7 a8=>(⟨⟨a0,a1,a2,a3⟩,a4,a5,a6,a7,⟨a8⟩⟩:D.Device))
 |4=>EV.kX (Sz 4) (λx=>x)
 |186=>EV.kX (Sz 186) D.Box.mk
 |29=>EV.kX (Sz 29) D.aAF.mk
 |69=>EV.kX (Sz 69) D.aAA.mk
 |32=>EV.kX (Sz 32) (λa0 a1 a2 a3=>(⟨a0,⟨a1,a2⟩,a3⟩:D.aAD))
 |183=>EV.kX (Sz 183) D.aAK.mk
 |127=>EV.kX (Sz 127) D.aAH.mk
 |181=>EV.kX (Sz 181) D.aAM.mk
 |80=>EV.kX (Sz 80) D.aAE.mk
 |3=>EV.kX (Sz 3) (λx=>x)
 |83=>EV.kX (Sz 83) (λa0 a1 a2 a3 a4 a5=>(⟨a0,a1,⟨a2,a3,a4⟩,a5⟩:D.Site))
 |35=>EV.kX (Sz 35) D.aAO.mk
 |132=>EV.kX (Sz 132) D.aAS.mk
 |134=>EV.kX (Sz 134) (λa0 a1 a2 a3 a4=>(⟨⟨a0,a1⟩,a2,a3,a4⟩:D.aAV))
 |137=>EV.kX (Sz 137) (λa0 a1 a2 a3 a4 a5 a6=>(⟨⟨⟨a0,a1⟩,a2,a3,a4⟩,a5,a6⟩:D.aAG))
 |139=>EV.kX (Sz 139) D.aAR.mk
 |39=>EV.kX (Sz 39) D.aAJ.mk
 |41=>EV.kX (Sz 41) (λa0 a1 a2 a3 a4 a5 a6 a7 a8 a9 a10 a11 a12 a13 a14 a15=>(⟨a0,a1,a2,a3,⟨a4,⟨a5,a6⟩,a7⟩,a8,⟨a9,a10,a11,a12⟩,a13,a14,⟨a15⟩⟩:D.World))
 |9=>EV.kX (Sz 9) (λx=>x)
 |97=>EV.kX (Sz 97) D.aAQ.mk
 |81=>EV.kX (Sz 81) (λx=>x)
 |231=>EV.kX (Sz 231) D.aAN.mk
 |257=>EV.kX (Sz 257) D.aAL.mk
 |_=>λ_=>none
def TI:List (Nat×EV.TInfo):=[
 (3,⟨.int .i64,1,[.int .i64]⟩),
 (4,⟨.bool,1,[.bool]⟩),
 (5,⟨.int .u8,1,[.int .u8]⟩),
 (9,⟨.str,1,[.str]⟩),
 (22,⟨.sl 5 1 1,1,[.nil]⟩),
 (24,⟨.sl 60 9 104,1,[.nil]⟩),
 (25,⟨.sl 4 1 1,1,[.nil]⟩),
 (26,⟨.sl 165 6 48,1,[.nil]⟩),
 (27,⟨.sl 186 4 48,1,[.nil]⟩),
 (29,⟨.st [(0,3,1),(1,27,1)],2,[.int .i64, .nil]⟩),
 (30,⟨.sl 69 4 48,1,[.nil]⟩),
 (32,⟨.st [(0,26,1),(1,29,2),(3,30,1)],4,[.nil, .int .i64, .nil, .nil]⟩),
 (33,⟨.sl 83 6 104,1,[.nil]⟩),
 (35,⟨.st [(0,3,1),(1,3,1),(2,3,1),(3,3,1)],4,[.int .i64, .int .i64, .int .i64, .int .i64]⟩),
 (36,⟨.sl 137 7 72,1,[.nil]⟩),
 (37,⟨.sl 139 4 32,1,[.nil]⟩),
 (39,⟨.st [(0,37,1)],1,[.nil]⟩),
 (41,⟨.st [(0,3,1),(1,3,1),(2,24,1),(3,25,1),(4,32,4),(8,33,1),(9,35,4),(13,36,1),(14,3,1),(15,39,1)],16,[.int .i64, .int .i64, .nil, .nil, .nil, .int .i64, .nil, .nil, .nil, .int .i64, .int .i64, .int .i64, .int .i64, .nil, .int .i64, .nil]⟩),
 (55,⟨.st [(0,3,1),(1,3,1),(2,3,1),(3,3,1)],4,[.int .i64, .int .i64, .int .i64, .int .i64]⟩),
 (56,⟨.sl 149 4 32,1,[.nil]⟩),
 (58,⟨.st [(0,56,1)],1,[.nil]⟩),
 (60,⟨.st [(0,55,4),(4,26,1),(5,3,1),(6,3,1),(7,3,1),(8,58,1)],9,[.int .i64, .int .i64, .int .i64, .int .i64, .nil, .int .i64, .int .i64, .int .i64, .nil]⟩),
 (69,⟨.st [(0,3,1),(1,3,1),(2,22,1),(3,3,1)],4,[.int .i64, .int .i64, .nil, .int .i64]⟩),
 (77,⟨.sl 127 3 40,1,[.nil]⟩),
 (78,⟨.sl 181 3 24,1,[.nil]⟩),
 (80,⟨.st [(0,3,1),(1,3,1),(2,78,1)],3,[.int .i64, .int .i64, .nil]⟩),
 (81,⟨.sl 3 1 8,1,[.nil]⟩),
 (83,⟨.st [(0,9,1),(1,77,1),(2,80,3),(5,81,1)],6,[.str, .nil, .int .i64, .int .i64, .nil, .nil]⟩),
 (88,⟨.sl 9 1 16,1,[.nil]⟩),
 (97,⟨.st [(0,22,1),(1,3,1),(2,3,1)],3,[.nil, .int .i64, .int .i64]⟩),
 (125,⟨.sl 183 4 32,1,[.nil]⟩),
 (127,⟨.st [(0,3,1),(1,3,1),(2,125,1)],3,[.int .i64, .int .i64, .nil]⟩),
 (132,⟨.st [(0,3,1),(1,3,1)],2,[.int .i64, .int .i64]⟩),
 (134,⟨.st [(0,132,2),(2,3,1),(3,3,1),(4,3,1)],5,[.int .i64, .int .i64, .int .i64, .int .i64, .int .i64]⟩),
 (135,⟨.sl 134 5 40,1,[.nil]⟩),
 (137,⟨.st [(0,134,5),(5,135,1),(6,3,1)],7,[.int .i64, .int .i64, .int .i64, .int .i64, .int .i64, .nil, .int .i64]⟩),
 (139,⟨.st [(0,3,1),(1,3,1),(2,3,1),(3,4,1)],4,[.int .i64, .int .i64, .int .i64, .bool]⟩),
 (149,⟨.st [(0,3,1),(1,3,1),(2,3,1),(3,4,1)],4,[.int .i64, .int .i64, .int .i64, .bool]⟩),
 (165,⟨.st [(0,3,1),(1,3,1),(2,3,1),(3,3,1),(4,3,1),(5,3,1)],6,[.int .i64, .int .i64, .int .i64, .int .i64, .int .i64, .int .i64]⟩),
 (181,⟨.st [(0,3,1),(1,3,1),(2,3,1)],3,[.int .i64, .int .i64, .int .i64]⟩),
 (183,⟨.st [(0,3,1),(1,3,1),(2,3,1),(3,4,1)],4,[.int .i64, .int .i64, .int .i64, .bool]⟩),
 (186,⟨.st [(0,3,1),(1,3,1),(2,22,1),(3,3,1)],4,[.int .i64, .int .i64, .nil, .int .i64]⟩),
 (202,⟨.sl 81 1 24,1,[.nil]⟩),
 (231,⟨.st [(0,4,1),(1,9,1),(2,3,1)],3,[.bool, .str, .int .i64]⟩),
 (253,⟨.sl 132 2 16,1,[.nil]⟩),
 (257,⟨.st [(0,9,1),(1,9,1),(2,3,1),(3,3,1),(4,4,1),(5,3,1),(6,3,1)],7,[.str, .str, .int .i64, .int .i64, .bool, .int .i64, .int .i64]⟩)]
def lay (τ:Nat):(∀x:El τ,((aUj τ x).map EV.Lf.toV=bPc τ x/\(aUj τ x).length=Un.K τ)/\(aUj τ x).map EV.kdL=(Sz τ).map some)/\∀(cs:List (EV.Lf Un)) (x:El τ),bQp τ cs=some x->cs=aUj τ x:=by
 by_cases h:τ∈[5,55,165,149,58,60,4,186,29,69,32,183,127,181,80,3,83,35,132,134,137,139,39,41,9,97,81,231,257]
 ·simp only[aE,et,or_false] at h;rcases h with rfl|rfl|rfl|rfl|rfl|rfl|rfl|rfl|rfl|rfl|rfl|rfl|rfl|rfl|rfl|rfl|rfl|rfl|rfl|rfl|rfl|rfl|rfl|rfl|rfl|rfl|rfl|rfl|rfl<;>exact⟨λ_=>⟨⟨rfl,rfl⟩,rfl⟩,λ_ _ h=>by obtain⟨t,rfl,rfl⟩:=EV.bBi h;rfl⟩
 ·have e:El τ=Empty:=by unfold El;split<;>first|(exfalso;revert h;decide)|rfl
  exact⟨λx=>(cast e x).elim,λ_ x=>(cast e x).elim⟩
def hc1 (τ:Nat)(x:El τ):(aUj τ x).map EV.Lf.toV=bPc τ x:=((lay τ).1 x).1.1
def hc2 (τ:Nat)(x:El τ):(aUj τ x).length=Un.K τ:=((lay τ).1 x).1.2
def hc3 (τ:Nat)(x:El τ)(c:EV.Lf Un)(hc:c∈aUj τ x):c.aAZ=true:=EV.bGq ((lay τ).1 x).2 c hc
def Yn:EV.Lay Un:=⟨⟨aUj,bQp,hc1,hc2,hc3,λτ=>(lay τ).2⟩,Sz,5,λn=>n,λn=>n,λ_=>rfl,λ_=>rfl⟩
def ly1 (τ:Nat)(x:El τ):(aUj τ x).map EV.kdL=(Sz τ).map some:=((lay τ).1 x).2
def ly2:∀(τ τ':Nat),EV.Kd.sl τ'∈Sz τ->0<Un.K τ':=by intro τ τ' h;unfold Sz at h;split at h<;>simp only[aE,et,or_false,reduceCtorEq,false_or,or_self,EV.Kd.sl.injEq] at h<;>first|exact h.elim|(subst h;exact bf rfl)|(rcases h with h|h|h|h|h|h|h|h<;>(subst h;exact bf rfl))|(rcases h with h|h|h|h|h|h|h<;>(subst h;exact bf rfl))|(rcases h with h|h|h|h|h|h<;>(subst h;exact bf rfl))|(rcases h with h|h|h|h|h<;>(subst h;exact bf rfl))|(rcases h with h|h|h|h<;>(subst h;exact bf rfl))|(rcases h with h|h|h<;>(subst h;exact bf rfl))|(rcases h with h|h<;>(subst h;exact bf rfl))
def bQq:EV.LayOk Yn:=⟨ly1,ly2⟩
def lK (f:Func):Code:=match f.body with|some c=>c|none=> .skip
def T.mix:Tryz.prog.follows .mixedOrders=true:=by kernel_rfl
def aF:EV.Good Tryz.prog G0 Yn TI []:=⟨by kernel_rfl,bQq,λf S h=>by simp at h⟩
abbrev SU:=EV.Sum Un
def OK (f:Nat)(S:SU):Prop:=EV.zY Tryz.prog G0 Yn f S
def bQr:SU:=⟨[],[],false,false,λ_=>none⟩
def aSr (f:Nat):OK f bQr:=λ_ _ hr=>nomatch hr
def SIl:SU:=⟨[],[],false,true,λ_=>none⟩
def sIl (f:Nat):OK f SIl:=λ_ _ hr=>nomatch hr
def IL:EV.Il:=[(17,lK Tryz.f17,32,[.tmp 2]),(203,lK Tryz.f203,52,[.tmp 4]),(157,lK Tryz.f157,225,[.cell 10 41]),(99,lK Tryz.f99,21,[.cell 2 41]),(38,lK Tryz.f38,48,[.tmp 4]),(210,lK Tryz.f210,111,[.tmp 10]),(214,lK Tryz.f214,23,[]),(100,lK Tryz.f100,92,[.cell 4 41]),(42,lK Tryz.f42,20,[.cell 4 41]),(96,lK Tryz.f96,56,[.cell 2 39]),(98,lK Tryz.f98,66,[.cell 2 32]),(41,lK Tryz.f41,49,[.cell 4 41]),(18,lK Tryz.f18,7,[.cell 2 41]),(37,lK Tryz.f37,42,[.cell 4 41, .tmp 5])]
def bMu:EV.rG Tryz.prog IL:=EV.qA Tryz.func17 rfl Tryz.ntmps17 rfl (λ_ _=>by kernel_rfl)<|EV.qA Tryz.func203 rfl Tryz.ntmps203 rfl (λ_ _=>by kernel_rfl)<|EV.qA Tryz.func157 rfl Tryz.ntmps157 rfl (λ_ _=>by kernel_rfl)<|EV.qA Tryz.func99 rfl Tryz.ntmps99 rfl (λ_ _=>by kernel_rfl)<|EV.qA Tryz.func38 rfl Tryz.ntmps38 rfl (λ_ _=>by kernel_rfl)<|EV.qA Tryz.func210 rfl Tryz.ntmps210 rfl (λ_ _=>by kernel_rfl)<|EV.qA Tryz.func214 rfl Tryz.ntmps214 rfl (λ_ _=>by kernel_rfl)<|EV.qA Tryz.func100 rfl Tryz.ntmps100 rfl (λ_ _=>by kernel_rfl)<|EV.qA Tryz.func42 rfl Tryz.ntmps42 rfl (λ_ _=>by kernel_rfl)<|EV.qA Tryz.func96 rfl Tryz.ntmps96 rfl (λ_ _=>by kernel_rfl)<|EV.qA Tryz.func98 rfl Tryz.ntmps98 rfl (λ_ _=>by kernel_rfl)<|EV.qA Tryz.func41 rfl Tryz.ntmps41 rfl (λ_ _=>by kernel_rfl)<|EV.qA Tryz.func18 rfl Tryz.ntmps18 rfl (λ_ _=>by kernel_rfl)<|EV.qA Tryz.func37 rfl Tryz.ntmps37 rfl (λ_ _=>by kernel_rfl)<|EV.bOg
def od (n:Nat)(l:List Nat):List (Nat×Bool):=(List.range n).map λi=>(i, !l.contains i)
def gc {f:Nat}{S:SU}{FZ:List (Nat×SU)}(h:OK f S)(G:EV.Good Tryz.prog G0 Yn TI FZ):EV.Good Tryz.prog G0 Yn TI ((f,S)::FZ):=EV.aRt h G
def gcp {f:Nat}{S:SU}{FZ:List (Nat×SU)}(h:OK f S)(G:EV.Good Tryz.prog G0 Yn TI FZ)(hw:S.wt=false:=by rfl)(hf:S.fr=true:=by rfl):EV.Good Tryz.prog G0 Yn TI ((f,S.pl)::FZ):=EV.aRt (EV.bGx h hw hf) G
def mkS {f:FuncId}{fn:Func}{n:Nat}{S:SU}{FZ:List (Nat×SU)}{m:EV.rD Un S.ar->Option (EV.rD Un S.rs)}(an:EV.An)(l:List ResultVar)(G:EV.Good Tryz.prog G0 Yn TI FZ)(hf:Tryz.prog.funcs[f]? =some fn)(hn:fn.ntmps=n)(ht:∀a r,S.m a=some r->m a=some r)(h:∀a,(fn.name== "runtime.NumGoroutine",EV.evF Yn TI FZ IL an (lK fn) n S.ar S.rs S.fr l a)=(false,m a))(hb:fn.body=some (lK fn):=by rfl)(hl:fn.results=l.toArray:=by rfl)(hlen:S.ar.length<=n:=by decide)(hw:S.wt=false:=by rfl):OK f S:=
 λa r hr=>EV.bOj (an:=λ_=>an) G T.mix bMu hf hb hn hl (EV.aV3 hf hb (congrArg Prod.fst (h a))) hlen hw (λa r hr=>(congrArg Prod.snd (h a)).trans (ht a r hr)) a r hr
def mkP {f:FuncId}{fn:Func}{n T:Nat}{ks rs:List EV.Kd}{M m:EV.rD Un (.st T::ks)->Option (EV.rD Un (.st T::rs))}{FZ:List (Nat×SU)}(an:EV.An)(l:List ResultVar)(G:EV.Good Tryz.prog G0 Yn TI FZ)(hf:Tryz.prog.funcs[f]? =some fn)(hn:fn.ntmps=n)(ht:∀a r,M a=some r->m a=some r)(h:∀a,(fn.name== "runtime.NumGoroutine",EV.evP Yn TI FZ IL an (lK fn) n T ks rs l a)=(false,m a))(hb:fn.body=some (lK fn):=by rfl)(hl:fn.results=l.toArray:=by rfl)(hlen:ks.length+1<=n:=by decide):OK f ⟨.st T::ks, .st T::rs,true,true,M⟩:=
 λa r hr=>EV.bOn (an:=λ_=>an) G Go.VK.T.mix bMu hf hb hn hl (EV.aV3 hf hb (congrArg Prod.fst (h a))) hlen (λa r hr=>(congrArg Prod.snd (h a)).trans (ht a r hr)) a r hr
def jF:EV.Sum Un:=⟨[.str, .str],[.sl 9],false,false,λ(a:ByteArray×ByteArray)=>gd (a.1.size<4294967281/\1<=a.2.size) (some (kE a.1 a.2))⟩
def aDa (args:Array Value)(w:World):(callFunc 218 args).run Tryz.prog w= .ok (.enter 218 args) w:=by kernel_rfl
def aG5 (a:ByteArray×ByteArray):(EV.bY Yn jF.ar a).map EV.wJ=[.str a.1, .str a.2]:=by kernel_rfl
def aG6 (a:ByteArray×ByteArray):mF ((EV.bY Yn jF.rs (kE a.1 a.2)).map EV.wJ)= .slice 1 ((kE a.1 a.2).map sV):=by kernel_rfl
def aG7 (a:ByteArray×ByteArray)(r:EV.rD Un jF.rs)(hr:gd (a.1.size<4294967281/\1<=a.2.size) (some (kE a.1 a.2))=some r):Spec Tryz.prog G0 218 ((EV.bY Yn jF.ar a).map EV.wJ) (λv=>v=mF ((EV.bY Yn jF.rs r).map EV.wJ)):=by
 unfold gd at hr;split at hr
 ·rename_i hp;have e:=ak hr;subst e;rw[aG5,aG6];exact aY9 aDa (λs sep m w a b c=>Tryz.strings_Split s sep m w a b c) a.1 a.2 hp.1 hp.2
 ·cases hr
def Je:EV.zY Tryz.prog G0 Yn 218 jF:=λ(a:ByteArray×ByteArray) r hr=>⟨λ_ _=>aG7 a r hr,λ_ h=>absurd (show false=true from h) eL,λh=>absurd (show false=true from h) eL,λh=>absurd (show false=true from h) eL⟩
def kG:EV.Sum Un:=⟨[.sl 9, .str],[.str],false,false,λ(a:(List ByteArray)×ByteArray)=>gd (0<a.1.length/\(pF a.2 a.1).size<=140737488355328/\a.1.length<=140737488355328) (some (pF a.2 a.1))⟩
def aG8 (args:Array Value)(w:World):(callFunc 219 args).run Tryz.prog w= .ok (.enter 219 args) w:=by kernel_rfl
def aLq (a:(List ByteArray)×ByteArray):(EV.bY Yn kG.ar a).map EV.wJ=[.slice 1 (a.1.map sV), .str a.2]:=by kernel_rfl
def aLr (a:(List ByteArray)×ByteArray):mF ((EV.bY Yn kG.rs (pF a.2 a.1)).map EV.wJ)= .str (pF a.2 a.1):=by kernel_rfl
def aLs (a:(List ByteArray)×ByteArray)(r:EV.rD Un kG.rs)(hr:gd (0<a.1.length/\(pF a.2 a.1).size<=140737488355328/\a.1.length<=140737488355328) (some (pF a.2 a.1))=some r):Spec Tryz.prog G0 219 ((EV.bY Yn kG.ar a).map EV.wJ) (λv=>v=mF ((EV.bY Yn kG.rs r).map EV.wJ)):=by
 unfold gd at hr;split at hr
 ·rename_i hp;have e:=ak hr;subst e;rw[aLq,aLr];exact bC1 aG8 Tryz.strings_Join a.1 a.2 (by intro h;have:=hp.1;rw[h] at this;simp at this) hp.2.1 hp.2.2
 ·cases hr
def aLt:EV.zY Tryz.prog G0 Yn 219 kG:=λ(a:(List ByteArray)×ByteArray) r hr=>⟨λ_ _=>aLs a r hr,λ_ h=>absurd (show false=true from h) eL,λh=>absurd (show false=true from h) eL,λh=>absurd (show false=true from h) eL⟩
def aG9:EV.Sum Un:=⟨[.str],[.int .i64, .bool],false,false,λ(a:ByteArray)=>none⟩
def aHa:OK 304 aG9:=λ_ _ h=>nomatch h
def aDb:EV.Sum Un:=⟨[.int .i64],[.str],false,false,λ(a:Int)=>none⟩
def aDc:OK 292 aDb:=λ_ _ h=>nomatch h
end
end Go.VK
