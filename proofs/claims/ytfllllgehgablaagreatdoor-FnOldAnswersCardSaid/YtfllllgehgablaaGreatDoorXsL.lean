import Derived.Test.YtfllllgehgablaaGreatDoorXsFF
import Derived.Test.YtfllllgehgablaaGreatDoorEVzbtod
import Derived.Test.YtfllllgehgablaaGreatDoorProg
import Derived.Test.YtfllllgehgablaaGreatDoorTrysShelf
/- Printed by wip/tools: models, walks, proofs. -/
set_option linter.all false
set_option maxRecDepth 100000
set_option maxHeartbeats 4000000
namespace Go.VK
open Go.RowKit Go.Proofs
noncomputable section
abbrev G0:GI:=bNm 0
def El:Nat->Type
 |5=>Int
 |55=>D.aAI
 |165=>D.aAC
 |149=>D.Entry
 |58=>D.aAF
 |60=>D.Device
 |4=>Bool
 |186=>D.Box
 |29=>D.aAE
 |69=>D.aAA
 |32=>D.aAB
 |183=>D.aAK
 |127=>D.aAH
 |181=>D.aAM
 |80=>D.aAD
 |3=>Int
 |83=>D.Site
 |35=>D.aAP
 |132=>D.aAS
 |134=>D.aAV
 |137=>D.aAG
 |139=>D.aAR
 |39=>D.aAJ
 |41=>D.World
 |9=>ByteArray
 |97=>D.aAQ
 |81=>List Int
 |231=>D.aAN
 |257=>D.aAL
 |_=>Empty
def bMj:(τ:Nat)->El τ->List V
 |5=>y8
 |55=>D.aAI.V
 |165=>D.aAC.V
 |149=>D.Entry.V
 |58=>D.aAF.V
 |60=>D.Device.V
 |4=>bV
 |186=>D.Box.V
 |29=>D.aAE.V
 |69=>D.aAA.V
 |32=>D.aAB.V
 |183=>D.aAK.V
 |127=>D.aAH.V
 |181=>D.aAM.V
 |80=>D.aAD.V
 |3=>iV
 |83=>D.Site.V
 |35=>D.aAP.V
 |132=>D.aAS.V
 |134=>D.aAV.V
 |137=>D.aAG.V
 |139=>D.aAR.V
 |39=>D.aAJ.V
 |41=>D.World.V
 |9=>sV
 |97=>D.aAQ.V
 |81=>(λl=>[V.slice 1 (l.map iV)])
 |231=>D.aAN.V
 |257=>D.aAL.V
 |_=>λ_=>[]
def Un:EV.Uni:=⟨El,λ|5=>1|55=>4|165=>6|149=>4|58=>1|60=>9|4=>1|186=>4|29=>2|69=>4|32=>4|183=>4|127=>3|181=>3|80=>3|3=>1|83=>6|35=>4|132=>2|134=>5|137=>7|139=>4|39=>1|41=>16|9=>1|97=>3|81=>1|231=>3|257=>7|_=>0,bMj⟩
def aR3:(τ:Nat)->El τ->List (EV.Lf Un)
 |5=>λx=>[.int .u8 x]
 |55=>λx=>[.int .i64 x.Vendor, .int .i64 x.Serial, .int .i64 x.Seed, .int .i64 x.Counter]
 |165=>λx=>[.int .i64 x.Index, .int .i64 x.Kind, .int .i64 x.Device, .int .i64 x.By, .int .i64 x.Previous, .int .i64 x.Signature]
 |149=>λx=>[.int .i64 x.Site, .int .i64 x.Handle, .int .i64 x.Version, .bool x.Deleted]
 |58=>λx=>[.sl 149 x.Entries]
 |60=>λx=>[.int .i64 x.Store.Vendor, .int .i64 x.Store.Serial, .int .i64 x.Store.Seed, .int .i64 x.Store.Counter, .sl 165 x.Log, .int .i64 x.Key, .int .i64 x.Epoch, .int .i64 x.Version, .sl 149 x.aAF.Entries]
 |4=>λx=>[.bool x]
 |186=>λx=>[.int .i64 x.To, .int .i64 x.Ephemeral, .sl 5 x.Data, .int .i64 x.MAC]
 |29=>λx=>[.int .i64 x.Epoch, .sl 186 x.Boxes]
 |69=>λx=>[.int .i64 x.Epoch, .int .i64 x.Version, .sl 5 x.Data, .int .i64 x.MAC]
 |32=>λx=>[.sl 165 x.Log, .int .i64 x.Boxes.Epoch, .sl 186 x.Boxes.Boxes, .sl 69 x.History]
 |183=>λx=>[.int .i64 x.Handle, .int .i64 x.Public, .int .i64 x.Counter, .bool x.Cut]
 |127=>λx=>[.int .i64 x.Id, .int .i64 x.Minimum, .sl 183 x.Credentials]
 |181=>λx=>[.int .i64 x.Id, .int .i64 x.aAH, .int .i64 x.Until]
 |80=>λx=>[.int .i64 x.Seed, .int .i64 x.Next, .sl 181 x.Open]
 |3=>λx=>[.int .i64 x]
 |83=>λx=>[.str x.Name, .sl 127 x.Accounts, .int .i64 x.Book.Seed, .int .i64 x.Book.Next, .sl 181 x.Book.Open, .sl 3 x.Logins]
 |35=>λx=>[.int .i64 x.Salt, .int .i64 x.Threshold, .int .i64 x.Check, .int .i64 x.Masked]
 |132=>λx=>[.int .i64 x.Index, .int .i64 x.Value]
 |134=>λx=>[.int .i64 x.aAS.Index, .int .i64 x.aAS.Value, .int .i64 x.Epoch, .int .i64 x.Guesses, .int .i64 x.Limit]
 |137=>λx=>[.int .i64 x.State.aAS.Index, .int .i64 x.State.aAS.Value, .int .i64 x.State.Epoch, .int .i64 x.State.Guesses, .int .i64 x.State.Limit, .sl 134 x.Saved, .int .i64 x.Monotonic]
 |139=>λx=>[.int .i64 x.Kind, .int .i64 x.aAH, .int .i64 x.Time, .bool x.Seen]
 |39=>λx=>[.sl 139 x.Notices]
 |41=>λx=>[.int .i64 x.Now, .int .i64 x.Seed, .sl 60 x.Devices, .sl 4 x.Stolen, .sl 165 x.aAB.Log, .int .i64 x.aAB.Boxes.Epoch, .sl 186 x.aAB.Boxes.Boxes, .sl 69 x.aAB.History, .sl 83 x.Sites, .int .i64 x.aAP.Salt, .int .i64 x.aAP.Threshold, .int .i64 x.aAP.Check, .int .i64 x.aAP.Masked, .sl 137 x.Hosts, .int .i64 x.Pin, .sl 139 x.Mail.Notices]
 |9=>λx=>[.str x]
 |97=>λx=>[.sl 5 x.b, .int .i64 x.i, .int .i64 x.h]
 |81=>λx=>[.sl 3 x]
 |231=>λx=>[.bool x.Secure, .str x.Host, .int .i64 x.Port]
 |257=>λx=>[.str x.Site, .str x.aAN, .int .i64 x.aAM, .int .i64 x.Handle, .bool x.Present, .int .i64 x.Counter, .int .i64 x.Signature]
 |_=>λ_=>[]
def Qr:Nat->List EV.Kd
 |5=>[.int .u8]
 |55=>[.int .i64, .int .i64, .int .i64, .int .i64]
 |165=>[.int .i64, .int .i64, .int .i64, .int .i64, .int .i64, .int .i64]
 |149=>[.int .i64, .int .i64, .int .i64, .bool]
 |58=>[.sl 149]
 |60=>[.int .i64, .int .i64, .int .i64, .int .i64, .sl 165, .int .i64, .int .i64, .int .i64, .sl 149]
 |4=>[.bool]
 |186=>[.int .i64, .int .i64, .sl 5, .int .i64]
 |29=>[.int .i64, .sl 186]
 |69=>[.int .i64, .int .i64, .sl 5, .int .i64]
 |32=>[.sl 165, .int .i64, .sl 186, .sl 69]
 |183=>[.int .i64, .int .i64, .int .i64, .bool]
 |127=>[.int .i64, .int .i64, .sl 183]
 |181=>[.int .i64, .int .i64, .int .i64]
 |80=>[.int .i64, .int .i64, .sl 181]
 |3=>[.int .i64]
 |83=>[.str, .sl 127, .int .i64, .int .i64, .sl 181, .sl 3]
 |35=>[.int .i64, .int .i64, .int .i64, .int .i64]
 |132=>[.int .i64, .int .i64]
 |134=>[.int .i64, .int .i64, .int .i64, .int .i64, .int .i64]
 |137=>[.int .i64, .int .i64, .int .i64, .int .i64, .int .i64, .sl 134, .int .i64]
 |139=>[.int .i64, .int .i64, .int .i64, .bool]
 |39=>[.sl 139]
 |41=>[.int .i64, .int .i64, .sl 60, .sl 4, .sl 165, .int .i64, .sl 186, .sl 69, .sl 83, .int .i64, .int .i64, .int .i64, .int .i64, .sl 137, .int .i64, .sl 139]
 |9=>[.str]
 |97=>[.sl 5, .int .i64, .int .i64]
 |81=>[.sl 3]
 |231=>[.bool, .str, .int .i64]
 |257=>[.str, .str, .int .i64, .int .i64, .bool, .int .i64, .int .i64]
 |_=>[]
def bNx:(τ:Nat)->List (EV.Lf Un)->Option (El τ)
 |5=>EV.kM (Qr 5) (λx=>x)
 |55=>EV.kM (Qr 55) D.aAI.mk
 |165=>EV.kM (Qr 165) D.aAC.mk
 |149=>EV.kM (Qr 149) D.Entry.mk
 |58=>EV.kM (Qr 58) D.aAF.mk
 |60=>EV.kM (Qr 60) (λa0 a1 a2 a3 a4 a5 a6 a7 a8=>(⟨⟨a0,a1,a2,a3⟩,a4,a5,a6,a7,⟨a8⟩⟩:D.Device))
 |4=>EV.kM (Qr 4) (λx=>x)
 |186=>EV.kM (Qr 186) D.Box.mk
 |29=>EV.kM (Qr 29) D.aAE.mk
 |69=>EV.kM (Qr 69) D.aAA.mk
 |32=>EV.kM (Qr 32) (λa0 a1 a2 a3=>(⟨a0,⟨a1,a2⟩,a3⟩:D.aAB))
 |183=>EV.kM (Qr 183) D.aAK.mk
 |127=>EV.kM (Qr 127) D.aAH.mk
 |181=>EV.kM (Qr 181) D.aAM.mk
 |80=>EV.kM (Qr 80) D.aAD.mk
 |3=>EV.kM (Qr 3) (λx=>x)
 |83=>EV.kM (Qr 83) (λa0 a1 a2 a3 a4 a5=>(⟨a0,a1,⟨a2,a3,a4⟩,a5⟩:D.Site))
 |35=>EV.kM (Qr 35) D.aAP.mk
 |132=>EV.kM (Qr 132) D.aAS.mk
 |134=>EV.kM (Qr 134) (λa0 a1 a2 a3 a4=>(⟨⟨a0,a1⟩,a2,a3,a4⟩:D.aAV))
 |137=>EV.kM (Qr 137) (λa0 a1 a2 a3 a4 a5 a6=>(⟨⟨⟨a0,a1⟩,a2,a3,a4⟩,a5,a6⟩:D.aAG))
 |139=>EV.kM (Qr 139) D.aAR.mk
 |39=>EV.kM (Qr 39) D.aAJ.mk
 |41=>EV.kM (Qr 41) (λa0 a1 a2 a3 a4 a5 a6 a7 a8 a9 a10 a11 a12 a13 a14 a15=>(⟨a0,a1,a2,a3,⟨a4,⟨a5,a6⟩,a7⟩,a8,⟨a9,a10,a11,a12⟩,a13,a14,⟨a15⟩⟩:D.World))
 |9=>EV.kM (Qr 9) (λx=>x)
 |97=>EV.kM (Qr 97) D.aAQ.mk
 |81=>EV.kM (Qr 81) (λx=>x)
 |231=>EV.kM (Qr 231) D.aAN.mk
 |257=>EV.kM (Qr 257) D.aAL.mk
 |_=>λ_=>none
def TI:List (Nat×EV.TInfo):=[
 (3,⟨.int .i64,1,[.int .i64]⟩),
 (4,⟨.bool,1,[.bool]⟩),
 (5,⟨.int .u8,1,[.int .u8]⟩),
 (9,⟨.str,1,[.str]⟩),
 (22,⟨.sl 5 1 1,1,[.nil]⟩),
 (24,⟨.sl 60 9 104,1,[.nil]⟩),
 (25,⟨.sl 4 1 1,1,[.nil]⟩),
 (26,⟨.sl 165 6 48,1,[.nil]⟩),
 (27,⟨.sl 186 4 48,1,[.nil]⟩),
 (29,⟨.st [(0,3,1),(1,27,1)],2,[.int .i64, .nil]⟩),
 (30,⟨.sl 69 4 48,1,[.nil]⟩),
 (32,⟨.st [(0,26,1),(1,29,2),(3,30,1)],4,[.nil, .int .i64, .nil, .nil]⟩),
 (33,⟨.sl 83 6 104,1,[.nil]⟩),
 (35,⟨.st [(0,3,1),(1,3,1),(2,3,1),(3,3,1)],4,[.int .i64, .int .i64, .int .i64, .int .i64]⟩),
 (36,⟨.sl 137 7 72,1,[.nil]⟩),
 (37,⟨.sl 139 4 32,1,[.nil]⟩),
 (39,⟨.st [(0,37,1)],1,[.nil]⟩),
 (41,⟨.st [(0,3,1),(1,3,1),(2,24,1),(3,25,1),(4,32,4),(8,33,1),(9,35,4),(13,36,1),(14,3,1),(15,39,1)],16,[.int .i64, .int .i64, .nil, .nil, .nil, .int .i64, .nil, .nil, .nil, .int .i64, .int .i64, .int .i64, .int .i64, .nil, .int .i64, .nil]⟩),
 (55,⟨.st [(0,3,1),(1,3,1),(2,3,1),(3,3,1)],4,[.int .i64, .int .i64, .int .i64, .int .i64]⟩),
 (56,⟨.sl 149 4 32,1,[.nil]⟩),
 (58,⟨.st [(0,56,1)],1,[.nil]⟩),
 (60,⟨.st [(0,55,4),(4,26,1),(5,3,1),(6,3,1),(7,3,1),(8,58,1)],9,[.int .i64, .int .i64, .int .i64, .int .i64, .nil, .int .i64, .int .i64, .int .i64, .nil]⟩),
 (69,⟨.st [(0,3,1),(1,3,1),(2,22,1),(3,3,1)],4,[.int .i64, .int .i64, .nil, .int .i64]⟩),
 (77,⟨.sl 127 3 40,1,[.nil]⟩),
 (78,⟨.sl 181 3 24,1,[.nil]⟩),
 (80,⟨.st [(0,3,1),(1,3,1),(2,78,1)],3,[.int .i64, .int .i64, .nil]⟩),
 (81,⟨.sl 3 1 8,1,[.nil]⟩),
 (83,⟨.st [(0,9,1),(1,77,1),(2,80,3),(5,81,1)],6,[.str, .nil, .int .i64, .int .i64, .nil, .nil]⟩),
 (88,⟨.sl 9 1 16,1,[.nil]⟩),
 (97,⟨.st [(0,22,1),(1,3,1),(2,3,1)],3,[.nil, .int .i64, .int .i64]⟩),
 (125,⟨.sl 183 4 32,1,[.nil]⟩),
 (127,⟨.st [(0,3,1),(1,3,1),(2,125,1)],3,[.int .i64, .int .i64, .nil]⟩),
 (132,⟨.st [(0,3,1),(1,3,1)],2,[.int .i64, .int .i64]⟩),
 (134,⟨.st [(0,132,2),(2,3,1),(3,3,1),(4,3,1)],5,[.int .i64, .int .i64, .int .i64, .int .i64, .int .i64]⟩),
 (135,⟨.sl 134 5 40,1,[.nil]⟩),
 (137,⟨.st [(0,134,5),(5,135,1),(6,3,1)],7,[.int .i64, .int .i64, .int .i64, .int .i64, .int .i64, .nil, .int .i64]⟩),
 (139,⟨.st [(0,3,1),(1,3,1),(2,3,1),(3,4,1)],4,[.int .i64, .int .i64, .int .i64, .bool]⟩),
 (149,⟨.st [(0,3,1),(1,3,1),(2,3,1),(3,4,1)],4,[.int .i64, .int .i64, .int .i64, .bool]⟩),
 (165,⟨.st [(0,3,1),(1,3,1),(2,3,1),(3,3,1),(4,3,1),(5,3,1)],6,[.int .i64, .int .i64, .int .i64, .int .i64, .int .i64, .int .i64]⟩),
 (181,⟨.st [(0,3,1),(1,3,1),(2,3,1)],3,[.int .i64, .int .i64, .int .i64]⟩),
 (183,⟨.st [(0,3,1),(1,3,1),(2,3,1),(3,4,1)],4,[.int .i64, .int .i64, .int .i64, .bool]⟩),
 (186,⟨.st [(0,3,1),(1,3,1),(2,22,1),(3,3,1)],4,[.int .i64, .int .i64, .nil, .int .i64]⟩),
 (202,⟨.sl 81 1 24,1,[.nil]⟩),
 (231,⟨.st [(0,4,1),(1,9,1),(2,3,1)],3,[.bool, .str, .int .i64]⟩),
 (253,⟨.sl 132 2 16,1,[.nil]⟩),
 (257,⟨.st [(0,9,1),(1,9,1),(2,3,1),(3,3,1),(4,4,1),(5,3,1),(6,3,1)],7,[.str, .str, .int .i64, .int .i64, .bool, .int .i64, .int .i64]⟩)]
def lay (τ:Nat):(∀x:El τ,((aR3 τ x).map EV.Lf.toV=bMj τ x/\(aR3 τ x).length=Un.K τ)/\(aR3 τ x).map EV.kdL=(Qr τ).map some)/\∀(cs:List (EV.Lf Un)) (x:El τ),bNx τ cs=some x->cs=aR3 τ x:=by
 by_cases h:τ∈[5,55,165,149,58,60,4,186,29,69,32,183,127,181,80,3,83,35,132,134,137,139,39,41,9,97,81,231,257]
 ·simp only[ba,et,or_false] at h
  rcases h with rfl|rfl|rfl|rfl|rfl|rfl|rfl|rfl|rfl|rfl|rfl|rfl|rfl|rfl|rfl|rfl|rfl|rfl|rfl|rfl|rfl|rfl|rfl|rfl|rfl|rfl|rfl|rfl|rfl<;>exact⟨λ_=>⟨⟨rfl,rfl⟩,rfl⟩,λ_ _ h=>by obtain⟨t,rfl,rfl⟩:=EV.aYy h;rfl⟩
 ·have e:El τ=Empty:=by
   unfold El
   split<;>first|(exfalso;revert h;decide)|rfl
  exact⟨λx=>(cast e x).elim,λ_ x=>(cast e x).elim⟩
def hc1 (τ:Nat)(x:El τ):(aR3 τ x).map EV.Lf.toV=bMj τ x:=((lay τ).1 x).1.1
def hc2 (τ:Nat)(x:El τ):(aR3 τ x).length=Un.K τ:=((lay τ).1 x).1.2
def hc3 (τ:Nat)(x:El τ)(c:EV.Lf Un)(hc:c∈aR3 τ x):c.aAZ=true:=EV.bD1 ((lay τ).1 x).2 c hc
def Yn:EV.Lay Un:=⟨⟨aR3,bNx,hc1,hc2,hc3,λτ=>(lay τ).2⟩,Qr,5,λn=>n,λn=>n,λ_=>rfl,λ_=>rfl⟩
def ly1 (τ:Nat)(x:El τ):(aR3 τ x).map EV.kdL=(Qr τ).map some:=((lay τ).1 x).2
def ly2:∀(τ τ':Nat),EV.Kd.sl τ'∈Qr τ->0<Un.K τ':=by
 intro τ τ' h
 unfold Qr at h
 split at h<;>simp only[ba,et,or_false,reduceCtorEq,false_or,or_self,EV.Kd.sl.injEq] at h<;>first|exact h.elim|(subst h;exact bc rfl)|(rcases h with h|h|h|h|h|h|h|h<;>(subst h;exact bc rfl))|(rcases h with h|h|h|h|h|h|h<;>(subst h;exact bc rfl))|(rcases h with h|h|h|h|h|h<;>(subst h;exact bc rfl))|(rcases h with h|h|h|h|h<;>(subst h;exact bc rfl))|(rcases h with h|h|h|h<;>(subst h;exact bc rfl))|(rcases h with h|h|h<;>(subst h;exact bc rfl))|(rcases h with h|h<;>(subst h;exact bc rfl))
def bNy:EV.LayOk Yn:=⟨ly1,ly2⟩
def kX (f:Func):Code:=match f.body with|some c=>c|none=> .skip
def T.mix:Tryz.prog.follows .mixedOrders=true:=by kernel_rfl
def aG:EV.Good Tryz.prog G0 Yn TI []:=⟨by kernel_rfl,bNy,λf S h=>by simp at h⟩
abbrev SU:=EV.Sum Un
def OK (f:Nat)(S:SU):Prop:=EV.yT Tryz.prog G0 Yn f S
def bNz:SU:=⟨[],[],false,false,λ_=>none⟩
def aZz (f:Nat):OK f bNz:=λ_ _ hr=>nomatch hr
def SIl:SU:=⟨[],[],false,true,λ_=>none⟩
def sIl (f:Nat):OK f SIl:=λ_ _ hr=>nomatch hr
def IL:EV.Il:=[(17,kX Tryz.f17,32,[.tmp 2]),(203,kX Tryz.f203,52,[.tmp 4]),(157,kX Tryz.f157,225,[.cell 10 41]),(99,kX Tryz.f99,21,[.cell 2 41]),(38,kX Tryz.f38,48,[.tmp 4]),(210,kX Tryz.f210,111,[.tmp 10]),(214,kX Tryz.f214,23,[]),(100,kX Tryz.f100,92,[.cell 4 41]),(42,kX Tryz.f42,20,[.cell 4 41]),(96,kX Tryz.f96,56,[.cell 2 39]),(98,kX Tryz.f98,66,[.cell 2 32]),(41,kX Tryz.f41,49,[.cell 4 41]),(18,kX Tryz.f18,7,[.cell 2 41]),(37,kX Tryz.f37,42,[.cell 4 41, .tmp 5])]
def bJ3:EV.qE Tryz.prog IL:=EV.oP Tryz.func17 rfl Tryz.ntmps17 rfl (λ_ _=>by kernel_rfl)<|EV.oP Tryz.func203 rfl Tryz.ntmps203 rfl (λ_ _=>by kernel_rfl)<|EV.oP Tryz.func157 rfl Tryz.ntmps157 rfl (λ_ _=>by kernel_rfl)<|EV.oP Tryz.func99 rfl Tryz.ntmps99 rfl (λ_ _=>by kernel_rfl)<|EV.oP Tryz.func38 rfl Tryz.ntmps38 rfl (λ_ _=>by kernel_rfl)<|EV.oP Tryz.func210 rfl Tryz.ntmps210 rfl (λ_ _=>by kernel_rfl)<|EV.oP Tryz.func214 rfl Tryz.ntmps214 rfl (λ_ _=>by kernel_rfl)<|EV.oP Tryz.func100 rfl Tryz.ntmps100 rfl (λ_ _=>by kernel_rfl)<|EV.oP Tryz.func42 rfl Tryz.ntmps42 rfl (λ_ _=>by kernel_rfl)<|EV.oP Tryz.func96 rfl Tryz.ntmps96 rfl (λ_ _=>by kernel_rfl)<|EV.oP Tryz.func98 rfl Tryz.ntmps98 rfl (λ_ _=>by kernel_rfl)<|EV.oP Tryz.func41 rfl Tryz.ntmps41 rfl (λ_ _=>by kernel_rfl)<|EV.oP Tryz.func18 rfl Tryz.ntmps18 rfl (λ_ _=>by kernel_rfl)<|EV.oP Tryz.func37 rfl Tryz.ntmps37 rfl (λ_ _=>by kernel_rfl)<|EV.bLo
def od (n:Nat)(l:List Nat):List (Nat×Bool):=(List.range n).map λi=>(i, !l.contains i)
def gc {f:Nat}{S:SU}{FZ:List (Nat×SU)}(h:OK f S)(G:EV.Good Tryz.prog G0 Yn TI FZ):EV.Good Tryz.prog G0 Yn TI ((f,S)::FZ):=EV.aO6 h G
def gcp {f:Nat}{S:SU}{FZ:List (Nat×SU)}(h:OK f S)(G:EV.Good Tryz.prog G0 Yn TI FZ)(hw:S.wt=false:=by rfl)(hf:S.fr=true:=by rfl):EV.Good Tryz.prog G0 Yn TI ((f,S.pl)::FZ):=EV.aO6 (EV.bD8 h hw hf) G
def mkS {f:FuncId}{fn:Func}{n:Nat}{S:SU}{FZ:List (Nat×SU)}{m:EV.qB Un S.ar->Option (EV.qB Un S.rs)}(an:EV.An)(l:List ResultVar)(G:EV.Good Tryz.prog G0 Yn TI FZ)(hf:Tryz.prog.funcs[f]? =some fn)(hn:fn.ntmps=n)(ht:∀a r,S.m a=some r->m a=some r)(h:∀a,(fn.name== "runtime.NumGoroutine",EV.evF Yn TI FZ IL an (kX fn) n S.ar S.rs S.fr l a)=(false,m a))(hb:fn.body=some (kX fn):=by rfl)(hl:fn.results=l.toArray:=by rfl)(hlen:S.ar.length<=n:=by decide)(hw:S.wt=false:=by rfl):OK f S:=
 λa r hr=>EV.bLr (an:=λ_=>an) G T.mix bJ3 hf hb hn hl (EV.aTn hf hb (congrArg Prod.fst (h a))) hlen hw (λa r hr=>(congrArg Prod.snd (h a)).trans (ht a r hr)) a r hr
def mkP {f:FuncId}{fn:Func}{n T:Nat}{ks rs:List EV.Kd}{M m:EV.qB Un (.st T::ks)->Option (EV.qB Un (.st T::rs))}{FZ:List (Nat×SU)}(an:EV.An)(l:List ResultVar)(G:EV.Good Tryz.prog G0 Yn TI FZ)(hf:Tryz.prog.funcs[f]? =some fn)(hn:fn.ntmps=n)(ht:∀a r,M a=some r->m a=some r)(h:∀a,(fn.name== "runtime.NumGoroutine",EV.evP Yn TI FZ IL an (kX fn) n T ks rs l a)=(false,m a))(hb:fn.body=some (kX fn):=by rfl)(hl:fn.results=l.toArray:=by rfl)(hlen:ks.length+1<=n:=by decide):OK f ⟨.st T::ks, .st T::rs,true,true,M⟩:=
 λa r hr=>EV.bLv (an:=λ_=>an) G Go.VK.T.mix bJ3 hf hb hn hl (EV.aTn hf hb (congrArg Prod.fst (h a))) hlen (λa r hr=>(congrArg Prod.snd (h a)).trans (ht a r hr)) a r hr
def iU:EV.Sum Un:=⟨[.str, .str],[.sl 9],false,false,λ(a:ByteArray×ByteArray)=>gd (a.1.size<4294967281/\1<=a.2.size) (some (jT a.1 a.2))⟩
def aA6 (args:Array Value)(w:World):(callFunc 218 args).run Tryz.prog w= .ok (.enter 218 args) w:=by kernel_rfl
def aEv (a:ByteArray×ByteArray):(EV.bW Yn iU.ar a).map EV.vC=[.str a.1, .str a.2]:=by kernel_rfl
def aEw (a:ByteArray×ByteArray):lM ((EV.bW Yn iU.rs (jT a.1 a.2)).map EV.vC)= .slice 1 ((jT a.1 a.2).map sV):=by kernel_rfl
def aEx (a:ByteArray×ByteArray)(r:EV.qB Un iU.rs)(hr:gd (a.1.size<4294967281/\1<=a.2.size) (some (jT a.1 a.2))=some r):Spec Tryz.prog G0 218 ((EV.bW Yn iU.ar a).map EV.vC) (λv=>v=lM ((EV.bW Yn iU.rs r).map EV.vC)):=by
 unfold gd at hr
 split at hr
 ·rename_i hp
  have e:=ak hr
  subst e
  rw[aEv,aEw]
  exact aWu aA6 (λs sep m w a b c=>Tryz.strings_Split s sep m w a b c) a.1 a.2 hp.1 hp.2
 ·cases hr
def Hg:EV.yT Tryz.prog G0 Yn 218 iU:=λ(a:ByteArray×ByteArray) r hr=>⟨λ_ _=>aEx a r hr,λ_ h=>absurd (show false=true from h) eK,λh=>absurd (show false=true from h) eK,λh=>absurd (show false=true from h) eK⟩
def jW:EV.Sum Un:=⟨[.sl 9, .str],[.str],false,false,λ(a:(List ByteArray)×ByteArray)=>gd (0<a.1.length/\(nW a.2 a.1).size<=140737488355328/\a.1.length<=140737488355328) (some (nW a.2 a.1))⟩
def aEy (args:Array Value)(w:World):(callFunc 219 args).run Tryz.prog w= .ok (.enter 219 args) w:=by kernel_rfl
def aI2 (a:(List ByteArray)×ByteArray):(EV.bW Yn jW.ar a).map EV.vC=[.slice 1 (a.1.map sV), .str a.2]:=by kernel_rfl
def aI3 (a:(List ByteArray)×ByteArray):lM ((EV.bW Yn jW.rs (nW a.2 a.1)).map EV.vC)= .str (nW a.2 a.1):=by kernel_rfl
def aI4 (a:(List ByteArray)×ByteArray)(r:EV.qB Un jW.rs)(hr:gd (0<a.1.length/\(nW a.2 a.1).size<=140737488355328/\a.1.length<=140737488355328) (some (nW a.2 a.1))=some r):Spec Tryz.prog G0 219 ((EV.bW Yn jW.ar a).map EV.vC) (λv=>v=lM ((EV.bW Yn jW.rs r).map EV.vC)):=by
 unfold gd at hr
 split at hr
 ·rename_i hp
  have e:=ak hr
  subst e
  rw[aI2,aI3]
  exact bAd aEy Tryz.strings_Join a.1 a.2 (by intro h;have:=hp.1;rw[h] at this;simp at this) hp.2.1 hp.2.2
 ·cases hr
def aI5:EV.yT Tryz.prog G0 Yn 219 jW:=λ(a:(List ByteArray)×ByteArray) r hr=>⟨λ_ _=>aI4 a r hr,λ_ h=>absurd (show false=true from h) eK,λh=>absurd (show false=true from h) eK,λh=>absurd (show false=true from h) eK⟩
def aEz:EV.Sum Un:=⟨[.str],[.int .i64, .bool],false,false,λ(a:ByteArray)=>none⟩
def aE0:OK 304 aEz:=λ_ _ h=>nomatch h
def aA7:EV.Sum Un:=⟨[.int .i64],[.str],false,false,λ(a:Int)=>none⟩
def aA8:OK 292 aA7:=λ_ _ h=>nomatch h
end
end Go.VK
