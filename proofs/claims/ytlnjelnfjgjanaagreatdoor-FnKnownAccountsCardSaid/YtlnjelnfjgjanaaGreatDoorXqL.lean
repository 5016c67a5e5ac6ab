import Derived.Test.YtlnjelnfjgjanaaGreatDoorXqFF
import Derived.Test.YtlnjelnfjgjanaaGreatDoorEVzbtod
import Derived.Test.YtlnjelnfjgjanaaGreatDoorProg
import Derived.Test.YtlnjelnfjgjanaaGreatDoorTryzShelf
/- Printed by wip/tools: models, walks, proofs. -/
set_option linter.all false
set_option maxRecDepth 100000
set_option maxHeartbeats 4000000
namespace Go.VK
open Go.RowKit Go.Proofs
noncomputable section
abbrev G0:GI:=bLl 0
def El:Nat->Type
 |5=>Int
 |64=>D.aAH
 |113=>D.aAD
 |103=>D.Entry
 |55=>D.aAC
 |66=>D.Device
 |4=>Bool
 |190=>D.Box
 |29=>D.aAG
 |86=>D.aAA
 |32=>D.aAE
 |183=>D.aAL
 |181=>D.Account
 |242=>D.aAI
 |128=>D.aAB
 |3=>Int
 |130=>D.Site
 |35=>D.aAP
 |150=>D.aAQ
 |152=>D.aAR
 |155=>D.aAF
 |212=>D.aAO
 |39=>D.aAM
 |41=>D.World
 |110=>D.Event
 |166=>D.aAJ
 |169=>D.aAX
 |9=>ByteArray
 |218=>D.aAK
 |60=>List Int
 |_=>Empty
def bKo:(τ:Nat)->El τ->List V
 |5=>y8
 |64=>D.aAH.V
 |113=>D.aAD.V
 |103=>D.Entry.V
 |55=>D.aAC.V
 |66=>D.Device.V
 |4=>bV
 |190=>D.Box.V
 |29=>D.aAG.V
 |86=>D.aAA.V
 |32=>D.aAE.V
 |183=>D.aAL.V
 |181=>D.Account.V
 |242=>D.aAI.V
 |128=>D.aAB.V
 |3=>iV
 |130=>D.Site.V
 |35=>D.aAP.V
 |150=>D.aAQ.V
 |152=>D.aAR.V
 |155=>D.aAF.V
 |212=>D.aAO.V
 |39=>D.aAM.V
 |41=>D.World.V
 |110=>D.Event.V
 |166=>D.aAJ.V
 |169=>D.aAX.V
 |9=>sV
 |218=>D.aAK.V
 |60=>(λl=>[V.slice 1 (l.map iV)])
 |_=>λ_=>[]
def Un:EV.Uni:=⟨El,λ|5=>1|64=>4|113=>6|103=>4|55=>1|66=>9|4=>1|190=>4|29=>2|86=>4|32=>4|183=>4|181=>3|242=>3|128=>3|3=>1|130=>6|35=>4|150=>2|152=>5|155=>7|212=>4|39=>1|41=>16|110=>5|166=>3|169=>3|9=>1|218=>7|60=>1|_=>0,bKo⟩
def aQ0:(τ:Nat)->El τ->List (EV.Lf Un)
 |5=>λx=>[.int .u8 x]
 |64=>λx=>[.int .i64 x.Vendor, .int .i64 x.Serial, .int .i64 x.Seed, .int .i64 x.Counter]
 |113=>λx=>[.int .i64 x.Index, .int .i64 x.Kind, .int .i64 x.Device, .int .i64 x.By, .int .i64 x.Previous, .int .i64 x.Signature]
 |103=>λx=>[.int .i64 x.Site, .int .i64 x.Handle, .int .i64 x.Version, .bool x.Deleted]
 |55=>λx=>[.sl 103 x.Entries]
 |66=>λx=>[.int .i64 x.Store.Vendor, .int .i64 x.Store.Serial, .int .i64 x.Store.Seed, .int .i64 x.Store.Counter, .sl 113 x.Log, .int .i64 x.Key, .int .i64 x.Epoch, .int .i64 x.Version, .sl 103 x.aAC.Entries]
 |4=>λx=>[.bool x]
 |190=>λx=>[.int .i64 x.To, .int .i64 x.Ephemeral, .sl 5 x.Data, .int .i64 x.MAC]
 |29=>λx=>[.int .i64 x.Epoch, .sl 190 x.Boxes]
 |86=>λx=>[.int .i64 x.Epoch, .int .i64 x.Version, .sl 5 x.Data, .int .i64 x.MAC]
 |32=>λx=>[.sl 113 x.Log, .int .i64 x.Boxes.Epoch, .sl 190 x.Boxes.Boxes, .sl 86 x.History]
 |183=>λx=>[.int .i64 x.Handle, .int .i64 x.Public, .int .i64 x.Counter, .bool x.Cut]
 |181=>λx=>[.int .i64 x.Id, .int .i64 x.Minimum, .sl 183 x.Credentials]
 |242=>λx=>[.int .i64 x.Id, .int .i64 x.Account, .int .i64 x.Until]
 |128=>λx=>[.int .i64 x.Seed, .int .i64 x.Next, .sl 242 x.Open]
 |3=>λx=>[.int .i64 x]
 |130=>λx=>[.str x.Name, .sl 181 x.Accounts, .int .i64 x.Book.Seed, .int .i64 x.Book.Next, .sl 242 x.Book.Open, .sl 3 x.Logins]
 |35=>λx=>[.int .i64 x.Salt, .int .i64 x.Threshold, .int .i64 x.Check, .int .i64 x.Masked]
 |150=>λx=>[.int .i64 x.Index, .int .i64 x.Value]
 |152=>λx=>[.int .i64 x.aAQ.Index, .int .i64 x.aAQ.Value, .int .i64 x.Epoch, .int .i64 x.Guesses, .int .i64 x.Limit]
 |155=>λx=>[.int .i64 x.State.aAQ.Index, .int .i64 x.State.aAQ.Value, .int .i64 x.State.Epoch, .int .i64 x.State.Guesses, .int .i64 x.State.Limit, .sl 152 x.Saved, .int .i64 x.Monotonic]
 |212=>λx=>[.int .i64 x.Kind, .int .i64 x.Account, .int .i64 x.Time, .bool x.Seen]
 |39=>λx=>[.sl 212 x.Notices]
 |41=>λx=>[.int .i64 x.Now, .int .i64 x.Seed, .sl 66 x.Devices, .sl 4 x.Stolen, .sl 113 x.aAE.Log, .int .i64 x.aAE.Boxes.Epoch, .sl 190 x.aAE.Boxes.Boxes, .sl 86 x.aAE.History, .sl 130 x.Sites, .int .i64 x.aAP.Salt, .int .i64 x.aAP.Threshold, .int .i64 x.aAP.Check, .int .i64 x.aAP.Masked, .sl 155 x.Hosts, .int .i64 x.Pin, .sl 212 x.Mail.Notices]
 |110=>λx=>[.int .i64 x.Kind, .int .i64 x.Device, .int .i64 x.Other, .int .i64 x.Value, .bool x.Flag]
 |166=>λx=>[.bool x.Secure, .str x.Host, .int .i64 x.Port]
 |169=>λx=>[.sl 5 x.b, .int .i64 x.i, .int .i64 x.h]
 |9=>λx=>[.str x]
 |218=>λx=>[.str x.Site, .str x.aAJ, .int .i64 x.aAI, .int .i64 x.Handle, .bool x.Present, .int .i64 x.Counter, .int .i64 x.Signature]
 |60=>λx=>[.sl 3 x]
 |_=>λ_=>[]
def Md:Nat->List EV.Kd
 |5=>[.int .u8]
 |64=>[.int .i64, .int .i64, .int .i64, .int .i64]
 |113=>[.int .i64, .int .i64, .int .i64, .int .i64, .int .i64, .int .i64]
 |103=>[.int .i64, .int .i64, .int .i64, .bool]
 |55=>[.sl 103]
 |66=>[.int .i64, .int .i64, .int .i64, .int .i64, .sl 113, .int .i64, .int .i64, .int .i64, .sl 103]
 |4=>[.bool]
 |190=>[.int .i64, .int .i64, .sl 5, .int .i64]
 |29=>[.int .i64, .sl 190]
 |86=>[.int .i64, .int .i64, .sl 5, .int .i64]
 |32=>[.sl 113, .int .i64, .sl 190, .sl 86]
 |183=>[.int .i64, .int .i64, .int .i64, .bool]
 |181=>[.int .i64, .int .i64, .sl 183]
 |242=>[.int .i64, .int .i64, .int .i64]
 |128=>[.int .i64, .int .i64, .sl 242]
 |3=>[.int .i64]
 |130=>[.str, .sl 181, .int .i64, .int .i64, .sl 242, .sl 3]
 |35=>[.int .i64, .int .i64, .int .i64, .int .i64]
 |150=>[.int .i64, .int .i64]
 |152=>[.int .i64, .int .i64, .int .i64, .int .i64, .int .i64]
 |155=>[.int .i64, .int .i64, .int .i64, .int .i64, .int .i64, .sl 152, .int .i64]
 |212=>[.int .i64, .int .i64, .int .i64, .bool]
 |39=>[.sl 212]
 |41=>[.int .i64, .int .i64, .sl 66, .sl 4, .sl 113, .int .i64, .sl 190, .sl 86, .sl 130, .int .i64, .int .i64, .int .i64, .int .i64, .sl 155, .int .i64, .sl 212]
 |110=>[.int .i64, .int .i64, .int .i64, .int .i64, .bool]
 |166=>[.bool, .str, .int .i64]
 |169=>[.sl 5, .int .i64, .int .i64]
 |9=>[.str]
 |218=>[.str, .str, .int .i64, .int .i64, .bool, .int .i64, .int .i64]
 |60=>[.sl 3]
 |_=>[]
def bMe:(τ:Nat)->List (EV.Lf Un)->Option (El τ)
 |5=>EV.kC (Md 5) (λx=>x)
 |64=>EV.kC (Md 64) D.aAH.mk
 |113=>EV.kC (Md 113) D.aAD.mk
 |103=>EV.kC (Md 103) D.Entry.mk
 |55=>EV.kC (Md 55) D.aAC.mk
 |66=>EV.kC (Md 66) (λa0 a1 a2 a3 a4 a5 a6 a7 a8=>(⟨⟨a0,a1,a2,a3⟩,a4,a5,a6,a7,⟨a8⟩⟩:D.Device))
 |4=>EV.kC (Md 4) (λx=>x)
 |190=>EV.kC (Md 190) D.Box.mk
 |29=>EV.kC (Md 29) D.aAG.mk
 |86=>EV.kC (Md 86) D.aAA.mk
 |32=>EV.kC (Md 32) (λa0 a1 a2 a3=>(⟨a0,⟨a1,a2⟩,a3⟩:D.aAE))
 |183=>EV.kC (Md 183) D.aAL.mk
 |181=>EV.kC (Md 181) D.Account.mk
 |242=>EV.kC (Md 242) D.aAI.mk
 |128=>EV.kC (Md 128) D.aAB.mk
 |3=>EV.kC (Md 3) (λx=>x)
 |130=>EV.kC (Md 130) (λa0 a1 a2 a3 a4 a5=>(⟨a0,a1,⟨a2,a3,a4⟩,a5⟩:D.Site))
 |35=>EV.kC (Md 35) D.aAP.mk
 |150=>EV.kC (Md 150) D.aAQ.mk
 |152=>EV.kC (Md 152) (λa0 a1 a2 a3 a4=>(⟨⟨a0,a1⟩,a2,a3,a4⟩:D.aAR))
 |155=>EV.kC (Md 155) (λa0 a1 a2 a3 a4 a5 a6=>(⟨⟨⟨a0,a1⟩,a2,a3,a4⟩,a5,a6⟩:D.aAF))
 |212=>EV.kC (Md 212) D.aAO.mk
 |39=>EV.kC (Md 39) D.aAM.mk
 |41=>EV.kC (Md 41) (λa0 a1 a2 a3 a4 a5 a6 a7 a8 a9 a10 a11 a12 a13 a14 a15=>(⟨a0,a1,a2,a3,⟨a4,⟨a5,a6⟩,a7⟩,a8,⟨a9,a10,a11,a12⟩,a13,a14,⟨a15⟩⟩:D.World))
 |110=>EV.kC (Md 110) D.Event.mk
 |166=>EV.kC (Md 166) D.aAJ.mk
 |169=>EV.kC (Md 169) D.aAX.mk
 |9=>EV.kC (Md 9) (λx=>x)
 |218=>EV.kC (Md 218) D.aAK.mk
 |60=>EV.kC (Md 60) (λx=>x)
 |_=>λ_=>none
def TI:List (Nat×EV.TInfo):=[
 (3,⟨.int .i64,1,[.int .i64]⟩),
 (4,⟨.bool,1,[.bool]⟩),
 (5,⟨.int .u8,1,[.int .u8]⟩),
 (9,⟨.str,1,[.str]⟩),
 (22,⟨.sl 5 1 1,1,[.nil]⟩),
 (24,⟨.sl 66 9 104,1,[.nil]⟩),
 (25,⟨.sl 4 1 1,1,[.nil]⟩),
 (26,⟨.sl 113 6 48,1,[.nil]⟩),
 (27,⟨.sl 190 4 48,1,[.nil]⟩),
 (29,⟨.st [(0,3,1),(1,27,1)],2,[.int .i64, .nil]⟩),
 (30,⟨.sl 86 4 48,1,[.nil]⟩),
 (32,⟨.st [(0,26,1),(1,29,2),(3,30,1)],4,[.nil, .int .i64, .nil, .nil]⟩),
 (33,⟨.sl 130 6 104,1,[.nil]⟩),
 (35,⟨.st [(0,3,1),(1,3,1),(2,3,1),(3,3,1)],4,[.int .i64, .int .i64, .int .i64, .int .i64]⟩),
 (36,⟨.sl 155 7 72,1,[.nil]⟩),
 (37,⟨.sl 212 4 32,1,[.nil]⟩),
 (39,⟨.st [(0,37,1)],1,[.nil]⟩),
 (41,⟨.st [(0,3,1),(1,3,1),(2,24,1),(3,25,1),(4,32,4),(8,33,1),(9,35,4),(13,36,1),(14,3,1),(15,39,1)],16,[.int .i64, .int .i64, .nil, .nil, .nil, .int .i64, .nil, .nil, .nil, .int .i64, .int .i64, .int .i64, .int .i64, .nil, .int .i64, .nil]⟩),
 (49,⟨.sl 110 5 40,1,[.nil]⟩),
 (53,⟨.sl 103 4 32,1,[.nil]⟩),
 (55,⟨.st [(0,53,1)],1,[.nil]⟩),
 (60,⟨.sl 3 1 8,1,[.nil]⟩),
 (64,⟨.st [(0,3,1),(1,3,1),(2,3,1),(3,3,1)],4,[.int .i64, .int .i64, .int .i64, .int .i64]⟩),
 (66,⟨.st [(0,64,4),(4,26,1),(5,3,1),(6,3,1),(7,3,1),(8,55,1)],9,[.int .i64, .int .i64, .int .i64, .int .i64, .nil, .int .i64, .int .i64, .int .i64, .nil]⟩),
 (86,⟨.st [(0,3,1),(1,3,1),(2,22,1),(3,3,1)],4,[.int .i64, .int .i64, .nil, .int .i64]⟩),
 (103,⟨.st [(0,3,1),(1,3,1),(2,3,1),(3,4,1)],4,[.int .i64, .int .i64, .int .i64, .bool]⟩),
 (110,⟨.st [(0,3,1),(1,3,1),(2,3,1),(3,3,1),(4,4,1)],5,[.int .i64, .int .i64, .int .i64, .int .i64, .bool]⟩),
 (113,⟨.st [(0,3,1),(1,3,1),(2,3,1),(3,3,1),(4,3,1),(5,3,1)],6,[.int .i64, .int .i64, .int .i64, .int .i64, .int .i64, .int .i64]⟩),
 (125,⟨.sl 181 3 40,1,[.nil]⟩),
 (126,⟨.sl 242 3 24,1,[.nil]⟩),
 (128,⟨.st [(0,3,1),(1,3,1),(2,126,1)],3,[.int .i64, .int .i64, .nil]⟩),
 (130,⟨.st [(0,9,1),(1,125,1),(2,128,3),(5,60,1)],6,[.str, .nil, .int .i64, .int .i64, .nil, .nil]⟩),
 (146,⟨.sl 150 2 16,1,[.nil]⟩),
 (150,⟨.st [(0,3,1),(1,3,1)],2,[.int .i64, .int .i64]⟩),
 (152,⟨.st [(0,150,2),(2,3,1),(3,3,1),(4,3,1)],5,[.int .i64, .int .i64, .int .i64, .int .i64, .int .i64]⟩),
 (153,⟨.sl 152 5 40,1,[.nil]⟩),
 (155,⟨.st [(0,152,5),(5,153,1),(6,3,1)],7,[.int .i64, .int .i64, .int .i64, .int .i64, .int .i64, .nil, .int .i64]⟩),
 (166,⟨.st [(0,4,1),(1,9,1),(2,3,1)],3,[.bool, .str, .int .i64]⟩),
 (169,⟨.st [(0,22,1),(1,3,1),(2,3,1)],3,[.nil, .int .i64, .int .i64]⟩),
 (179,⟨.sl 183 4 32,1,[.nil]⟩),
 (181,⟨.st [(0,3,1),(1,3,1),(2,179,1)],3,[.int .i64, .int .i64, .nil]⟩),
 (183,⟨.st [(0,3,1),(1,3,1),(2,3,1),(3,4,1)],4,[.int .i64, .int .i64, .int .i64, .bool]⟩),
 (190,⟨.st [(0,3,1),(1,3,1),(2,22,1),(3,3,1)],4,[.int .i64, .int .i64, .nil, .int .i64]⟩),
 (196,⟨.sl 9 1 16,1,[.nil]⟩),
 (212,⟨.st [(0,3,1),(1,3,1),(2,3,1),(3,4,1)],4,[.int .i64, .int .i64, .int .i64, .bool]⟩),
 (218,⟨.st [(0,9,1),(1,9,1),(2,3,1),(3,3,1),(4,4,1),(5,3,1),(6,3,1)],7,[.str, .str, .int .i64, .int .i64, .bool, .int .i64, .int .i64]⟩),
 (242,⟨.st [(0,3,1),(1,3,1),(2,3,1)],3,[.int .i64, .int .i64, .int .i64]⟩),
 (245,⟨.sl 60 1 24,1,[.nil]⟩)]
def lay (τ:Nat):(∀x:El τ,((aQ0 τ x).map EV.Lf.toV=bKo τ x/\(aQ0 τ x).length=Un.K τ)/\(aQ0 τ x).map EV.kdL=(Md τ).map some)/\∀(cs:List (EV.Lf Un)) (x:El τ),bMe τ cs=some x->cs=aQ0 τ x:=by
 by_cases h:τ∈[5,64,113,103,55,66,4,190,29,86,32,183,181,242,128,3,130,35,150,152,155,212,39,41,110,166,169,9,218,60]
 ·simp only[ax,fm,or_false] at h
  rcases h with rfl|rfl|rfl|rfl|rfl|rfl|rfl|rfl|rfl|rfl|rfl|rfl|rfl|rfl|rfl|rfl|rfl|rfl|rfl|rfl|rfl|rfl|rfl|rfl|rfl|rfl|rfl|rfl|rfl|rfl<;>exact⟨λ_=>⟨⟨rfl,rfl⟩,rfl⟩,λ_ _ h=>by obtain⟨t,rfl,rfl⟩:=EV.aXk h;rfl⟩
 ·have e:El τ=Empty:=by
   unfold El
   split<;>first|(exfalso;revert h;decide)|rfl
  exact⟨λx=>(cast e x).elim,λ_ x=>(cast e x).elim⟩
def hc1 (τ:Nat)(x:El τ):(aQ0 τ x).map EV.Lf.toV=bKo τ x:=((lay τ).1 x).1.1
def hc2 (τ:Nat)(x:El τ):(aQ0 τ x).length=Un.K τ:=((lay τ).1 x).1.2
def hc3 (τ:Nat)(x:El τ)(c:EV.Lf Un)(hc:c∈aQ0 τ x):c.aAZ=true:=EV.bCn ((lay τ).1 x).2 c hc
def Yn:EV.Lay Un:=⟨⟨aQ0,bMe,hc1,hc2,hc3,λτ=>(lay τ).2⟩,Md,5,λn=>n,λn=>n,λ_=>rfl,λ_=>rfl⟩
def ly1 (τ:Nat)(x:El τ):(aQ0 τ x).map EV.kdL=(Md τ).map some:=((lay τ).1 x).2
def ly2:∀(τ τ':Nat),EV.Kd.sl τ'∈Md τ->0<Un.K τ':=by
 intro τ τ' h
 unfold Md at h
 split at h<;>simp only[ax,fm,or_false,reduceCtorEq,false_or,or_self,EV.Kd.sl.injEq] at h<;>first|exact h.elim|(subst h;exact bc rfl)|(rcases h with h|h|h|h|h|h|h|h<;>(subst h;exact bc rfl))|(rcases h with h|h|h|h|h|h|h<;>(subst h;exact bc rfl))|(rcases h with h|h|h|h|h|h<;>(subst h;exact bc rfl))|(rcases h with h|h|h|h|h<;>(subst h;exact bc rfl))|(rcases h with h|h|h|h<;>(subst h;exact bc rfl))|(rcases h with h|h|h<;>(subst h;exact bc rfl))|(rcases h with h|h<;>(subst h;exact bc rfl))
def bMf:EV.LayOk Yn:=⟨ly1,ly2⟩
def wO (f:Func):Code:=match f.body with|some c=>c|none=> .skip
def T.mix:Tryz.prog.follows .mixedOrders=true:=by kernel_rfl
def aH:EV.Good Tryz.prog G0 Yn TI []:=⟨by kernel_rfl,bMf,λf S h=>by simp at h⟩
abbrev SU:=EV.Sum Un
def OK (f:Nat)(S:SU):Prop:=EV.yU Tryz.prog G0 Yn f S
def bMg:SU:=⟨[],[],false,false,λ_=>none⟩
def bIe (f:Nat):OK f bMg:=λ_ _ hr=>nomatch hr
def SIl:SU:=⟨[],[],false,true,λ_=>none⟩
def sIl (f:Nat):OK f SIl:=λ_ _ hr=>nomatch hr
def IL:EV.Il:=[(30,wO Tryz.f30,52,[.tmp 4]),(115,wO Tryz.f115,42,[.cell 4 41, .tmp 5]),(276,wO Tryz.f276,16,[.cell 4 41]),(247,wO Tryz.f247,37,[.cell 8 41, .tmp 9]),(50,wO Tryz.f50,32,[.tmp 2]),(204,wO Tryz.f204,111,[.tmp 10]),(208,wO Tryz.f208,48,[.tmp 4]),(206,wO Tryz.f206,23,[]),(331,wO Tryz.f331,53,[.cell 4 155, .tmp 5, .tmp 6])]
def bMh:EV.uJ Tryz.prog IL:=EV.Fp Tryz.func30 rfl Tryz.ntmps30 rfl (λ_ _=>by kernel_rfl)<|EV.Fp Tryz.func115 rfl Tryz.ntmps115 rfl (λ_ _=>by kernel_rfl)<|EV.Fp Tryz.func276 rfl Tryz.ntmps276 rfl (λ_ _=>by kernel_rfl)<|EV.Fp Tryz.func247 rfl Tryz.ntmps247 rfl (λ_ _=>by kernel_rfl)<|EV.Fp Tryz.func50 rfl Tryz.ntmps50 rfl (λ_ _=>by kernel_rfl)<|EV.Fp Tryz.func204 rfl Tryz.ntmps204 rfl (λ_ _=>by kernel_rfl)<|EV.Fp Tryz.func208 rfl Tryz.ntmps208 rfl (λ_ _=>by kernel_rfl)<|EV.Fp Tryz.func206 rfl Tryz.ntmps206 rfl (λ_ _=>by kernel_rfl)<|EV.Fp Tryz.func331 rfl Tryz.ntmps331 rfl (λ_ _=>by kernel_rfl)<|EV.bJw
def od (n:Nat)(l:List Nat):List (Nat×Bool):=(List.range n).map λi=>(i, !l.contains i)
def gc {f:Nat}{S:SU}{FZ:List (Nat×SU)}(h:OK f S)(G:EV.Good Tryz.prog G0 Yn TI FZ):EV.Good Tryz.prog G0 Yn TI ((f,S)::FZ):=EV.aOe h G
def gcp {f:Nat}{S:SU}{FZ:List (Nat×SU)}(h:OK f S)(G:EV.Good Tryz.prog G0 Yn TI FZ)(hw:S.wt=false:=by rfl)(hf:S.fr=true:=by rfl):EV.Good Tryz.prog G0 Yn TI ((f,S.pl)::FZ):=EV.aOe (EV.bCv h hw hf) G
def mkS {f:FuncId}{fn:Func}{n:Nat}{S:SU}{FZ:List (Nat×SU)}{m:EV.yO Un S.ar->Option (EV.yO Un S.rs)}(an:EV.An)(l:List ResultVar)(G:EV.Good Tryz.prog G0 Yn TI FZ)(hf:Tryz.prog.funcs[f]? =some fn)(hn:fn.ntmps=n)(ht:∀a r,S.m a=some r->m a=some r)(h:∀a,(fn.name== "runtime.NumGoroutine",EV.evF Yn TI FZ IL an (wO fn) n S.ar S.rs S.fr l a)=(false,m a))(hb:fn.body=some (wO fn):=by rfl)(hl:fn.results=l.toArray:=by rfl)(hlen:S.ar.length<=n:=by decide)(hw:S.wt=false:=by rfl):OK f S:=
 λa r hr=>EV.bJz (an:=λ_=>an) G T.mix bMh hf hb hn hl (EV.bCr hf hb (congrArg Prod.fst (h a))) hlen hw (λa r hr=>(congrArg Prod.snd (h a)).trans (ht a r hr)) a r hr
def iR:EV.Sum Un:=⟨[.str, .str],[.sl 9],false,false,λ(a:ByteArray×ByteArray)=>gd (a.1.size<4294967281/\1<=a.2.size) (some (jO a.1 a.2))⟩
def aAx (args:Array Value)(w:World):(callFunc 260 args).run Tryz.prog w= .ok (.enter 260 args) w:=by kernel_rfl
def aEf (a:ByteArray×ByteArray):(EV.bT Yn iR.ar a).map EV.uI=[.str a.1, .str a.2]:=by kernel_rfl
def aEg (a:ByteArray×ByteArray):mR ((EV.bT Yn iR.rs (jO a.1 a.2)).map EV.uI)= .slice 1 ((jO a.1 a.2).map sV):=by kernel_rfl
def aEh (a:ByteArray×ByteArray)(r:EV.yO Un iR.rs)(hr:gd (a.1.size<4294967281/\1<=a.2.size) (some (jO a.1 a.2))=some r):Spec Tryz.prog G0 260 ((EV.bT Yn iR.ar a).map EV.uI) (λv=>v=mR ((EV.bT Yn iR.rs r).map EV.uI)):=by
 unfold gd at hr
 split at hr
 ·rename_i hp
  have e:=aj hr
  subst e
  rw[aEf,aEg]
  exact aVl aAx (λs sep m w a b c=>Tryz.strings_Split s sep m w a b c) a.1 a.2 hp.1 hp.2
 ·cases hr
def Gt:EV.yU Tryz.prog G0 Yn 260 iR:=λ(a:ByteArray×ByteArray) r hr=>⟨λ_ _=>aEh a r hr,λ_ h=>absurd (show false=true from h) dp,λh=>absurd (show false=true from h) dp,λh=>absurd (show false=true from h) dp⟩
def jS:EV.Sum Un:=⟨[.sl 9, .str],[.str],false,false,λ(a:(List ByteArray)×ByteArray)=>gd (0<a.1.length/\(nS a.2 a.1).size<=140737488355328/\a.1.length<=140737488355328) (some (nS a.2 a.1))⟩
def aEi (args:Array Value)(w:World):(callFunc 261 args).run Tryz.prog w= .ok (.enter 261 args) w:=by kernel_rfl
def aIh (a:(List ByteArray)×ByteArray):(EV.bT Yn jS.ar a).map EV.uI=[.slice 1 (a.1.map sV), .str a.2]:=by kernel_rfl
def aIi (a:(List ByteArray)×ByteArray):mR ((EV.bT Yn jS.rs (nS a.2 a.1)).map EV.uI)= .str (nS a.2 a.1):=by kernel_rfl
def aIj (a:(List ByteArray)×ByteArray)(r:EV.yO Un jS.rs)(hr:gd (0<a.1.length/\(nS a.2 a.1).size<=140737488355328/\a.1.length<=140737488355328) (some (nS a.2 a.1))=some r):Spec Tryz.prog G0 261 ((EV.bT Yn jS.ar a).map EV.uI) (λv=>v=mR ((EV.bT Yn jS.rs r).map EV.uI)):=by
 unfold gd at hr
 split at hr
 ·rename_i hp
  have e:=aj hr
  subst e
  rw[aIh,aIi]
  exact aY6 aEi Tryz.strings_Join a.1 a.2 (by intro h;have:=hp.1;rw[h] at this;simp at this) hp.2.1 hp.2.2
 ·cases hr
def aIk:EV.yU Tryz.prog G0 Yn 261 jS:=λ(a:(List ByteArray)×ByteArray) r hr=>⟨λ_ _=>aIj a r hr,λ_ h=>absurd (show false=true from h) dp,λh=>absurd (show false=true from h) dp,λh=>absurd (show false=true from h) dp⟩
def fP:EV.Sum Un:=⟨[.str, .str],[.int .i64],false,false,λ(a:ByteArray×ByteArray)=>gd (a.2.size=1) (some (Lib.indexByte a.1.data.toList (a.2.data.toList.getD 0 0)))⟩
def Me (args:Array Value)(w:World):(callFunc 338 args).run Tryz.prog w= .ok (.enter 338 args) w:=by kernel_rfl
def Qv (a:ByteArray×ByteArray):(EV.bT Yn fP.ar a).map EV.uI=[.str a.1, .str a.2]:=by kernel_rfl
def Qw (a:ByteArray×ByteArray):mR ((EV.bT Yn fP.rs (Lib.indexByte a.1.data.toList (a.2.data.toList.getD 0 0))).map EV.uI)= .int .i64 (Lib.indexByte a.1.data.toList (a.2.data.toList.getD 0 0)):=by kernel_rfl
def Qx (a:ByteArray×ByteArray)(r:EV.yO Un fP.rs)(hr:gd (a.2.size=1) (some (Lib.indexByte a.1.data.toList (a.2.data.toList.getD 0 0)))=some r):Spec Tryz.prog G0 338 ((EV.bT Yn fP.ar a).map EV.uI) (λv=>v=mR ((EV.bT Yn fP.rs r).map EV.uI)):=by
 unfold gd at hr
 split at hr
 ·rename_i hp
  have e:=aj hr
  subst e
  rw[Qv,Qw]
  exact aVk Me (λs c w=>Tryz.stringslite_Index_one s c w) a.1 a.2 hp
 ·cases hr
def uM:EV.yU Tryz.prog G0 Yn 338 fP:=λ(a:ByteArray×ByteArray) r hr=>⟨λ_ _=>Qx a r hr,λ_ h=>absurd (show false=true from h) dp,λh=>absurd (show false=true from h) dp,λh=>absurd (show false=true from h) dp⟩
def aEj:EV.Sum Un:=⟨[.str],[.int .i64, .bool],false,false,λ(a:ByteArray)=>none⟩
def aEk:OK 357 aEj:=λ_ _ h=>nomatch h
def aAy:EV.Sum Un:=⟨[.int .i64],[.str],false,false,λ(a:Int)=>none⟩
def aAz:OK 293 aAy:=λ_ _ h=>nomatch h
end
end Go.VK
