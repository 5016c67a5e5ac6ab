import Derived.Test.YtkkjfhgcpofjbaaGreatDoorXyFF
import Derived.Test.YtkkjfhgcpofjbaaGreatDoorEVyltod
import Derived.Test.YtkkjfhgcpofjbaaGreatDoorProg
import Derived.Test.YtkkjfhgcpofjbaaGreatDoorTryzShelf
/- Printed by wip/tools: models, walks, proofs. -/
set_option linter.all false
set_option maxRecDepth 100000
set_option maxHeartbeats 4000000
namespace Go.VK
open Go.RowKit Go.Proofs D
noncomputable section
abbrev G0:GI:=bS8 0
def El:Nat->Type
 |5=>Int
 |50=>AI
 |151=>AF
 |86=>AG
 |53=>AB
 |55=>AC
 |4=>Bool
 |198=>AQ
 |29=>AK
 |139=>AJ
 |32=>AM
 |188=>AV
 |125=>AH
 |195=>AZ
 |66=>AR
 |3=>Int
 |69=>AD
 |35=>AY
 |142=>A0
 |144=>A3
 |147=>AO
 |149=>AU
 |39=>AP
 |41=>AA
 |90=>AS
 |153=>AX
 |9=>ByteArray
 |211=>AN
 |67=>List Int
 |_=>Empty
def bR5:(τ:Nat)->El τ->List V
 |5=>y8
 |50=>AI.V
 |151=>AF.V
 |86=>AG.V
 |53=>AB.V
 |55=>AC.V
 |4=>bV
 |198=>AQ.V
 |29=>AK.V
 |139=>AJ.V
 |32=>AM.V
 |188=>AV.V
 |125=>AH.V
 |195=>AZ.V
 |66=>AR.V
 |3=>iV
 |69=>AD.V
 |35=>AY.V
 |142=>A0.V
 |144=>A3.V
 |147=>AO.V
 |149=>AU.V
 |39=>AP.V
 |41=>AA.V
 |90=>AS.V
 |153=>AX.V
 |9=>sV
 |211=>AN.V
 |67=>(λl=>[V.slice 1 (l.map iV)])
 |_=>λ_=>[]
def Un:EV.Uni:=⟨El,λ|5=>1|50=>4|151=>6|86=>4|53=>1|55=>9|4=>1|198=>4|29=>2|139=>4|32=>4|188=>4|125=>3|195=>3|66=>3|3=>1|69=>6|35=>4|142=>2|144=>5|147=>7|149=>4|39=>1|41=>16|90=>3|153=>7|9=>1|211=>3|67=>1|_=>0,bR5⟩
def aVn:(τ:Nat)->El τ->List (EV.Lf Un)
 |5=>λx=>[.int .u8 x]
 |50=>λx=>[.int .i64 x.Vendor, .int .i64 x.Serial, .int .i64 x.Seed, .int .i64 x.Counter]
 |151=>λx=>[.int .i64 x.Index, .int .i64 x.Kind, .int .i64 x.Device, .int .i64 x.By, .int .i64 x.Previous, .int .i64 x.Signature]
 |86=>λx=>[.int .i64 x.Site, .int .i64 x.Handle, .int .i64 x.Version, .bool x.Deleted]
 |53=>λx=>[.sl 86 x.Entries]
 |55=>λx=>[.int .i64 x.Store.Vendor, .int .i64 x.Store.Serial, .int .i64 x.Store.Seed, .int .i64 x.Store.Counter, .sl 151 x.Log, .int .i64 x.Key, .int .i64 x.Epoch, .int .i64 x.Version, .sl 86 x.aAC.Entries]
 |4=>λx=>[.bool x]
 |198=>λx=>[.int .i64 x.To, .int .i64 x.Ephemeral, .sl 5 x.Data, .int .i64 x.MAC]
 |29=>λx=>[.int .i64 x.Epoch, .sl 198 x.Boxes]
 |139=>λx=>[.int .i64 x.Epoch, .int .i64 x.Version, .sl 5 x.Data, .int .i64 x.MAC]
 |32=>λx=>[.sl 151 x.Log, .int .i64 x.Boxes.Epoch, .sl 198 x.Boxes.Boxes, .sl 139 x.History]
 |188=>λx=>[.int .i64 x.Handle, .int .i64 x.Public, .int .i64 x.Counter, .bool x.Cut]
 |125=>λx=>[.int .i64 x.Id, .int .i64 x.Minimum, .sl 188 x.Credentials]
 |195=>λx=>[.int .i64 x.Id, .int .i64 x.aAH, .int .i64 x.Until]
 |66=>λx=>[.int .i64 x.Seed, .int .i64 x.Next, .sl 195 x.Open]
 |3=>λx=>[.int .i64 x]
 |69=>λx=>[.str x.Name, .sl 125 x.Accounts, .int .i64 x.Book.Seed, .int .i64 x.Book.Next, .sl 195 x.Book.Open, .sl 3 x.Logins]
 |35=>λx=>[.int .i64 x.Salt, .int .i64 x.Threshold, .int .i64 x.Check, .int .i64 x.Masked]
 |142=>λx=>[.int .i64 x.Index, .int .i64 x.Value]
 |144=>λx=>[.int .i64 x.aAT.Index, .int .i64 x.aAT.Value, .int .i64 x.Epoch, .int .i64 x.Guesses, .int .i64 x.Limit]
 |147=>λx=>[.int .i64 x.State.aAT.Index, .int .i64 x.State.aAT.Value, .int .i64 x.State.Epoch, .int .i64 x.State.Guesses, .int .i64 x.State.Limit, .sl 144 x.Saved, .int .i64 x.Monotonic]
 |149=>λx=>[.int .i64 x.Kind, .int .i64 x.aAH, .int .i64 x.Time, .bool x.Seen]
 |39=>λx=>[.sl 149 x.Notices]
 |41=>λx=>[.int .i64 x.Now, .int .i64 x.Seed, .sl 55 x.Devices, .sl 4 x.Stolen, .sl 151 x.aAA.Log, .int .i64 x.aAA.Boxes.Epoch, .sl 198 x.aAA.Boxes.Boxes, .sl 139 x.aAA.History, .sl 69 x.Sites, .int .i64 x.aAO.Salt, .int .i64 x.aAO.Threshold, .int .i64 x.aAO.Check, .int .i64 x.aAO.Masked, .sl 147 x.Hosts, .int .i64 x.Pin, .sl 149 x.Mail.Notices]
 |90=>λx=>[.bool x.Secure, .str x.Host, .int .i64 x.Port]
 |153=>λx=>[.str x.Site, .str x.aAL, .int .i64 x.aAN, .int .i64 x.Handle, .bool x.Present, .int .i64 x.Counter, .int .i64 x.Signature]
 |9=>λx=>[.str x]
 |211=>λx=>[.sl 5 x.b, .int .i64 x.i, .int .i64 x.h]
 |67=>λx=>[.sl 3 x]
 |_=>λ_=>[]
def A8:Nat->List EV.Kd
 |5=>[.int .u8]
 |50=>[.int .i64, .int .i64, .int .i64, .int .i64]
 |151=>[.int .i64, .int .i64, .int .i64, .int .i64, .int .i64, .int .i64]
 |86=>[.int .i64, .int .i64, .int .i64, .bool]
 |53=>[.sl 86]
 |55=>[.int .i64, .int .i64, .int .i64, .int .i64, .sl 151, .int .i64, .int .i64, .int .i64, .sl 86]
 |4=>[.bool]
 |198=>[.int .i64, .int .i64, .sl 5, .int .i64]
 |29=>[.int .i64, .sl 198]
 |139=>[.int .i64, .int .i64, .sl 5, .int .i64]
 |32=>[.sl 151, .int .i64, .sl 198, .sl 139]
 |188=>[.int .i64, .int .i64, .int .i64, .bool]
 |125=>[.int .i64, .int .i64, .sl 188]
 |195=>[.int .i64, .int .i64, .int .i64]
 |66=>[.int .i64, .int .i64, .sl 195]
 |3=>[.int .i64]
 |69=>[.str, .sl 125, .int .i64, .int .i64, .sl 195, .sl 3]
 |35=>[.int .i64, .int .i64, .int .i64, .int .i64]
 |142=>[.int .i64, .int .i64]
 |144=>[.int .i64, .int .i64, .int .i64, .int .i64, .int .i64]
 |147=>[.int .i64, .int .i64, .int .i64, .int .i64, .int .i64, .sl 144, .int .i64]
 |149=>[.int .i64, .int .i64, .int .i64, .bool]
 |39=>[.sl 149]
 |41=>[.int .i64, .int .i64, .sl 55, .sl 4, .sl 151, .int .i64, .sl 198, .sl 139, .sl 69, .int .i64, .int .i64, .int .i64, .int .i64, .sl 147, .int .i64, .sl 149]
 |90=>[.bool, .str, .int .i64]
 |153=>[.str, .str, .int .i64, .int .i64, .bool, .int .i64, .int .i64]
 |9=>[.str]
 |211=>[.sl 5, .int .i64, .int .i64]
 |67=>[.sl 3]
 |_=>[]
def bTn:(τ:Nat)->List (EV.Lf Un)->Option (El τ)
 |5=>EV.nG (A8 5) (λx=>x)
 |50=>EV.nG (A8 50) AI.mk
 |151=>EV.nG (A8 151) AF.mk
 |86=>EV.nG (A8 86) AG.mk
 |53=>EV.nG (A8 53) AB.mk
 |55=>EV.nG (A8 55) (λa0 a b c d e f h i=>(⟨⟨a0,a,b,c⟩,d,e,f,h,⟨i⟩⟩:AC))
 |4=>EV.nG (A8 4) (λx=>x)
 |198=>EV.nG (A8 198) AQ.mk
 |29=>EV.nG (A8 29) AK.mk
 |139=>EV.nG (A8 139) AJ.mk
 |32=>EV.nG (A8 32) (λa0 a b c=>(⟨a0,⟨a,b⟩,c⟩:AM))
 |188=>EV.nG (A8 188) AV.mk
 |125=>EV.nG (A8 125) AH.mk
 |195=>EV.nG (A8 195) AZ.mk
 |66=>EV.nG (A8 66) AR.mk
 |3=>EV.nG (A8 3) (λx=>x)
 |69=>EV.nG (A8 69) (λa0 a b c d e=>(⟨a0,a,⟨b,c,d⟩,e⟩:AD))
 |35=>EV.nG (A8 35) AY.mk
 |142=>EV.nG (A8 142) A0.mk
 |144=>EV.nG (A8 144) (λa0 a b c d=>(⟨⟨a0,a⟩,b,c,d⟩:A3))
 |147=>EV.nG (A8 147) (λa0 a b c d e f=>(⟨⟨⟨a0,a⟩,b,c,d⟩,e,f⟩:AO))
 |149=>EV.nG (A8 149) AU.mk
 |39=>EV.nG (A8 39) AP.mk
 |41=>EV.nG (A8 41) (λa0 a b c d e f h i p j k l m n o=>(⟨a0,a,b,c,⟨d,⟨e,f⟩,h⟩,i,⟨p,j,k,l⟩,m,n,⟨o⟩⟩:AA))
 |90=>EV.nG (A8 90) AS.mk
 |153=>EV.nG (A8 153) AX.mk
 |9=>EV.nG (A8 9) (λx=>x)
 |211=>EV.nG (A8 211) AN.mk
 |67=>EV.nG (A8 67) (λx=>x)
 |_=>λ_=>none
def TI:List (Nat×EV.TInfo):=[
 (3,⟨.int .i64,1,[.int .i64]⟩),
 (4,⟨.bool,1,[.bool]⟩),
 (5,⟨.int .u8,1,[.int .u8]⟩),
 (9,⟨.str,1,[.str]⟩),
 (22,⟨.sl 5 1 1,1,[.nil]⟩),
 (24,⟨.sl 55 9 104,1,[.nil]⟩),
 (25,⟨.sl 4 1 1,1,[.nil]⟩),
 (26,⟨.sl 151 6 48,1,[.nil]⟩),
 (27,⟨.sl 198 4 48,1,[.nil]⟩),
 (29,⟨.st [(0,3,1),(1,27,1)],2,[.int .i64, .nil]⟩),
 (30,⟨.sl 139 4 48,1,[.nil]⟩),
 (32,⟨.st [(0,26,1),(1,29,2),(3,30,1)],4,[.nil, .int .i64, .nil, .nil]⟩),
 (33,⟨.sl 69 6 104,1,[.nil]⟩),
 (35,⟨.st [(0,3,1),(1,3,1),(2,3,1),(3,3,1)],4,[.int .i64, .int .i64, .int .i64, .int .i64]⟩),
 (36,⟨.sl 147 7 72,1,[.nil]⟩),
 (37,⟨.sl 149 4 32,1,[.nil]⟩),
 (39,⟨.st [(0,37,1)],1,[.nil]⟩),
 (41,⟨.st [(0,3,1),(1,3,1),(2,24,1),(3,25,1),(4,32,4),(8,33,1),(9,35,4),(13,36,1),(14,3,1),(15,39,1)],16,[.int .i64, .int .i64, .nil, .nil, .nil, .int .i64, .nil, .nil, .nil, .int .i64, .int .i64, .int .i64, .int .i64, .nil, .int .i64, .nil]⟩),
 (50,⟨.st [(0,3,1),(1,3,1),(2,3,1),(3,3,1)],4,[.int .i64, .int .i64, .int .i64, .int .i64]⟩),
 (51,⟨.sl 86 4 32,1,[.nil]⟩),
 (53,⟨.st [(0,51,1)],1,[.nil]⟩),
 (55,⟨.st [(0,50,4),(4,26,1),(5,3,1),(6,3,1),(7,3,1),(8,53,1)],9,[.int .i64, .int .i64, .int .i64, .int .i64, .nil, .int .i64, .int .i64, .int .i64, .nil]⟩),
 (63,⟨.sl 125 3 40,1,[.nil]⟩),
 (64,⟨.sl 195 3 24,1,[.nil]⟩),
 (66,⟨.st [(0,3,1),(1,3,1),(2,64,1)],3,[.int .i64, .int .i64, .nil]⟩),
 (67,⟨.sl 3 1 8,1,[.nil]⟩),
 (69,⟨.st [(0,9,1),(1,63,1),(2,66,3),(5,67,1)],6,[.str, .nil, .int .i64, .int .i64, .nil, .nil]⟩),
 (86,⟨.st [(0,3,1),(1,3,1),(2,3,1),(3,4,1)],4,[.int .i64, .int .i64, .int .i64, .bool]⟩),
 (90,⟨.st [(0,4,1),(1,9,1),(2,3,1)],3,[.bool, .str, .int .i64]⟩),
 (123,⟨.sl 188 4 32,1,[.nil]⟩),
 (125,⟨.st [(0,3,1),(1,3,1),(2,123,1)],3,[.int .i64, .int .i64, .nil]⟩),
 (139,⟨.st [(0,3,1),(1,3,1),(2,22,1),(3,3,1)],4,[.int .i64, .int .i64, .nil, .int .i64]⟩),
 (142,⟨.st [(0,3,1),(1,3,1)],2,[.int .i64, .int .i64]⟩),
 (144,⟨.st [(0,142,2),(2,3,1),(3,3,1),(4,3,1)],5,[.int .i64, .int .i64, .int .i64, .int .i64, .int .i64]⟩),
 (145,⟨.sl 144 5 40,1,[.nil]⟩),
 (147,⟨.st [(0,144,5),(5,145,1),(6,3,1)],7,[.int .i64, .int .i64, .int .i64, .int .i64, .int .i64, .nil, .int .i64]⟩),
 (149,⟨.st [(0,3,1),(1,3,1),(2,3,1),(3,4,1)],4,[.int .i64, .int .i64, .int .i64, .bool]⟩),
 (151,⟨.st [(0,3,1),(1,3,1),(2,3,1),(3,3,1),(4,3,1),(5,3,1)],6,[.int .i64, .int .i64, .int .i64, .int .i64, .int .i64, .int .i64]⟩),
 (153,⟨.st [(0,9,1),(1,9,1),(2,3,1),(3,3,1),(4,4,1),(5,3,1),(6,3,1)],7,[.str, .str, .int .i64, .int .i64, .bool, .int .i64, .int .i64]⟩),
 (188,⟨.st [(0,3,1),(1,3,1),(2,3,1),(3,4,1)],4,[.int .i64, .int .i64, .int .i64, .bool]⟩),
 (195,⟨.st [(0,3,1),(1,3,1),(2,3,1)],3,[.int .i64, .int .i64, .int .i64]⟩),
 (198,⟨.st [(0,3,1),(1,3,1),(2,22,1),(3,3,1)],4,[.int .i64, .int .i64, .nil, .int .i64]⟩),
 (207,⟨.sl 9 1 16,1,[.nil]⟩),
 (211,⟨.st [(0,22,1),(1,3,1),(2,3,1)],3,[.nil, .int .i64, .int .i64]⟩),
 (219,⟨.sl 67 1 24,1,[.nil]⟩),
 (299,⟨.sl 142 2 16,1,[.nil]⟩)]
def lay (τ:Nat):(∀x:El τ,((aVn τ x).map EV.Lf.toV=bR5 τ x/\(aVn τ x).length=Un.K τ)/\(aVn τ x).map EV.kdL=(A8 τ).map some)/\∀(cs:List (EV.Lf Un)) (x:El τ),bTn τ cs=some x->cs=aVn τ x:=by
 by_cases h:τ∈[5,50,151,86,53,55,4,198,29,139,32,188,125,195,66,3,69,35,142,144,147,149,39,41,90,153,9,211,67]
 ·simp only[bf,dy,or_false] at h;rcases h with rfl|rfl|rfl|rfl|rfl|rfl|rfl|rfl|rfl|rfl|rfl|rfl|rfl|rfl|rfl|rfl|rfl|rfl|rfl|rfl|rfl|rfl|rfl|rfl|rfl|rfl|rfl|rfl|rfl<;>exact⟨λ_=>⟨⟨rfl,rfl⟩,rfl⟩,λ_ _ h=>by obtain⟨t,rfl,rfl⟩:=EV.bCq h;rfl⟩
 ·have e:El τ=Empty:=by unfold El;split<;>first|(exfalso;revert h;decide)|rfl
  exact⟨λx=>(cast e x).elim,λ_ x=>(cast e x).elim⟩
def hc1 (τ:Nat)(x:El τ):(aVn τ x).map EV.Lf.toV=bR5 τ x:=((lay τ).1 x).1.1
def hc2 (τ:Nat)(x:El τ):(aVn τ x).length=Un.K τ:=((lay τ).1 x).1.2
def hc3 (τ:Nat)(x:El τ)(c:EV.Lf Un)(hc:c∈aVn τ x):c.aBA=true:=EV.bIf ((lay τ).1 x).2 c hc
def Yn:EV.Lay Un:=⟨⟨aVn,bTn,hc1,hc2,hc3,λτ=>(lay τ).2⟩,A8,5,λn=>n,λn=>n,λ_=>rfl,λ_=>rfl⟩
def ly1 (τ:Nat)(x:El τ):(aVn τ x).map EV.kdL=(A8 τ).map some:=((lay τ).1 x).2
def ly2:∀(τ τ':Nat),EV.Kd.sl τ'∈A8 τ->0<Un.K τ':=by intro τ τ' h;unfold A8 at h;split at h<;>simp only[bf,dy,or_false,reduceCtorEq,false_or,or_self,EV.Kd.sl.injEq] at h<;>first|exact h.elim|(subst h;exact bc rfl)|(rcases h with h|h|h|h|h|h|h|h<;>(subst h;exact bc rfl))|(rcases h with h|h|h|h|h|h|h<;>(subst h;exact bc rfl))|(rcases h with h|h|h|h|h|h<;>(subst h;exact bc rfl))|(rcases h with h|h|h|h|h<;>(subst h;exact bc rfl))|(rcases h with h|h|h|h<;>(subst h;exact bc rfl))|(rcases h with h|h|h<;>(subst h;exact bc rfl))|(rcases h with h|h<;>(subst h;exact bc rfl))
def bTo:EV.LayOk Yn:=⟨ly1,ly2⟩
def kQ (f:Func):Code:=match f.body with|some c=>c|none=> .skip
def T.mix:Tryz.prog.follows .mixedOrders=true:=by kernel_rfl
def aI:EV.Good Tryz.prog G0 Yn TI []:=⟨by kernel_rfl,bTo,λf S h=>by simp at h⟩
abbrev SU:=EV.Sum Un
def OK (f:Nat)(S:SU):Prop:=EV.Er Tryz.prog G0 Yn f S
def bTp:SU:=⟨[],[],false,false,λ_=>none⟩
def aTq (f:Nat):OK f bTp:=λ_ _ hr=>nomatch hr
def SIl:SU:=⟨[],[],false,true,λ_=>none⟩
def sIl (f:Nat):OK f SIl:=λ_ _ hr=>nomatch hr
def IL:EV.Il:=[(108,kQ Tryz.f108,32,[.tmp 2]),(287,kQ Tryz.f287,52,[.tmp 4]),(224,kQ Tryz.f224,21,[.cell 2 41]),(90,kQ Tryz.f90,48,[.tmp 4]),(22,kQ Tryz.f22,111,[.tmp 10]),(30,kQ Tryz.f30,23,[]),(225,kQ Tryz.f225,92,[.cell 4 41]),(174,kQ Tryz.f174,20,[.cell 4 41]),(221,kQ Tryz.f221,56,[.cell 2 39]),(223,kQ Tryz.f223,66,[.cell 2 32]),(173,kQ Tryz.f173,49,[.cell 4 41]),(109,kQ Tryz.f109,7,[.cell 2 41]),(63,kQ Tryz.f63,39,[.cell 6 41, .tmp 7]),(67,kQ Tryz.f67,32,[.cell 8 41]),(138,kQ Tryz.f138,42,[.cell 4 41, .tmp 5]),(69,kQ Tryz.f69,16,[.cell 4 41]),(18,kQ Tryz.f18,126,[.cell 4 41, .tmp 5]),(267,kQ Tryz.f267,225,[.cell 10 41])]
def bO8:EV.sJ Tryz.prog IL:=EV.nR Tryz.func108 rfl Tryz.ntmps108 rfl (λ_ _=>by kernel_rfl)<|EV.nR Tryz.func287 rfl Tryz.ntmps287 rfl (λ_ _=>by kernel_rfl)<|EV.nR Tryz.func224 rfl Tryz.ntmps224 rfl (λ_ _=>by kernel_rfl)<|EV.nR Tryz.func90 rfl Tryz.ntmps90 rfl (λ_ _=>by kernel_rfl)<|EV.nR Tryz.func22 rfl Tryz.ntmps22 rfl (λ_ _=>by kernel_rfl)<|EV.nR Tryz.func30 rfl Tryz.ntmps30 rfl (λ_ _=>by kernel_rfl)<|EV.nR Tryz.func225 rfl Tryz.ntmps225 rfl (λ_ _=>by kernel_rfl)<|EV.nR Tryz.func174 rfl Tryz.ntmps174 rfl (λ_ _=>by kernel_rfl)<|EV.nR Tryz.func221 rfl Tryz.ntmps221 rfl (λ_ _=>by kernel_rfl)<|EV.nR Tryz.func223 rfl Tryz.ntmps223 rfl (λ_ _=>by kernel_rfl)<|EV.nR Tryz.func173 rfl Tryz.ntmps173 rfl (λ_ _=>by kernel_rfl)<|EV.nR Tryz.func109 rfl Tryz.ntmps109 rfl (λ_ _=>by kernel_rfl)<|EV.nR Tryz.func63 rfl Tryz.ntmps63 rfl (λ_ _=>by kernel_rfl)<|EV.nR Tryz.func67 rfl Tryz.ntmps67 rfl (λ_ _=>by kernel_rfl)<|EV.nR Tryz.func138 rfl Tryz.ntmps138 rfl (λ_ _=>by kernel_rfl)<|EV.nR Tryz.func69 rfl Tryz.ntmps69 rfl (λ_ _=>by kernel_rfl)<|EV.nR Tryz.func18 rfl Tryz.ntmps18 rfl (λ_ _=>by kernel_rfl)<|EV.nR Tryz.func267 rfl Tryz.ntmps267 rfl (λ_ _=>by kernel_rfl)<|EV.bQ4
def od (n:Nat)(l:List Nat):List (Nat×Bool):=(List.range n).map λi=>(i, !l.contains i)
def gc {f:Nat}{S:SU}{FZ:List (Nat×SU)}(h:OK f S)(G:EV.Good Tryz.prog G0 Yn TI FZ):EV.Good Tryz.prog G0 Yn TI ((f,S)::FZ):=EV.aSs h G
def gcp {f:Nat}{S:SU}{FZ:List (Nat×SU)}(h:OK f S)(G:EV.Good Tryz.prog G0 Yn TI FZ)(a:S.wt=false:=by rfl)(b:S.fr=true:=by rfl):EV.Good Tryz.prog G0 Yn TI ((f,S.pl)::FZ):=EV.aSs (EV.bIn h a b) G
def mkS {f:FuncId}{fn:Func}{n:Nat}{S:SU}{FZ:List (Nat×SU)}{m:EV.sD Un S.ar->Option (EV.sD Un S.rs)}(an:EV.An)(l:List ResultVar)(G:EV.Good Tryz.prog G0 Yn TI FZ)(hf:Tryz.prog.funcs[f]? =some fn)(hn:fn.ntmps=n)(ht:∀a r,S.m a=some r->m a=some r)(h:∀a,(fn.name== "runtime.NumGoroutine",EV.evF Yn TI FZ IL an (kQ fn) n S.ar S.rs S.fr l a)=(false,m a):=by intro _;kernel_rfl)(hb:fn.body=some (kQ fn):=by rfl)(hl:fn.results=l.toArray:=by rfl)(hlen:S.ar.length<=n:=by decide)(hw:S.wt=false:=by rfl):OK f S:=
 λa r hr=>EV.bQ7 (an:=λ_=>an) G T.mix bO8 hf hb hn hl (EV.aXb hf hb (congrArg Prod.fst (h a))) hlen hw (λa r hr=>(congrArg Prod.snd (h a)).trans (ht a r hr)) a r hr
def mkP {f:FuncId}{fn:Func}{n T:Nat}{ks rs:List EV.Kd}{M m:EV.sD Un (.st T::ks)->Option (EV.sD Un (.st T::rs))}{FZ:List (Nat×SU)}(an:EV.An)(l:List ResultVar)(G:EV.Good Tryz.prog G0 Yn TI FZ)(hf:Tryz.prog.funcs[f]? =some fn)(hn:fn.ntmps=n)(ht:∀a r,M a=some r->m a=some r)(h:∀a,(fn.name== "runtime.NumGoroutine",EV.evP Yn TI FZ IL an (kQ fn) n T ks rs l a)=(false,m a))(hb:fn.body=some (kQ fn):=by rfl)(hl:fn.results=l.toArray:=by rfl)(hlen:ks.length+1<=n:=by decide):OK f ⟨.st T::ks, .st T::rs,true,true,M⟩:=
 λa r hr=>EV.bRa (an:=λ_=>an) G Go.VK.T.mix bO8 hf hb hn hl (EV.aXb hf hb (congrArg Prod.fst (h a))) hlen (λa r hr=>(congrArg Prod.snd (h a)).trans (ht a r hr)) a r hr
def kR:EV.Sum Un:=⟨[.str, .str],[.sl 9],false,false,λ(a:ByteArray×ByteArray)=>gd (a.1.size<4294967281/\1<=a.2.size) (some (lV a.1 a.2))⟩
def aGb (args:Array Value)(w:World):(callFunc 226 args).run Tryz.prog w= .ok (.enter 226 args) w:=by kernel_rfl
def aJi (a:ByteArray×ByteArray):(EV.dQ Yn kR.ar a).map EV.zI=[.str a.1, .str a.2]:=by kernel_rfl
def aJj (a:ByteArray×ByteArray):oL ((EV.dQ Yn kR.rs (lV a.1 a.2)).map EV.zI)= .slice 1 ((lV a.1 a.2).map sV):=by kernel_rfl
def aJk (a:ByteArray×ByteArray)(r:EV.sD Un kR.rs)(hr:gd (a.1.size<4294967281/\1<=a.2.size) (some (lV a.1 a.2))=some r):Spec Tryz.prog G0 226 ((EV.dQ Yn kR.ar a).map EV.zI) (λv=>v=oL ((EV.dQ Yn kR.rs r).map EV.zI)):=by
 unfold gd at hr;split at hr
 ·rename_i hp;have e:=aj hr;subst e;rw[aJi,aJj];exact bAl aGb (λs sep m w a b c=>Tryz.strings_Split s sep m w a b c) a.1 a.2 hp.1 hp.2
 ·cases hr
def Pt:EV.Er Tryz.prog G0 Yn 226 kR:=λ(a:ByteArray×ByteArray) r hr=>⟨λ_ _=>aJk a r hr,λ_ h=>absurd (show false=true from h) fg,λh=>absurd (show false=true from h) fg,λh=>absurd (show false=true from h) fg⟩
def mH:EV.Sum Un:=⟨[.sl 9, .str],[.str],false,false,λ(a:(List ByteArray)×ByteArray)=>gd (0<a.1.length/\(rG a.2 a.1).size<=140737488355328/\a.1.length<=140737488355328) (some (rG a.2 a.1))⟩
def aJl (args:Array Value)(w:World):(callFunc 227 args).run Tryz.prog w= .ok (.enter 227 args) w:=by kernel_rfl
def aN4 (a:(List ByteArray)×ByteArray):(EV.dQ Yn mH.ar a).map EV.zI=[.slice 1 (a.1.map sV), .str a.2]:=by kernel_rfl
def aN5 (a:(List ByteArray)×ByteArray):oL ((EV.dQ Yn mH.rs (rG a.2 a.1)).map EV.zI)= .str (rG a.2 a.1):=by kernel_rfl
def aN6 (a:(List ByteArray)×ByteArray)(r:EV.sD Un mH.rs)(hr:gd (0<a.1.length/\(rG a.2 a.1).size<=140737488355328/\a.1.length<=140737488355328) (some (rG a.2 a.1))=some r):Spec Tryz.prog G0 227 ((EV.dQ Yn mH.ar a).map EV.zI) (λv=>v=oL ((EV.dQ Yn mH.rs r).map EV.zI)):=by
 unfold gd at hr;split at hr
 ·rename_i hp;have e:=aj hr;subst e;rw[aN4,aN5];exact bEg aJl Tryz.strings_Join a.1 a.2 (by intro h;have:=hp.1;rw[h] at this;simp at this) hp.2.1 hp.2.2
 ·cases hr
def aN7:EV.Er Tryz.prog G0 Yn 227 mH:=λ(a:(List ByteArray)×ByteArray) r hr=>⟨λ_ _=>aN6 a r hr,λ_ h=>absurd (show false=true from h) fg,λh=>absurd (show false=true from h) fg,λh=>absurd (show false=true from h) fg⟩
def aJm:EV.Sum Un:=⟨[.str],[.int .i64, .bool],false,false,λ(a:ByteArray)=>none⟩
def aJn:OK 296 aJm:=λ_ _ h=>nomatch h
def aGc:EV.Sum Un:=⟨[.int .i64],[.str],false,false,λ(a:Int)=>none⟩
def aGd:OK 258 aGc:=λ_ _ h=>nomatch h
end
end Go.VK
