import Derived.Test.YtaaefkcjgkpckaaGreatDoorXoFF
import Derived.Test.YtaaefkcjgkpckaaGreatDoorEWbtor
import Derived.Test.YtaaefkcjgkpckaaGreatDoorProg
import Derived.Test.YtaaefkcjgkpckaaGreatDoorTryzShelf
/- Printed by wip/tools: models, walks, proofs. -/
set_option linter.unusedVariables false
set_option linter.unusedSimpArgs false
set_option maxRecDepth 100000
set_option maxHeartbeats 4000000
namespace Go.VK
open Go.RowKit Go.Proofs
noncomputable section
abbrev G0:GI:=bHy 0
def El:Nat→Type
 |5=>Int
 |69=>D.aAH
 |154=>D.aAA
 |235=>D.Entry
 |72=>D.aAE
 |74=>D.Device
 |4=>Bool
 |224=>D.Box
 |29=>D.aAG
 |106=>D.aAC
 |32=>D.aAB
 |67=>D.aAJ
 |59=>D.aAF
 |254=>D.aAM
 |63=>D.aAD
 |3=>Int
 |65=>D.Site
 |35=>D.aAU
 |76=>D.aAV
 |78=>D.aAS
 |81=>D.aAI
 |193=>D.aAP
 |39=>D.aAN
 |41=>D.World
 |88=>D.aAK
 |147=>D.aAL
 |9=>ByteArray
 |53=>List Int
 |_=>Empty
def bGv:(τ:Nat)→El τ→List V
 |5=>y8
 |69=>D.aAH.V
 |154=>D.aAA.V
 |235=>D.Entry.V
 |72=>D.aAE.V
 |74=>D.Device.V
 |4=>bV
 |224=>D.Box.V
 |29=>D.aAG.V
 |106=>D.aAC.V
 |32=>D.aAB.V
 |67=>D.aAJ.V
 |59=>D.aAF.V
 |254=>D.aAM.V
 |63=>D.aAD.V
 |3=>iV
 |65=>D.Site.V
 |35=>D.aAU.V
 |76=>D.aAV.V
 |78=>D.aAS.V
 |81=>D.aAI.V
 |193=>D.aAP.V
 |39=>D.aAN.V
 |41=>D.World.V
 |88=>D.aAK.V
 |147=>D.aAL.V
 |9=>sV
 |53=>(fun l=>[V.slice 1 (l.map iV)])
 |_=>fun _=>[]
def Un:EV.Uni:=⟨El,fun|5=>1|69=>4|154=>6|235=>4|72=>1|74=>9|4=>1|224=>4|29=>2|106=>4|32=>4|67=>4|59=>3|254=>3|63=>3|3=>1|65=>6|35=>4|76=>2|78=>5|81=>7|193=>4|39=>1|41=>16|88=>3|147=>7|9=>1|53=>1|_=>0,bGv⟩
def aN7:(τ:Nat)→El τ→List (EV.Lf Un)
 |5=>fun x=>[.int .u8 x]
 |69=>fun x=>[.int .i64 x.Vendor, .int .i64 x.Serial, .int .i64 x.Seed, .int .i64 x.Counter]
 |154=>fun x=>[.int .i64 x.Index, .int .i64 x.Kind, .int .i64 x.Device, .int .i64 x.By, .int .i64 x.Previous, .int .i64 x.Signature]
 |235=>fun x=>[.int .i64 x.Site, .int .i64 x.Handle, .int .i64 x.Version, .bool x.Deleted]
 |72=>fun x=>[.sl 235 x.Entries]
 |74=>fun x=>[.int .i64 x.Store.Vendor, .int .i64 x.Store.Serial, .int .i64 x.Store.Seed, .int .i64 x.Store.Counter, .sl 154 x.Log, .int .i64 x.Key, .int .i64 x.Epoch, .int .i64 x.Version, .sl 235 x.aAE.Entries]
 |4=>fun x=>[.bool x]
 |224=>fun x=>[.int .i64 x.To, .int .i64 x.Ephemeral, .sl 5 x.Data, .int .i64 x.MAC]
 |29=>fun x=>[.int .i64 x.Epoch, .sl 224 x.Boxes]
 |106=>fun x=>[.int .i64 x.Epoch, .int .i64 x.Version, .sl 5 x.Data, .int .i64 x.MAC]
 |32=>fun x=>[.sl 154 x.Log, .int .i64 x.Boxes.Epoch, .sl 224 x.Boxes.Boxes, .sl 106 x.History]
 |67=>fun x=>[.int .i64 x.Handle, .int .i64 x.Public, .int .i64 x.Counter, .bool x.Cut]
 |59=>fun x=>[.int .i64 x.Id, .int .i64 x.Minimum, .sl 67 x.Credentials]
 |254=>fun x=>[.int .i64 x.Id, .int .i64 x.aAF, .int .i64 x.Until]
 |63=>fun x=>[.int .i64 x.Seed, .int .i64 x.Next, .sl 254 x.Open]
 |3=>fun x=>[.int .i64 x]
 |65=>fun x=>[.str x.Name, .sl 59 x.Accounts, .int .i64 x.Book.Seed, .int .i64 x.Book.Next, .sl 254 x.Book.Open, .sl 3 x.Logins]
 |35=>fun x=>[.int .i64 x.Salt, .int .i64 x.Threshold, .int .i64 x.Check, .int .i64 x.Masked]
 |76=>fun x=>[.int .i64 x.Index, .int .i64 x.Value]
 |78=>fun x=>[.int .i64 x.aAV.Index, .int .i64 x.aAV.Value, .int .i64 x.Epoch, .int .i64 x.Guesses, .int .i64 x.Limit]
 |81=>fun x=>[.int .i64 x.State.aAV.Index, .int .i64 x.State.aAV.Value, .int .i64 x.State.Epoch, .int .i64 x.State.Guesses, .int .i64 x.State.Limit, .sl 78 x.Saved, .int .i64 x.Monotonic]
 |193=>fun x=>[.int .i64 x.Kind, .int .i64 x.aAF, .int .i64 x.Time, .bool x.Seen]
 |39=>fun x=>[.sl 193 x.Notices]
 |41=>fun x=>[.int .i64 x.Now, .int .i64 x.Seed, .sl 74 x.Devices, .sl 4 x.Stolen, .sl 154 x.aAB.Log, .int .i64 x.aAB.Boxes.Epoch, .sl 224 x.aAB.Boxes.Boxes, .sl 106 x.aAB.History, .sl 65 x.Sites, .int .i64 x.aAU.Salt, .int .i64 x.aAU.Threshold, .int .i64 x.aAU.Check, .int .i64 x.aAU.Masked, .sl 81 x.Hosts, .int .i64 x.Pin, .sl 193 x.Mail.Notices]
 |88=>fun x=>[.bool x.Secure, .str x.Host, .int .i64 x.Port]
 |147=>fun x=>[.str x.Site, .str x.aAK, .int .i64 x.aAM, .int .i64 x.Handle, .bool x.Present, .int .i64 x.Counter, .int .i64 x.Signature]
 |9=>fun x=>[.str x]
 |53=>fun x=>[.sl 3 x]
 |_=>fun _=>[]
def Ou:Nat→List EV.Kd
 |5=>[.int .u8]
 |69=>[.int .i64, .int .i64, .int .i64, .int .i64]
 |154=>[.int .i64, .int .i64, .int .i64, .int .i64, .int .i64, .int .i64]
 |235=>[.int .i64, .int .i64, .int .i64, .bool]
 |72=>[.sl 235]
 |74=>[.int .i64, .int .i64, .int .i64, .int .i64, .sl 154, .int .i64, .int .i64, .int .i64, .sl 235]
 |4=>[.bool]
 |224=>[.int .i64, .int .i64, .sl 5, .int .i64]
 |29=>[.int .i64, .sl 224]
 |106=>[.int .i64, .int .i64, .sl 5, .int .i64]
 |32=>[.sl 154, .int .i64, .sl 224, .sl 106]
 |67=>[.int .i64, .int .i64, .int .i64, .bool]
 |59=>[.int .i64, .int .i64, .sl 67]
 |254=>[.int .i64, .int .i64, .int .i64]
 |63=>[.int .i64, .int .i64, .sl 254]
 |3=>[.int .i64]
 |65=>[.str, .sl 59, .int .i64, .int .i64, .sl 254, .sl 3]
 |35=>[.int .i64, .int .i64, .int .i64, .int .i64]
 |76=>[.int .i64, .int .i64]
 |78=>[.int .i64, .int .i64, .int .i64, .int .i64, .int .i64]
 |81=>[.int .i64, .int .i64, .int .i64, .int .i64, .int .i64, .sl 78, .int .i64]
 |193=>[.int .i64, .int .i64, .int .i64, .bool]
 |39=>[.sl 193]
 |41=>[.int .i64, .int .i64, .sl 74, .sl 4, .sl 154, .int .i64, .sl 224, .sl 106, .sl 65, .int .i64, .int .i64, .int .i64, .int .i64, .sl 81, .int .i64, .sl 193]
 |88=>[.bool, .str, .int .i64]
 |147=>[.str, .str, .int .i64, .int .i64, .bool, .int .i64, .int .i64]
 |9=>[.str]
 |53=>[.sl 3]
 |_=>[]
def bIc:(τ:Nat)→List (EV.Lf Un)→Option (El τ)
 |5=>EV.kX (Ou 5) (fun x=>x)
 |69=>EV.kX (Ou 69) D.aAH.mk
 |154=>EV.kX (Ou 154) D.aAA.mk
 |235=>EV.kX (Ou 235) D.Entry.mk
 |72=>EV.kX (Ou 72) D.aAE.mk
 |74=>EV.kX (Ou 74) (fun a0 a1 a2 a3 a4 a5 a6 a7 a8=>(⟨⟨a0,a1,a2,a3⟩,a4,a5,a6,a7,⟨a8⟩⟩:D.Device))
 |4=>EV.kX (Ou 4) (fun x=>x)
 |224=>EV.kX (Ou 224) D.Box.mk
 |29=>EV.kX (Ou 29) D.aAG.mk
 |106=>EV.kX (Ou 106) D.aAC.mk
 |32=>EV.kX (Ou 32) (fun a0 a1 a2 a3=>(⟨a0,⟨a1,a2⟩,a3⟩:D.aAB))
 |67=>EV.kX (Ou 67) D.aAJ.mk
 |59=>EV.kX (Ou 59) D.aAF.mk
 |254=>EV.kX (Ou 254) D.aAM.mk
 |63=>EV.kX (Ou 63) D.aAD.mk
 |3=>EV.kX (Ou 3) (fun x=>x)
 |65=>EV.kX (Ou 65) (fun a0 a1 a2 a3 a4 a5=>(⟨a0,a1,⟨a2,a3,a4⟩,a5⟩:D.Site))
 |35=>EV.kX (Ou 35) D.aAU.mk
 |76=>EV.kX (Ou 76) D.aAV.mk
 |78=>EV.kX (Ou 78) (fun a0 a1 a2 a3 a4=>(⟨⟨a0,a1⟩,a2,a3,a4⟩:D.aAS))
 |81=>EV.kX (Ou 81) (fun a0 a1 a2 a3 a4 a5 a6=>(⟨⟨⟨a0,a1⟩,a2,a3,a4⟩,a5,a6⟩:D.aAI))
 |193=>EV.kX (Ou 193) D.aAP.mk
 |39=>EV.kX (Ou 39) D.aAN.mk
 |41=>EV.kX (Ou 41) (fun a0 a1 a2 a3 a4 a5 a6 a7 a8 a9 a10 a11 a12 a13 a14 a15=>(⟨a0,a1,a2,a3,⟨a4,⟨a5,a6⟩,a7⟩,a8,⟨a9,a10,a11,a12⟩,a13,a14,⟨a15⟩⟩:D.World))
 |88=>EV.kX (Ou 88) D.aAK.mk
 |147=>EV.kX (Ou 147) D.aAL.mk
 |9=>EV.kX (Ou 9) (fun x=>x)
 |53=>EV.kX (Ou 53) (fun x=>x)
 |_=>fun _=>none
def TI:List (Nat×EV.TInfo):=[
 (3,⟨.int .i64,1,[.int .i64]⟩),
 (4,⟨.bool,1,[.bool]⟩),
 (5,⟨.int .u8,1,[.int .u8]⟩),
 (9,⟨.str,1,[.str]⟩),
 (22,⟨.sl 5 1 1,1,[.nil]⟩),
 (24,⟨.sl 74 9 104,1,[.nil]⟩),
 (25,⟨.sl 4 1 1,1,[.nil]⟩),
 (26,⟨.sl 154 6 48,1,[.nil]⟩),
 (27,⟨.sl 224 4 48,1,[.nil]⟩),
 (29,⟨.st [(0,3,1),(1,27,1)],2,[.int .i64, .nil]⟩),
 (30,⟨.sl 106 4 48,1,[.nil]⟩),
 (32,⟨.st [(0,26,1),(1,29,2),(3,30,1)],4,[.nil, .int .i64, .nil, .nil]⟩),
 (33,⟨.sl 65 6 104,1,[.nil]⟩),
 (35,⟨.st [(0,3,1),(1,3,1),(2,3,1),(3,3,1)],4,[.int .i64, .int .i64, .int .i64, .int .i64]⟩),
 (36,⟨.sl 81 7 72,1,[.nil]⟩),
 (37,⟨.sl 193 4 32,1,[.nil]⟩),
 (39,⟨.st [(0,37,1)],1,[.nil]⟩),
 (41,⟨.st [(0,3,1),(1,3,1),(2,24,1),(3,25,1),(4,32,4),(8,33,1),(9,35,4),(13,36,1),(14,3,1),(15,39,1)],16,[.int .i64, .int .i64, .nil, .nil, .nil, .int .i64, .nil, .nil, .nil, .int .i64, .int .i64, .int .i64, .int .i64, .nil, .int .i64, .nil]⟩),
 (53,⟨.sl 3 1 8,1,[.nil]⟩),
 (57,⟨.sl 67 4 32,1,[.nil]⟩),
 (59,⟨.st [(0,3,1),(1,3,1),(2,57,1)],3,[.int .i64, .int .i64, .nil]⟩),
 (60,⟨.sl 59 3 40,1,[.nil]⟩),
 (61,⟨.sl 254 3 24,1,[.nil]⟩),
 (63,⟨.st [(0,3,1),(1,3,1),(2,61,1)],3,[.int .i64, .int .i64, .nil]⟩),
 (65,⟨.st [(0,9,1),(1,60,1),(2,63,3),(5,53,1)],6,[.str, .nil, .int .i64, .int .i64, .nil, .nil]⟩),
 (67,⟨.st [(0,3,1),(1,3,1),(2,3,1),(3,4,1)],4,[.int .i64, .int .i64, .int .i64, .bool]⟩),
 (69,⟨.st [(0,3,1),(1,3,1),(2,3,1),(3,3,1)],4,[.int .i64, .int .i64, .int .i64, .int .i64]⟩),
 (70,⟨.sl 235 4 32,1,[.nil]⟩),
 (72,⟨.st [(0,70,1)],1,[.nil]⟩),
 (74,⟨.st [(0,69,4),(4,26,1),(5,3,1),(6,3,1),(7,3,1),(8,72,1)],9,[.int .i64, .int .i64, .int .i64, .int .i64, .nil, .int .i64, .int .i64, .int .i64, .nil]⟩),
 (76,⟨.st [(0,3,1),(1,3,1)],2,[.int .i64, .int .i64]⟩),
 (78,⟨.st [(0,76,2),(2,3,1),(3,3,1),(4,3,1)],5,[.int .i64, .int .i64, .int .i64, .int .i64, .int .i64]⟩),
 (79,⟨.sl 78 5 40,1,[.nil]⟩),
 (81,⟨.st [(0,78,5),(5,79,1),(6,3,1)],7,[.int .i64, .int .i64, .int .i64, .int .i64, .int .i64, .nil, .int .i64]⟩),
 (88,⟨.st [(0,4,1),(1,9,1),(2,3,1)],3,[.bool, .str, .int .i64]⟩),
 (106,⟨.st [(0,3,1),(1,3,1),(2,22,1),(3,3,1)],4,[.int .i64, .int .i64, .nil, .int .i64]⟩),
 (147,⟨.st [(0,9,1),(1,9,1),(2,3,1),(3,3,1),(4,4,1),(5,3,1),(6,3,1)],7,[.str, .str, .int .i64, .int .i64, .bool, .int .i64, .int .i64]⟩),
 (154,⟨.st [(0,3,1),(1,3,1),(2,3,1),(3,3,1),(4,3,1),(5,3,1)],6,[.int .i64, .int .i64, .int .i64, .int .i64, .int .i64, .int .i64]⟩),
 (182,⟨.sl 76 2 16,1,[.nil]⟩),
 (193,⟨.st [(0,3,1),(1,3,1),(2,3,1),(3,4,1)],4,[.int .i64, .int .i64, .int .i64, .bool]⟩),
 (224,⟨.st [(0,3,1),(1,3,1),(2,22,1),(3,3,1)],4,[.int .i64, .int .i64, .nil, .int .i64]⟩),
 (230,⟨.sl 9 1 16,1,[.nil]⟩),
 (235,⟨.st [(0,3,1),(1,3,1),(2,3,1),(3,4,1)],4,[.int .i64, .int .i64, .int .i64, .bool]⟩),
 (254,⟨.st [(0,3,1),(1,3,1),(2,3,1)],3,[.int .i64, .int .i64, .int .i64]⟩),
 (258,⟨.sl 53 1 24,1,[.nil]⟩),
 (289,⟨.st [],8,[.bool, .bool, .bool, .bool, .bool, .bool, .bool, .bool]⟩)]
theorem lay (τ:Nat):(∀x:El τ,((aN7 τ x).map EV.Lf.toV=bGv τ x∧(aN7 τ x).length=Un.K τ)∧(aN7 τ x).map EV.kdL=(Ou τ).map some)∧∀(cs:List (EV.Lf Un)) (x:El τ),bIc τ cs=some x→cs=aN7 τ x:=by
 by_cases h:τ∈[5,69,154,235,72,74,4,224,29,106,32,67,59,254,63,3,65,35,76,78,81,193,39,41,88,147,9,53]
 ·simp only[List.mem_cons,List.not_mem_nil,or_false] at h
  rcases h with rfl|rfl|rfl|rfl|rfl|rfl|rfl|rfl|rfl|rfl|rfl|rfl|rfl|rfl|rfl|rfl|rfl|rfl|rfl|rfl|rfl|rfl|rfl|rfl|rfl|rfl|rfl|rfl<;>exact⟨fun _=>⟨⟨rfl,rfl⟩,rfl⟩,fun _ _ h=>by obtain⟨t,rfl,rfl⟩:=EV.aUk h;rfl⟩
 ·have e:El τ=Empty:=by
   unfold El
   split<;>first|(exfalso;revert h;decide)|rfl
  exact⟨fun x=>(cast e x).elim,fun _ x=>(cast e x).elim⟩
theorem hc1 (τ:Nat)(x:El τ):(aN7 τ x).map EV.Lf.toV=bGv τ x:=((lay τ).1 x).1.1
theorem hc2 (τ:Nat)(x:El τ):(aN7 τ x).length=Un.K τ:=((lay τ).1 x).1.2
theorem hc3 (τ:Nat)(x:El τ)(c:EV.Lf Un)(hc:c∈aN7 τ x):c.aAZ=true:=EV.aZm ((lay τ).1 x).2 c hc
def Yn:EV.Lay Un:=⟨⟨aN7,bIc,hc1,hc2,hc3,fun τ=>(lay τ).2⟩,Ou,5,fun n=>n,fun n=>n,fun _=>rfl,fun _=>rfl⟩
theorem ly1 (τ:Nat)(x:El τ):(aN7 τ x).map EV.kdL=(Ou τ).map some:=((lay τ).1 x).2
theorem ly2:∀(τ τ':Nat),EV.Kd.sl τ'∈Ou τ→0<Un.K τ':=by
 intro τ τ' h
 unfold Ou at h
 split at h<;>simp only[List.mem_cons,List.not_mem_nil,or_false,reduceCtorEq,false_or,or_self,EV.Kd.sl.injEq] at h<;>first|exact h.elim|(subst h;exact Nat.le_of_ble_eq_true rfl)|(rcases h with h|h|h|h|h|h|h|h<;>(subst h;exact Nat.le_of_ble_eq_true rfl))|(rcases h with h|h|h|h|h|h|h<;>(subst h;exact Nat.le_of_ble_eq_true rfl))|(rcases h with h|h|h|h|h|h<;>(subst h;exact Nat.le_of_ble_eq_true rfl))|(rcases h with h|h|h|h|h<;>(subst h;exact Nat.le_of_ble_eq_true rfl))|(rcases h with h|h|h|h<;>(subst h;exact Nat.le_of_ble_eq_true rfl))|(rcases h with h|h|h<;>(subst h;exact Nat.le_of_ble_eq_true rfl))|(rcases h with h|h<;>(subst h;exact Nat.le_of_ble_eq_true rfl))
theorem bId:EV.LayOk Yn:=⟨ly1,ly2⟩
def Ec (f:Func):Code:=match f.body with|some c=>c|none=> .skip
theorem T.mix:Tryz.prog.follows .mixedOrders=true:=by kernel_rfl
theorem aH:EV.Good Tryz.prog G0 Yn TI []:=⟨by kernel_rfl,bId,fun f S h=>by simp at h⟩
abbrev SU:=EV.Sum Un
def OK (f:Nat)(S:SU):Prop:=EV.En Tryz.prog G0 Yn f S
def bIe:SU:=⟨[],[],false,false,fun _=>none⟩
theorem bE0 (f:Nat):OK f bIe:=fun _ _ hr=>nomatch hr
def SIl:SU:=⟨[],[],false,true,fun _=>none⟩
theorem sIl (f:Nat):OK f SIl:=fun _ _ hr=>nomatch hr
def IL:EV.Il:=[(40,Ec Tryz.f40,52,[.tmp 4]),(62,Ec Tryz.f62,16,[.cell 4 41]),(271,Ec Tryz.f271,53,[.cell 4 81, .tmp 5, .tmp 6]),(71,Ec Tryz.f71,23,[]),(174,Ec Tryz.f174,37,[.cell 8 41, .tmp 9]),(66,Ec Tryz.f66,111,[.tmp 10]),(70,Ec Tryz.f70,48,[.tmp 4])]
theorem bIf:EV.tF Tryz.prog IL:=EV.Sd Tryz.func40 rfl Tryz.ntmps40 rfl (fun _ _=>by kernel_rfl)<|EV.Sd Tryz.func62 rfl Tryz.ntmps62 rfl (fun _ _=>by kernel_rfl)<|EV.Sd Tryz.func271 rfl Tryz.ntmps271 rfl (fun _ _=>by kernel_rfl)<|EV.Sd Tryz.func71 rfl Tryz.ntmps71 rfl (fun _ _=>by kernel_rfl)<|EV.Sd Tryz.func174 rfl Tryz.ntmps174 rfl (fun _ _=>by kernel_rfl)<|EV.Sd Tryz.func66 rfl Tryz.ntmps66 rfl (fun _ _=>by kernel_rfl)<|EV.Sd Tryz.func70 rfl Tryz.ntmps70 rfl (fun _ _=>by kernel_rfl)<|EV.bGa
def od (n:Nat)(l:List Nat):List (Nat×Bool):=(List.range n).map fun i=>(i, !l.contains i)
theorem gc {f:Nat}{S:SU}{FZ:List (Nat×SU)}(h:OK f S)(G:EV.Good Tryz.prog G0 Yn TI FZ):EV.Good Tryz.prog G0 Yn TI ((f,S)::FZ):=EV.aLo h G
theorem gcp {f:Nat}{S:SU}{FZ:List (Nat×SU)}(h:OK f S)(G:EV.Good Tryz.prog G0 Yn TI FZ)(hw:S.wt=false:=by rfl)(hf:S.fr=true:=by rfl):EV.Good Tryz.prog G0 Yn TI ((f,S.pl)::FZ):=EV.aLo (EV.aZv h hw hf) G
theorem mkS {f:FuncId}{fn:Func}{n:Nat}{S:SU}{FZ:List (Nat×SU)}{m:EV.xN Un S.ar→Option (EV.xN Un S.rs)}(an:EV.An)(l:List ResultVar)(G:EV.Good Tryz.prog G0 Yn TI FZ)(hf:Tryz.prog.funcs[f]? =some fn)(hn:fn.ntmps=n)(ht:∀a r,S.m a=some r→m a=some r)(h:∀a,(fn.name== "runtime.NumGoroutine",EV.evF Yn TI FZ IL an (Ec fn) n S.ar S.rs S.fr l a)=(false,m a))(hb:fn.body=some (Ec fn):=by rfl)(hl:fn.results=l.toArray:=by rfl)(hlen:S.ar.length≤n:=by decide)(hw:S.wt=false:=by rfl):OK f S:=
 fun a r hr=>EV.bGd (an:=fun _=>an) G T.mix bIf hf hb hn hl (EV.aZq hf hb (congrArg Prod.fst (h a))) hlen hw (fun a r hr=>(congrArg Prod.snd (h a)).trans (ht a r hr)) a r hr
def jC:EV.Sum Un:=⟨[.str, .str],[.sl 9],false,false,fun(a:ByteArray×ByteArray)=>gd (a.1.size<4294967281∧1≤a.2.size) (some (jX a.1 a.2))⟩
theorem P7 (args:Array Value)(w:World):(callFunc 309 args).run Tryz.prog w= .ok (.enter 309 args) w:=by kernel_rfl
theorem aB5 (a:ByteArray×ByteArray):(EV.bY Yn jC.ar a).map EV.uL=[.str a.1, .str a.2]:=by kernel_rfl
theorem aB6 (a:ByteArray×ByteArray):mV ((EV.bY Yn jC.rs (jX a.1 a.2)).map EV.uL)= .slice 1 ((jX a.1 a.2).map sV):=by kernel_rfl
theorem aB7 (a:ByteArray×ByteArray)(r:EV.xN Un jC.rs)(hr:gd (a.1.size<4294967281∧1≤a.2.size) (some (jX a.1 a.2))=some r):Spec Tryz.prog G0 309 ((EV.bY Yn jC.ar a).map EV.uL) (fun v=>v=mV ((EV.bY Yn jC.rs r).map EV.uL)):=by
 unfold gd at hr
 split at hr
 ·rename_i hp
  have e:=Option.some.inj hr
  subst e
  rw[aB5,aB6]
  exact aSl P7 (fun s sep m w a b c=>Tryz.strings_Split s sep m w a b c) a.1 a.2 hp.1 hp.2
 ·cases hr
theorem Et:EV.En Tryz.prog G0 Yn 309 jC:=fun(a:ByteArray×ByteArray) r hr=>⟨fun _ _=>aB7 a r hr,fun _ h=>absurd (show false=true from h) Bool.false_ne_true,fun h=>absurd (show false=true from h) Bool.false_ne_true,fun h=>absurd (show false=true from h) Bool.false_ne_true⟩
def kF:EV.Sum Un:=⟨[.sl 9, .str],[.str],false,false,fun(a:(List ByteArray)×ByteArray)=>gd (0<a.1.length∧(nS a.2 a.1).size≤140737488355328∧a.1.length≤140737488355328) (some (nS a.2 a.1))⟩
theorem aB8 (args:Array Value)(w:World):(callFunc 310 args).run Tryz.prog w= .ok (.enter 310 args) w:=by kernel_rfl
theorem aGi (a:(List ByteArray)×ByteArray):(EV.bY Yn kF.ar a).map EV.uL=[.slice 1 (a.1.map sV), .str a.2]:=by kernel_rfl
theorem aGj (a:(List ByteArray)×ByteArray):mV ((EV.bY Yn kF.rs (nS a.2 a.1)).map EV.uL)= .str (nS a.2 a.1):=by kernel_rfl
theorem aGk (a:(List ByteArray)×ByteArray)(r:EV.xN Un kF.rs)(hr:gd (0<a.1.length∧(nS a.2 a.1).size≤140737488355328∧a.1.length≤140737488355328) (some (nS a.2 a.1))=some r):Spec Tryz.prog G0 310 ((EV.bY Yn kF.ar a).map EV.uL) (fun v=>v=mV ((EV.bY Yn kF.rs r).map EV.uL)):=by
 unfold gd at hr
 split at hr
 ·rename_i hp
  have e:=Option.some.inj hr
  subst e
  rw[aGi,aGj]
  exact aV2 aB8 Tryz.strings_Join a.1 a.2 (by intro h;have:=hp.1;rw[h] at this;simp at this) hp.2.1 hp.2.2
 ·cases hr
theorem aGl:EV.En Tryz.prog G0 Yn 310 kF:=fun(a:(List ByteArray)×ByteArray) r hr=>⟨fun _ _=>aGk a r hr,fun _ h=>absurd (show false=true from h) Bool.false_ne_true,fun h=>absurd (show false=true from h) Bool.false_ne_true,fun h=>absurd (show false=true from h) Bool.false_ne_true⟩
def gF:EV.Sum Un:=⟨[.str, .str],[.int .i64],false,false,fun(a:ByteArray×ByteArray)=>gd (a.2.size=1) (some (Lib.indexByte a.1.data.toList (a.2.data.toList.getD 0 0)))⟩
theorem Jy (args:Array Value)(w:World):(callFunc 335 args).run Tryz.prog w= .ok (.enter 335 args) w:=by kernel_rfl
theorem Ov (a:ByteArray×ByteArray):(EV.bY Yn gF.ar a).map EV.uL=[.str a.1, .str a.2]:=by kernel_rfl
theorem Ox (a:ByteArray×ByteArray):mV ((EV.bY Yn gF.rs (Lib.indexByte a.1.data.toList (a.2.data.toList.getD 0 0))).map EV.uL)= .int .i64 (Lib.indexByte a.1.data.toList (a.2.data.toList.getD 0 0)):=by kernel_rfl
theorem Oy (a:ByteArray×ByteArray)(r:EV.xN Un gF.rs)(hr:gd (a.2.size=1) (some (Lib.indexByte a.1.data.toList (a.2.data.toList.getD 0 0)))=some r):Spec Tryz.prog G0 335 ((EV.bY Yn gF.ar a).map EV.uL) (fun v=>v=mV ((EV.bY Yn gF.rs r).map EV.uL)):=by
 unfold gd at hr
 split at hr
 ·rename_i hp
  have e:=Option.some.inj hr
  subst e
  rw[Ov,Ox]
  exact aSk Jy (fun s c w=>Tryz.stringslite_Index_one s c w) a.1 a.2 hp
 ·cases hr
theorem tK:EV.En Tryz.prog G0 Yn 335 gF:=fun(a:ByteArray×ByteArray) r hr=>⟨fun _ _=>Oy a r hr,fun _ h=>absurd (show false=true from h) Bool.false_ne_true,fun h=>absurd (show false=true from h) Bool.false_ne_true,fun h=>absurd (show false=true from h) Bool.false_ne_true⟩
def aB9:EV.Sum Un:=⟨[.str],[.int .i64, .bool],false,false,fun(a:ByteArray)=>none⟩
theorem aCa:OK 358 aB9:=fun _ _ h=>nomatch h
def P8:EV.Sum Un:=⟨[.int .i64],[.str],false,false,fun(a:Int)=>none⟩
theorem P9:OK 298 P8:=fun _ _ h=>nomatch h
end
end Go.VK
