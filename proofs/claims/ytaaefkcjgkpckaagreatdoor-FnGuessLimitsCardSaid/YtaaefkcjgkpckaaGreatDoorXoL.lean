import Derived.Test.YtaaefkcjgkpckaaGreatDoorXoFF
import Derived.Test.YtaaefkcjgkpckaaGreatDoorEWbtor
import Derived.Test.YtaaefkcjgkpckaaGreatDoorProg
import Derived.Test.YtaaefkcjgkpckaaGreatDoorTryzShelf
/- Printed by wip/tools: models, walks, proofs. -/
set_option linter.unusedVariables false
set_option linter.unusedSimpArgs false
set_option maxRecDepth 100000
set_option maxHeartbeats 4000000
namespace Go.VK
open Go.RowKit Go.Proofs
noncomputable section
abbrev G0:GI:=bIj 0
def El:Nat→Type
 |5=>Int
 |69=>D.aAI
 |154=>D.aAB
 |235=>D.Entry
 |72=>D.aAE
 |74=>D.Device
 |4=>Bool
 |224=>D.Box
 |29=>D.aAD
 |106=>D.aAC
 |32=>D.aAH
 |67=>D.aAK
 |59=>D.aAG
 |254=>D.aAO
 |63=>D.aAF
 |3=>Int
 |65=>D.Site
 |35=>D.aAL
 |76=>D.aAM
 |78=>D.aAQ
 |81=>D.aAA
 |193=>D.aAP
 |39=>D.aAJ
 |41=>D.World
 |88=>D.aAS
 |147=>D.aAR
 |9=>ByteArray
 |53=>List Int
 |_=>Empty
def bHh:(τ:Nat)→El τ→List V
 |5=>y8
 |69=>D.aAI.V
 |154=>D.aAB.V
 |235=>D.Entry.V
 |72=>D.aAE.V
 |74=>D.Device.V
 |4=>bV
 |224=>D.Box.V
 |29=>D.aAD.V
 |106=>D.aAC.V
 |32=>D.aAH.V
 |67=>D.aAK.V
 |59=>D.aAG.V
 |254=>D.aAO.V
 |63=>D.aAF.V
 |3=>iV
 |65=>D.Site.V
 |35=>D.aAL.V
 |76=>D.aAM.V
 |78=>D.aAQ.V
 |81=>D.aAA.V
 |193=>D.aAP.V
 |39=>D.aAJ.V
 |41=>D.World.V
 |88=>D.aAS.V
 |147=>D.aAR.V
 |9=>sV
 |53=>(fun l=>[V.slice 1 (l.map iV)])
 |_=>fun _=>[]
def Un:EV.Uni:=⟨El,fun|5=>1|69=>4|154=>6|235=>4|72=>1|74=>9|4=>1|224=>4|29=>2|106=>4|32=>4|67=>4|59=>3|254=>3|63=>3|3=>1|65=>6|35=>4|76=>2|78=>5|81=>7|193=>4|39=>1|41=>16|88=>3|147=>7|9=>1|53=>1|_=>0,bHh⟩
def aOt:(τ:Nat)→El τ→List (EV.Lf Un)
 |5=>fun x=>[.int .u8 x]
 |69=>fun x=>[.int .i64 x.Vendor, .int .i64 x.Serial, .int .i64 x.Seed, .int .i64 x.Counter]
 |154=>fun x=>[.int .i64 x.Index, .int .i64 x.Kind, .int .i64 x.Device, .int .i64 x.By, .int .i64 x.Previous, .int .i64 x.Signature]
 |235=>fun x=>[.int .i64 x.Site, .int .i64 x.Handle, .int .i64 x.Version, .bool x.Deleted]
 |72=>fun x=>[.sl 235 x.Entries]
 |74=>fun x=>[.int .i64 x.Store.Vendor, .int .i64 x.Store.Serial, .int .i64 x.Store.Seed, .int .i64 x.Store.Counter, .sl 154 x.Log, .int .i64 x.Key, .int .i64 x.Epoch, .int .i64 x.Version, .sl 235 x.aAE.Entries]
 |4=>fun x=>[.bool x]
 |224=>fun x=>[.int .i64 x.To, .int .i64 x.Ephemeral, .sl 5 x.Data, .int .i64 x.MAC]
 |29=>fun x=>[.int .i64 x.Epoch, .sl 224 x.Boxes]
 |106=>fun x=>[.int .i64 x.Epoch, .int .i64 x.Version, .sl 5 x.Data, .int .i64 x.MAC]
 |32=>fun x=>[.sl 154 x.Log, .int .i64 x.Boxes.Epoch, .sl 224 x.Boxes.Boxes, .sl 106 x.History]
 |67=>fun x=>[.int .i64 x.Handle, .int .i64 x.Public, .int .i64 x.Counter, .bool x.Cut]
 |59=>fun x=>[.int .i64 x.Id, .int .i64 x.Minimum, .sl 67 x.Credentials]
 |254=>fun x=>[.int .i64 x.Id, .int .i64 x.aAG, .int .i64 x.Until]
 |63=>fun x=>[.int .i64 x.Seed, .int .i64 x.Next, .sl 254 x.Open]
 |3=>fun x=>[.int .i64 x]
 |65=>fun x=>[.str x.Name, .sl 59 x.Accounts, .int .i64 x.Book.Seed, .int .i64 x.Book.Next, .sl 254 x.Book.Open, .sl 3 x.Logins]
 |35=>fun x=>[.int .i64 x.Salt, .int .i64 x.Threshold, .int .i64 x.Check, .int .i64 x.Masked]
 |76=>fun x=>[.int .i64 x.Index, .int .i64 x.Value]
 |78=>fun x=>[.int .i64 x.aAM.Index, .int .i64 x.aAM.Value, .int .i64 x.Epoch, .int .i64 x.Guesses, .int .i64 x.Limit]
 |81=>fun x=>[.int .i64 x.State.aAM.Index, .int .i64 x.State.aAM.Value, .int .i64 x.State.Epoch, .int .i64 x.State.Guesses, .int .i64 x.State.Limit, .sl 78 x.Saved, .int .i64 x.Monotonic]
 |193=>fun x=>[.int .i64 x.Kind, .int .i64 x.aAG, .int .i64 x.Time, .bool x.Seen]
 |39=>fun x=>[.sl 193 x.Notices]
 |41=>fun x=>[.int .i64 x.Now, .int .i64 x.Seed, .sl 74 x.Devices, .sl 4 x.Stolen, .sl 154 x.aAH.Log, .int .i64 x.aAH.Boxes.Epoch, .sl 224 x.aAH.Boxes.Boxes, .sl 106 x.aAH.History, .sl 65 x.Sites, .int .i64 x.aAL.Salt, .int .i64 x.aAL.Threshold, .int .i64 x.aAL.Check, .int .i64 x.aAL.Masked, .sl 81 x.Hosts, .int .i64 x.Pin, .sl 193 x.Mail.Notices]
 |88=>fun x=>[.bool x.Secure, .str x.Host, .int .i64 x.Port]
 |147=>fun x=>[.str x.Site, .str x.aAS, .int .i64 x.aAO, .int .i64 x.Handle, .bool x.Present, .int .i64 x.Counter, .int .i64 x.Signature]
 |9=>fun x=>[.str x]
 |53=>fun x=>[.sl 3 x]
 |_=>fun _=>[]
def Nr:Nat→List EV.Kd
 |5=>[.int .u8]
 |69=>[.int .i64, .int .i64, .int .i64, .int .i64]
 |154=>[.int .i64, .int .i64, .int .i64, .int .i64, .int .i64, .int .i64]
 |235=>[.int .i64, .int .i64, .int .i64, .bool]
 |72=>[.sl 235]
 |74=>[.int .i64, .int .i64, .int .i64, .int .i64, .sl 154, .int .i64, .int .i64, .int .i64, .sl 235]
 |4=>[.bool]
 |224=>[.int .i64, .int .i64, .sl 5, .int .i64]
 |29=>[.int .i64, .sl 224]
 |106=>[.int .i64, .int .i64, .sl 5, .int .i64]
 |32=>[.sl 154, .int .i64, .sl 224, .sl 106]
 |67=>[.int .i64, .int .i64, .int .i64, .bool]
 |59=>[.int .i64, .int .i64, .sl 67]
 |254=>[.int .i64, .int .i64, .int .i64]
 |63=>[.int .i64, .int .i64, .sl 254]
 |3=>[.int .i64]
 |65=>[.str, .sl 59, .int .i64, .int .i64, .sl 254, .sl 3]
 |35=>[.int .i64, .int .i64, .int .i64, .int .i64]
 |76=>[.int .i64, .int .i64]
 |78=>[.int .i64, .int .i64, .int .i64, .int .i64, .int .i64]
 |81=>[.int .i64, .int .i64, .int .i64, .int .i64, .int .i64, .sl 78, .int .i64]
 |193=>[.int .i64, .int .i64, .int .i64, .bool]
 |39=>[.sl 193]
 |41=>[.int .i64, .int .i64, .sl 74, .sl 4, .sl 154, .int .i64, .sl 224, .sl 106, .sl 65, .int .i64, .int .i64, .int .i64, .int .i64, .sl 81, .int .i64, .sl 193]
 |88=>[.bool, .str, .int .i64]
 |147=>[.str, .str, .int .i64, .int .i64, .bool, .int .i64, .int .i64]
 |9=>[.str]
 |53=>[.sl 3]
 |_=>[]
def bIw:(τ:Nat)→List (EV.Lf Un)→Option (El τ)
 |5=>EV.kG (Nr 5) (fun x=>x)
 |69=>EV.kG (Nr 69) D.aAI.mk
 |154=>EV.kG (Nr 154) D.aAB.mk
 |235=>EV.kG (Nr 235) D.Entry.mk
 |72=>EV.kG (Nr 72) D.aAE.mk
 |74=>EV.kG (Nr 74) (fun a0 a1 a2 a3 a4 a5 a6 a7 a8=>(⟨⟨a0,a1,a2,a3⟩,a4,a5,a6,a7,⟨a8⟩⟩:D.Device))
 |4=>EV.kG (Nr 4) (fun x=>x)
 |224=>EV.kG (Nr 224) D.Box.mk
 |29=>EV.kG (Nr 29) D.aAD.mk
 |106=>EV.kG (Nr 106) D.aAC.mk
 |32=>EV.kG (Nr 32) (fun a0 a1 a2 a3=>(⟨a0,⟨a1,a2⟩,a3⟩:D.aAH))
 |67=>EV.kG (Nr 67) D.aAK.mk
 |59=>EV.kG (Nr 59) D.aAG.mk
 |254=>EV.kG (Nr 254) D.aAO.mk
 |63=>EV.kG (Nr 63) D.aAF.mk
 |3=>EV.kG (Nr 3) (fun x=>x)
 |65=>EV.kG (Nr 65) (fun a0 a1 a2 a3 a4 a5=>(⟨a0,a1,⟨a2,a3,a4⟩,a5⟩:D.Site))
 |35=>EV.kG (Nr 35) D.aAL.mk
 |76=>EV.kG (Nr 76) D.aAM.mk
 |78=>EV.kG (Nr 78) (fun a0 a1 a2 a3 a4=>(⟨⟨a0,a1⟩,a2,a3,a4⟩:D.aAQ))
 |81=>EV.kG (Nr 81) (fun a0 a1 a2 a3 a4 a5 a6=>(⟨⟨⟨a0,a1⟩,a2,a3,a4⟩,a5,a6⟩:D.aAA))
 |193=>EV.kG (Nr 193) D.aAP.mk
 |39=>EV.kG (Nr 39) D.aAJ.mk
 |41=>EV.kG (Nr 41) (fun a0 a1 a2 a3 a4 a5 a6 a7 a8 a9 a10 a11 a12 a13 a14 a15=>(⟨a0,a1,a2,a3,⟨a4,⟨a5,a6⟩,a7⟩,a8,⟨a9,a10,a11,a12⟩,a13,a14,⟨a15⟩⟩:D.World))
 |88=>EV.kG (Nr 88) D.aAS.mk
 |147=>EV.kG (Nr 147) D.aAR.mk
 |9=>EV.kG (Nr 9) (fun x=>x)
 |53=>EV.kG (Nr 53) (fun x=>x)
 |_=>fun _=>none
def TI:List (Nat×EV.TInfo):=[
 (3,⟨.int .i64,1,[.int .i64]⟩),
 (4,⟨.bool,1,[.bool]⟩),
 (5,⟨.int .u8,1,[.int .u8]⟩),
 (9,⟨.str,1,[.str]⟩),
 (22,⟨.sl 5 1 1,1,[.nil]⟩),
 (24,⟨.sl 74 9 104,1,[.nil]⟩),
 (25,⟨.sl 4 1 1,1,[.nil]⟩),
 (26,⟨.sl 154 6 48,1,[.nil]⟩),
 (27,⟨.sl 224 4 48,1,[.nil]⟩),
 (29,⟨.st [(0,3,1),(1,27,1)],2,[.int .i64, .nil]⟩),
 (30,⟨.sl 106 4 48,1,[.nil]⟩),
 (32,⟨.st [(0,26,1),(1,29,2),(3,30,1)],4,[.nil, .int .i64, .nil, .nil]⟩),
 (33,⟨.sl 65 6 104,1,[.nil]⟩),
 (35,⟨.st [(0,3,1),(1,3,1),(2,3,1),(3,3,1)],4,[.int .i64, .int .i64, .int .i64, .int .i64]⟩),
 (36,⟨.sl 81 7 72,1,[.nil]⟩),
 (37,⟨.sl 193 4 32,1,[.nil]⟩),
 (39,⟨.st [(0,37,1)],1,[.nil]⟩),
 (41,⟨.st [(0,3,1),(1,3,1),(2,24,1),(3,25,1),(4,32,4),(8,33,1),(9,35,4),(13,36,1),(14,3,1),(15,39,1)],16,[.int .i64, .int .i64, .nil, .nil, .nil, .int .i64, .nil, .nil, .nil, .int .i64, .int .i64, .int .i64, .int .i64, .nil, .int .i64, .nil]⟩),
 (53,⟨.sl 3 1 8,1,[.nil]⟩),
 (57,⟨.sl 67 4 32,1,[.nil]⟩),
 (59,⟨.st [(0,3,1),(1,3,1),(2,57,1)],3,[.int .i64, .int .i64, .nil]⟩),
 (60,⟨.sl 59 3 40,1,[.nil]⟩),
 (61,⟨.sl 254 3 24,1,[.nil]⟩),
 (63,⟨.st [(0,3,1),(1,3,1),(2,61,1)],3,[.int .i64, .int .i64, .nil]⟩),
 (65,⟨.st [(0,9,1),(1,60,1),(2,63,3),(5,53,1)],6,[.str, .nil, .int .i64, .int .i64, .nil, .nil]⟩),
 (67,⟨.st [(0,3,1),(1,3,1),(2,3,1),(3,4,1)],4,[.int .i64, .int .i64, .int .i64, .bool]⟩),
 (69,⟨.st [(0,3,1),(1,3,1),(2,3,1),(3,3,1)],4,[.int .i64, .int .i64, .int .i64, .int .i64]⟩),
 (70,⟨.sl 235 4 32,1,[.nil]⟩),
 (72,⟨.st [(0,70,1)],1,[.nil]⟩),
 (74,⟨.st [(0,69,4),(4,26,1),(5,3,1),(6,3,1),(7,3,1),(8,72,1)],9,[.int .i64, .int .i64, .int .i64, .int .i64, .nil, .int .i64, .int .i64, .int .i64, .nil]⟩),
 (76,⟨.st [(0,3,1),(1,3,1)],2,[.int .i64, .int .i64]⟩),
 (78,⟨.st [(0,76,2),(2,3,1),(3,3,1),(4,3,1)],5,[.int .i64, .int .i64, .int .i64, .int .i64, .int .i64]⟩),
 (79,⟨.sl 78 5 40,1,[.nil]⟩),
 (81,⟨.st [(0,78,5),(5,79,1),(6,3,1)],7,[.int .i64, .int .i64, .int .i64, .int .i64, .int .i64, .nil, .int .i64]⟩),
 (88,⟨.st [(0,4,1),(1,9,1),(2,3,1)],3,[.bool, .str, .int .i64]⟩),
 (106,⟨.st [(0,3,1),(1,3,1),(2,22,1),(3,3,1)],4,[.int .i64, .int .i64, .nil, .int .i64]⟩),
 (147,⟨.st [(0,9,1),(1,9,1),(2,3,1),(3,3,1),(4,4,1),(5,3,1),(6,3,1)],7,[.str, .str, .int .i64, .int .i64, .bool, .int .i64, .int .i64]⟩),
 (154,⟨.st [(0,3,1),(1,3,1),(2,3,1),(3,3,1),(4,3,1),(5,3,1)],6,[.int .i64, .int .i64, .int .i64, .int .i64, .int .i64, .int .i64]⟩),
 (182,⟨.sl 76 2 16,1,[.nil]⟩),
 (193,⟨.st [(0,3,1),(1,3,1),(2,3,1),(3,4,1)],4,[.int .i64, .int .i64, .int .i64, .bool]⟩),
 (224,⟨.st [(0,3,1),(1,3,1),(2,22,1),(3,3,1)],4,[.int .i64, .int .i64, .nil, .int .i64]⟩),
 (230,⟨.sl 9 1 16,1,[.nil]⟩),
 (235,⟨.st [(0,3,1),(1,3,1),(2,3,1),(3,4,1)],4,[.int .i64, .int .i64, .int .i64, .bool]⟩),
 (254,⟨.st [(0,3,1),(1,3,1),(2,3,1)],3,[.int .i64, .int .i64, .int .i64]⟩),
 (258,⟨.sl 53 1 24,1,[.nil]⟩),
 (289,⟨.st [],8,[.bool, .bool, .bool, .bool, .bool, .bool, .bool, .bool]⟩)]
theorem lay (τ:Nat):(∀x:El τ,((aOt τ x).map EV.Lf.toV=bHh τ x∧(aOt τ x).length=Un.K τ)∧(aOt τ x).map EV.kdL=(Nr τ).map some)∧∀(cs:List (EV.Lf Un)) (x:El τ),bIw τ cs=some x→cs=aOt τ x:=by
 by_cases h:τ∈[5,69,154,235,72,74,4,224,29,106,32,67,59,254,63,3,65,35,76,78,81,193,39,41,88,147,9,53]
 ·simp only[List.mem_cons,List.not_mem_nil,or_false] at h
  rcases h with rfl|rfl|rfl|rfl|rfl|rfl|rfl|rfl|rfl|rfl|rfl|rfl|rfl|rfl|rfl|rfl|rfl|rfl|rfl|rfl|rfl|rfl|rfl|rfl|rfl|rfl|rfl|rfl<;>exact⟨fun _=>⟨⟨rfl,rfl⟩,rfl⟩,fun _ _ h=>by obtain⟨t,rfl,rfl⟩:=EV.aUp h;rfl⟩
 ·have e:El τ=Empty:=by
   unfold El
   split<;>first|(exfalso;revert h;decide)|rfl
  exact⟨fun x=>(cast e x).elim,fun _ x=>(cast e x).elim⟩
theorem hc1 (τ:Nat)(x:El τ):(aOt τ x).map EV.Lf.toV=bHh τ x:=((lay τ).1 x).1.1
theorem hc2 (τ:Nat)(x:El τ):(aOt τ x).length=Un.K τ:=((lay τ).1 x).1.2
theorem hc3 (τ:Nat)(x:El τ)(c:EV.Lf Un)(hc:c∈aOt τ x):c.aBA=true:=EV.aZm ((lay τ).1 x).2 c hc
def Yn:EV.Lay Un:=⟨⟨aOt,bIw,hc1,hc2,hc3,fun τ=>(lay τ).2⟩,Nr,5,fun n=>n,fun n=>n,fun _=>rfl,fun _=>rfl⟩
theorem ly1 (τ:Nat)(x:El τ):(aOt τ x).map EV.kdL=(Nr τ).map some:=((lay τ).1 x).2
theorem ly2:∀(τ τ':Nat),EV.Kd.sl τ'∈Nr τ→0<Un.K τ':=by
 intro τ τ' h
 unfold Nr at h
 split at h<;>simp only[List.mem_cons,List.not_mem_nil,or_false,reduceCtorEq,false_or,or_self,EV.Kd.sl.injEq] at h<;>first|exact h.elim|(subst h;exact Nat.le_of_ble_eq_true rfl)|(rcases h with h|h|h|h|h|h|h|h<;>(subst h;exact Nat.le_of_ble_eq_true rfl))|(rcases h with h|h|h|h|h|h|h<;>(subst h;exact Nat.le_of_ble_eq_true rfl))|(rcases h with h|h|h|h|h|h<;>(subst h;exact Nat.le_of_ble_eq_true rfl))|(rcases h with h|h|h|h|h<;>(subst h;exact Nat.le_of_ble_eq_true rfl))|(rcases h with h|h|h|h<;>(subst h;exact Nat.le_of_ble_eq_true rfl))|(rcases h with h|h|h<;>(subst h;exact Nat.le_of_ble_eq_true rfl))|(rcases h with h|h<;>(subst h;exact Nat.le_of_ble_eq_true rfl))
theorem bIx:EV.LayOk Yn:=⟨ly1,ly2⟩
def Cy (f:Func):Code:=match f.body with|some c=>c|none=> .skip
theorem T.mix:Tryz.prog.follows .mixedOrders=true:=by kernel_rfl
theorem aC:EV.Good Tryz.prog G0 Yn TI []:=⟨by kernel_rfl,bIx,fun f S h=>by simp at h⟩
abbrev SU:=EV.Sum Un
def OK (f:Nat)(S:SU):Prop:=EV.Dy Tryz.prog G0 Yn f S
def bIy:SU:=⟨[],[],false,false,fun _=>none⟩
theorem bE6 (f:Nat):OK f bIy:=fun _ _ hr=>nomatch hr
def SIl:SU:=⟨[],[],false,true,fun _=>none⟩
theorem sIl (f:Nat):OK f SIl:=fun _ _ hr=>nomatch hr
def IL:EV.Il:=[(40,Cy Tryz.f40,52,[.tmp 4]),(62,Cy Tryz.f62,16,[.cell 4 41]),(271,Cy Tryz.f271,53,[.cell 4 81, .tmp 5, .tmp 6]),(71,Cy Tryz.f71,23,[]),(174,Cy Tryz.f174,37,[.cell 8 41, .tmp 9]),(66,Cy Tryz.f66,111,[.tmp 10]),(70,Cy Tryz.f70,48,[.tmp 4])]
theorem bIz:EV.rV Tryz.prog IL:=EV.Rw Tryz.func40 rfl Tryz.ntmps40 rfl (fun _ _=>by kernel_rfl)<|EV.Rw Tryz.func62 rfl Tryz.ntmps62 rfl (fun _ _=>by kernel_rfl)<|EV.Rw Tryz.func271 rfl Tryz.ntmps271 rfl (fun _ _=>by kernel_rfl)<|EV.Rw Tryz.func71 rfl Tryz.ntmps71 rfl (fun _ _=>by kernel_rfl)<|EV.Rw Tryz.func174 rfl Tryz.ntmps174 rfl (fun _ _=>by kernel_rfl)<|EV.Rw Tryz.func66 rfl Tryz.ntmps66 rfl (fun _ _=>by kernel_rfl)<|EV.Rw Tryz.func70 rfl Tryz.ntmps70 rfl (fun _ _=>by kernel_rfl)<|EV.bGr
def od (n:Nat)(l:List Nat):List (Nat×Bool):=(List.range n).map fun i=>(i, !l.contains i)
theorem gc {f:Nat}{S:SU}{FZ:List (Nat×SU)}(h:OK f S)(G:EV.Good Tryz.prog G0 Yn TI FZ):EV.Good Tryz.prog G0 Yn TI ((f,S)::FZ):=EV.aMa h G
theorem gcp {f:Nat}{S:SU}{FZ:List (Nat×SU)}(h:OK f S)(G:EV.Good Tryz.prog G0 Yn TI FZ)(hw:S.wt=false:=by rfl)(hf:S.fr=true:=by rfl):EV.Good Tryz.prog G0 Yn TI ((f,S.pl)::FZ):=EV.aMa (EV.aZv h hw hf) G
theorem mkS {f:FuncId}{fn:Func}{n:Nat}{S:SU}{FZ:List (Nat×SU)}{m:EV.vY Un S.ar→Option (EV.vY Un S.rs)}(an:EV.An)(l:List ResultVar)(G:EV.Good Tryz.prog G0 Yn TI FZ)(hf:Tryz.prog.funcs[f]? =some fn)(hn:fn.ntmps=n)(ht:∀a r,S.m a=some r→m a=some r)(h:∀a,(fn.name== "runtime.NumGoroutine",EV.evF Yn TI FZ IL an (Cy fn) n S.ar S.rs S.fr l a)=(false,m a))(hb:fn.body=some (Cy fn):=by rfl)(hl:fn.results=l.toArray:=by rfl)(hlen:S.ar.length≤n:=by decide)(hw:S.wt=false:=by rfl):OK f S:=
 fun a r hr=>EV.bGu (an:=fun _=>an) G T.mix bIz hf hb hn hl (EV.aZq hf hb (congrArg Prod.fst (h a))) hlen hw (fun a r hr=>(congrArg Prod.snd (h a)).trans (ht a r hr)) a r hr
def iE:EV.Sum Un:=⟨[.str, .str],[.sl 9],false,false,fun(a:ByteArray×ByteArray)=>gd (a.1.size<4294967281∧1≤a.2.size) (some (jH a.1 a.2))⟩
theorem U4 (args:Array Value)(w:World):(callFunc 309 args).run Tryz.prog w= .ok (.enter 309 args) w:=by kernel_rfl
theorem aC2 (a:ByteArray×ByteArray):(EV.aY Yn iE.ar a).map EV.mM=[.str a.1, .str a.2]:=by kernel_rfl
theorem aC3 (a:ByteArray×ByteArray):iX ((EV.aY Yn iE.rs (jH a.1 a.2)).map EV.mM)= .slice 1 ((jH a.1 a.2).map sV):=by kernel_rfl
theorem aC4 (a:ByteArray×ByteArray)(r:EV.vY Un iE.rs)(hr:gd (a.1.size<4294967281∧1≤a.2.size) (some (jH a.1 a.2))=some r):Spec Tryz.prog G0 309 ((EV.aY Yn iE.ar a).map EV.mM) (fun v=>v=iX ((EV.aY Yn iE.rs r).map EV.mM)):=by
 unfold gd at hr
 split at hr
 ·rename_i hp
  have e:=Option.some.inj hr
  subst e
  rw[aC2,aC3]
  exact aSv U4 (fun s sep m w a b c=>Tryz.strings_Split s sep m w a b c) a.1 a.2 hp.1 hp.2
 ·cases hr
theorem Ec:EV.Dy Tryz.prog G0 Yn 309 iE:=fun(a:ByteArray×ByteArray) r hr=>⟨fun _ _=>aC4 a r hr,fun _ h=>absurd (show false=true from h) Bool.false_ne_true,fun h=>absurd (show false=true from h) Bool.false_ne_true,fun h=>absurd (show false=true from h) Bool.false_ne_true⟩
def jM:EV.Sum Un:=⟨[.sl 9, .str],[.str],false,false,fun(a:(List ByteArray)×ByteArray)=>gd (0<a.1.length∧(mZ a.2 a.1).size≤140737488355328∧a.1.length≤140737488355328) (some (mZ a.2 a.1))⟩
theorem aC5 (args:Array Value)(w:World):(callFunc 310 args).run Tryz.prog w= .ok (.enter 310 args) w:=by kernel_rfl
theorem aG2 (a:(List ByteArray)×ByteArray):(EV.aY Yn jM.ar a).map EV.mM=[.slice 1 (a.1.map sV), .str a.2]:=by kernel_rfl
theorem aG3 (a:(List ByteArray)×ByteArray):iX ((EV.aY Yn jM.rs (mZ a.2 a.1)).map EV.mM)= .str (mZ a.2 a.1):=by kernel_rfl
theorem aG4 (a:(List ByteArray)×ByteArray)(r:EV.vY Un jM.rs)(hr:gd (0<a.1.length∧(mZ a.2 a.1).size≤140737488355328∧a.1.length≤140737488355328) (some (mZ a.2 a.1))=some r):Spec Tryz.prog G0 310 ((EV.aY Yn jM.ar a).map EV.mM) (fun v=>v=iX ((EV.aY Yn jM.rs r).map EV.mM)):=by
 unfold gd at hr
 split at hr
 ·rename_i hp
  have e:=Option.some.inj hr
  subst e
  rw[aG2,aG3]
  exact aWd aC5 Tryz.strings_Join a.1 a.2 (by intro h;have:=hp.1;rw[h] at this;simp at this) hp.2.1 hp.2.2
 ·cases hr
theorem aG5:EV.Dy Tryz.prog G0 Yn 310 jM:=fun(a:(List ByteArray)×ByteArray) r hr=>⟨fun _ _=>aG4 a r hr,fun _ h=>absurd (show false=true from h) Bool.false_ne_true,fun h=>absurd (show false=true from h) Bool.false_ne_true,fun h=>absurd (show false=true from h) Bool.false_ne_true⟩
end
end Go.VK
