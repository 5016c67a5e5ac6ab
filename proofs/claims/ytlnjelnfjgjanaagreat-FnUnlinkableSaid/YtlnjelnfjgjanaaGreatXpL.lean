import Derived.Test.YtlnjelnfjgjanaaGreatXpFF
import Derived.Test.YtlnjelnfjgjanaaGreatEWbtod
import Derived.Test.YtlnjelnfjgjanaaGreatProg
/- Printed by wip/tools: models, walks, proofs. -/
set_option linter.unusedVariables false
set_option linter.unusedSimpArgs false
set_option maxRecDepth 100000
set_option maxHeartbeats 4000000
namespace Go.VK
open Go.RowKit Go.Proofs
noncomputable section
abbrev G0:GI:=bHs
def El:Nat→Type
 |5=>Int
 |67=>D.aAI
 |128=>D.aAC
 |197=>D.Entry
 |70=>D.aAG
 |72=>D.Device
 |4=>Bool
 |187=>D.Box
 |29=>D.aAH
 |89=>D.aAD
 |32=>D.aAE
 |125=>D.aAJ
 |123=>D.aAF
 |217=>D.aAM
 |108=>D.aAB
 |3=>Int
 |110=>D.Site
 |35=>D.aAO
 |158=>D.aAQ
 |160=>D.aAT
 |163=>D.aAA
 |215=>D.aAS
 |39=>D.aAP
 |41=>D.World
 |62=>D.Event
 |100=>D.aAR
 |9=>ByteArray
 |220=>D.aAK
 |243=>D.aAL
 |46=>List Int
 |_=>Empty
def bG1:(τ:Nat)→El τ→List V
 |5=>y8
 |67=>D.aAI.V
 |128=>D.aAC.V
 |197=>D.Entry.V
 |70=>D.aAG.V
 |72=>D.Device.V
 |4=>bV
 |187=>D.Box.V
 |29=>D.aAH.V
 |89=>D.aAD.V
 |32=>D.aAE.V
 |125=>D.aAJ.V
 |123=>D.aAF.V
 |217=>D.aAM.V
 |108=>D.aAB.V
 |3=>iV
 |110=>D.Site.V
 |35=>D.aAO.V
 |158=>D.aAQ.V
 |160=>D.aAT.V
 |163=>D.aAA.V
 |215=>D.aAS.V
 |39=>D.aAP.V
 |41=>D.World.V
 |62=>D.Event.V
 |100=>D.aAR.V
 |9=>sV
 |220=>D.aAK.V
 |243=>D.aAL.V
 |46=>(fun l=>[V.slice 1 (l.map iV)])
 |_=>fun _=>[]
def Un:EV.Uni:=⟨El,fun|5=>1|67=>4|128=>6|197=>4|70=>1|72=>9|4=>1|187=>4|29=>2|89=>4|32=>4|125=>4|123=>3|217=>3|108=>3|3=>1|110=>6|35=>4|158=>2|160=>5|163=>7|215=>4|39=>1|41=>16|62=>5|100=>3|9=>1|220=>3|243=>7|46=>1|_=>0,bG1⟩
def aN4:(τ:Nat)→El τ→List (EV.Lf Un)
 |5=>fun x=>[.int .u8 x]
 |67=>fun x=>[.int .i64 x.Vendor, .int .i64 x.Serial, .int .i64 x.Seed, .int .i64 x.Counter]
 |128=>fun x=>[.int .i64 x.Index, .int .i64 x.Kind, .int .i64 x.Device, .int .i64 x.By, .int .i64 x.Previous, .int .i64 x.Signature]
 |197=>fun x=>[.int .i64 x.Site, .int .i64 x.Handle, .int .i64 x.Version, .bool x.Deleted]
 |70=>fun x=>[.sl 197 x.Entries]
 |72=>fun x=>[.int .i64 x.Store.Vendor, .int .i64 x.Store.Serial, .int .i64 x.Store.Seed, .int .i64 x.Store.Counter, .sl 128 x.Log, .int .i64 x.Key, .int .i64 x.Epoch, .int .i64 x.Version, .sl 197 x.aAG.Entries]
 |4=>fun x=>[.bool x]
 |187=>fun x=>[.int .i64 x.To, .int .i64 x.Ephemeral, .sl 5 x.Data, .int .i64 x.MAC]
 |29=>fun x=>[.int .i64 x.Epoch, .sl 187 x.Boxes]
 |89=>fun x=>[.int .i64 x.Epoch, .int .i64 x.Version, .sl 5 x.Data, .int .i64 x.MAC]
 |32=>fun x=>[.sl 128 x.Log, .int .i64 x.Boxes.Epoch, .sl 187 x.Boxes.Boxes, .sl 89 x.History]
 |125=>fun x=>[.int .i64 x.Handle, .int .i64 x.Public, .int .i64 x.Counter, .bool x.Cut]
 |123=>fun x=>[.int .i64 x.Id, .int .i64 x.Minimum, .sl 125 x.Credentials]
 |217=>fun x=>[.int .i64 x.Id, .int .i64 x.aAF, .int .i64 x.Until]
 |108=>fun x=>[.int .i64 x.Seed, .int .i64 x.Next, .sl 217 x.Open]
 |3=>fun x=>[.int .i64 x]
 |110=>fun x=>[.str x.Name, .sl 123 x.Accounts, .int .i64 x.Book.Seed, .int .i64 x.Book.Next, .sl 217 x.Book.Open, .sl 3 x.Logins]
 |35=>fun x=>[.int .i64 x.Salt, .int .i64 x.Threshold, .int .i64 x.Check, .int .i64 x.Masked]
 |158=>fun x=>[.int .i64 x.Index, .int .i64 x.Value]
 |160=>fun x=>[.int .i64 x.aAQ.Index, .int .i64 x.aAQ.Value, .int .i64 x.Epoch, .int .i64 x.Guesses, .int .i64 x.Limit]
 |163=>fun x=>[.int .i64 x.State.aAQ.Index, .int .i64 x.State.aAQ.Value, .int .i64 x.State.Epoch, .int .i64 x.State.Guesses, .int .i64 x.State.Limit, .sl 160 x.Saved, .int .i64 x.Monotonic]
 |215=>fun x=>[.int .i64 x.Kind, .int .i64 x.aAF, .int .i64 x.Time, .bool x.Seen]
 |39=>fun x=>[.sl 215 x.Notices]
 |41=>fun x=>[.int .i64 x.Now, .int .i64 x.Seed, .sl 72 x.Devices, .sl 4 x.Stolen, .sl 128 x.aAE.Log, .int .i64 x.aAE.Boxes.Epoch, .sl 187 x.aAE.Boxes.Boxes, .sl 89 x.aAE.History, .sl 110 x.Sites, .int .i64 x.aAO.Salt, .int .i64 x.aAO.Threshold, .int .i64 x.aAO.Check, .int .i64 x.aAO.Masked, .sl 163 x.Hosts, .int .i64 x.Pin, .sl 215 x.Mail.Notices]
 |62=>fun x=>[.int .i64 x.Kind, .int .i64 x.Device, .int .i64 x.Other, .int .i64 x.Value, .bool x.Flag]
 |100=>fun x=>[.sl 5 x.b, .int .i64 x.i, .int .i64 x.h]
 |9=>fun x=>[.str x]
 |220=>fun x=>[.bool x.Secure, .str x.Host, .int .i64 x.Port]
 |243=>fun x=>[.str x.Site, .str x.aAK, .int .i64 x.aAM, .int .i64 x.Handle, .bool x.Present, .int .i64 x.Counter, .int .i64 x.Signature]
 |46=>fun x=>[.sl 3 x]
 |_=>fun _=>[]
def Jj:Nat→List EV.Kd
 |5=>[.int .u8]
 |67=>[.int .i64, .int .i64, .int .i64, .int .i64]
 |128=>[.int .i64, .int .i64, .int .i64, .int .i64, .int .i64, .int .i64]
 |197=>[.int .i64, .int .i64, .int .i64, .bool]
 |70=>[.sl 197]
 |72=>[.int .i64, .int .i64, .int .i64, .int .i64, .sl 128, .int .i64, .int .i64, .int .i64, .sl 197]
 |4=>[.bool]
 |187=>[.int .i64, .int .i64, .sl 5, .int .i64]
 |29=>[.int .i64, .sl 187]
 |89=>[.int .i64, .int .i64, .sl 5, .int .i64]
 |32=>[.sl 128, .int .i64, .sl 187, .sl 89]
 |125=>[.int .i64, .int .i64, .int .i64, .bool]
 |123=>[.int .i64, .int .i64, .sl 125]
 |217=>[.int .i64, .int .i64, .int .i64]
 |108=>[.int .i64, .int .i64, .sl 217]
 |3=>[.int .i64]
 |110=>[.str, .sl 123, .int .i64, .int .i64, .sl 217, .sl 3]
 |35=>[.int .i64, .int .i64, .int .i64, .int .i64]
 |158=>[.int .i64, .int .i64]
 |160=>[.int .i64, .int .i64, .int .i64, .int .i64, .int .i64]
 |163=>[.int .i64, .int .i64, .int .i64, .int .i64, .int .i64, .sl 160, .int .i64]
 |215=>[.int .i64, .int .i64, .int .i64, .bool]
 |39=>[.sl 215]
 |41=>[.int .i64, .int .i64, .sl 72, .sl 4, .sl 128, .int .i64, .sl 187, .sl 89, .sl 110, .int .i64, .int .i64, .int .i64, .int .i64, .sl 163, .int .i64, .sl 215]
 |62=>[.int .i64, .int .i64, .int .i64, .int .i64, .bool]
 |100=>[.sl 5, .int .i64, .int .i64]
 |9=>[.str]
 |220=>[.bool, .str, .int .i64]
 |243=>[.str, .str, .int .i64, .int .i64, .bool, .int .i64, .int .i64]
 |46=>[.sl 3]
 |_=>[]
def bIf:(τ:Nat)→List (EV.Lf Un)→Option (El τ)
 |5=>EV.jL (Jj 5) (fun x=>x)
 |67=>EV.jL (Jj 67) D.aAI.mk
 |128=>EV.jL (Jj 128) D.aAC.mk
 |197=>EV.jL (Jj 197) D.Entry.mk
 |70=>EV.jL (Jj 70) D.aAG.mk
 |72=>EV.jL (Jj 72) (fun a0 a1 a2 a3 a4 a5 a6 a7 a8=>(⟨⟨a0,a1,a2,a3⟩,a4,a5,a6,a7,⟨a8⟩⟩:D.Device))
 |4=>EV.jL (Jj 4) (fun x=>x)
 |187=>EV.jL (Jj 187) D.Box.mk
 |29=>EV.jL (Jj 29) D.aAH.mk
 |89=>EV.jL (Jj 89) D.aAD.mk
 |32=>EV.jL (Jj 32) (fun a0 a1 a2 a3=>(⟨a0,⟨a1,a2⟩,a3⟩:D.aAE))
 |125=>EV.jL (Jj 125) D.aAJ.mk
 |123=>EV.jL (Jj 123) D.aAF.mk
 |217=>EV.jL (Jj 217) D.aAM.mk
 |108=>EV.jL (Jj 108) D.aAB.mk
 |3=>EV.jL (Jj 3) (fun x=>x)
 |110=>EV.jL (Jj 110) (fun a0 a1 a2 a3 a4 a5=>(⟨a0,a1,⟨a2,a3,a4⟩,a5⟩:D.Site))
 |35=>EV.jL (Jj 35) D.aAO.mk
 |158=>EV.jL (Jj 158) D.aAQ.mk
 |160=>EV.jL (Jj 160) (fun a0 a1 a2 a3 a4=>(⟨⟨a0,a1⟩,a2,a3,a4⟩:D.aAT))
 |163=>EV.jL (Jj 163) (fun a0 a1 a2 a3 a4 a5 a6=>(⟨⟨⟨a0,a1⟩,a2,a3,a4⟩,a5,a6⟩:D.aAA))
 |215=>EV.jL (Jj 215) D.aAS.mk
 |39=>EV.jL (Jj 39) D.aAP.mk
 |41=>EV.jL (Jj 41) (fun a0 a1 a2 a3 a4 a5 a6 a7 a8 a9 a10 a11 a12 a13 a14 a15=>(⟨a0,a1,a2,a3,⟨a4,⟨a5,a6⟩,a7⟩,a8,⟨a9,a10,a11,a12⟩,a13,a14,⟨a15⟩⟩:D.World))
 |62=>EV.jL (Jj 62) D.Event.mk
 |100=>EV.jL (Jj 100) D.aAR.mk
 |9=>EV.jL (Jj 9) (fun x=>x)
 |220=>EV.jL (Jj 220) D.aAK.mk
 |243=>EV.jL (Jj 243) D.aAL.mk
 |46=>EV.jL (Jj 46) (fun x=>x)
 |_=>fun _=>none
def TI:List (Nat×EV.TInfo):=[
 (3,⟨.int .i64,1,[.int .i64]⟩),
 (4,⟨.bool,1,[.bool]⟩),
 (5,⟨.int .u8,1,[.int .u8]⟩),
 (9,⟨.str,1,[.str]⟩),
 (22,⟨.sl 5 1 1,1,[.nil]⟩),
 (24,⟨.sl 72 9 104,1,[.nil]⟩),
 (25,⟨.sl 4 1 1,1,[.nil]⟩),
 (26,⟨.sl 128 6 48,1,[.nil]⟩),
 (27,⟨.sl 187 4 48,1,[.nil]⟩),
 (29,⟨.st [(0,3,1),(1,27,1)],2,[.int .i64, .nil]⟩),
 (30,⟨.sl 89 4 48,1,[.nil]⟩),
 (32,⟨.st [(0,26,1),(1,29,2),(3,30,1)],4,[.nil, .int .i64, .nil, .nil]⟩),
 (33,⟨.sl 110 6 104,1,[.nil]⟩),
 (35,⟨.st [(0,3,1),(1,3,1),(2,3,1),(3,3,1)],4,[.int .i64, .int .i64, .int .i64, .int .i64]⟩),
 (36,⟨.sl 163 7 72,1,[.nil]⟩),
 (37,⟨.sl 215 4 32,1,[.nil]⟩),
 (39,⟨.st [(0,37,1)],1,[.nil]⟩),
 (41,⟨.st [(0,3,1),(1,3,1),(2,24,1),(3,25,1),(4,32,4),(8,33,1),(9,35,4),(13,36,1),(14,3,1),(15,39,1)],16,[.int .i64, .int .i64, .nil, .nil, .nil, .int .i64, .nil, .nil, .nil, .int .i64, .int .i64, .int .i64, .int .i64, .nil, .int .i64, .nil]⟩),
 (42,⟨.sl 62 5 40,1,[.nil]⟩),
 (46,⟨.sl 3 1 8,1,[.nil]⟩),
 (62,⟨.st [(0,3,1),(1,3,1),(2,3,1),(3,3,1),(4,4,1)],5,[.int .i64, .int .i64, .int .i64, .int .i64, .bool]⟩),
 (67,⟨.st [(0,3,1),(1,3,1),(2,3,1),(3,3,1)],4,[.int .i64, .int .i64, .int .i64, .int .i64]⟩),
 (68,⟨.sl 197 4 32,1,[.nil]⟩),
 (70,⟨.st [(0,68,1)],1,[.nil]⟩),
 (72,⟨.st [(0,67,4),(4,26,1),(5,3,1),(6,3,1),(7,3,1),(8,70,1)],9,[.int .i64, .int .i64, .int .i64, .int .i64, .nil, .int .i64, .int .i64, .int .i64, .nil]⟩),
 (89,⟨.st [(0,3,1),(1,3,1),(2,22,1),(3,3,1)],4,[.int .i64, .int .i64, .nil, .int .i64]⟩),
 (100,⟨.st [(0,22,1),(1,3,1),(2,3,1)],3,[.nil, .int .i64, .int .i64]⟩),
 (105,⟨.sl 123 3 40,1,[.nil]⟩),
 (106,⟨.sl 217 3 24,1,[.nil]⟩),
 (108,⟨.st [(0,3,1),(1,3,1),(2,106,1)],3,[.int .i64, .int .i64, .nil]⟩),
 (110,⟨.st [(0,9,1),(1,105,1),(2,108,3),(5,46,1)],6,[.str, .nil, .int .i64, .int .i64, .nil, .nil]⟩),
 (121,⟨.sl 125 4 32,1,[.nil]⟩),
 (123,⟨.st [(0,3,1),(1,3,1),(2,121,1)],3,[.int .i64, .int .i64, .nil]⟩),
 (125,⟨.st [(0,3,1),(1,3,1),(2,3,1),(3,4,1)],4,[.int .i64, .int .i64, .int .i64, .bool]⟩),
 (128,⟨.st [(0,3,1),(1,3,1),(2,3,1),(3,3,1),(4,3,1),(5,3,1)],6,[.int .i64, .int .i64, .int .i64, .int .i64, .int .i64, .int .i64]⟩),
 (154,⟨.sl 158 2 16,1,[.nil]⟩),
 (158,⟨.st [(0,3,1),(1,3,1)],2,[.int .i64, .int .i64]⟩),
 (160,⟨.st [(0,158,2),(2,3,1),(3,3,1),(4,3,1)],5,[.int .i64, .int .i64, .int .i64, .int .i64, .int .i64]⟩),
 (161,⟨.sl 160 5 40,1,[.nil]⟩),
 (163,⟨.st [(0,160,5),(5,161,1),(6,3,1)],7,[.int .i64, .int .i64, .int .i64, .int .i64, .int .i64, .nil, .int .i64]⟩),
 (187,⟨.st [(0,3,1),(1,3,1),(2,22,1),(3,3,1)],4,[.int .i64, .int .i64, .nil, .int .i64]⟩),
 (193,⟨.sl 9 1 16,1,[.nil]⟩),
 (197,⟨.st [(0,3,1),(1,3,1),(2,3,1),(3,4,1)],4,[.int .i64, .int .i64, .int .i64, .bool]⟩),
 (215,⟨.st [(0,3,1),(1,3,1),(2,3,1),(3,4,1)],4,[.int .i64, .int .i64, .int .i64, .bool]⟩),
 (217,⟨.st [(0,3,1),(1,3,1),(2,3,1)],3,[.int .i64, .int .i64, .int .i64]⟩),
 (220,⟨.st [(0,4,1),(1,9,1),(2,3,1)],3,[.bool, .str, .int .i64]⟩),
 (243,⟨.st [(0,9,1),(1,9,1),(2,3,1),(3,3,1),(4,4,1),(5,3,1),(6,3,1)],7,[.str, .str, .int .i64, .int .i64, .bool, .int .i64, .int .i64]⟩),
 (255,⟨.sl 46 1 24,1,[.nil]⟩)]
theorem lay (τ:Nat):(∀x:El τ,((aN4 τ x).map EV.Lf.toV=bG1 τ x∧(aN4 τ x).length=Un.K τ)∧(aN4 τ x).map EV.kdL=(Jj τ).map some)∧∀(cs:List (EV.Lf Un)) (x:El τ),bIf τ cs=some x→cs=aN4 τ x:=by
 by_cases h:τ∈[5,67,128,197,70,72,4,187,29,89,32,125,123,217,108,3,110,35,158,160,163,215,39,41,62,100,9,220,243,46]
 ·simp only[List.mem_cons,List.not_mem_nil,or_false] at h
  rcases h with rfl|rfl|rfl|rfl|rfl|rfl|rfl|rfl|rfl|rfl|rfl|rfl|rfl|rfl|rfl|rfl|rfl|rfl|rfl|rfl|rfl|rfl|rfl|rfl|rfl|rfl|rfl|rfl|rfl|rfl<;>exact⟨fun _=>⟨⟨rfl,rfl⟩,rfl⟩,fun _ _ h=>by obtain⟨t,rfl,rfl⟩:=EV.aT9 h;rfl⟩
 ·have e:El τ=Empty:=by
   unfold El
   split<;>first|(exfalso;revert h;decide)|rfl
  exact⟨fun x=>(cast e x).elim,fun _ x=>(cast e x).elim⟩
theorem hc1 (τ:Nat)(x:El τ):(aN4 τ x).map EV.Lf.toV=bG1 τ x:=((lay τ).1 x).1.1
theorem hc2 (τ:Nat)(x:El τ):(aN4 τ x).length=Un.K τ:=((lay τ).1 x).1.2
theorem hc3 (τ:Nat)(x:El τ)(c:EV.Lf Un)(hc:c∈aN4 τ x):c.aAZ=true:=EV.aY9 ((lay τ).1 x).2 c hc
def Yn:EV.Lay Un:=⟨⟨aN4,bIf,hc1,hc2,hc3,fun τ=>(lay τ).2⟩,Jj,5,fun n=>n,fun n=>n,fun _=>rfl,fun _=>rfl⟩
theorem ly1 (τ:Nat)(x:El τ):(aN4 τ x).map EV.kdL=(Jj τ).map some:=((lay τ).1 x).2
theorem ly2:∀(τ τ':Nat),EV.Kd.sl τ'∈Jj τ→0<Un.K τ':=by
 intro τ τ' h
 unfold Jj at h
 split at h<;>simp only[List.mem_cons,List.not_mem_nil,or_false,reduceCtorEq,false_or,or_self,EV.Kd.sl.injEq] at h<;>first|exact h.elim|(subst h;exact Nat.le_of_ble_eq_true rfl)|(rcases h with h|h|h|h|h|h|h|h<;>(subst h;exact Nat.le_of_ble_eq_true rfl))|(rcases h with h|h|h|h|h|h|h<;>(subst h;exact Nat.le_of_ble_eq_true rfl))|(rcases h with h|h|h|h|h|h<;>(subst h;exact Nat.le_of_ble_eq_true rfl))|(rcases h with h|h|h|h|h<;>(subst h;exact Nat.le_of_ble_eq_true rfl))|(rcases h with h|h|h|h<;>(subst h;exact Nat.le_of_ble_eq_true rfl))|(rcases h with h|h|h<;>(subst h;exact Nat.le_of_ble_eq_true rfl))|(rcases h with h|h<;>(subst h;exact Nat.le_of_ble_eq_true rfl))
theorem bIg:EV.LayOk Yn:=⟨ly1,ly2⟩
def zU (f:Func):Code:=match f.body with|some c=>c|none=> .skip
theorem T.mix:Tryz.prog.follows .mixedOrders=true:=by kernel_rfl
theorem aD:EV.Good Tryz.prog G0 Yn TI []:=⟨by kernel_rfl,bIg,fun f S h=>by simp at h⟩
abbrev SU:=EV.Sum Un
def OK (f:Nat)(S:SU):Prop:=EV.Er Tryz.prog G0 Yn f S
def bIh:SU:=⟨[],[],false,false,fun _=>none⟩
theorem bBj (f:Nat):OK f bIh:=fun _ _ hr=>nomatch hr
def SIl:SU:=⟨[],[],false,true,fun _=>none⟩
theorem sIl (f:Nat):OK f SIl:=fun _ _ hr=>nomatch hr
def IL:EV.Il:=[(12,zU Tryz.f12,32,[.tmp 2]),(28,zU Tryz.f28,52,[.tmp 4]),(109,zU Tryz.f109,111,[.tmp 10]),(114,zU Tryz.f114,48,[.tmp 4]),(111,zU Tryz.f111,23,[]),(207,zU Tryz.f207,53,[.cell 4 163, .tmp 5, .tmp 6])]
theorem bFa:EV.pQ Tryz.prog IL:=EV.M4 Tryz.func12 rfl Tryz.ntmps12 rfl (fun _ _=>by kernel_rfl)<|EV.M4 Tryz.func28 rfl Tryz.ntmps28 rfl (fun _ _=>by kernel_rfl)<|EV.M4 Tryz.func109 rfl Tryz.ntmps109 rfl (fun _ _=>by kernel_rfl)<|EV.M4 Tryz.func114 rfl Tryz.ntmps114 rfl (fun _ _=>by kernel_rfl)<|EV.M4 Tryz.func111 rfl Tryz.ntmps111 rfl (fun _ _=>by kernel_rfl)<|EV.M4 Tryz.func207 rfl Tryz.ntmps207 rfl (fun _ _=>by kernel_rfl)<|EV.bGh
def od (n:Nat)(l:List Nat):List (Nat×Bool):=(List.range n).map fun i=>(i, !l.contains i)
theorem gc {f:Nat}{S:SU}{FZ:List (Nat×SU)}(h:OK f S)(G:EV.Good Tryz.prog G0 Yn TI FZ):EV.Good Tryz.prog G0 Yn TI ((f,S)::FZ):=EV.aLx h G
theorem gcp {f:Nat}{S:SU}{FZ:List (Nat×SU)}(h:OK f S)(G:EV.Good Tryz.prog G0 Yn TI FZ)(hw:S.wt=false:=by rfl)(hf:S.fr=true:=by rfl):EV.Good Tryz.prog G0 Yn TI ((f,S.pl)::FZ):=EV.aLx (EV.aZg h hw hf) G
theorem mkS {f:FuncId}{fn:Func}{n:Nat}{S:SU}{FZ:List (Nat×SU)}{m:EV.qJ Un S.ar→Option (EV.qJ Un S.rs)}(an:EV.An)(l:List ResultVar)(G:EV.Good Tryz.prog G0 Yn TI FZ)(hf:Tryz.prog.funcs[f]? =some fn)(hn:fn.ntmps=n)(ht:∀a r,S.m a=some r→m a=some r)(h:∀a,(fn.name== "runtime.NumGoroutine",EV.evF Yn TI FZ IL an (zU fn) n S.ar S.rs S.fr l a)=(false,m a))(hb:fn.body=some (zU fn):=by rfl)(hl:fn.results=l.toArray:=by rfl)(hlen:S.ar.length≤n:=by decide)(hw:S.wt=false:=by rfl):OK f S:=
 fun a r hr=>EV.bGk (an:=fun _=>an) G T.mix bFa hf hb hn hl (EV.aPa hf hb (congrArg Prod.fst (h a))) hlen hw (fun a r hr=>(congrArg Prod.snd (h a)).trans (ht a r hr)) a r hr
theorem mkP {f:FuncId}{fn:Func}{n T:Nat}{ks rs:List EV.Kd}{M m:EV.qJ Un (.st T::ks)→Option (EV.qJ Un (.st T::rs))}{FZ:List (Nat×SU)}(an:EV.An)(l:List ResultVar)(G:EV.Good Tryz.prog G0 Yn TI FZ)(hf:Tryz.prog.funcs[f]? =some fn)(hn:fn.ntmps=n)(ht:∀a r,M a=some r→m a=some r)(h:∀a,(fn.name== "runtime.NumGoroutine",EV.evP Yn TI FZ IL an (zU fn) n T ks rs l a)=(false,m a))(hb:fn.body=some (zU fn):=by rfl)(hl:fn.results=l.toArray:=by rfl)(hlen:ks.length+1≤n:=by decide):OK f ⟨.st T::ks, .st T::rs,true,true,M⟩:=
 fun a r hr=>EV.bGn (an:=fun _=>an) G Go.VK.T.mix bFa hf hb hn hl (EV.aPa hf hb (congrArg Prod.fst (h a))) hlen (fun a r hr=>(congrArg Prod.snd (h a)).trans (ht a r hr)) a r hr
def aCb:EV.Sum Un:=⟨[.str],[.int .i64, .bool],false,false,fun(a:ByteArray)=>none⟩
theorem aCc:OK 219 aCb:=fun _ _ h=>nomatch h
def P7:EV.Sum Un:=⟨[.int .i64],[.str],false,false,fun(a:Int)=>none⟩
theorem P8:OK 212 P7:=fun _ _ h=>nomatch h
end
end Go.VK
