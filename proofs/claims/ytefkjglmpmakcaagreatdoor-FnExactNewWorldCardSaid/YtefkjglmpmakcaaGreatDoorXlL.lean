import Derived.Test.YtefkjglmpmakcaaGreatDoorXlFF
import Derived.Test.YtefkjglmpmakcaaGreatDoorEVztor
import Derived.Test.YtefkjglmpmakcaaGreatDoorProg
import Derived.Test.YtefkjglmpmakcaaGreatDoorTryzShelf
/- Printed by wip/tools: models, walks, proofs. -/
set_option linter.unusedVariables false
set_option linter.unusedSimpArgs false
set_option maxRecDepth 100000
set_option maxHeartbeats 4000000
namespace Go.VK
open Go.RowKit Go.Proofs
noncomputable section
abbrev G0:GI:=bIa 0
def El:Nat→Type
 |47=>D.aAH
 |109=>D.aAB
 |187=>D.Entry
 |50=>D.aAC
 |52=>D.Device
 |4=>Bool
 |5=>Int
 |178=>D.Box
 |27=>D.aAD
 |70=>D.aAA
 |30=>D.aAJ
 |207=>D.aAI
 |147=>D.aAF
 |232=>D.aAK
 |83=>D.aAG
 |3=>Int
 |85=>D.Site
 |33=>D.aAQ
 |136=>D.aAM
 |138=>D.aAL
 |141=>D.aAE
 |227=>D.aAP
 |37=>D.aAO
 |39=>D.World
 |9=>ByteArray
 |76=>List Int
 |_=>Empty
def bHh:(τ:Nat)→El τ→List V
 |47=>D.aAH.V
 |109=>D.aAB.V
 |187=>D.Entry.V
 |50=>D.aAC.V
 |52=>D.Device.V
 |4=>bV
 |5=>y8
 |178=>D.Box.V
 |27=>D.aAD.V
 |70=>D.aAA.V
 |30=>D.aAJ.V
 |207=>D.aAI.V
 |147=>D.aAF.V
 |232=>D.aAK.V
 |83=>D.aAG.V
 |3=>iV
 |85=>D.Site.V
 |33=>D.aAQ.V
 |136=>D.aAM.V
 |138=>D.aAL.V
 |141=>D.aAE.V
 |227=>D.aAP.V
 |37=>D.aAO.V
 |39=>D.World.V
 |9=>sV
 |76=>(fun l=>[V.slice 1 (l.map iV)])
 |_=>fun _=>[]
def Un:EV.Uni:=⟨El,fun|47=>4|109=>6|187=>4|50=>1|52=>9|4=>1|5=>1|178=>4|27=>2|70=>4|30=>4|207=>4|147=>3|232=>3|83=>3|3=>1|85=>6|33=>4|136=>2|138=>5|141=>7|227=>4|37=>1|39=>16|9=>1|76=>1|_=>0,bHh⟩
def aTc:(τ:Nat)→El τ→List (EV.Lf Un)
 |47=>fun x=>[.int .i64 x.Vendor, .int .i64 x.Serial, .int .i64 x.Seed, .int .i64 x.Counter]
 |109=>fun x=>[.int .i64 x.Index, .int .i64 x.Kind, .int .i64 x.Device, .int .i64 x.By, .int .i64 x.Previous, .int .i64 x.Signature]
 |187=>fun x=>[.int .i64 x.Site, .int .i64 x.Handle, .int .i64 x.Version, .bool x.Deleted]
 |50=>fun x=>[.sl 187 x.Entries]
 |52=>fun x=>[.int .i64 x.Store.Vendor, .int .i64 x.Store.Serial, .int .i64 x.Store.Seed, .int .i64 x.Store.Counter, .sl 109 x.Log, .int .i64 x.Key, .int .i64 x.Epoch, .int .i64 x.Version, .sl 187 x.aAC.Entries]
 |4=>fun x=>[.bool x]
 |5=>fun x=>[.int .u8 x]
 |178=>fun x=>[.int .i64 x.To, .int .i64 x.Ephemeral, .sl 5 x.Data, .int .i64 x.MAC]
 |27=>fun x=>[.int .i64 x.Epoch, .sl 178 x.Boxes]
 |70=>fun x=>[.int .i64 x.Epoch, .int .i64 x.Version, .sl 5 x.Data, .int .i64 x.MAC]
 |30=>fun x=>[.sl 109 x.Log, .int .i64 x.Boxes.Epoch, .sl 178 x.Boxes.Boxes, .sl 70 x.History]
 |207=>fun x=>[.int .i64 x.Handle, .int .i64 x.Public, .int .i64 x.Counter, .bool x.Cut]
 |147=>fun x=>[.int .i64 x.Id, .int .i64 x.Minimum, .sl 207 x.Credentials]
 |232=>fun x=>[.int .i64 x.Id, .int .i64 x.aAF, .int .i64 x.Until]
 |83=>fun x=>[.int .i64 x.Seed, .int .i64 x.Next, .sl 232 x.Open]
 |3=>fun x=>[.int .i64 x]
 |85=>fun x=>[.str x.Name, .sl 147 x.Accounts, .int .i64 x.Book.Seed, .int .i64 x.Book.Next, .sl 232 x.Book.Open, .sl 3 x.Logins]
 |33=>fun x=>[.int .i64 x.Salt, .int .i64 x.Threshold, .int .i64 x.Check, .int .i64 x.Masked]
 |136=>fun x=>[.int .i64 x.Index, .int .i64 x.Value]
 |138=>fun x=>[.int .i64 x.aAM.Index, .int .i64 x.aAM.Value, .int .i64 x.Epoch, .int .i64 x.Guesses, .int .i64 x.Limit]
 |141=>fun x=>[.int .i64 x.State.aAM.Index, .int .i64 x.State.aAM.Value, .int .i64 x.State.Epoch, .int .i64 x.State.Guesses, .int .i64 x.State.Limit, .sl 138 x.Saved, .int .i64 x.Monotonic]
 |227=>fun x=>[.int .i64 x.Kind, .int .i64 x.aAF, .int .i64 x.Time, .bool x.Seen]
 |37=>fun x=>[.sl 227 x.Notices]
 |39=>fun x=>[.int .i64 x.Now, .int .i64 x.Seed, .sl 52 x.Devices, .sl 4 x.Stolen, .sl 109 x.aAJ.Log, .int .i64 x.aAJ.Boxes.Epoch, .sl 178 x.aAJ.Boxes.Boxes, .sl 70 x.aAJ.History, .sl 85 x.Sites, .int .i64 x.aAQ.Salt, .int .i64 x.aAQ.Threshold, .int .i64 x.aAQ.Check, .int .i64 x.aAQ.Masked, .sl 141 x.Hosts, .int .i64 x.Pin, .sl 227 x.Mail.Notices]
 |9=>fun x=>[.str x]
 |76=>fun x=>[.sl 3 x]
 |_=>fun _=>[]
def Vp:Nat→List EV.Kd
 |47=>[.int .i64, .int .i64, .int .i64, .int .i64]
 |109=>[.int .i64, .int .i64, .int .i64, .int .i64, .int .i64, .int .i64]
 |187=>[.int .i64, .int .i64, .int .i64, .bool]
 |50=>[.sl 187]
 |52=>[.int .i64, .int .i64, .int .i64, .int .i64, .sl 109, .int .i64, .int .i64, .int .i64, .sl 187]
 |4=>[.bool]
 |5=>[.int .u8]
 |178=>[.int .i64, .int .i64, .sl 5, .int .i64]
 |27=>[.int .i64, .sl 178]
 |70=>[.int .i64, .int .i64, .sl 5, .int .i64]
 |30=>[.sl 109, .int .i64, .sl 178, .sl 70]
 |207=>[.int .i64, .int .i64, .int .i64, .bool]
 |147=>[.int .i64, .int .i64, .sl 207]
 |232=>[.int .i64, .int .i64, .int .i64]
 |83=>[.int .i64, .int .i64, .sl 232]
 |3=>[.int .i64]
 |85=>[.str, .sl 147, .int .i64, .int .i64, .sl 232, .sl 3]
 |33=>[.int .i64, .int .i64, .int .i64, .int .i64]
 |136=>[.int .i64, .int .i64]
 |138=>[.int .i64, .int .i64, .int .i64, .int .i64, .int .i64]
 |141=>[.int .i64, .int .i64, .int .i64, .int .i64, .int .i64, .sl 138, .int .i64]
 |227=>[.int .i64, .int .i64, .int .i64, .bool]
 |37=>[.sl 227]
 |39=>[.int .i64, .int .i64, .sl 52, .sl 4, .sl 109, .int .i64, .sl 178, .sl 70, .sl 85, .int .i64, .int .i64, .int .i64, .int .i64, .sl 141, .int .i64, .sl 227]
 |9=>[.str]
 |76=>[.sl 3]
 |_=>[]
def bIf:(τ:Nat)→List (EV.Lf Un)→Option (El τ)
 |47=>EV.kS (Vp 47) D.aAH.mk
 |109=>EV.kS (Vp 109) D.aAB.mk
 |187=>EV.kS (Vp 187) D.Entry.mk
 |50=>EV.kS (Vp 50) D.aAC.mk
 |52=>EV.kS (Vp 52) (fun a0 a1 a2 a3 a4 a5 a6 a7 a8=>(⟨⟨a0,a1,a2,a3⟩,a4,a5,a6,a7,⟨a8⟩⟩:D.Device))
 |4=>EV.kS (Vp 4) (fun x=>x)
 |5=>EV.kS (Vp 5) (fun x=>x)
 |178=>EV.kS (Vp 178) D.Box.mk
 |27=>EV.kS (Vp 27) D.aAD.mk
 |70=>EV.kS (Vp 70) D.aAA.mk
 |30=>EV.kS (Vp 30) (fun a0 a1 a2 a3=>(⟨a0,⟨a1,a2⟩,a3⟩:D.aAJ))
 |207=>EV.kS (Vp 207) D.aAI.mk
 |147=>EV.kS (Vp 147) D.aAF.mk
 |232=>EV.kS (Vp 232) D.aAK.mk
 |83=>EV.kS (Vp 83) D.aAG.mk
 |3=>EV.kS (Vp 3) (fun x=>x)
 |85=>EV.kS (Vp 85) (fun a0 a1 a2 a3 a4 a5=>(⟨a0,a1,⟨a2,a3,a4⟩,a5⟩:D.Site))
 |33=>EV.kS (Vp 33) D.aAQ.mk
 |136=>EV.kS (Vp 136) D.aAM.mk
 |138=>EV.kS (Vp 138) (fun a0 a1 a2 a3 a4=>(⟨⟨a0,a1⟩,a2,a3,a4⟩:D.aAL))
 |141=>EV.kS (Vp 141) (fun a0 a1 a2 a3 a4 a5 a6=>(⟨⟨⟨a0,a1⟩,a2,a3,a4⟩,a5,a6⟩:D.aAE))
 |227=>EV.kS (Vp 227) D.aAP.mk
 |37=>EV.kS (Vp 37) D.aAO.mk
 |39=>EV.kS (Vp 39) (fun a0 a1 a2 a3 a4 a5 a6 a7 a8 a9 a10 a11 a12 a13 a14 a15=>(⟨a0,a1,a2,a3,⟨a4,⟨a5,a6⟩,a7⟩,a8,⟨a9,a10,a11,a12⟩,a13,a14,⟨a15⟩⟩:D.World))
 |9=>EV.kS (Vp 9) (fun x=>x)
 |76=>EV.kS (Vp 76) (fun x=>x)
 |_=>fun _=>none
def TI:List (Nat×EV.TInfo):=[
 (3,⟨.int .i64,1,[.int .i64]⟩),
 (4,⟨.bool,1,[.bool]⟩),
 (5,⟨.int .u8,1,[.int .u8]⟩),
 (9,⟨.str,1,[.str]⟩),
 (22,⟨.sl 52 9 104,1,[.nil]⟩),
 (23,⟨.sl 4 1 1,1,[.nil]⟩),
 (24,⟨.sl 109 6 48,1,[.nil]⟩),
 (25,⟨.sl 178 4 48,1,[.nil]⟩),
 (27,⟨.st [(0,3,1),(1,25,1)],2,[.int .i64, .nil]⟩),
 (28,⟨.sl 70 4 48,1,[.nil]⟩),
 (30,⟨.st [(0,24,1),(1,27,2),(3,28,1)],4,[.nil, .int .i64, .nil, .nil]⟩),
 (31,⟨.sl 85 6 104,1,[.nil]⟩),
 (33,⟨.st [(0,3,1),(1,3,1),(2,3,1),(3,3,1)],4,[.int .i64, .int .i64, .int .i64, .int .i64]⟩),
 (34,⟨.sl 141 7 72,1,[.nil]⟩),
 (35,⟨.sl 227 4 32,1,[.nil]⟩),
 (37,⟨.st [(0,35,1)],1,[.nil]⟩),
 (39,⟨.st [(0,3,1),(1,3,1),(2,22,1),(3,23,1),(4,30,4),(8,31,1),(9,33,4),(13,34,1),(14,3,1),(15,37,1)],16,[.int .i64, .int .i64, .nil, .nil, .nil, .int .i64, .nil, .nil, .nil, .int .i64, .int .i64, .int .i64, .int .i64, .nil, .int .i64, .nil]⟩),
 (47,⟨.st [(0,3,1),(1,3,1),(2,3,1),(3,3,1)],4,[.int .i64, .int .i64, .int .i64, .int .i64]⟩),
 (48,⟨.sl 187 4 32,1,[.nil]⟩),
 (50,⟨.st [(0,48,1)],1,[.nil]⟩),
 (52,⟨.st [(0,47,4),(4,24,1),(5,3,1),(6,3,1),(7,3,1),(8,50,1)],9,[.int .i64, .int .i64, .int .i64, .int .i64, .nil, .int .i64, .int .i64, .int .i64, .nil]⟩),
 (68,⟨.sl 5 1 1,1,[.nil]⟩),
 (70,⟨.st [(0,3,1),(1,3,1),(2,68,1),(3,3,1)],4,[.int .i64, .int .i64, .nil, .int .i64]⟩),
 (76,⟨.sl 3 1 8,1,[.nil]⟩),
 (80,⟨.sl 147 3 40,1,[.nil]⟩),
 (81,⟨.sl 232 3 24,1,[.nil]⟩),
 (83,⟨.st [(0,3,1),(1,3,1),(2,81,1)],3,[.int .i64, .int .i64, .nil]⟩),
 (85,⟨.st [(0,9,1),(1,80,1),(2,83,3),(5,76,1)],6,[.str, .nil, .int .i64, .int .i64, .nil, .nil]⟩),
 (109,⟨.st [(0,3,1),(1,3,1),(2,3,1),(3,3,1),(4,3,1),(5,3,1)],6,[.int .i64, .int .i64, .int .i64, .int .i64, .int .i64, .int .i64]⟩),
 (132,⟨.sl 136 2 16,1,[.nil]⟩),
 (136,⟨.st [(0,3,1),(1,3,1)],2,[.int .i64, .int .i64]⟩),
 (138,⟨.st [(0,136,2),(2,3,1),(3,3,1),(4,3,1)],5,[.int .i64, .int .i64, .int .i64, .int .i64, .int .i64]⟩),
 (139,⟨.sl 138 5 40,1,[.nil]⟩),
 (141,⟨.st [(0,138,5),(5,139,1),(6,3,1)],7,[.int .i64, .int .i64, .int .i64, .int .i64, .int .i64, .nil, .int .i64]⟩),
 (145,⟨.sl 207 4 32,1,[.nil]⟩),
 (147,⟨.st [(0,3,1),(1,3,1),(2,145,1)],3,[.int .i64, .int .i64, .nil]⟩),
 (178,⟨.st [(0,3,1),(1,3,1),(2,68,1),(3,3,1)],4,[.int .i64, .int .i64, .nil, .int .i64]⟩),
 (183,⟨.sl 9 1 16,1,[.nil]⟩),
 (187,⟨.st [(0,3,1),(1,3,1),(2,3,1),(3,4,1)],4,[.int .i64, .int .i64, .int .i64, .bool]⟩),
 (205,⟨.sl 76 1 24,1,[.nil]⟩),
 (207,⟨.st [(0,3,1),(1,3,1),(2,3,1),(3,4,1)],4,[.int .i64, .int .i64, .int .i64, .bool]⟩),
 (227,⟨.st [(0,3,1),(1,3,1),(2,3,1),(3,4,1)],4,[.int .i64, .int .i64, .int .i64, .bool]⟩),
 (232,⟨.st [(0,3,1),(1,3,1),(2,3,1)],3,[.int .i64, .int .i64, .int .i64]⟩)]
theorem lay (τ:Nat):(∀x:El τ,((aTc τ x).map EV.Lf.toV=bHh τ x∧(aTc τ x).length=Un.K τ)∧(aTc τ x).map EV.kdL=(Vp τ).map some)∧∀(cs:List (EV.Lf Un)) (x:El τ),bIf τ cs=some x→cs=aTc τ x:=by
 by_cases h:τ∈[47,109,187,50,52,4,5,178,27,70,30,207,147,232,83,3,85,33,136,138,141,227,37,39,9,76]
 ·simp only[List.mem_cons,List.not_mem_nil,or_false] at h
  rcases h with rfl|rfl|rfl|rfl|rfl|rfl|rfl|rfl|rfl|rfl|rfl|rfl|rfl|rfl|rfl|rfl|rfl|rfl|rfl|rfl|rfl|rfl|rfl|rfl|rfl|rfl<;>exact⟨fun _=>⟨⟨rfl,rfl⟩,rfl⟩,fun _ _ h=>by obtain⟨t,rfl,rfl⟩:=EV.aYq h;rfl⟩
 ·have e:El τ=Empty:=by
   unfold El
   split<;>first|(exfalso;revert h;decide)|rfl
  exact⟨fun x=>(cast e x).elim,fun _ x=>(cast e x).elim⟩
theorem hc1 (τ:Nat)(x:El τ):(aTc τ x).map EV.Lf.toV=bHh τ x:=((lay τ).1 x).1.1
theorem hc2 (τ:Nat)(x:El τ):(aTc τ x).length=Un.K τ:=((lay τ).1 x).1.2
theorem hc3 (τ:Nat)(x:El τ)(c:EV.Lf Un)(hc:c∈aTc τ x):c.aAW=true:=EV.bB4 ((lay τ).1 x).2 c hc
def Yn:EV.Lay Un:=⟨⟨aTc,bIf,hc1,hc2,hc3,fun τ=>(lay τ).2⟩,Vp,5,fun n=>n,fun n=>n,fun _=>rfl,fun _=>rfl⟩
theorem ly1 (τ:Nat)(x:El τ):(aTc τ x).map EV.kdL=(Vp τ).map some:=((lay τ).1 x).2
theorem ly2:∀(τ τ':Nat),EV.Kd.sl τ'∈Vp τ→0<Un.K τ':=by
 intro τ τ' h
 unfold Vp at h
 split at h<;>simp only[List.mem_cons,List.not_mem_nil,or_false,reduceCtorEq,false_or,or_self,EV.Kd.sl.injEq] at h<;>first|exact h.elim|(subst h;exact Nat.le_of_ble_eq_true rfl)|(rcases h with h|h|h|h|h|h|h|h<;>(subst h;exact Nat.le_of_ble_eq_true rfl))|(rcases h with h|h|h|h|h|h|h<;>(subst h;exact Nat.le_of_ble_eq_true rfl))|(rcases h with h|h|h|h|h|h<;>(subst h;exact Nat.le_of_ble_eq_true rfl))|(rcases h with h|h|h|h|h<;>(subst h;exact Nat.le_of_ble_eq_true rfl))|(rcases h with h|h|h|h<;>(subst h;exact Nat.le_of_ble_eq_true rfl))|(rcases h with h|h|h<;>(subst h;exact Nat.le_of_ble_eq_true rfl))|(rcases h with h|h<;>(subst h;exact Nat.le_of_ble_eq_true rfl))
theorem bIg:EV.LayOk Yn:=⟨ly1,ly2⟩
def aLj (f:Func):Code:=match f.body with|some c=>c|none=> .skip
theorem T.mix:Tryz.prog.follows .mixedOrders=true:=by kernel_rfl
theorem aD:EV.Good Tryz.prog G0 Yn TI []:=⟨by kernel_rfl,bIg,fun f S h=>by simp at h⟩
abbrev SU:=EV.Sum Un
def OK (f:Nat)(S:SU):Prop:=EV.Aa Tryz.prog G0 Yn f S
def bIh:SU:=⟨[],[],false,false,fun _=>none⟩
theorem bFe (f:Nat):OK f bIh:=fun _ _ hr=>nomatch hr
def SIl:SU:=⟨[],[],false,true,fun _=>none⟩
theorem sIl (f:Nat):OK f SIl:=fun _ _ hr=>nomatch hr
def IL:EV.Il:=[(18,aLj Tryz.f18,52,[.tmp 4])]
theorem bFf:EV.oN Tryz.prog IL:=EV.bG5 Tryz.func18 rfl Tryz.ntmps18 rfl (fun _ _=>by kernel_rfl)<|EV.bG4
def od (n:Nat)(l:List Nat):List (Nat×Bool):=(List.range n).map fun i=>(i, !l.contains i)
theorem gc {f:Nat}{S:SU}{FZ:List (Nat×SU)}(h:OK f S)(G:EV.Good Tryz.prog G0 Yn TI FZ):EV.Good Tryz.prog G0 Yn TI ((f,S)::FZ):=EV.aRi h G
theorem gcp {f:Nat}{S:SU}{FZ:List (Nat×SU)}(h:OK f S)(G:EV.Good Tryz.prog G0 Yn TI FZ)(hw:S.wt=false:=by rfl)(hf:S.fr=true:=by rfl):EV.Good Tryz.prog G0 Yn TI ((f,S.pl)::FZ):=EV.aRi (EV.bHc h hw hf) G
theorem mkS {f:FuncId}{fn:Func}{n:Nat}{S:SU}{FZ:List (Nat×SU)}{m:EV.oM Un S.ar→Option (EV.oM Un S.rs)}(an:EV.An)(l:List ResultVar)(G:EV.Good Tryz.prog G0 Yn TI FZ)(hf:Tryz.prog.funcs[f]? =some fn)(hn:fn.ntmps=n)(ht:∀a r,S.m a=some r→m a=some r)(h:∀a,(fn.name== "runtime.NumGoroutine",EV.evF Yn TI FZ IL an (aLj fn) n S.ar S.rs S.fr l a)=(false,m a))(hb:fn.body=some (aLj fn):=by rfl)(hl:fn.results=l.toArray:=by rfl)(hlen:S.ar.length≤n:=by decide)(hw:S.wt=false:=by rfl):OK f S:=
 fun a r hr=>EV.bG8 (an:=fun _=>an) G T.mix bFf hf hb hn hl (EV.aUx hf hb (congrArg Prod.fst (h a))) hlen hw (fun a r hr=>(congrArg Prod.snd (h a)).trans (ht a r hr)) a r hr
theorem mkW {f:FuncId}{fn:Func}{n:Nat}{kd:EV.Kd}{M m:EV.oM Un [kd, .int .i64]→Option (EV.oM Un [kd, .int .i64])}{FZ:List (Nat×SU)}(an:EV.An)(l:List ResultVar)(G:EV.Good Tryz.prog G0 Yn TI FZ)(hf:Tryz.prog.funcs[f]? =some fn)(hn:fn.ntmps=n)(ht:∀a r,M a=some r→m a=some r)(h:∀a,(fn.name== "runtime.NumGoroutine",EV.evM Yn TI FZ IL an (aLj fn) n kd l a)=(false,m a))(hb:fn.body=some (aLj fn):=by rfl)(hl:fn.results=l.toArray:=by rfl)(hlen:2≤n:=by decide):OK f ⟨[kd, .int .i64],[kd, .int .i64],false,true,M⟩:=
 fun a r hr=>EV.bG9 (an:=fun _=>an) G T.mix bFf hf hb hn hl (EV.aUx hf hb (congrArg Prod.fst (h a))) hlen (fun a r hr=>(congrArg Prod.snd (h a)).trans (ht a r hr)) a r hr
def iK:EV.Sum Un:=⟨[.str, .str],[.sl 9],false,false,fun(a:ByteArray×ByteArray)=>gd (a.1.size<4294967281∧1≤a.2.size) (some (jE a.1 a.2))⟩
theorem aBk (args:Array Value)(w:World):(callFunc 277 args).run Tryz.prog w= .ok (.enter 277 args) w:=by kernel_rfl
theorem aGu (a:ByteArray×ByteArray):(EV.dA Yn iK.ar a).map EV.zG=[.str a.1, .str a.2]:=by kernel_rfl
theorem aGv (a:ByteArray×ByteArray):qR ((EV.dA Yn iK.rs (jE a.1 a.2)).map EV.zG)= .slice 1 ((jE a.1 a.2).map sV):=by kernel_rfl
theorem aGw (a:ByteArray×ByteArray)(r:EV.oM Un iK.rs)(hr:gd (a.1.size<4294967281∧1≤a.2.size) (some (jE a.1 a.2))=some r):Spec Tryz.prog G0 277 ((EV.dA Yn iK.ar a).map EV.zG) (fun v=>v=qR ((EV.dA Yn iK.rs r).map EV.zG)):=by
 unfold gd at hr
 split at hr
 ·rename_i hp
  have e:=Option.some.inj hr
  subst e
  rw[aGu,aGv]
  exact aXd aBk (fun s sep m w a b c=>Tryz.strings_Split s sep m w a b c) a.1 a.2 hp.1 hp.2
 ·cases hr
theorem Gc:EV.Aa Tryz.prog G0 Yn 277 iK:=fun(a:ByteArray×ByteArray) r hr=>⟨fun _ _=>aGw a r hr,fun _ h=>absurd (show false=true from h) Bool.false_ne_true,fun h=>absurd (show false=true from h) Bool.false_ne_true,fun h=>absurd (show false=true from h) Bool.false_ne_true⟩
def jG:EV.Sum Un:=⟨[.sl 9, .str],[.str],false,false,fun(a:(List ByteArray)×ByteArray)=>gd (0<a.1.length∧(mW a.2 a.1).size≤140737488355328∧a.1.length≤140737488355328) (some (mW a.2 a.1))⟩
theorem aGx (args:Array Value)(w:World):(callFunc 278 args).run Tryz.prog w= .ok (.enter 278 args) w:=by kernel_rfl
theorem aLk (a:(List ByteArray)×ByteArray):(EV.dA Yn jG.ar a).map EV.zG=[.slice 1 (a.1.map sV), .str a.2]:=by kernel_rfl
theorem aLl (a:(List ByteArray)×ByteArray):qR ((EV.dA Yn jG.rs (mW a.2 a.1)).map EV.zG)= .str (mW a.2 a.1):=by kernel_rfl
theorem aLm (a:(List ByteArray)×ByteArray)(r:EV.oM Un jG.rs)(hr:gd (0<a.1.length∧(mW a.2 a.1).size≤140737488355328∧a.1.length≤140737488355328) (some (mW a.2 a.1))=some r):Spec Tryz.prog G0 278 ((EV.dA Yn jG.ar a).map EV.zG) (fun v=>v=qR ((EV.dA Yn jG.rs r).map EV.zG)):=by
 unfold gd at hr
 split at hr
 ·rename_i hp
  have e:=Option.some.inj hr
  subst e
  rw[aLk,aLl]
  exact aZp aGx Tryz.strings_Join a.1 a.2 (by intro h;have:=hp.1;rw[h] at this;simp at this) hp.2.1 hp.2.2
 ·cases hr
theorem aLn:EV.Aa Tryz.prog G0 Yn 278 jG:=fun(a:(List ByteArray)×ByteArray) r hr=>⟨fun _ _=>aLm a r hr,fun _ h=>absurd (show false=true from h) Bool.false_ne_true,fun h=>absurd (show false=true from h) Bool.false_ne_true,fun h=>absurd (show false=true from h) Bool.false_ne_true⟩
end
end Go.VK
