import Derived.Test.YtjmlamaddedhlaaGreatDoorXrFF
import Derived.Test.YtjmlamaddedhlaaGreatDoorEVzbtod
import Derived.Test.YtjmlamaddedhlaaGreatDoorProg
import Derived.Test.YtjmlamaddedhlaaGreatDoorTryrShelf
/- Printed by wip/tools: models, walks, proofs. -/
set_option linter.all false
set_option maxRecDepth 100000
set_option maxHeartbeats 4000000
namespace Go.VK
open Go.RowKit Go.Proofs
noncomputable section
abbrev G0:GI:=bIz 0
def El:Nat->Type
 |5=>Int
 |50=>D.aAH
 |141=>D.aAB
 |122=>D.Entry
 |53=>D.aAC
 |55=>D.Device
 |4=>Bool
 |212=>D.Box
 |31=>D.aAD
 |102=>D.aAA
 |34=>D.aAI
 |224=>D.aAJ
 |67=>D.aAG
 |241=>D.aAL
 |61=>D.aAE
 |3=>Int
 |64=>D.Site
 |37=>D.aAQ
 |173=>D.aAN
 |175=>D.aAP
 |178=>D.aAF
 |135=>D.aAX
 |41=>D.aAM
 |43=>D.World
 |137=>D.aAO
 |62=>List Int
 |9=>ByteArray
 |_=>Empty
def bH2:(τ:Nat)->El τ->List V
 |5=>y8
 |50=>D.aAH.V
 |141=>D.aAB.V
 |122=>D.Entry.V
 |53=>D.aAC.V
 |55=>D.Device.V
 |4=>bV
 |212=>D.Box.V
 |31=>D.aAD.V
 |102=>D.aAA.V
 |34=>D.aAI.V
 |224=>D.aAJ.V
 |67=>D.aAG.V
 |241=>D.aAL.V
 |61=>D.aAE.V
 |3=>iV
 |64=>D.Site.V
 |37=>D.aAQ.V
 |173=>D.aAN.V
 |175=>D.aAP.V
 |178=>D.aAF.V
 |135=>D.aAX.V
 |41=>D.aAM.V
 |43=>D.World.V
 |137=>D.aAO.V
 |62=>(λl=>[V.slice 1 (l.map iV)])
 |9=>sV
 |_=>λ_=>[]
def Un:EV.Uni:=⟨El,λ|5=>1|50=>4|141=>6|122=>4|53=>1|55=>9|4=>1|212=>4|31=>2|102=>4|34=>4|224=>4|67=>3|241=>3|61=>3|3=>1|64=>6|37=>4|173=>2|175=>5|178=>7|135=>4|41=>1|43=>16|137=>3|62=>1|9=>1|_=>0,bH2⟩
def aO9:(τ:Nat)->El τ->List (EV.Lf Un)
 |5=>λx=>[.int .u8 x]
 |50=>λx=>[.int .i64 x.Vendor, .int .i64 x.Serial, .int .i64 x.Seed, .int .i64 x.Counter]
 |141=>λx=>[.int .i64 x.Index, .int .i64 x.Kind, .int .i64 x.Device, .int .i64 x.By, .int .i64 x.Previous, .int .i64 x.Signature]
 |122=>λx=>[.int .i64 x.Site, .int .i64 x.Handle, .int .i64 x.Version, .bool x.Deleted]
 |53=>λx=>[.sl 122 x.Entries]
 |55=>λx=>[.int .i64 x.Store.Vendor, .int .i64 x.Store.Serial, .int .i64 x.Store.Seed, .int .i64 x.Store.Counter, .sl 141 x.Log, .int .i64 x.Key, .int .i64 x.Epoch, .int .i64 x.Version, .sl 122 x.aAC.Entries]
 |4=>λx=>[.bool x]
 |212=>λx=>[.int .i64 x.To, .int .i64 x.Ephemeral, .sl 5 x.Data, .int .i64 x.MAC]
 |31=>λx=>[.int .i64 x.Epoch, .sl 212 x.Boxes]
 |102=>λx=>[.int .i64 x.Epoch, .int .i64 x.Version, .sl 5 x.Data, .int .i64 x.MAC]
 |34=>λx=>[.sl 141 x.Log, .int .i64 x.Boxes.Epoch, .sl 212 x.Boxes.Boxes, .sl 102 x.History]
 |224=>λx=>[.int .i64 x.Handle, .int .i64 x.Public, .int .i64 x.Counter, .bool x.Cut]
 |67=>λx=>[.int .i64 x.Id, .int .i64 x.Minimum, .sl 224 x.Credentials]
 |241=>λx=>[.int .i64 x.Id, .int .i64 x.aAG, .int .i64 x.Until]
 |61=>λx=>[.int .i64 x.Seed, .int .i64 x.Next, .sl 241 x.Open]
 |3=>λx=>[.int .i64 x]
 |64=>λx=>[.str x.Name, .sl 67 x.Accounts, .int .i64 x.Book.Seed, .int .i64 x.Book.Next, .sl 241 x.Book.Open, .sl 3 x.Logins]
 |37=>λx=>[.int .i64 x.Salt, .int .i64 x.Threshold, .int .i64 x.Check, .int .i64 x.Masked]
 |173=>λx=>[.int .i64 x.Index, .int .i64 x.Value]
 |175=>λx=>[.int .i64 x.aAN.Index, .int .i64 x.aAN.Value, .int .i64 x.Epoch, .int .i64 x.Guesses, .int .i64 x.Limit]
 |178=>λx=>[.int .i64 x.State.aAN.Index, .int .i64 x.State.aAN.Value, .int .i64 x.State.Epoch, .int .i64 x.State.Guesses, .int .i64 x.State.Limit, .sl 175 x.Saved, .int .i64 x.Monotonic]
 |135=>λx=>[.int .i64 x.Kind, .int .i64 x.aAG, .int .i64 x.Time, .bool x.Seen]
 |41=>λx=>[.sl 135 x.Notices]
 |43=>λx=>[.int .i64 x.Now, .int .i64 x.Seed, .sl 55 x.Devices, .sl 4 x.Stolen, .sl 141 x.aAI.Log, .int .i64 x.aAI.Boxes.Epoch, .sl 212 x.aAI.Boxes.Boxes, .sl 102 x.aAI.History, .sl 64 x.Sites, .int .i64 x.aAQ.Salt, .int .i64 x.aAQ.Threshold, .int .i64 x.aAQ.Check, .int .i64 x.aAQ.Masked, .sl 178 x.Hosts, .int .i64 x.Pin, .sl 135 x.Mail.Notices]
 |137=>λx=>[.sl 5 x.b, .int .i64 x.i, .int .i64 x.h]
 |62=>λx=>[.sl 3 x]
 |9=>λx=>[.str x]
 |_=>λ_=>[]
def Pp:Nat->List EV.Kd
 |5=>[.int .u8]
 |50=>[.int .i64, .int .i64, .int .i64, .int .i64]
 |141=>[.int .i64, .int .i64, .int .i64, .int .i64, .int .i64, .int .i64]
 |122=>[.int .i64, .int .i64, .int .i64, .bool]
 |53=>[.sl 122]
 |55=>[.int .i64, .int .i64, .int .i64, .int .i64, .sl 141, .int .i64, .int .i64, .int .i64, .sl 122]
 |4=>[.bool]
 |212=>[.int .i64, .int .i64, .sl 5, .int .i64]
 |31=>[.int .i64, .sl 212]
 |102=>[.int .i64, .int .i64, .sl 5, .int .i64]
 |34=>[.sl 141, .int .i64, .sl 212, .sl 102]
 |224=>[.int .i64, .int .i64, .int .i64, .bool]
 |67=>[.int .i64, .int .i64, .sl 224]
 |241=>[.int .i64, .int .i64, .int .i64]
 |61=>[.int .i64, .int .i64, .sl 241]
 |3=>[.int .i64]
 |64=>[.str, .sl 67, .int .i64, .int .i64, .sl 241, .sl 3]
 |37=>[.int .i64, .int .i64, .int .i64, .int .i64]
 |173=>[.int .i64, .int .i64]
 |175=>[.int .i64, .int .i64, .int .i64, .int .i64, .int .i64]
 |178=>[.int .i64, .int .i64, .int .i64, .int .i64, .int .i64, .sl 175, .int .i64]
 |135=>[.int .i64, .int .i64, .int .i64, .bool]
 |41=>[.sl 135]
 |43=>[.int .i64, .int .i64, .sl 55, .sl 4, .sl 141, .int .i64, .sl 212, .sl 102, .sl 64, .int .i64, .int .i64, .int .i64, .int .i64, .sl 178, .int .i64, .sl 135]
 |137=>[.sl 5, .int .i64, .int .i64]
 |62=>[.sl 3]
 |9=>[.str]
 |_=>[]
def bJr:(τ:Nat)->List (EV.Lf Un)->Option (El τ)
 |5=>EV.kD (Pp 5) (λx=>x)
 |50=>EV.kD (Pp 50) D.aAH.mk
 |141=>EV.kD (Pp 141) D.aAB.mk
 |122=>EV.kD (Pp 122) D.Entry.mk
 |53=>EV.kD (Pp 53) D.aAC.mk
 |55=>EV.kD (Pp 55) (λa0 a1 a2 a3 a4 a5 a6 a7 a8=>(⟨⟨a0,a1,a2,a3⟩,a4,a5,a6,a7,⟨a8⟩⟩:D.Device))
 |4=>EV.kD (Pp 4) (λx=>x)
 |212=>EV.kD (Pp 212) D.Box.mk
 |31=>EV.kD (Pp 31) D.aAD.mk
 |102=>EV.kD (Pp 102) D.aAA.mk
 |34=>EV.kD (Pp 34) (λa0 a1 a2 a3=>(⟨a0,⟨a1,a2⟩,a3⟩:D.aAI))
 |224=>EV.kD (Pp 224) D.aAJ.mk
 |67=>EV.kD (Pp 67) D.aAG.mk
 |241=>EV.kD (Pp 241) D.aAL.mk
 |61=>EV.kD (Pp 61) D.aAE.mk
 |3=>EV.kD (Pp 3) (λx=>x)
 |64=>EV.kD (Pp 64) (λa0 a1 a2 a3 a4 a5=>(⟨a0,a1,⟨a2,a3,a4⟩,a5⟩:D.Site))
 |37=>EV.kD (Pp 37) D.aAQ.mk
 |173=>EV.kD (Pp 173) D.aAN.mk
 |175=>EV.kD (Pp 175) (λa0 a1 a2 a3 a4=>(⟨⟨a0,a1⟩,a2,a3,a4⟩:D.aAP))
 |178=>EV.kD (Pp 178) (λa0 a1 a2 a3 a4 a5 a6=>(⟨⟨⟨a0,a1⟩,a2,a3,a4⟩,a5,a6⟩:D.aAF))
 |135=>EV.kD (Pp 135) D.aAX.mk
 |41=>EV.kD (Pp 41) D.aAM.mk
 |43=>EV.kD (Pp 43) (λa0 a1 a2 a3 a4 a5 a6 a7 a8 a9 a10 a11 a12 a13 a14 a15=>(⟨a0,a1,a2,a3,⟨a4,⟨a5,a6⟩,a7⟩,a8,⟨a9,a10,a11,a12⟩,a13,a14,⟨a15⟩⟩:D.World))
 |137=>EV.kD (Pp 137) D.aAO.mk
 |62=>EV.kD (Pp 62) (λx=>x)
 |9=>EV.kD (Pp 9) (λx=>x)
 |_=>λ_=>none
def TI:List (Nat×EV.TInfo):=[
 (3,⟨.int .i64,1,[.int .i64]⟩),
 (4,⟨.bool,1,[.bool]⟩),
 (5,⟨.int .u8,1,[.int .u8]⟩),
 (9,⟨.str,1,[.str]⟩),
 (22,⟨.sl 5 1 1,1,[.nil]⟩),
 (26,⟨.sl 55 9 104,1,[.nil]⟩),
 (27,⟨.sl 4 1 1,1,[.nil]⟩),
 (28,⟨.sl 141 6 48,1,[.nil]⟩),
 (29,⟨.sl 212 4 48,1,[.nil]⟩),
 (31,⟨.st [(0,3,1),(1,29,1)],2,[.int .i64, .nil]⟩),
 (32,⟨.sl 102 4 48,1,[.nil]⟩),
 (34,⟨.st [(0,28,1),(1,31,2),(3,32,1)],4,[.nil, .int .i64, .nil, .nil]⟩),
 (35,⟨.sl 64 6 104,1,[.nil]⟩),
 (37,⟨.st [(0,3,1),(1,3,1),(2,3,1),(3,3,1)],4,[.int .i64, .int .i64, .int .i64, .int .i64]⟩),
 (38,⟨.sl 178 7 72,1,[.nil]⟩),
 (39,⟨.sl 135 4 32,1,[.nil]⟩),
 (41,⟨.st [(0,39,1)],1,[.nil]⟩),
 (43,⟨.st [(0,3,1),(1,3,1),(2,26,1),(3,27,1),(4,34,4),(8,35,1),(9,37,4),(13,38,1),(14,3,1),(15,41,1)],16,[.int .i64, .int .i64, .nil, .nil, .nil, .int .i64, .nil, .nil, .nil, .int .i64, .int .i64, .int .i64, .int .i64, .nil, .int .i64, .nil]⟩),
 (50,⟨.st [(0,3,1),(1,3,1),(2,3,1),(3,3,1)],4,[.int .i64, .int .i64, .int .i64, .int .i64]⟩),
 (51,⟨.sl 122 4 32,1,[.nil]⟩),
 (53,⟨.st [(0,51,1)],1,[.nil]⟩),
 (55,⟨.st [(0,50,4),(4,28,1),(5,3,1),(6,3,1),(7,3,1),(8,53,1)],9,[.int .i64, .int .i64, .int .i64, .int .i64, .nil, .int .i64, .int .i64, .int .i64, .nil]⟩),
 (58,⟨.sl 67 3 40,1,[.nil]⟩),
 (59,⟨.sl 241 3 24,1,[.nil]⟩),
 (61,⟨.st [(0,3,1),(1,3,1),(2,59,1)],3,[.int .i64, .int .i64, .nil]⟩),
 (62,⟨.sl 3 1 8,1,[.nil]⟩),
 (64,⟨.st [(0,9,1),(1,58,1),(2,61,3),(5,62,1)],6,[.str, .nil, .int .i64, .int .i64, .nil, .nil]⟩),
 (65,⟨.sl 224 4 32,1,[.nil]⟩),
 (67,⟨.st [(0,3,1),(1,3,1),(2,65,1)],3,[.int .i64, .int .i64, .nil]⟩),
 (102,⟨.st [(0,3,1),(1,3,1),(2,22,1),(3,3,1)],4,[.int .i64, .int .i64, .nil, .int .i64]⟩),
 (122,⟨.st [(0,3,1),(1,3,1),(2,3,1),(3,4,1)],4,[.int .i64, .int .i64, .int .i64, .bool]⟩),
 (135,⟨.st [(0,3,1),(1,3,1),(2,3,1),(3,4,1)],4,[.int .i64, .int .i64, .int .i64, .bool]⟩),
 (137,⟨.st [(0,22,1),(1,3,1),(2,3,1)],3,[.nil, .int .i64, .int .i64]⟩),
 (141,⟨.st [(0,3,1),(1,3,1),(2,3,1),(3,3,1),(4,3,1),(5,3,1)],6,[.int .i64, .int .i64, .int .i64, .int .i64, .int .i64, .int .i64]⟩),
 (169,⟨.sl 173 2 16,1,[.nil]⟩),
 (173,⟨.st [(0,3,1),(1,3,1)],2,[.int .i64, .int .i64]⟩),
 (175,⟨.st [(0,173,2),(2,3,1),(3,3,1),(4,3,1)],5,[.int .i64, .int .i64, .int .i64, .int .i64, .int .i64]⟩),
 (176,⟨.sl 175 5 40,1,[.nil]⟩),
 (178,⟨.st [(0,175,5),(5,176,1),(6,3,1)],7,[.int .i64, .int .i64, .int .i64, .int .i64, .int .i64, .nil, .int .i64]⟩),
 (212,⟨.st [(0,3,1),(1,3,1),(2,22,1),(3,3,1)],4,[.int .i64, .int .i64, .nil, .int .i64]⟩),
 (222,⟨.sl 62 1 24,1,[.nil]⟩),
 (224,⟨.st [(0,3,1),(1,3,1),(2,3,1),(3,4,1)],4,[.int .i64, .int .i64, .int .i64, .bool]⟩),
 (241,⟨.st [(0,3,1),(1,3,1),(2,3,1)],3,[.int .i64, .int .i64, .int .i64]⟩),
 (244,⟨.sl 9 1 16,1,[.nil]⟩)]
def lay (τ:Nat):(∀x:El τ,((aO9 τ x).map EV.Lf.toV=bH2 τ x/\(aO9 τ x).length=Un.K τ)/\(aO9 τ x).map EV.kdL=(Pp τ).map some)/\∀(cs:List (EV.Lf Un)) (x:El τ),bJr τ cs=some x->cs=aO9 τ x:=by
 by_cases h:τ∈[5,50,141,122,53,55,4,212,31,102,34,224,67,241,61,3,64,37,173,175,178,135,41,43,137,62,9]
 ·simp only[ba,fg,or_false] at h
  rcases h with rfl|rfl|rfl|rfl|rfl|rfl|rfl|rfl|rfl|rfl|rfl|rfl|rfl|rfl|rfl|rfl|rfl|rfl|rfl|rfl|rfl|rfl|rfl|rfl|rfl|rfl|rfl<;>exact⟨λ_=>⟨⟨rfl,rfl⟩,rfl⟩,λ_ _ h=>by obtain⟨t,rfl,rfl⟩:=EV.aU6 h;rfl⟩
 ·have e:El τ=Empty:=by
   unfold El
   split<;>first|(exfalso;revert h;decide)|rfl
  exact⟨λx=>(cast e x).elim,λ_ x=>(cast e x).elim⟩
def hc1 (τ:Nat)(x:El τ):(aO9 τ x).map EV.Lf.toV=bH2 τ x:=((lay τ).1 x).1.1
def hc2 (τ:Nat)(x:El τ):(aO9 τ x).length=Un.K τ:=((lay τ).1 x).1.2
def hc3 (τ:Nat)(x:El τ)(c:EV.Lf Un)(hc:c∈aO9 τ x):c.aAZ=true:=EV.aZm ((lay τ).1 x).2 c hc
def Yn:EV.Lay Un:=⟨⟨aO9,bJr,hc1,hc2,hc3,λτ=>(lay τ).2⟩,Pp,5,λn=>n,λn=>n,λ_=>rfl,λ_=>rfl⟩
def ly1 (τ:Nat)(x:El τ):(aO9 τ x).map EV.kdL=(Pp τ).map some:=((lay τ).1 x).2
def ly2:∀(τ τ':Nat),EV.Kd.sl τ'∈Pp τ->0<Un.K τ':=by
 intro τ τ' h
 unfold Pp at h
 split at h<;>simp only[ba,fg,or_false,reduceCtorEq,false_or,or_self,EV.Kd.sl.injEq] at h<;>first|exact h.elim|(subst h;exact ay rfl)|(rcases h with h|h|h|h|h|h|h|h<;>(subst h;exact ay rfl))|(rcases h with h|h|h|h|h|h|h<;>(subst h;exact ay rfl))|(rcases h with h|h|h|h|h|h<;>(subst h;exact ay rfl))|(rcases h with h|h|h|h|h<;>(subst h;exact ay rfl))|(rcases h with h|h|h|h<;>(subst h;exact ay rfl))|(rcases h with h|h|h<;>(subst h;exact ay rfl))|(rcases h with h|h<;>(subst h;exact ay rfl))
def bJs:EV.LayOk Yn:=⟨ly1,ly2⟩
def U0 (f:Func):Code:=match f.body with|some c=>c|none=> .skip
def T.mix:Tryz.prog.follows .mixedOrders=true:=by kernel_rfl
def aD:EV.Good Tryz.prog G0 Yn TI []:=⟨by kernel_rfl,bJs,λf S h=>by simp at h⟩
abbrev SU:=EV.Sum Un
def OK (f:Nat)(S:SU):Prop:=EV.vS Tryz.prog G0 Yn f S
def bJt:SU:=⟨[],[],false,false,λ_=>none⟩
def aWa (f:Nat):OK f bJt:=λ_ _ hr=>nomatch hr
def SIl:SU:=⟨[],[],false,true,λ_=>none⟩
def sIl (f:Nat):OK f SIl:=λ_ _ hr=>nomatch hr
def IL:EV.Il:=[(25,U0 Tryz.f25,32,[.tmp 2]),(65,U0 Tryz.f65,52,[.tmp 4])]
def bFd:EV.nM Tryz.prog IL:=EV.bAe Tryz.func25 rfl Tryz.ntmps25 rfl (λ_ _=>by kernel_rfl)<|EV.bAe Tryz.func65 rfl Tryz.ntmps65 rfl (λ_ _=>by kernel_rfl)<|EV.bG7
def od (n:Nat)(l:List Nat):List (Nat×Bool):=(List.range n).map λi=>(i, !l.contains i)
def gc {f:Nat}{S:SU}{FZ:List (Nat×SU)}(h:OK f S)(G:EV.Good Tryz.prog G0 Yn TI FZ):EV.Good Tryz.prog G0 Yn TI ((f,S)::FZ):=EV.aM1 h G
def gcp {f:Nat}{S:SU}{FZ:List (Nat×SU)}(h:OK f S)(G:EV.Good Tryz.prog G0 Yn TI FZ)(hw:S.wt=false:=by rfl)(hf:S.fr=true:=by rfl):EV.Good Tryz.prog G0 Yn TI ((f,S.pl)::FZ):=EV.aM1 (EV.aZt h hw hf) G
def mkS {f:FuncId}{fn:Func}{n:Nat}{S:SU}{FZ:List (Nat×SU)}{m:EV.nK Un S.ar->Option (EV.nK Un S.rs)}(an:EV.An)(l:List ResultVar)(G:EV.Good Tryz.prog G0 Yn TI FZ)(hf:Tryz.prog.funcs[f]? =some fn)(hn:fn.ntmps=n)(ht:∀a r,S.m a=some r->m a=some r)(h:∀a,(fn.name== "runtime.NumGoroutine",EV.evF Yn TI FZ IL an (U0 fn) n S.ar S.rs S.fr l a)=(false,m a))(hb:fn.body=some (U0 fn):=by rfl)(hl:fn.results=l.toArray:=by rfl)(hlen:S.ar.length<=n:=by decide)(hw:S.wt=false:=by rfl):OK f S:=
 λa r hr=>EV.bHa (an:=λ_=>an) G T.mix bFd hf hb hn hl (EV.aQm hf hb (congrArg Prod.fst (h a))) hlen hw (λa r hr=>(congrArg Prod.snd (h a)).trans (ht a r hr)) a r hr
def mkP {f:FuncId}{fn:Func}{n T:Nat}{ks rs:List EV.Kd}{M m:EV.nK Un (.st T::ks)->Option (EV.nK Un (.st T::rs))}{FZ:List (Nat×SU)}(an:EV.An)(l:List ResultVar)(G:EV.Good Tryz.prog G0 Yn TI FZ)(hf:Tryz.prog.funcs[f]? =some fn)(hn:fn.ntmps=n)(ht:∀a r,M a=some r->m a=some r)(h:∀a,(fn.name== "runtime.NumGoroutine",EV.evP Yn TI FZ IL an (U0 fn) n T ks rs l a)=(false,m a))(hb:fn.body=some (U0 fn):=by rfl)(hl:fn.results=l.toArray:=by rfl)(hlen:ks.length+1<=n:=by decide):OK f ⟨.st T::ks, .st T::rs,true,true,M⟩:=
 λa r hr=>EV.bHe (an:=λ_=>an) G Go.VK.T.mix bFd hf hb hn hl (EV.aQm hf hb (congrArg Prod.fst (h a))) hlen (λa r hr=>(congrArg Prod.snd (h a)).trans (ht a r hr)) a r hr
def gT:EV.Sum Un:=⟨[.str, .str],[.sl 9],false,false,λ(a:ByteArray×ByteArray)=>gd (a.1.size<4294967281/\1<=a.2.size) (some (iQ a.1 a.2))⟩
def U1 (args:Array Value)(w:World):(callFunc 292 args).run Tryz.prog w= .ok (.enter 292 args) w:=by kernel_rfl
def aC9 (a:ByteArray×ByteArray):(EV.bL Yn gT.ar a).map EV.rQ=[.str a.1, .str a.2]:=by kernel_rfl
def aDa (a:ByteArray×ByteArray):kH ((EV.bL Yn gT.rs (iQ a.1 a.2)).map EV.rQ)= .slice 1 ((iQ a.1 a.2).map sV):=by kernel_rfl
def aDb (a:ByteArray×ByteArray)(r:EV.nK Un gT.rs)(hr:gd (a.1.size<4294967281/\1<=a.2.size) (some (iQ a.1 a.2))=some r):Spec Tryz.prog G0 292 ((EV.bL Yn gT.ar a).map EV.rQ) (λv=>v=kH ((EV.bL Yn gT.rs r).map EV.rQ)):=by
 unfold gd at hr
 split at hr
 ·rename_i hp
  have e:=aj hr
  subst e
  rw[aC9,aDa]
  exact aTe U1 (λs sep m w a b c=>Tryz.strings_Split s sep m w a b c) a.1 a.2 hp.1 hp.2
 ·cases hr
def Di:EV.vS Tryz.prog G0 Yn 292 gT:=λ(a:ByteArray×ByteArray) r hr=>⟨λ_ _=>aDb a r hr,λ_ h=>absurd (show false=true from h) eN,λh=>absurd (show false=true from h) eN,λh=>absurd (show false=true from h) eN⟩
def iZ:EV.Sum Un:=⟨[.sl 9, .str],[.str],false,false,λ(a:(List ByteArray)×ByteArray)=>gd (0<a.1.length/\(lY a.2 a.1).size<=140737488355328/\a.1.length<=140737488355328) (some (lY a.2 a.1))⟩
def aDc (args:Array Value)(w:World):(callFunc 293 args).run Tryz.prog w= .ok (.enter 293 args) w:=by kernel_rfl
def aHd (a:(List ByteArray)×ByteArray):(EV.bL Yn iZ.ar a).map EV.rQ=[.slice 1 (a.1.map sV), .str a.2]:=by kernel_rfl
def aHe (a:(List ByteArray)×ByteArray):kH ((EV.bL Yn iZ.rs (lY a.2 a.1)).map EV.rQ)= .str (lY a.2 a.1):=by kernel_rfl
def aHf (a:(List ByteArray)×ByteArray)(r:EV.nK Un iZ.rs)(hr:gd (0<a.1.length/\(lY a.2 a.1).size<=140737488355328/\a.1.length<=140737488355328) (some (lY a.2 a.1))=some r):Spec Tryz.prog G0 293 ((EV.bL Yn iZ.ar a).map EV.rQ) (λv=>v=kH ((EV.bL Yn iZ.rs r).map EV.rQ)):=by
 unfold gd at hr
 split at hr
 ·rename_i hp
  have e:=aj hr
  subst e
  rw[aHd,aHe]
  exact aWp aDc Tryz.strings_Join a.1 a.2 (by intro h;have:=hp.1;rw[h] at this;simp at this) hp.2.1 hp.2.2
 ·cases hr
def aHg:EV.vS Tryz.prog G0 Yn 293 iZ:=λ(a:(List ByteArray)×ByteArray) r hr=>⟨λ_ _=>aHf a r hr,λ_ h=>absurd (show false=true from h) eN,λh=>absurd (show false=true from h) eN,λh=>absurd (show false=true from h) eN⟩
end
end Go.VK
