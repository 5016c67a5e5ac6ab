import Derived.Test.YtchppgifkkcfpaaGreatDoorXcC
import Derived.Test.YtchppgifkkcfpaaGreatDoorEVztor
/- Printed by wip/tools: models, walks, proofs. -/
set_option linter.all false
set_option maxRecDepth 100000
set_option maxHeartbeats 4000000
namespace Go.VK
open Go.RowKit Go.Proofs D
noncomputable section
def T.hd3:bH Tryz.prog 3 Int iV:=cAu Tryz.underlying3
def T.aDZ:bH Tryz.prog 94 AN AN.V:=dP (t:=94) Tryz.underlying94 (by kernel_rfl) (aP (k:=1) T.hd3 rfl (by kernel_rfl) (aP (k:=1) T.hd3 rfl (by kernel_rfl) (aP (k:=1) T.hd3 rfl (by kernel_rfl) (aP (k:=1) T.hd3 rfl (by kernel_rfl) jE)))) (λp=>⟨p.1,p.2.1,p.2.2.1,p.2.2.2.1⟩) (λp=>rfl)
def T.aDE:bH Tryz.prog 183 AG AG.V:=dP (t:=183) Tryz.underlying183 (by kernel_rfl) (aP (k:=1) T.hd3 rfl (by kernel_rfl) (aP (k:=1) T.hd3 rfl (by kernel_rfl) (aP (k:=1) T.hd3 rfl (by kernel_rfl) (aP (k:=1) T.hd3 rfl (by kernel_rfl) (aP (k:=1) T.hd3 rfl (by kernel_rfl) (aP (k:=1) T.hd3 rfl (by kernel_rfl) jE)))))) (λp=>⟨p.1,p.2.1,p.2.2.1,p.2.2.2.1,p.2.2.2.2.1,p.2.2.2.2.2.1⟩) (λp=>rfl)
def T.hd24:bH Tryz.prog 24 (List AG) (λl=>[.slice 6 (l.map AG.V)]):=iC Tryz.underlying24 (by kernel_rfl) (by decide) (λ_=>rfl) T.aDE
def T.hd4:bH Tryz.prog 4 Bool bV:=bYa Tryz.underlying4
def T.aDJ:bH Tryz.prog 318 AI AI.V:=dP (t:=318) Tryz.underlying318 (by kernel_rfl) (aP (k:=1) T.hd3 rfl (by kernel_rfl) (aP (k:=1) T.hd3 rfl (by kernel_rfl) (aP (k:=1) T.hd3 rfl (by kernel_rfl) (aP (k:=1) T.hd4 rfl (by kernel_rfl) jE)))) (λp=>⟨p.1,p.2.1,p.2.2.1,p.2.2.2.1⟩) (λp=>rfl)
def T.hd95:bH Tryz.prog 95 (List AI) (λl=>[.slice 4 (l.map AI.V)]):=iC Tryz.underlying95 (by kernel_rfl) (by decide) (λ_=>rfl) T.aDJ
def T.aEA:bH Tryz.prog 97 AD AD.V:=dP (t:=97) Tryz.underlying97 (by kernel_rfl) (aP (k:=1) T.hd95 rfl (by kernel_rfl) jE) (λp=>⟨p.1⟩) (λp=>rfl)
def T.hd99:bH Tryz.prog 99 AF AF.V:=dP (t:=99) Tryz.underlying99 (by kernel_rfl) (aP (k:=4) T.aDZ rfl (by kernel_rfl) (aP (k:=1) T.hd24 rfl (by kernel_rfl) (aP (k:=1) T.hd3 rfl (by kernel_rfl) (aP (k:=1) T.hd3 rfl (by kernel_rfl) (aP (k:=1) T.hd3 rfl (by kernel_rfl) (aP (k:=1) T.aEA rfl (by kernel_rfl) jE)))))) (λp=>⟨p.1,p.2.1,p.2.2.1,p.2.2.2.1,p.2.2.2.2.1,p.2.2.2.2.2.1⟩) (λp=>rfl)
def T.aDR:bH Tryz.prog 22 (List AF) (λl=>[.slice 9 (l.map AF.V)]):=iC Tryz.underlying22 (by kernel_rfl) (by decide) (λ_=>rfl) T.hd99
def T.aDS:bH Tryz.prog 23 (List Bool) (λl=>[.slice 1 (l.map bV)]):=iC Tryz.underlying23 (by kernel_rfl) (by decide) (λ_=>rfl) T.hd4
def T.hd5:bH Tryz.prog 5 Int y8:=cC0 Tryz.underlying5
def T.hd159:bH Tryz.prog 159 (List Int) (λl=>[.slice 1 (l.map y8)]):=iC Tryz.underlying159 (by kernel_rfl) (by decide) (λ_=>rfl) T.hd5
def T.aDG:bH Tryz.prog 212 AK AK.V:=dP (t:=212) Tryz.underlying212 (by kernel_rfl) (aP (k:=1) T.hd3 rfl (by kernel_rfl) (aP (k:=1) T.hd3 rfl (by kernel_rfl) (aP (k:=1) T.hd159 rfl (by kernel_rfl) (aP (k:=1) T.hd3 rfl (by kernel_rfl) jE)))) (λp=>⟨p.1,p.2.1,p.2.2.1,p.2.2.2.1⟩) (λp=>rfl)
def T.hd25:bH Tryz.prog 25 (List AK) (λl=>[.slice 4 (l.map AK.V)]):=iC Tryz.underlying25 (by kernel_rfl) (by decide) (λ_=>rfl) T.aDG
def T.hd27:bH Tryz.prog 27 AO AO.V:=dP (t:=27) Tryz.underlying27 (by kernel_rfl) (aP (k:=1) T.hd3 rfl (by kernel_rfl) (aP (k:=1) T.hd25 rfl (by kernel_rfl) jE)) (λp=>⟨p.1,p.2.1⟩) (λp=>rfl)
def T.aDD:bH Tryz.prog 161 AJ AJ.V:=dP (t:=161) Tryz.underlying161 (by kernel_rfl) (aP (k:=1) T.hd3 rfl (by kernel_rfl) (aP (k:=1) T.hd3 rfl (by kernel_rfl) (aP (k:=1) T.hd159 rfl (by kernel_rfl) (aP (k:=1) T.hd3 rfl (by kernel_rfl) jE)))) (λp=>⟨p.1,p.2.1,p.2.2.1,p.2.2.2.1⟩) (λp=>rfl)
def T.hd28:bH Tryz.prog 28 (List AJ) (λl=>[.slice 4 (l.map AJ.V)]):=iC Tryz.underlying28 (by kernel_rfl) (by decide) (λ_=>rfl) T.aDD
def T.aDT:bH Tryz.prog 30 AP AP.V:=dP (t:=30) Tryz.underlying30 (by kernel_rfl) (aP (k:=1) T.hd24 rfl (by kernel_rfl) (aP (k:=2) T.hd27 rfl (by kernel_rfl) (aP (k:=1) T.hd28 rfl (by kernel_rfl) jE))) (λp=>⟨p.1,p.2.1,p.2.2.1⟩) (λp=>rfl)
def T.hd9:bH Tryz.prog 9 ByteArray sV:=cAv Tryz.underlying9
def T.aDL:bH Tryz.prog 361 AV AV.V:=dP (t:=361) Tryz.underlying361 (by kernel_rfl) (aP (k:=1) T.hd3 rfl (by kernel_rfl) (aP (k:=1) T.hd3 rfl (by kernel_rfl) (aP (k:=1) T.hd3 rfl (by kernel_rfl) (aP (k:=1) T.hd4 rfl (by kernel_rfl) jE)))) (λp=>⟨p.1,p.2.1,p.2.2.1,p.2.2.2.1⟩) (λp=>rfl)
def T.aDH:bH Tryz.prog 215 (List AV) (λl=>[.slice 4 (l.map AV.V)]):=iC Tryz.underlying215 (by kernel_rfl) (by decide) (λ_=>rfl) T.aDL
def T.aDI:bH Tryz.prog 217 AH AH.V:=dP (t:=217) Tryz.underlying217 (by kernel_rfl) (aP (k:=1) T.hd3 rfl (by kernel_rfl) (aP (k:=1) T.hd3 rfl (by kernel_rfl) (aP (k:=1) T.aDH rfl (by kernel_rfl) jE))) (λp=>⟨p.1,p.2.1,p.2.2.1⟩) (λp=>rfl)
def T.hd104:bH Tryz.prog 104 (List AH) (λl=>[.slice 3 (l.map AH.V)]):=iC Tryz.underlying104 (by kernel_rfl) (by decide) (λ_=>rfl) T.aDI
def T.aDK:bH Tryz.prog 321 AY AY.V:=dP (t:=321) Tryz.underlying321 (by kernel_rfl) (aP (k:=1) T.hd3 rfl (by kernel_rfl) (aP (k:=1) T.hd3 rfl (by kernel_rfl) (aP (k:=1) T.hd3 rfl (by kernel_rfl) jE))) (λp=>⟨p.1,p.2.1,p.2.2.1⟩) (λp=>rfl)
def T.aCX:bH Tryz.prog 105 (List AY) (λl=>[.slice 3 (l.map AY.V)]):=iC Tryz.underlying105 (by kernel_rfl) (by decide) (λ_=>rfl) T.aDK
def T.aCY:bH Tryz.prog 107 AM AM.V:=dP (t:=107) Tryz.underlying107 (by kernel_rfl) (aP (k:=1) T.hd3 rfl (by kernel_rfl) (aP (k:=1) T.hd3 rfl (by kernel_rfl) (aP (k:=1) T.aCX rfl (by kernel_rfl) jE))) (λp=>⟨p.1,p.2.1,p.2.2.1⟩) (λp=>rfl)
def T.aCZ:bH Tryz.prog 108 (List Int) (λl=>[.slice 1 (l.map iV)]):=iC Tryz.underlying108 (by kernel_rfl) (by decide) (λ_=>rfl) T.hd3
def T.aDA:bH Tryz.prog 110 AB AB.V:=dP (t:=110) Tryz.underlying110 (by kernel_rfl) (aP (k:=1) T.hd9 rfl (by kernel_rfl) (aP (k:=1) T.hd104 rfl (by kernel_rfl) (aP (k:=3) T.aCY rfl (by kernel_rfl) (aP (k:=1) T.aCZ rfl (by kernel_rfl) jE)))) (λp=>⟨p.1,p.2.1,p.2.2.1,p.2.2.2.1⟩) (λp=>rfl)
def T.hd31:bH Tryz.prog 31 (List AB) (λl=>[.slice 6 (l.map AB.V)]):=iC Tryz.underlying31 (by kernel_rfl) (by decide) (λ_=>rfl) T.aDA
def T.aDU:bH Tryz.prog 33 A3 A3.V:=dP (t:=33) Tryz.underlying33 (by kernel_rfl) (aP (k:=1) T.hd3 rfl (by kernel_rfl) (aP (k:=1) T.hd3 rfl (by kernel_rfl) (aP (k:=1) T.hd3 rfl (by kernel_rfl) (aP (k:=1) T.hd3 rfl (by kernel_rfl) jE)))) (λp=>⟨p.1,p.2.1,p.2.2.1,p.2.2.2.1⟩) (λp=>rfl)
def T.hd113:bH Tryz.prog 113 AX AX.V:=dP (t:=113) Tryz.underlying113 (by kernel_rfl) (aP (k:=1) T.hd3 rfl (by kernel_rfl) (aP (k:=1) T.hd3 rfl (by kernel_rfl) jE)) (λp=>⟨p.1,p.2.1⟩) (λp=>rfl)
def T.hd115:bH Tryz.prog 115 AZ AZ.V:=dP (t:=115) Tryz.underlying115 (by kernel_rfl) (aP (k:=2) T.hd113 rfl (by kernel_rfl) (aP (k:=1) T.hd3 rfl (by kernel_rfl) (aP (k:=1) T.hd3 rfl (by kernel_rfl) (aP (k:=1) T.hd3 rfl (by kernel_rfl) jE)))) (λp=>⟨p.1,p.2.1,p.2.2.1,p.2.2.2.1⟩) (λp=>rfl)
def T.aDB:bH Tryz.prog 116 (List AZ) (λl=>[.slice 5 (l.map AZ.V)]):=iC Tryz.underlying116 (by kernel_rfl) (by decide) (λ_=>rfl) T.hd115
def T.aDC:bH Tryz.prog 118 AC AC.V:=dP (t:=118) Tryz.underlying118 (by kernel_rfl) (aP (k:=5) T.hd115 rfl (by kernel_rfl) (aP (k:=1) T.aDB rfl (by kernel_rfl) (aP (k:=1) T.hd3 rfl (by kernel_rfl) jE))) (λp=>⟨p.1,p.2.1,p.2.2.1⟩) (λp=>rfl)
def T.hd34:bH Tryz.prog 34 (List AC) (λl=>[.slice 7 (l.map AC.V)]):=iC Tryz.underlying34 (by kernel_rfl) (by decide) (λ_=>rfl) T.aDC
def T.aDF:bH Tryz.prog 195 AR AR.V:=dP (t:=195) Tryz.underlying195 (by kernel_rfl) (aP (k:=1) T.hd3 rfl (by kernel_rfl) (aP (k:=1) T.hd3 rfl (by kernel_rfl) (aP (k:=1) T.hd3 rfl (by kernel_rfl) (aP (k:=1) T.hd4 rfl (by kernel_rfl) jE)))) (λp=>⟨p.1,p.2.1,p.2.2.1,p.2.2.2.1⟩) (λp=>rfl)
def T.aDV:bH Tryz.prog 35 (List AR) (λl=>[.slice 4 (l.map AR.V)]):=iC Tryz.underlying35 (by kernel_rfl) (by decide) (λ_=>rfl) T.aDF
def T.aDW:bH Tryz.prog 37 AU AU.V:=dP (t:=37) Tryz.underlying37 (by kernel_rfl) (aP (k:=1) T.aDV rfl (by kernel_rfl) jE) (λp=>⟨p.1⟩) (λp=>rfl)
def T.hd39:bH Tryz.prog 39 AA AA.V:=dP (t:=39) Tryz.underlying39 (by kernel_rfl) (aP (k:=1) T.hd3 rfl (by kernel_rfl) (aP (k:=1) T.hd3 rfl (by kernel_rfl) (aP (k:=1) T.aDR rfl (by kernel_rfl) (aP (k:=1) T.aDS rfl (by kernel_rfl) (aP (k:=4) T.aDT rfl (by kernel_rfl) (aP (k:=1) T.hd31 rfl (by kernel_rfl) (aP (k:=4) T.aDU rfl (by kernel_rfl) (aP (k:=1) T.hd34 rfl (by kernel_rfl) (aP (k:=1) T.hd3 rfl (by kernel_rfl) (aP (k:=1) T.aDW rfl (by kernel_rfl) jE)))))))))) (λp=>⟨p.1,p.2.1,p.2.2.1,p.2.2.2.1,p.2.2.2.2.1,p.2.2.2.2.2.1,p.2.2.2.2.2.2.1,p.2.2.2.2.2.2.2.1,p.2.2.2.2.2.2.2.2.1,p.2.2.2.2.2.2.2.2.2.1⟩) (λp=>rfl)
def T.aDY:bH Tryz.prog 83 AS AS.V:=dP (t:=83) Tryz.underlying83 (by kernel_rfl) (aP (k:=1) T.hd3 rfl (by kernel_rfl) (aP (k:=1) T.hd3 rfl (by kernel_rfl) (aP (k:=1) T.hd3 rfl (by kernel_rfl) (aP (k:=1) T.hd3 rfl (by kernel_rfl) (aP (k:=1) T.hd4 rfl (by kernel_rfl) jE))))) (λp=>⟨p.1,p.2.1,p.2.2.1,p.2.2.2.1,p.2.2.2.2.1⟩) (λp=>rfl)
def T.aDX:bH Tryz.prog 40 (List AS) (λl=>[.slice 5 (l.map AS.V)]):=iC Tryz.underlying40 (by kernel_rfl) (by decide) (λ_=>rfl) T.aDY
def D.AK.aAX {w:Go.World}{X:Nat->Prop}{x:AK}(h:RdA w X x.V):x.ok:=mY h.2.2.1 (λ_ _=>trivial)
def D.AO.aAX {w:Go.World}{X:Nat->Prop}{x:AO}(h:RdA w X x.V):x.ok:=mY h.2.1 (λy h=>AK.aAX h)
def D.AJ.aAX {w:Go.World}{X:Nat->Prop}{x:AJ}(h:RdA w X x.V):x.ok:=mY h.2.2.1 (λ_ _=>trivial)
def D.AP.aAX {w:Go.World}{X:Nat->Prop}{x:AP}(h:RdA w X x.V):x.ok:=⟨mY h.1 (λ_ _=>trivial),AO.aAX ⟨h.2.1,h.2.2.1,trivial⟩,mY h.2.2.2.1 (λy h=>AJ.aAX h)⟩
def D.AU.aAX {w:Go.World}{X:Nat->Prop}{x:AU}(h:RdA w X x.V):x.ok:=mY h.1 (λ_ _=>trivial)
def D.AD.aAX {w:Go.World}{X:Nat->Prop}{x:AD}(h:RdA w X x.V):x.ok:=mY h.1 (λ_ _=>trivial)
def D.AF.aAX {w:Go.World}{X:Nat->Prop}{x:AF}(h:RdA w X x.V):x.ok:=⟨mY h.2.2.2.2.1 (λ_ _=>trivial),AD.aAX ⟨h.2.2.2.2.2.2.2.2.1,trivial⟩⟩
def D.AH.aAX {w:Go.World}{X:Nat->Prop}{x:AH}(h:RdA w X x.V):x.ok:=mY h.2.2.1 (λ_ _=>trivial)
def D.AM.aAX {w:Go.World}{X:Nat->Prop}{x:AM}(h:RdA w X x.V):x.ok:=mY h.2.2.1 (λ_ _=>trivial)
def D.AB.aAX {w:Go.World}{X:Nat->Prop}{x:AB}(h:RdA w X x.V):x.ok:=⟨bKc h.1,mY h.2.1 (λy h=>AH.aAX h),AM.aAX ⟨h.2.2.1,h.2.2.2.1,h.2.2.2.2.1,trivial⟩,mY h.2.2.2.2.2.1 (λ_ _=>trivial)⟩
def D.AC.aAX {w:Go.World}{X:Nat->Prop}{x:AC}(h:RdA w X x.V):x.ok:=mY h.2.2.2.2.2.1 (λ_ _=>trivial)
def D.AA.aAX {w:Go.World}{X:Nat->Prop}{x:AA}(h:RdA w X x.V):x.ok:=⟨mY h.2.2.1 (λy h=>AF.aAX h),mY h.2.2.2.1 (λ_ _=>trivial),AP.aAX ⟨h.2.2.2.2.1,h.2.2.2.2.2.1,h.2.2.2.2.2.2.1,h.2.2.2.2.2.2.2.1,trivial⟩,mY h.2.2.2.2.2.2.2.2.1 (λy h=>AB.aAX h),mY h.2.2.2.2.2.2.2.2.2.2.2.2.2.1 (λy h=>AC.aAX h),AU.aAX ⟨h.2.2.2.2.2.2.2.2.2.2.2.2.2.2.2.1,trivial⟩⟩
def D.AQ.aAX {w:Go.World}{X:Nat->Prop}{x:AQ}(h:RdA w X x.V):x.ok:=bKc h.2.1
def D.A0.aAX {w:Go.World}{X:Nat->Prop}{x:A0}(h:RdA w X x.V):x.ok:=⟨bKc h.1,bKc h.2.1⟩
def Kc (x0:AA)(x1:List AS)(x2:Int):(EV.bG Yn oF.ar (x0,x1,x2)).map EV.pJ=[.agg (AA.V x0), .slice 5 (x1.map AS.V), .int .i64 x2]:=by kernel_rfl
def Ep (args:Array Value)(w:Go.World):(callFunc 3 args).run Tryz.prog w= .ok (.enter 3 args) w:=by kernel_rfl
def Ke (x0:AA)(x1:List AS)(x2:Int)(h:x0.ok/\jD (λ(x:AS)=>True) x1):Spec Tryz.prog G0 3 [.agg (AA.V x0), .slice 5 (x1.map AS.V), .int .i64 x2] (λv=>v= .bool true):=by rw[<-Kc];exact(Kb (x0,x1,x2) true (aA h)).1 rfl rfl
def Er (x0:AA)(x1:List AS)(x2:Int):Spec Tryz.prog G0 3 [.agg (AA.V x0), .slice 5 (x1.map AS.V), .int .i64 x2] (λv=>v= .bool true):=bY6 (Ep) (Ke x0 x1 x2) (λw X h=>⟨AA.aAX (RdA.agg h.1),mY h.2.1 (λ_ _=>trivial)⟩)
end
end Go.VK
