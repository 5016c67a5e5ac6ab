import Derived.Test.YtehmmnigkcmhoaaGreatDoorXmC
import Derived.Test.YtehmmnigkcmhoaaGreatDoorEVzbtor
/- Printed by wip/tools: models, walks, proofs. -/
set_option linter.unusedVariables false
set_option linter.unusedSimpArgs false
set_option maxRecDepth 100000
set_option maxHeartbeats 4000000
namespace Go.VK
open Go.RowKit Go.Proofs
noncomputable section
theorem T.hd3:bG Tryz.prog 3 Int iV:=bAm Tryz.underlying3
theorem T.aCW:bG Tryz.prog 105 D.aAO D.aAO.V:=dL (t:=105) Tryz.underlying105 (by kernel_rfl) (aP (k:=1) T.hd3 rfl (by kernel_rfl) (aP (k:=1) T.hd3 rfl (by kernel_rfl) (aP (k:=1) T.hd3 rfl (by kernel_rfl) (aP (k:=1) T.hd3 rfl (by kernel_rfl) gN)))) (fun p=>⟨p.1,p.2.1,p.2.2.1,p.2.2.2.1⟩) (fun p=>rfl)
theorem T.aDH:bG Tryz.prog 230 D.aAD D.aAD.V:=dL (t:=230) Tryz.underlying230 (by kernel_rfl) (aP (k:=1) T.hd3 rfl (by kernel_rfl) (aP (k:=1) T.hd3 rfl (by kernel_rfl) (aP (k:=1) T.hd3 rfl (by kernel_rfl) (aP (k:=1) T.hd3 rfl (by kernel_rfl) (aP (k:=1) T.hd3 rfl (by kernel_rfl) (aP (k:=1) T.hd3 rfl (by kernel_rfl) gN)))))) (fun p=>⟨p.1,p.2.1,p.2.2.1,p.2.2.2.1,p.2.2.2.2.1,p.2.2.2.2.2.1⟩) (fun p=>rfl)
theorem T.hd24:bG Tryz.prog 24 (List D.aAD) (fun l=>[.slice 6 (l.map D.aAD.V)]):=fP Tryz.underlying24 (by kernel_rfl) (by decide) (fun _=>rfl) T.aDH
theorem T.hd4:bG Tryz.prog 4 Bool bV:=aX8 Tryz.underlying4
theorem T.aDM:bG Tryz.prog 303 D.Entry D.Entry.V:=dL (t:=303) Tryz.underlying303 (by kernel_rfl) (aP (k:=1) T.hd3 rfl (by kernel_rfl) (aP (k:=1) T.hd3 rfl (by kernel_rfl) (aP (k:=1) T.hd3 rfl (by kernel_rfl) (aP (k:=1) T.hd4 rfl (by kernel_rfl) gN)))) (fun p=>⟨p.1,p.2.1,p.2.2.1,p.2.2.2.1⟩) (fun p=>rfl)
theorem T.aCX:bG Tryz.prog 106 (List D.Entry) (fun l=>[.slice 4 (l.map D.Entry.V)]):=fP Tryz.underlying106 (by kernel_rfl) (by decide) (fun _=>rfl) T.aDM
theorem T.aCY:bG Tryz.prog 108 D.aAH D.aAH.V:=dL (t:=108) Tryz.underlying108 (by kernel_rfl) (aP (k:=1) T.aCX rfl (by kernel_rfl) gN) (fun p=>⟨p.1⟩) (fun p=>rfl)
theorem T.aCZ:bG Tryz.prog 110 D.Device D.Device.V:=dL (t:=110) Tryz.underlying110 (by kernel_rfl) (aP (k:=4) T.aCW rfl (by kernel_rfl) (aP (k:=1) T.hd24 rfl (by kernel_rfl) (aP (k:=1) T.hd3 rfl (by kernel_rfl) (aP (k:=1) T.hd3 rfl (by kernel_rfl) (aP (k:=1) T.hd3 rfl (by kernel_rfl) (aP (k:=1) T.aCY rfl (by kernel_rfl) gN)))))) (fun p=>⟨p.1,p.2.1,p.2.2.1,p.2.2.2.1,p.2.2.2.2.1,p.2.2.2.2.2.1⟩) (fun p=>rfl)
theorem T.aDV:bG Tryz.prog 22 (List D.Device) (fun l=>[.slice 9 (l.map D.Device.V)]):=fP Tryz.underlying22 (by kernel_rfl) (by decide) (fun _=>rfl) T.aCZ
theorem T.aDW:bG Tryz.prog 23 (List Bool) (fun l=>[.slice 1 (l.map bV)]):=fP Tryz.underlying23 (by kernel_rfl) (by decide) (fun _=>rfl) T.hd4
theorem T.hd5:bG Tryz.prog 5 Int y8:=bCb Tryz.underlying5
theorem T.aCS:bG Tryz.prog 198 (List Int) (fun l=>[.slice 1 (l.map y8)]):=fP Tryz.underlying198 (by kernel_rfl) (by decide) (fun _=>rfl) T.hd5
theorem T.aDJ:bG Tryz.prog 268 D.Box D.Box.V:=dL (t:=268) Tryz.underlying268 (by kernel_rfl) (aP (k:=1) T.hd3 rfl (by kernel_rfl) (aP (k:=1) T.hd3 rfl (by kernel_rfl) (aP (k:=1) T.aCS rfl (by kernel_rfl) (aP (k:=1) T.hd3 rfl (by kernel_rfl) gN)))) (fun p=>⟨p.1,p.2.1,p.2.2.1,p.2.2.2.1⟩) (fun p=>rfl)
theorem T.hd25:bG Tryz.prog 25 (List D.Box) (fun l=>[.slice 4 (l.map D.Box.V)]):=fP Tryz.underlying25 (by kernel_rfl) (by decide) (fun _=>rfl) T.aDJ
theorem T.hd27:bG Tryz.prog 27 D.aAF D.aAF.V:=dL (t:=27) Tryz.underlying27 (by kernel_rfl) (aP (k:=1) T.hd3 rfl (by kernel_rfl) (aP (k:=1) T.hd25 rfl (by kernel_rfl) gN)) (fun p=>⟨p.1,p.2.1⟩) (fun p=>rfl)
theorem T.aDG:bG Tryz.prog 200 D.aAB D.aAB.V:=dL (t:=200) Tryz.underlying200 (by kernel_rfl) (aP (k:=1) T.hd3 rfl (by kernel_rfl) (aP (k:=1) T.hd3 rfl (by kernel_rfl) (aP (k:=1) T.aCS rfl (by kernel_rfl) (aP (k:=1) T.hd3 rfl (by kernel_rfl) gN)))) (fun p=>⟨p.1,p.2.1,p.2.2.1,p.2.2.2.1⟩) (fun p=>rfl)
theorem T.hd28:bG Tryz.prog 28 (List D.aAB) (fun l=>[.slice 4 (l.map D.aAB.V)]):=fP Tryz.underlying28 (by kernel_rfl) (by decide) (fun _=>rfl) T.aDG
theorem T.aDX:bG Tryz.prog 30 D.aAJ D.aAJ.V:=dL (t:=30) Tryz.underlying30 (by kernel_rfl) (aP (k:=1) T.hd24 rfl (by kernel_rfl) (aP (k:=2) T.hd27 rfl (by kernel_rfl) (aP (k:=1) T.hd28 rfl (by kernel_rfl) gN))) (fun p=>⟨p.1,p.2.1,p.2.2.1⟩) (fun p=>rfl)
theorem T.hd9:bG Tryz.prog 9 ByteArray sV:=bAn Tryz.underlying9
theorem T.aDO:bG Tryz.prog 315 D.aAG D.aAG.V:=dL (t:=315) Tryz.underlying315 (by kernel_rfl) (aP (k:=1) T.hd3 rfl (by kernel_rfl) (aP (k:=1) T.hd3 rfl (by kernel_rfl) (aP (k:=1) T.hd3 rfl (by kernel_rfl) (aP (k:=1) T.hd4 rfl (by kernel_rfl) gN)))) (fun p=>⟨p.1,p.2.1,p.2.2.1,p.2.2.2.1⟩) (fun p=>rfl)
theorem T.aDK:bG Tryz.prog 270 (List D.aAG) (fun l=>[.slice 4 (l.map D.aAG.V)]):=fP Tryz.underlying270 (by kernel_rfl) (by decide) (fun _=>rfl) T.aDO
theorem T.aDL:bG Tryz.prog 272 D.aAE D.aAE.V:=dL (t:=272) Tryz.underlying272 (by kernel_rfl) (aP (k:=1) T.hd3 rfl (by kernel_rfl) (aP (k:=1) T.hd3 rfl (by kernel_rfl) (aP (k:=1) T.aDK rfl (by kernel_rfl) gN))) (fun p=>⟨p.1,p.2.1,p.2.2.1⟩) (fun p=>rfl)
theorem T.hd115:bG Tryz.prog 115 (List D.aAE) (fun l=>[.slice 3 (l.map D.aAE.V)]):=fP Tryz.underlying115 (by kernel_rfl) (by decide) (fun _=>rfl) T.aDL
theorem T.aDN:bG Tryz.prog 306 D.aAK D.aAK.V:=dL (t:=306) Tryz.underlying306 (by kernel_rfl) (aP (k:=1) T.hd3 rfl (by kernel_rfl) (aP (k:=1) T.hd3 rfl (by kernel_rfl) (aP (k:=1) T.hd3 rfl (by kernel_rfl) gN))) (fun p=>⟨p.1,p.2.1,p.2.2.1⟩) (fun p=>rfl)
theorem T.aDA:bG Tryz.prog 116 (List D.aAK) (fun l=>[.slice 3 (l.map D.aAK.V)]):=fP Tryz.underlying116 (by kernel_rfl) (by decide) (fun _=>rfl) T.aDN
theorem T.aDB:bG Tryz.prog 118 D.aAC D.aAC.V:=dL (t:=118) Tryz.underlying118 (by kernel_rfl) (aP (k:=1) T.hd3 rfl (by kernel_rfl) (aP (k:=1) T.hd3 rfl (by kernel_rfl) (aP (k:=1) T.aDA rfl (by kernel_rfl) gN))) (fun p=>⟨p.1,p.2.1,p.2.2.1⟩) (fun p=>rfl)
theorem T.aDS:bG Tryz.prog 40 (List Int) (fun l=>[.slice 1 (l.map iV)]):=fP Tryz.underlying40 (by kernel_rfl) (by decide) (fun _=>rfl) T.hd3
theorem T.aDC:bG Tryz.prog 120 D.Site D.Site.V:=dL (t:=120) Tryz.underlying120 (by kernel_rfl) (aP (k:=1) T.hd9 rfl (by kernel_rfl) (aP (k:=1) T.hd115 rfl (by kernel_rfl) (aP (k:=3) T.aDB rfl (by kernel_rfl) (aP (k:=1) T.aDS rfl (by kernel_rfl) gN)))) (fun p=>⟨p.1,p.2.1,p.2.2.1,p.2.2.2.1⟩) (fun p=>rfl)
theorem T.hd31:bG Tryz.prog 31 (List D.Site) (fun l=>[.slice 6 (l.map D.Site.V)]):=fP Tryz.underlying31 (by kernel_rfl) (by decide) (fun _=>rfl) T.aDC
theorem T.aDY:bG Tryz.prog 33 D.aAQ D.aAQ.V:=dL (t:=33) Tryz.underlying33 (by kernel_rfl) (aP (k:=1) T.hd3 rfl (by kernel_rfl) (aP (k:=1) T.hd3 rfl (by kernel_rfl) (aP (k:=1) T.hd3 rfl (by kernel_rfl) (aP (k:=1) T.hd3 rfl (by kernel_rfl) gN)))) (fun p=>⟨p.1,p.2.1,p.2.2.1,p.2.2.2.1⟩) (fun p=>rfl)
theorem T.aDD:bG Tryz.prog 123 D.aAN D.aAN.V:=dL (t:=123) Tryz.underlying123 (by kernel_rfl) (aP (k:=1) T.hd3 rfl (by kernel_rfl) (aP (k:=1) T.hd3 rfl (by kernel_rfl) gN)) (fun p=>⟨p.1,p.2.1⟩) (fun p=>rfl)
theorem T.aCR:bG Tryz.prog 125 D.aAL D.aAL.V:=dL (t:=125) Tryz.underlying125 (by kernel_rfl) (aP (k:=2) T.aDD rfl (by kernel_rfl) (aP (k:=1) T.hd3 rfl (by kernel_rfl) (aP (k:=1) T.hd3 rfl (by kernel_rfl) (aP (k:=1) T.hd3 rfl (by kernel_rfl) gN)))) (fun p=>⟨p.1,p.2.1,p.2.2.1,p.2.2.2.1⟩) (fun p=>rfl)
theorem T.aDE:bG Tryz.prog 126 (List D.aAL) (fun l=>[.slice 5 (l.map D.aAL.V)]):=fP Tryz.underlying126 (by kernel_rfl) (by decide) (fun _=>rfl) T.aCR
theorem T.aDF:bG Tryz.prog 128 D.aAA D.aAA.V:=dL (t:=128) Tryz.underlying128 (by kernel_rfl) (aP (k:=5) T.aCR rfl (by kernel_rfl) (aP (k:=1) T.aDE rfl (by kernel_rfl) (aP (k:=1) T.hd3 rfl (by kernel_rfl) gN))) (fun p=>⟨p.1,p.2.1,p.2.2.1⟩) (fun p=>rfl)
theorem T.hd34:bG Tryz.prog 34 (List D.aAA) (fun l=>[.slice 7 (l.map D.aAA.V)]):=fP Tryz.underlying34 (by kernel_rfl) (by decide) (fun _=>rfl) T.aDF
theorem T.aDI:bG Tryz.prog 238 D.aAM D.aAM.V:=dL (t:=238) Tryz.underlying238 (by kernel_rfl) (aP (k:=1) T.hd3 rfl (by kernel_rfl) (aP (k:=1) T.hd3 rfl (by kernel_rfl) (aP (k:=1) T.hd3 rfl (by kernel_rfl) (aP (k:=1) T.hd4 rfl (by kernel_rfl) gN)))) (fun p=>⟨p.1,p.2.1,p.2.2.1,p.2.2.2.1⟩) (fun p=>rfl)
theorem T.aDZ:bG Tryz.prog 35 (List D.aAM) (fun l=>[.slice 4 (l.map D.aAM.V)]):=fP Tryz.underlying35 (by kernel_rfl) (by decide) (fun _=>rfl) T.aDI
theorem T.aEA:bG Tryz.prog 37 D.aAI D.aAI.V:=dL (t:=37) Tryz.underlying37 (by kernel_rfl) (aP (k:=1) T.aDZ rfl (by kernel_rfl) gN) (fun p=>⟨p.1⟩) (fun p=>rfl)
theorem T.hd39:bG Tryz.prog 39 D.World D.World.V:=dL (t:=39) Tryz.underlying39 (by kernel_rfl) (aP (k:=1) T.hd3 rfl (by kernel_rfl) (aP (k:=1) T.hd3 rfl (by kernel_rfl) (aP (k:=1) T.aDV rfl (by kernel_rfl) (aP (k:=1) T.aDW rfl (by kernel_rfl) (aP (k:=4) T.aDX rfl (by kernel_rfl) (aP (k:=1) T.hd31 rfl (by kernel_rfl) (aP (k:=4) T.aDY rfl (by kernel_rfl) (aP (k:=1) T.hd34 rfl (by kernel_rfl) (aP (k:=1) T.hd3 rfl (by kernel_rfl) (aP (k:=1) T.aEA rfl (by kernel_rfl) gN)))))))))) (fun p=>⟨p.1,p.2.1,p.2.2.1,p.2.2.2.1,p.2.2.2.2.1,p.2.2.2.2.2.1,p.2.2.2.2.2.2.1,p.2.2.2.2.2.2.2.1,p.2.2.2.2.2.2.2.2.1,p.2.2.2.2.2.2.2.2.2.1⟩) (fun p=>rfl)
theorem D.Box.aAX {w:Go.World}{X:Nat→Prop}{x:D.Box}(h:I5 w X x.V):x.ok:=jL h.2.2.1 (fun _ _=>trivial)
theorem D.aAF.aAX {w:Go.World}{X:Nat→Prop}{x:D.aAF}(h:I5 w X x.V):x.ok:=jL h.2.1 (fun y h=>D.Box.aAX h)
theorem D.aAB.aAX {w:Go.World}{X:Nat→Prop}{x:D.aAB}(h:I5 w X x.V):x.ok:=jL h.2.2.1 (fun _ _=>trivial)
theorem D.aAJ.aAX {w:Go.World}{X:Nat→Prop}{x:D.aAJ}(h:I5 w X x.V):x.ok:=⟨jL h.1 (fun _ _=>trivial),D.aAF.aAX ⟨h.2.1,h.2.2.1,trivial⟩,jL h.2.2.2.1 (fun y h=>D.aAB.aAX h)⟩
theorem D.aAI.aAX {w:Go.World}{X:Nat→Prop}{x:D.aAI}(h:I5 w X x.V):x.ok:=jL h.1 (fun _ _=>trivial)
theorem D.aAH.aAX {w:Go.World}{X:Nat→Prop}{x:D.aAH}(h:I5 w X x.V):x.ok:=jL h.1 (fun _ _=>trivial)
theorem D.Device.aAX {w:Go.World}{X:Nat→Prop}{x:D.Device}(h:I5 w X x.V):x.ok:=⟨jL h.2.2.2.2.1 (fun _ _=>trivial),D.aAH.aAX ⟨h.2.2.2.2.2.2.2.2.1,trivial⟩⟩
theorem D.aAE.aAX {w:Go.World}{X:Nat→Prop}{x:D.aAE}(h:I5 w X x.V):x.ok:=jL h.2.2.1 (fun _ _=>trivial)
theorem D.aAC.aAX {w:Go.World}{X:Nat→Prop}{x:D.aAC}(h:I5 w X x.V):x.ok:=jL h.2.2.1 (fun _ _=>trivial)
theorem D.Site.aAX {w:Go.World}{X:Nat→Prop}{x:D.Site}(h:I5 w X x.V):x.ok:=⟨bBq h.1,jL h.2.1 (fun y h=>D.aAE.aAX h),D.aAC.aAX ⟨h.2.2.1,h.2.2.2.1,h.2.2.2.2.1,trivial⟩,jL h.2.2.2.2.2.1 (fun _ _=>trivial)⟩
theorem D.aAA.aAX {w:Go.World}{X:Nat→Prop}{x:D.aAA}(h:I5 w X x.V):x.ok:=jL h.2.2.2.2.2.1 (fun _ _=>trivial)
theorem D.World.aAX {w:Go.World}{X:Nat→Prop}{x:D.World}(h:I5 w X x.V):x.ok:=⟨jL h.2.2.1 (fun y h=>D.Device.aAX h),jL h.2.2.2.1 (fun _ _=>trivial),D.aAJ.aAX ⟨h.2.2.2.2.1,h.2.2.2.2.2.1,h.2.2.2.2.2.2.1,h.2.2.2.2.2.2.2.1,trivial⟩,jL h.2.2.2.2.2.2.2.2.1 (fun y h=>D.Site.aAX h),jL h.2.2.2.2.2.2.2.2.2.2.2.2.2.1 (fun y h=>D.aAA.aAX h),D.aAI.aAX ⟨h.2.2.2.2.2.2.2.2.2.2.2.2.2.2.2.1,trivial⟩⟩
theorem uJ (x0:D.World)(x1:List Int)(x2:Int):(EV.aY Yn jP.ar (x0,x1,x2)).map EV.kD=[.agg (D.World.V x0), .slice 1 (x1.map iV), .int .i64 x2]:=by kernel_rfl
theorem rA (args:Array Value)(w:Go.World):(callFunc 3 args).run Tryz.prog w= .ok (.enter 3 args) w:=by kernel_rfl
theorem uK (x0:D.World)(x1:List Int)(x2:Int)(h:x0.ok):Spec Tryz.prog G0 3 [.agg (D.World.V x0), .slice 1 (x1.map iV), .int .i64 x2] (fun v=>v= .bool true):=by
 rw[←uJ]
 exact(uI (x0,x1,x2) true (aG h)).1 rfl rfl
theorem rC (x0:D.World)(x1:List Int)(x2:Int):Spec Tryz.prog G0 3 [.agg (D.World.V x0), .slice 1 (x1.map iV), .int .i64 x2] (fun v=>v= .bool true):=aY8 (rA) (uK x0 x1 x2) (fun w X h=>D.World.aAX (I5.agg h.1))
end
end Go.VK
