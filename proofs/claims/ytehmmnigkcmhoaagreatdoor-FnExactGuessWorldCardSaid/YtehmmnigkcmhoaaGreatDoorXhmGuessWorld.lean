import Derived.Test.YtehmmnigkcmhoaaGreatDoorXmC
import Derived.Test.YtehmmnigkcmhoaaGreatDoorEVzbtor
/- Printed by wip/tools: models, walks, proofs. -/
set_option linter.unusedVariables false
set_option linter.unusedSimpArgs false
set_option maxRecDepth 100000
set_option maxHeartbeats 4000000
namespace Go.VK
open Go.RowKit Go.Proofs
noncomputable section
theorem T.hd3:bI Tryz.prog 3 Int iV:=bAy Tryz.underlying3
theorem T.aCW:bI Tryz.prog 105 D.aAO D.aAO.V:=dL (t:=105) Tryz.underlying105 (by kernel_rfl) (aP (k:=1) T.hd3 rfl (by kernel_rfl) (aP (k:=1) T.hd3 rfl (by kernel_rfl) (aP (k:=1) T.hd3 rfl (by kernel_rfl) (aP (k:=1) T.hd3 rfl (by kernel_rfl) gN)))) (fun p=>⟨p.1,p.2.1,p.2.2.1,p.2.2.2.1⟩) (fun p=>rfl)
theorem T.aDH:bI Tryz.prog 230 D.aAD D.aAD.V:=dL (t:=230) Tryz.underlying230 (by kernel_rfl) (aP (k:=1) T.hd3 rfl (by kernel_rfl) (aP (k:=1) T.hd3 rfl (by kernel_rfl) (aP (k:=1) T.hd3 rfl (by kernel_rfl) (aP (k:=1) T.hd3 rfl (by kernel_rfl) (aP (k:=1) T.hd3 rfl (by kernel_rfl) (aP (k:=1) T.hd3 rfl (by kernel_rfl) gN)))))) (fun p=>⟨p.1,p.2.1,p.2.2.1,p.2.2.2.1,p.2.2.2.2.1,p.2.2.2.2.2.1⟩) (fun p=>rfl)
theorem T.hd24:bI Tryz.prog 24 (List D.aAD) (fun l=>[.slice 6 (l.map D.aAD.V)]):=fQ Tryz.underlying24 (by kernel_rfl) (by decide) (fun _=>rfl) T.aDH
theorem T.hd4:bI Tryz.prog 4 Bool bV:=aYk Tryz.underlying4
theorem T.aDM:bI Tryz.prog 303 D.Entry D.Entry.V:=dL (t:=303) Tryz.underlying303 (by kernel_rfl) (aP (k:=1) T.hd3 rfl (by kernel_rfl) (aP (k:=1) T.hd3 rfl (by kernel_rfl) (aP (k:=1) T.hd3 rfl (by kernel_rfl) (aP (k:=1) T.hd4 rfl (by kernel_rfl) gN)))) (fun p=>⟨p.1,p.2.1,p.2.2.1,p.2.2.2.1⟩) (fun p=>rfl)
theorem T.aCX:bI Tryz.prog 106 (List D.Entry) (fun l=>[.slice 4 (l.map D.Entry.V)]):=fQ Tryz.underlying106 (by kernel_rfl) (by decide) (fun _=>rfl) T.aDM
theorem T.aCY:bI Tryz.prog 108 D.aAH D.aAH.V:=dL (t:=108) Tryz.underlying108 (by kernel_rfl) (aP (k:=1) T.aCX rfl (by kernel_rfl) gN) (fun p=>⟨p.1⟩) (fun p=>rfl)
theorem T.aCZ:bI Tryz.prog 110 D.Device D.Device.V:=dL (t:=110) Tryz.underlying110 (by kernel_rfl) (aP (k:=4) T.aCW rfl (by kernel_rfl) (aP (k:=1) T.hd24 rfl (by kernel_rfl) (aP (k:=1) T.hd3 rfl (by kernel_rfl) (aP (k:=1) T.hd3 rfl (by kernel_rfl) (aP (k:=1) T.hd3 rfl (by kernel_rfl) (aP (k:=1) T.aCY rfl (by kernel_rfl) gN)))))) (fun p=>⟨p.1,p.2.1,p.2.2.1,p.2.2.2.1,p.2.2.2.2.1,p.2.2.2.2.2.1⟩) (fun p=>rfl)
theorem T.aDU:bI Tryz.prog 22 (List D.Device) (fun l=>[.slice 9 (l.map D.Device.V)]):=fQ Tryz.underlying22 (by kernel_rfl) (by decide) (fun _=>rfl) T.aCZ
theorem T.aDV:bI Tryz.prog 23 (List Bool) (fun l=>[.slice 1 (l.map bV)]):=fQ Tryz.underlying23 (by kernel_rfl) (by decide) (fun _=>rfl) T.hd4
theorem T.hd5:bI Tryz.prog 5 Int y8:=bCn Tryz.underlying5
theorem T.aCS:bI Tryz.prog 198 (List Int) (fun l=>[.slice 1 (l.map y8)]):=fQ Tryz.underlying198 (by kernel_rfl) (by decide) (fun _=>rfl) T.hd5
theorem T.aDJ:bI Tryz.prog 268 D.Box D.Box.V:=dL (t:=268) Tryz.underlying268 (by kernel_rfl) (aP (k:=1) T.hd3 rfl (by kernel_rfl) (aP (k:=1) T.hd3 rfl (by kernel_rfl) (aP (k:=1) T.aCS rfl (by kernel_rfl) (aP (k:=1) T.hd3 rfl (by kernel_rfl) gN)))) (fun p=>⟨p.1,p.2.1,p.2.2.1,p.2.2.2.1⟩) (fun p=>rfl)
theorem T.hd25:bI Tryz.prog 25 (List D.Box) (fun l=>[.slice 4 (l.map D.Box.V)]):=fQ Tryz.underlying25 (by kernel_rfl) (by decide) (fun _=>rfl) T.aDJ
theorem T.hd27:bI Tryz.prog 27 D.aAF D.aAF.V:=dL (t:=27) Tryz.underlying27 (by kernel_rfl) (aP (k:=1) T.hd3 rfl (by kernel_rfl) (aP (k:=1) T.hd25 rfl (by kernel_rfl) gN)) (fun p=>⟨p.1,p.2.1⟩) (fun p=>rfl)
theorem T.aDG:bI Tryz.prog 200 D.aAB D.aAB.V:=dL (t:=200) Tryz.underlying200 (by kernel_rfl) (aP (k:=1) T.hd3 rfl (by kernel_rfl) (aP (k:=1) T.hd3 rfl (by kernel_rfl) (aP (k:=1) T.aCS rfl (by kernel_rfl) (aP (k:=1) T.hd3 rfl (by kernel_rfl) gN)))) (fun p=>⟨p.1,p.2.1,p.2.2.1,p.2.2.2.1⟩) (fun p=>rfl)
theorem T.hd28:bI Tryz.prog 28 (List D.aAB) (fun l=>[.slice 4 (l.map D.aAB.V)]):=fQ Tryz.underlying28 (by kernel_rfl) (by decide) (fun _=>rfl) T.aDG
theorem T.aDW:bI Tryz.prog 30 D.aAJ D.aAJ.V:=dL (t:=30) Tryz.underlying30 (by kernel_rfl) (aP (k:=1) T.hd24 rfl (by kernel_rfl) (aP (k:=2) T.hd27 rfl (by kernel_rfl) (aP (k:=1) T.hd28 rfl (by kernel_rfl) gN))) (fun p=>⟨p.1,p.2.1,p.2.2.1⟩) (fun p=>rfl)
theorem T.hd9:bI Tryz.prog 9 ByteArray sV:=bAz Tryz.underlying9
theorem T.aDO:bI Tryz.prog 315 D.aAG D.aAG.V:=dL (t:=315) Tryz.underlying315 (by kernel_rfl) (aP (k:=1) T.hd3 rfl (by kernel_rfl) (aP (k:=1) T.hd3 rfl (by kernel_rfl) (aP (k:=1) T.hd3 rfl (by kernel_rfl) (aP (k:=1) T.hd4 rfl (by kernel_rfl) gN)))) (fun p=>⟨p.1,p.2.1,p.2.2.1,p.2.2.2.1⟩) (fun p=>rfl)
theorem T.aDK:bI Tryz.prog 270 (List D.aAG) (fun l=>[.slice 4 (l.map D.aAG.V)]):=fQ Tryz.underlying270 (by kernel_rfl) (by decide) (fun _=>rfl) T.aDO
theorem T.aDL:bI Tryz.prog 272 D.aAE D.aAE.V:=dL (t:=272) Tryz.underlying272 (by kernel_rfl) (aP (k:=1) T.hd3 rfl (by kernel_rfl) (aP (k:=1) T.hd3 rfl (by kernel_rfl) (aP (k:=1) T.aDK rfl (by kernel_rfl) gN))) (fun p=>⟨p.1,p.2.1,p.2.2.1⟩) (fun p=>rfl)
theorem T.hd115:bI Tryz.prog 115 (List D.aAE) (fun l=>[.slice 3 (l.map D.aAE.V)]):=fQ Tryz.underlying115 (by kernel_rfl) (by decide) (fun _=>rfl) T.aDL
theorem T.aDN:bI Tryz.prog 306 D.aAK D.aAK.V:=dL (t:=306) Tryz.underlying306 (by kernel_rfl) (aP (k:=1) T.hd3 rfl (by kernel_rfl) (aP (k:=1) T.hd3 rfl (by kernel_rfl) (aP (k:=1) T.hd3 rfl (by kernel_rfl) gN))) (fun p=>⟨p.1,p.2.1,p.2.2.1⟩) (fun p=>rfl)
theorem T.aDA:bI Tryz.prog 116 (List D.aAK) (fun l=>[.slice 3 (l.map D.aAK.V)]):=fQ Tryz.underlying116 (by kernel_rfl) (by decide) (fun _=>rfl) T.aDN
theorem T.aDB:bI Tryz.prog 118 D.aAC D.aAC.V:=dL (t:=118) Tryz.underlying118 (by kernel_rfl) (aP (k:=1) T.hd3 rfl (by kernel_rfl) (aP (k:=1) T.hd3 rfl (by kernel_rfl) (aP (k:=1) T.aDA rfl (by kernel_rfl) gN))) (fun p=>⟨p.1,p.2.1,p.2.2.1⟩) (fun p=>rfl)
theorem T.aEA:bI Tryz.prog 40 (List Int) (fun l=>[.slice 1 (l.map iV)]):=fQ Tryz.underlying40 (by kernel_rfl) (by decide) (fun _=>rfl) T.hd3
theorem T.aDC:bI Tryz.prog 120 D.Site D.Site.V:=dL (t:=120) Tryz.underlying120 (by kernel_rfl) (aP (k:=1) T.hd9 rfl (by kernel_rfl) (aP (k:=1) T.hd115 rfl (by kernel_rfl) (aP (k:=3) T.aDB rfl (by kernel_rfl) (aP (k:=1) T.aEA rfl (by kernel_rfl) gN)))) (fun p=>⟨p.1,p.2.1,p.2.2.1,p.2.2.2.1⟩) (fun p=>rfl)
theorem T.hd31:bI Tryz.prog 31 (List D.Site) (fun l=>[.slice 6 (l.map D.Site.V)]):=fQ Tryz.underlying31 (by kernel_rfl) (by decide) (fun _=>rfl) T.aDC
theorem T.aDX:bI Tryz.prog 33 D.aAQ D.aAQ.V:=dL (t:=33) Tryz.underlying33 (by kernel_rfl) (aP (k:=1) T.hd3 rfl (by kernel_rfl) (aP (k:=1) T.hd3 rfl (by kernel_rfl) (aP (k:=1) T.hd3 rfl (by kernel_rfl) (aP (k:=1) T.hd3 rfl (by kernel_rfl) gN)))) (fun p=>⟨p.1,p.2.1,p.2.2.1,p.2.2.2.1⟩) (fun p=>rfl)
theorem T.aDD:bI Tryz.prog 123 D.aAN D.aAN.V:=dL (t:=123) Tryz.underlying123 (by kernel_rfl) (aP (k:=1) T.hd3 rfl (by kernel_rfl) (aP (k:=1) T.hd3 rfl (by kernel_rfl) gN)) (fun p=>⟨p.1,p.2.1⟩) (fun p=>rfl)
theorem T.aCR:bI Tryz.prog 125 D.aAL D.aAL.V:=dL (t:=125) Tryz.underlying125 (by kernel_rfl) (aP (k:=2) T.aDD rfl (by kernel_rfl) (aP (k:=1) T.hd3 rfl (by kernel_rfl) (aP (k:=1) T.hd3 rfl (by kernel_rfl) (aP (k:=1) T.hd3 rfl (by kernel_rfl) gN)))) (fun p=>⟨p.1,p.2.1,p.2.2.1,p.2.2.2.1⟩) (fun p=>rfl)
theorem T.aDE:bI Tryz.prog 126 (List D.aAL) (fun l=>[.slice 5 (l.map D.aAL.V)]):=fQ Tryz.underlying126 (by kernel_rfl) (by decide) (fun _=>rfl) T.aCR
theorem T.aDF:bI Tryz.prog 128 D.aAA D.aAA.V:=dL (t:=128) Tryz.underlying128 (by kernel_rfl) (aP (k:=5) T.aCR rfl (by kernel_rfl) (aP (k:=1) T.aDE rfl (by kernel_rfl) (aP (k:=1) T.hd3 rfl (by kernel_rfl) gN))) (fun p=>⟨p.1,p.2.1,p.2.2.1⟩) (fun p=>rfl)
theorem T.hd34:bI Tryz.prog 34 (List D.aAA) (fun l=>[.slice 7 (l.map D.aAA.V)]):=fQ Tryz.underlying34 (by kernel_rfl) (by decide) (fun _=>rfl) T.aDF
theorem T.aDI:bI Tryz.prog 238 D.aAM D.aAM.V:=dL (t:=238) Tryz.underlying238 (by kernel_rfl) (aP (k:=1) T.hd3 rfl (by kernel_rfl) (aP (k:=1) T.hd3 rfl (by kernel_rfl) (aP (k:=1) T.hd3 rfl (by kernel_rfl) (aP (k:=1) T.hd4 rfl (by kernel_rfl) gN)))) (fun p=>⟨p.1,p.2.1,p.2.2.1,p.2.2.2.1⟩) (fun p=>rfl)
theorem T.aDY:bI Tryz.prog 35 (List D.aAM) (fun l=>[.slice 4 (l.map D.aAM.V)]):=fQ Tryz.underlying35 (by kernel_rfl) (by decide) (fun _=>rfl) T.aDI
theorem T.aDZ:bI Tryz.prog 37 D.aAI D.aAI.V:=dL (t:=37) Tryz.underlying37 (by kernel_rfl) (aP (k:=1) T.aDY rfl (by kernel_rfl) gN) (fun p=>⟨p.1⟩) (fun p=>rfl)
theorem T.hd39:bI Tryz.prog 39 D.World D.World.V:=dL (t:=39) Tryz.underlying39 (by kernel_rfl) (aP (k:=1) T.hd3 rfl (by kernel_rfl) (aP (k:=1) T.hd3 rfl (by kernel_rfl) (aP (k:=1) T.aDU rfl (by kernel_rfl) (aP (k:=1) T.aDV rfl (by kernel_rfl) (aP (k:=4) T.aDW rfl (by kernel_rfl) (aP (k:=1) T.hd31 rfl (by kernel_rfl) (aP (k:=4) T.aDX rfl (by kernel_rfl) (aP (k:=1) T.hd34 rfl (by kernel_rfl) (aP (k:=1) T.hd3 rfl (by kernel_rfl) (aP (k:=1) T.aDZ rfl (by kernel_rfl) gN)))))))))) (fun p=>⟨p.1,p.2.1,p.2.2.1,p.2.2.2.1,p.2.2.2.2.1,p.2.2.2.2.2.1,p.2.2.2.2.2.2.1,p.2.2.2.2.2.2.2.1,p.2.2.2.2.2.2.2.2.1,p.2.2.2.2.2.2.2.2.2.1⟩) (fun p=>rfl)
theorem D.Box.aAX {w:Go.World}{X:Nat→Prop}{x:D.Box}(h:J4 w X x.V):x.ok:=jL h.2.2.1 (fun _ _=>trivial)
theorem D.aAF.aAX {w:Go.World}{X:Nat→Prop}{x:D.aAF}(h:J4 w X x.V):x.ok:=jL h.2.1 (fun y h=>D.Box.aAX h)
theorem D.aAB.aAX {w:Go.World}{X:Nat→Prop}{x:D.aAB}(h:J4 w X x.V):x.ok:=jL h.2.2.1 (fun _ _=>trivial)
theorem D.aAJ.aAX {w:Go.World}{X:Nat→Prop}{x:D.aAJ}(h:J4 w X x.V):x.ok:=⟨jL h.1 (fun _ _=>trivial),D.aAF.aAX ⟨h.2.1,h.2.2.1,trivial⟩,jL h.2.2.2.1 (fun y h=>D.aAB.aAX h)⟩
theorem D.aAI.aAX {w:Go.World}{X:Nat→Prop}{x:D.aAI}(h:J4 w X x.V):x.ok:=jL h.1 (fun _ _=>trivial)
theorem D.aAH.aAX {w:Go.World}{X:Nat→Prop}{x:D.aAH}(h:J4 w X x.V):x.ok:=jL h.1 (fun _ _=>trivial)
theorem D.Device.aAX {w:Go.World}{X:Nat→Prop}{x:D.Device}(h:J4 w X x.V):x.ok:=⟨jL h.2.2.2.2.1 (fun _ _=>trivial),D.aAH.aAX ⟨h.2.2.2.2.2.2.2.2.1,trivial⟩⟩
theorem D.aAE.aAX {w:Go.World}{X:Nat→Prop}{x:D.aAE}(h:J4 w X x.V):x.ok:=jL h.2.2.1 (fun _ _=>trivial)
theorem D.aAC.aAX {w:Go.World}{X:Nat→Prop}{x:D.aAC}(h:J4 w X x.V):x.ok:=jL h.2.2.1 (fun _ _=>trivial)
theorem D.Site.aAX {w:Go.World}{X:Nat→Prop}{x:D.Site}(h:J4 w X x.V):x.ok:=⟨bB2 h.1,jL h.2.1 (fun y h=>D.aAE.aAX h),D.aAC.aAX ⟨h.2.2.1,h.2.2.2.1,h.2.2.2.2.1,trivial⟩,jL h.2.2.2.2.2.1 (fun _ _=>trivial)⟩
theorem D.aAA.aAX {w:Go.World}{X:Nat→Prop}{x:D.aAA}(h:J4 w X x.V):x.ok:=jL h.2.2.2.2.2.1 (fun _ _=>trivial)
theorem D.World.aAX {w:Go.World}{X:Nat→Prop}{x:D.World}(h:J4 w X x.V):x.ok:=⟨jL h.2.2.1 (fun y h=>D.Device.aAX h),jL h.2.2.2.1 (fun _ _=>trivial),D.aAJ.aAX ⟨h.2.2.2.2.1,h.2.2.2.2.2.1,h.2.2.2.2.2.2.1,h.2.2.2.2.2.2.2.1,trivial⟩,jL h.2.2.2.2.2.2.2.2.1 (fun y h=>D.Site.aAX h),jL h.2.2.2.2.2.2.2.2.2.2.2.2.2.1 (fun y h=>D.aAA.aAX h),D.aAI.aAX ⟨h.2.2.2.2.2.2.2.2.2.2.2.2.2.2.2.1,trivial⟩⟩
theorem wQ (x0:D.World)(x1:Int):(EV.aY Yn kH.ar (x0,x1)).map EV.jZ=[.agg (D.World.V x0), .int .i64 x1]:=by kernel_rfl
theorem uS (args:Array Value)(w:Go.World):(callFunc 4 args).run Tryz.prog w= .ok (.enter 4 args) w:=by kernel_rfl
theorem wR (x0:D.World)(x1:Int)(h:x0.ok):Spec Tryz.prog G0 4 [.agg (D.World.V x0), .int .i64 x1] (fun v=>v= .bool true):=by
 rw[←wQ]
 exact(wP (x0,x1) true (aG h)).1 rfl rfl
theorem uT (x0:D.World)(x1:Int):Spec Tryz.prog G0 4 [.agg (D.World.V x0), .int .i64 x1] (fun v=>v= .bool true):=aZk (uS) (wR x0 x1) (fun w X h=>D.World.aAX (J4.agg h.1))
end
end Go.VK
