import Derived.Test.YtajiimgjfnnjlaaGreatDoorXkC
import Derived.Test.YtajiimgjfnnjlaaGreatDoorEVzbtor
/- Printed by wip/tools: models, walks, proofs. -/
set_option linter.unusedVariables false
set_option linter.unusedSimpArgs false
set_option maxRecDepth 100000
set_option maxHeartbeats 4000000
namespace Go.VK
open Go.RowKit Go.Proofs
noncomputable section
theorem T.hd3:aP Tryz.prog 3 Int iV:=aUo Tryz.underlying3
theorem T.aDX:aP Tryz.prog 85 D.aAL D.aAL.V:=bH (t:=85) Tryz.underlying85 (by kernel_rfl) (aG (k:=1) T.hd3 rfl (by kernel_rfl) (aG (k:=1) T.hd3 rfl (by kernel_rfl) (aG (k:=1) T.hd3 rfl (by kernel_rfl) (aG (k:=1) T.hd3 rfl (by kernel_rfl) dW)))) (fun p=>⟨p.1,p.2.1,p.2.2.1,p.2.2.2.1⟩) (fun p=>rfl)
theorem T.aDE:aP Tryz.prog 178 D.aAE D.aAE.V:=bH (t:=178) Tryz.underlying178 (by kernel_rfl) (aG (k:=1) T.hd3 rfl (by kernel_rfl) (aG (k:=1) T.hd3 rfl (by kernel_rfl) (aG (k:=1) T.hd3 rfl (by kernel_rfl) (aG (k:=1) T.hd3 rfl (by kernel_rfl) (aG (k:=1) T.hd3 rfl (by kernel_rfl) (aG (k:=1) T.hd3 rfl (by kernel_rfl) dW)))))) (fun p=>⟨p.1,p.2.1,p.2.2.1,p.2.2.2.1,p.2.2.2.2.1,p.2.2.2.2.2.1⟩) (fun p=>rfl)
theorem T.hd24:aP Tryz.prog 24 (List D.aAE) (fun l=>[.slice 6 (l.map D.aAE.V)]):=dE Tryz.underlying24 (by kernel_rfl) (by decide) (fun _=>rfl) T.aDE
theorem T.hd4:aP Tryz.prog 4 Bool bV:=aSk Tryz.underlying4
theorem T.aDJ:aP Tryz.prog 274 D.Entry D.Entry.V:=bH (t:=274) Tryz.underlying274 (by kernel_rfl) (aG (k:=1) T.hd3 rfl (by kernel_rfl) (aG (k:=1) T.hd3 rfl (by kernel_rfl) (aG (k:=1) T.hd3 rfl (by kernel_rfl) (aG (k:=1) T.hd4 rfl (by kernel_rfl) dW)))) (fun p=>⟨p.1,p.2.1,p.2.2.1,p.2.2.2.1⟩) (fun p=>rfl)
theorem T.aDY:aP Tryz.prog 86 (List D.Entry) (fun l=>[.slice 4 (l.map D.Entry.V)]):=dE Tryz.underlying86 (by kernel_rfl) (by decide) (fun _=>rfl) T.aDJ
theorem T.aDZ:aP Tryz.prog 88 D.aAN D.aAN.V:=bH (t:=88) Tryz.underlying88 (by kernel_rfl) (aG (k:=1) T.aDY rfl (by kernel_rfl) dW) (fun p=>⟨p.1⟩) (fun p=>rfl)
theorem T.hd90:aP Tryz.prog 90 D.Device D.Device.V:=bH (t:=90) Tryz.underlying90 (by kernel_rfl) (aG (k:=4) T.aDX rfl (by kernel_rfl) (aG (k:=1) T.hd24 rfl (by kernel_rfl) (aG (k:=1) T.hd3 rfl (by kernel_rfl) (aG (k:=1) T.hd3 rfl (by kernel_rfl) (aG (k:=1) T.hd3 rfl (by kernel_rfl) (aG (k:=1) T.aDZ rfl (by kernel_rfl) dW)))))) (fun p=>⟨p.1,p.2.1,p.2.2.1,p.2.2.2.1,p.2.2.2.2.1,p.2.2.2.2.2.1⟩) (fun p=>rfl)
theorem T.aDR:aP Tryz.prog 22 (List D.Device) (fun l=>[.slice 9 (l.map D.Device.V)]):=dE Tryz.underlying22 (by kernel_rfl) (by decide) (fun _=>rfl) T.hd90
theorem T.aDS:aP Tryz.prog 23 (List Bool) (fun l=>[.slice 1 (l.map bV)]):=dE Tryz.underlying23 (by kernel_rfl) (by decide) (fun _=>rfl) T.hd4
theorem T.hd5:aP Tryz.prog 5 Int y8:=aV8 Tryz.underlying5
theorem T.aCY:aP Tryz.prog 155 (List Int) (fun l=>[.slice 1 (l.map y8)]):=dE Tryz.underlying155 (by kernel_rfl) (by decide) (fun _=>rfl) T.hd5
theorem T.aDG:aP Tryz.prog 206 D.Box D.Box.V:=bH (t:=206) Tryz.underlying206 (by kernel_rfl) (aG (k:=1) T.hd3 rfl (by kernel_rfl) (aG (k:=1) T.hd3 rfl (by kernel_rfl) (aG (k:=1) T.aCY rfl (by kernel_rfl) (aG (k:=1) T.hd3 rfl (by kernel_rfl) dW)))) (fun p=>⟨p.1,p.2.1,p.2.2.1,p.2.2.2.1⟩) (fun p=>rfl)
theorem T.hd25:aP Tryz.prog 25 (List D.Box) (fun l=>[.slice 4 (l.map D.Box.V)]):=dE Tryz.underlying25 (by kernel_rfl) (by decide) (fun _=>rfl) T.aDG
theorem T.hd27:aP Tryz.prog 27 D.aAF D.aAF.V:=bH (t:=27) Tryz.underlying27 (by kernel_rfl) (aG (k:=1) T.hd3 rfl (by kernel_rfl) (aG (k:=1) T.hd25 rfl (by kernel_rfl) dW)) (fun p=>⟨p.1,p.2.1⟩) (fun p=>rfl)
theorem T.hd157:aP Tryz.prog 157 D.aAB D.aAB.V:=bH (t:=157) Tryz.underlying157 (by kernel_rfl) (aG (k:=1) T.hd3 rfl (by kernel_rfl) (aG (k:=1) T.hd3 rfl (by kernel_rfl) (aG (k:=1) T.aCY rfl (by kernel_rfl) (aG (k:=1) T.hd3 rfl (by kernel_rfl) dW)))) (fun p=>⟨p.1,p.2.1,p.2.2.1,p.2.2.2.1⟩) (fun p=>rfl)
theorem T.hd28:aP Tryz.prog 28 (List D.aAB) (fun l=>[.slice 4 (l.map D.aAB.V)]):=dE Tryz.underlying28 (by kernel_rfl) (by decide) (fun _=>rfl) T.hd157
theorem T.aDT:aP Tryz.prog 30 D.aAO D.aAO.V:=bH (t:=30) Tryz.underlying30 (by kernel_rfl) (aG (k:=1) T.hd24 rfl (by kernel_rfl) (aG (k:=2) T.hd27 rfl (by kernel_rfl) (aG (k:=1) T.hd28 rfl (by kernel_rfl) dW))) (fun p=>⟨p.1,p.2.1,p.2.2.1⟩) (fun p=>rfl)
theorem T.hd9:aP Tryz.prog 9 ByteArray sV:=aUp Tryz.underlying9
theorem T.aDL:aP Tryz.prog 306 D.aAH D.aAH.V:=bH (t:=306) Tryz.underlying306 (by kernel_rfl) (aG (k:=1) T.hd3 rfl (by kernel_rfl) (aG (k:=1) T.hd3 rfl (by kernel_rfl) (aG (k:=1) T.hd3 rfl (by kernel_rfl) (aG (k:=1) T.hd4 rfl (by kernel_rfl) dW)))) (fun p=>⟨p.1,p.2.1,p.2.2.1,p.2.2.2.1⟩) (fun p=>rfl)
theorem T.aDH:aP Tryz.prog 209 (List D.aAH) (fun l=>[.slice 4 (l.map D.aAH.V)]):=dE Tryz.underlying209 (by kernel_rfl) (by decide) (fun _=>rfl) T.aDL
theorem T.aDI:aP Tryz.prog 211 D.aAD D.aAD.V:=bH (t:=211) Tryz.underlying211 (by kernel_rfl) (aG (k:=1) T.hd3 rfl (by kernel_rfl) (aG (k:=1) T.hd3 rfl (by kernel_rfl) (aG (k:=1) T.aDH rfl (by kernel_rfl) dW))) (fun p=>⟨p.1,p.2.1,p.2.2.1⟩) (fun p=>rfl)
theorem T.hd95:aP Tryz.prog 95 (List D.aAD) (fun l=>[.slice 3 (l.map D.aAD.V)]):=dE Tryz.underlying95 (by kernel_rfl) (by decide) (fun _=>rfl) T.aDI
theorem T.aDK:aP Tryz.prog 277 D.aAG D.aAG.V:=bH (t:=277) Tryz.underlying277 (by kernel_rfl) (aG (k:=1) T.hd3 rfl (by kernel_rfl) (aG (k:=1) T.hd3 rfl (by kernel_rfl) (aG (k:=1) T.hd3 rfl (by kernel_rfl) dW))) (fun p=>⟨p.1,p.2.1,p.2.2.1⟩) (fun p=>rfl)
theorem T.hd96:aP Tryz.prog 96 (List D.aAG) (fun l=>[.slice 3 (l.map D.aAG.V)]):=dE Tryz.underlying96 (by kernel_rfl) (by decide) (fun _=>rfl) T.aDK
theorem T.hd98:aP Tryz.prog 98 D.aAA D.aAA.V:=bH (t:=98) Tryz.underlying98 (by kernel_rfl) (aG (k:=1) T.hd3 rfl (by kernel_rfl) (aG (k:=1) T.hd3 rfl (by kernel_rfl) (aG (k:=1) T.hd96 rfl (by kernel_rfl) dW))) (fun p=>⟨p.1,p.2.1,p.2.2.1⟩) (fun p=>rfl)
theorem T.hd99:aP Tryz.prog 99 (List Int) (fun l=>[.slice 1 (l.map iV)]):=dE Tryz.underlying99 (by kernel_rfl) (by decide) (fun _=>rfl) T.hd3
theorem T.hd101:aP Tryz.prog 101 D.Site D.Site.V:=bH (t:=101) Tryz.underlying101 (by kernel_rfl) (aG (k:=1) T.hd9 rfl (by kernel_rfl) (aG (k:=1) T.hd95 rfl (by kernel_rfl) (aG (k:=3) T.hd98 rfl (by kernel_rfl) (aG (k:=1) T.hd99 rfl (by kernel_rfl) dW)))) (fun p=>⟨p.1,p.2.1,p.2.2.1,p.2.2.2.1⟩) (fun p=>rfl)
theorem T.hd31:aP Tryz.prog 31 (List D.Site) (fun l=>[.slice 6 (l.map D.Site.V)]):=dE Tryz.underlying31 (by kernel_rfl) (by decide) (fun _=>rfl) T.hd101
theorem T.aDU:aP Tryz.prog 33 D.aAR D.aAR.V:=bH (t:=33) Tryz.underlying33 (by kernel_rfl) (aG (k:=1) T.hd3 rfl (by kernel_rfl) (aG (k:=1) T.hd3 rfl (by kernel_rfl) (aG (k:=1) T.hd3 rfl (by kernel_rfl) (aG (k:=1) T.hd3 rfl (by kernel_rfl) dW)))) (fun p=>⟨p.1,p.2.1,p.2.2.1,p.2.2.2.1⟩) (fun p=>rfl)
theorem T.hd104:aP Tryz.prog 104 D.aAT D.aAT.V:=bH (t:=104) Tryz.underlying104 (by kernel_rfl) (aG (k:=1) T.hd3 rfl (by kernel_rfl) (aG (k:=1) T.hd3 rfl (by kernel_rfl) dW)) (fun p=>⟨p.1,p.2.1⟩) (fun p=>rfl)
theorem T.aCX:aP Tryz.prog 106 D.aAQ D.aAQ.V:=bH (t:=106) Tryz.underlying106 (by kernel_rfl) (aG (k:=2) T.hd104 rfl (by kernel_rfl) (aG (k:=1) T.hd3 rfl (by kernel_rfl) (aG (k:=1) T.hd3 rfl (by kernel_rfl) (aG (k:=1) T.hd3 rfl (by kernel_rfl) dW)))) (fun p=>⟨p.1,p.2.1,p.2.2.1,p.2.2.2.1⟩) (fun p=>rfl)
theorem T.aDC:aP Tryz.prog 107 (List D.aAQ) (fun l=>[.slice 5 (l.map D.aAQ.V)]):=dE Tryz.underlying107 (by kernel_rfl) (by decide) (fun _=>rfl) T.aCX
theorem T.aDD:aP Tryz.prog 109 D.aAC D.aAC.V:=bH (t:=109) Tryz.underlying109 (by kernel_rfl) (aG (k:=5) T.aCX rfl (by kernel_rfl) (aG (k:=1) T.aDC rfl (by kernel_rfl) (aG (k:=1) T.hd3 rfl (by kernel_rfl) dW))) (fun p=>⟨p.1,p.2.1,p.2.2.1⟩) (fun p=>rfl)
theorem T.hd34:aP Tryz.prog 34 (List D.aAC) (fun l=>[.slice 7 (l.map D.aAC.V)]):=dE Tryz.underlying34 (by kernel_rfl) (by decide) (fun _=>rfl) T.aDD
theorem T.aDF:aP Tryz.prog 190 D.aAM D.aAM.V:=bH (t:=190) Tryz.underlying190 (by kernel_rfl) (aG (k:=1) T.hd3 rfl (by kernel_rfl) (aG (k:=1) T.hd3 rfl (by kernel_rfl) (aG (k:=1) T.hd3 rfl (by kernel_rfl) (aG (k:=1) T.hd4 rfl (by kernel_rfl) dW)))) (fun p=>⟨p.1,p.2.1,p.2.2.1,p.2.2.2.1⟩) (fun p=>rfl)
theorem T.aDV:aP Tryz.prog 35 (List D.aAM) (fun l=>[.slice 4 (l.map D.aAM.V)]):=dE Tryz.underlying35 (by kernel_rfl) (by decide) (fun _=>rfl) T.aDF
theorem T.aDW:aP Tryz.prog 37 D.aAI D.aAI.V:=bH (t:=37) Tryz.underlying37 (by kernel_rfl) (aG (k:=1) T.aDV rfl (by kernel_rfl) dW) (fun p=>⟨p.1⟩) (fun p=>rfl)
theorem T.hd39:aP Tryz.prog 39 D.World D.World.V:=bH (t:=39) Tryz.underlying39 (by kernel_rfl) (aG (k:=1) T.hd3 rfl (by kernel_rfl) (aG (k:=1) T.hd3 rfl (by kernel_rfl) (aG (k:=1) T.aDR rfl (by kernel_rfl) (aG (k:=1) T.aDS rfl (by kernel_rfl) (aG (k:=4) T.aDT rfl (by kernel_rfl) (aG (k:=1) T.hd31 rfl (by kernel_rfl) (aG (k:=4) T.aDU rfl (by kernel_rfl) (aG (k:=1) T.hd34 rfl (by kernel_rfl) (aG (k:=1) T.hd3 rfl (by kernel_rfl) (aG (k:=1) T.aDW rfl (by kernel_rfl) dW)))))))))) (fun p=>⟨p.1,p.2.1,p.2.2.1,p.2.2.2.1,p.2.2.2.2.1,p.2.2.2.2.2.1,p.2.2.2.2.2.2.1,p.2.2.2.2.2.2.2.1,p.2.2.2.2.2.2.2.2.1,p.2.2.2.2.2.2.2.2.2.1⟩) (fun p=>rfl)
theorem D.Box.aAX {w:Go.World}{X:Nat→Prop}{x:D.Box}(h:Tv w X x.V):x.ok:=gB h.2.2.1 (fun _ _=>trivial)
theorem D.aAF.aAX {w:Go.World}{X:Nat→Prop}{x:D.aAF}(h:Tv w X x.V):x.ok:=gB h.2.1 (fun y h=>D.Box.aAX h)
theorem D.aAB.aAX {w:Go.World}{X:Nat→Prop}{x:D.aAB}(h:Tv w X x.V):x.ok:=gB h.2.2.1 (fun _ _=>trivial)
theorem D.aAO.aAX {w:Go.World}{X:Nat→Prop}{x:D.aAO}(h:Tv w X x.V):x.ok:=⟨gB h.1 (fun _ _=>trivial),D.aAF.aAX ⟨h.2.1,h.2.2.1,trivial⟩,gB h.2.2.2.1 (fun y h=>D.aAB.aAX h)⟩
theorem D.aAI.aAX {w:Go.World}{X:Nat→Prop}{x:D.aAI}(h:Tv w X x.V):x.ok:=gB h.1 (fun _ _=>trivial)
theorem D.aAN.aAX {w:Go.World}{X:Nat→Prop}{x:D.aAN}(h:Tv w X x.V):x.ok:=gB h.1 (fun _ _=>trivial)
theorem D.Device.aAX {w:Go.World}{X:Nat→Prop}{x:D.Device}(h:Tv w X x.V):x.ok:=⟨gB h.2.2.2.2.1 (fun _ _=>trivial),D.aAN.aAX ⟨h.2.2.2.2.2.2.2.2.1,trivial⟩⟩
theorem D.aAD.aAX {w:Go.World}{X:Nat→Prop}{x:D.aAD}(h:Tv w X x.V):x.ok:=gB h.2.2.1 (fun _ _=>trivial)
theorem D.aAA.aAX {w:Go.World}{X:Nat→Prop}{x:D.aAA}(h:Tv w X x.V):x.ok:=gB h.2.2.1 (fun _ _=>trivial)
theorem D.Site.aAX {w:Go.World}{X:Nat→Prop}{x:D.Site}(h:Tv w X x.V):x.ok:=⟨aJy h.1,gB h.2.1 (fun y h=>D.aAD.aAX h),D.aAA.aAX ⟨h.2.2.1,h.2.2.2.1,h.2.2.2.2.1,trivial⟩,gB h.2.2.2.2.2.1 (fun _ _=>trivial)⟩
theorem D.aAC.aAX {w:Go.World}{X:Nat→Prop}{x:D.aAC}(h:Tv w X x.V):x.ok:=gB h.2.2.2.2.2.1 (fun _ _=>trivial)
theorem D.World.aAX {w:Go.World}{X:Nat→Prop}{x:D.World}(h:Tv w X x.V):x.ok:=⟨gB h.2.2.1 (fun y h=>D.Device.aAX h),gB h.2.2.2.1 (fun _ _=>trivial),D.aAO.aAX ⟨h.2.2.2.2.1,h.2.2.2.2.2.1,h.2.2.2.2.2.2.1,h.2.2.2.2.2.2.2.1,trivial⟩,gB h.2.2.2.2.2.2.2.2.1 (fun y h=>D.Site.aAX h),gB h.2.2.2.2.2.2.2.2.2.2.2.2.2.1 (fun y h=>D.aAC.aAX h),D.aAI.aAX ⟨h.2.2.2.2.2.2.2.2.2.2.2.2.2.2.2.1,trivial⟩⟩
theorem D.aAK.aAX {w:Go.World}{X:Nat→Prop}{x:D.aAK}(h:Tv w X x.V):x.ok:=aJy h.2.1
theorem D.aAJ.aAX {w:Go.World}{X:Nat→Prop}{x:D.aAJ}(h:Tv w X x.V):x.ok:=⟨aJy h.1,aJy h.2.1⟩
theorem rY (x0:D.World)(x1:Int):(EV.aT Yn gH.ar (x0,x1)).map EV.sD=[.agg (D.World.V x0), .int .i64 x1]:=by kernel_rfl
theorem oV (args:Array Value)(w:Go.World):(callFunc 3 args).run Tryz.prog w= .ok (.enter 3 args) w:=by kernel_rfl
theorem rZ (x0:D.World)(x1:Int)(h:x0.ok):Spec Tryz.prog G0 3 [.agg (D.World.V x0), .int .i64 x1] (fun v=>v= .bool true):=by
 rw[←rY]
 exact(rX (x0,x1) true (aC h)).1 rfl rfl
theorem oW (x0:D.World)(x1:Int):Spec Tryz.prog G0 3 [.agg (D.World.V x0), .int .i64 x1] (fun v=>v= .bool true):=aTi (oV) (rZ x0 x1) (fun w X h=>D.World.aAX (Tv.agg h.1))
end
end Go.VK
