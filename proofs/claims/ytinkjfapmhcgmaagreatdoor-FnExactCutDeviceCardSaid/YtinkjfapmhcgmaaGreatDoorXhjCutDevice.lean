import Derived.Test.YtinkjfapmhcgmaaGreatDoorXjC
import Derived.Test.YtinkjfapmhcgmaaGreatDoorEVztot
/- Printed by wip/tools: models, walks, proofs. -/
set_option linter.unusedVariables false
set_option linter.unusedSimpArgs false
set_option maxRecDepth 100000
set_option maxHeartbeats 4000000
namespace Go.VK
open Go.RowKit Go.Proofs
noncomputable section
theorem T.hd3:bP Tryz.prog 3 Int iV:=bKk Tryz.underlying3
theorem T.aCF:bP Tryz.prog 120 D.aAJ D.aAJ.V:=eF (t:=120) Tryz.underlying120 (by kernel_rfl) (aT (k:=1) T.hd3 rfl (by kernel_rfl) (aT (k:=1) T.hd3 rfl (by kernel_rfl) (aT (k:=1) T.hd3 rfl (by kernel_rfl) (aT (k:=1) T.hd3 rfl (by kernel_rfl) iZ)))) (fun p=>⟨p.1,p.2.1,p.2.2.1,p.2.2.2.1⟩) (fun p=>rfl)
theorem T.aCR:bP Tryz.prog 253 D.aAB D.aAB.V:=eF (t:=253) Tryz.underlying253 (by kernel_rfl) (aT (k:=1) T.hd3 rfl (by kernel_rfl) (aT (k:=1) T.hd3 rfl (by kernel_rfl) (aT (k:=1) T.hd3 rfl (by kernel_rfl) (aT (k:=1) T.hd3 rfl (by kernel_rfl) (aT (k:=1) T.hd3 rfl (by kernel_rfl) (aT (k:=1) T.hd3 rfl (by kernel_rfl) iZ)))))) (fun p=>⟨p.1,p.2.1,p.2.2.1,p.2.2.2.1,p.2.2.2.2.1,p.2.2.2.2.2.1⟩) (fun p=>rfl)
theorem T.hd24:bP Tryz.prog 24 (List D.aAB) (fun l=>[.slice 6 (l.map D.aAB.V)]):=iC Tryz.underlying24 (by kernel_rfl) (by decide) (fun _=>rfl) T.aCR
theorem T.hd4:bP Tryz.prog 4 Bool bV:=bHt Tryz.underlying4
theorem T.aCW:bP Tryz.prog 340 D.Entry D.Entry.V:=eF (t:=340) Tryz.underlying340 (by kernel_rfl) (aT (k:=1) T.hd3 rfl (by kernel_rfl) (aT (k:=1) T.hd3 rfl (by kernel_rfl) (aT (k:=1) T.hd3 rfl (by kernel_rfl) (aT (k:=1) T.hd4 rfl (by kernel_rfl) iZ)))) (fun p=>⟨p.1,p.2.1,p.2.2.1,p.2.2.2.1⟩) (fun p=>rfl)
theorem T.aCG:bP Tryz.prog 121 (List D.Entry) (fun l=>[.slice 4 (l.map D.Entry.V)]):=iC Tryz.underlying121 (by kernel_rfl) (by decide) (fun _=>rfl) T.aCW
theorem T.aCH:bP Tryz.prog 123 D.aAD D.aAD.V:=eF (t:=123) Tryz.underlying123 (by kernel_rfl) (aT (k:=1) T.aCG rfl (by kernel_rfl) iZ) (fun p=>⟨p.1⟩) (fun p=>rfl)
theorem T.aCI:bP Tryz.prog 125 D.Device D.Device.V:=eF (t:=125) Tryz.underlying125 (by kernel_rfl) (aT (k:=4) T.aCF rfl (by kernel_rfl) (aT (k:=1) T.hd24 rfl (by kernel_rfl) (aT (k:=1) T.hd3 rfl (by kernel_rfl) (aT (k:=1) T.hd3 rfl (by kernel_rfl) (aT (k:=1) T.hd3 rfl (by kernel_rfl) (aT (k:=1) T.aCH rfl (by kernel_rfl) iZ)))))) (fun p=>⟨p.1,p.2.1,p.2.2.1,p.2.2.2.1,p.2.2.2.2.1,p.2.2.2.2.2.1⟩) (fun p=>rfl)
theorem T.aDC:bP Tryz.prog 22 (List D.Device) (fun l=>[.slice 9 (l.map D.Device.V)]):=iC Tryz.underlying22 (by kernel_rfl) (by decide) (fun _=>rfl) T.aCI
theorem T.aDD:bP Tryz.prog 23 (List Bool) (fun l=>[.slice 1 (l.map bV)]):=iC Tryz.underlying23 (by kernel_rfl) (by decide) (fun _=>rfl) T.hd4
theorem T.hd5:bP Tryz.prog 5 Int y8:=bL4 Tryz.underlying5
theorem T.aCB:bP Tryz.prog 174 (List Int) (fun l=>[.slice 1 (l.map y8)]):=iC Tryz.underlying174 (by kernel_rfl) (by decide) (fun _=>rfl) T.hd5
theorem T.aCT:bP Tryz.prog 288 D.Box D.Box.V:=eF (t:=288) Tryz.underlying288 (by kernel_rfl) (aT (k:=1) T.hd3 rfl (by kernel_rfl) (aT (k:=1) T.hd3 rfl (by kernel_rfl) (aT (k:=1) T.aCB rfl (by kernel_rfl) (aT (k:=1) T.hd3 rfl (by kernel_rfl) iZ)))) (fun p=>⟨p.1,p.2.1,p.2.2.1,p.2.2.2.1⟩) (fun p=>rfl)
theorem T.hd25:bP Tryz.prog 25 (List D.Box) (fun l=>[.slice 4 (l.map D.Box.V)]):=iC Tryz.underlying25 (by kernel_rfl) (by decide) (fun _=>rfl) T.aCT
theorem T.hd27:bP Tryz.prog 27 D.aAE D.aAE.V:=eF (t:=27) Tryz.underlying27 (by kernel_rfl) (aT (k:=1) T.hd3 rfl (by kernel_rfl) (aT (k:=1) T.hd25 rfl (by kernel_rfl) iZ)) (fun p=>⟨p.1,p.2.1⟩) (fun p=>rfl)
theorem T.aCQ:bP Tryz.prog 222 D.aAA D.aAA.V:=eF (t:=222) Tryz.underlying222 (by kernel_rfl) (aT (k:=1) T.hd3 rfl (by kernel_rfl) (aT (k:=1) T.hd3 rfl (by kernel_rfl) (aT (k:=1) T.aCB rfl (by kernel_rfl) (aT (k:=1) T.hd3 rfl (by kernel_rfl) iZ)))) (fun p=>⟨p.1,p.2.1,p.2.2.1,p.2.2.2.1⟩) (fun p=>rfl)
theorem T.hd28:bP Tryz.prog 28 (List D.aAA) (fun l=>[.slice 4 (l.map D.aAA.V)]):=iC Tryz.underlying28 (by kernel_rfl) (by decide) (fun _=>rfl) T.aCQ
theorem T.aDE:bP Tryz.prog 30 D.aAH D.aAH.V:=eF (t:=30) Tryz.underlying30 (by kernel_rfl) (aT (k:=1) T.hd24 rfl (by kernel_rfl) (aT (k:=2) T.hd27 rfl (by kernel_rfl) (aT (k:=1) T.hd28 rfl (by kernel_rfl) iZ))) (fun p=>⟨p.1,p.2.1,p.2.2.1⟩) (fun p=>rfl)
theorem T.hd9:bP Tryz.prog 9 ByteArray sV:=bKl Tryz.underlying9
theorem T.aCY:bP Tryz.prog 355 D.aAI D.aAI.V:=eF (t:=355) Tryz.underlying355 (by kernel_rfl) (aT (k:=1) T.hd3 rfl (by kernel_rfl) (aT (k:=1) T.hd3 rfl (by kernel_rfl) (aT (k:=1) T.hd3 rfl (by kernel_rfl) (aT (k:=1) T.hd4 rfl (by kernel_rfl) iZ)))) (fun p=>⟨p.1,p.2.1,p.2.2.1,p.2.2.2.1⟩) (fun p=>rfl)
theorem T.aCU:bP Tryz.prog 290 (List D.aAI) (fun l=>[.slice 4 (l.map D.aAI.V)]):=iC Tryz.underlying290 (by kernel_rfl) (by decide) (fun _=>rfl) T.aCY
theorem T.aCV:bP Tryz.prog 292 D.aAG D.aAG.V:=eF (t:=292) Tryz.underlying292 (by kernel_rfl) (aT (k:=1) T.hd3 rfl (by kernel_rfl) (aT (k:=1) T.hd3 rfl (by kernel_rfl) (aT (k:=1) T.aCU rfl (by kernel_rfl) iZ))) (fun p=>⟨p.1,p.2.1,p.2.2.1⟩) (fun p=>rfl)
theorem T.aCJ:bP Tryz.prog 130 (List D.aAG) (fun l=>[.slice 3 (l.map D.aAG.V)]):=iC Tryz.underlying130 (by kernel_rfl) (by decide) (fun _=>rfl) T.aCV
theorem T.aCX:bP Tryz.prog 343 D.aAL D.aAL.V:=eF (t:=343) Tryz.underlying343 (by kernel_rfl) (aT (k:=1) T.hd3 rfl (by kernel_rfl) (aT (k:=1) T.hd3 rfl (by kernel_rfl) (aT (k:=1) T.hd3 rfl (by kernel_rfl) iZ))) (fun p=>⟨p.1,p.2.1,p.2.2.1⟩) (fun p=>rfl)
theorem T.aCK:bP Tryz.prog 131 (List D.aAL) (fun l=>[.slice 3 (l.map D.aAL.V)]):=iC Tryz.underlying131 (by kernel_rfl) (by decide) (fun _=>rfl) T.aCX
theorem T.aCL:bP Tryz.prog 133 D.aAF D.aAF.V:=eF (t:=133) Tryz.underlying133 (by kernel_rfl) (aT (k:=1) T.hd3 rfl (by kernel_rfl) (aT (k:=1) T.hd3 rfl (by kernel_rfl) (aT (k:=1) T.aCK rfl (by kernel_rfl) iZ))) (fun p=>⟨p.1,p.2.1,p.2.2.1⟩) (fun p=>rfl)
theorem T.aDI:bP Tryz.prog 88 (List Int) (fun l=>[.slice 1 (l.map iV)]):=iC Tryz.underlying88 (by kernel_rfl) (by decide) (fun _=>rfl) T.hd3
theorem T.aCM:bP Tryz.prog 135 D.Site D.Site.V:=eF (t:=135) Tryz.underlying135 (by kernel_rfl) (aT (k:=1) T.hd9 rfl (by kernel_rfl) (aT (k:=1) T.aCJ rfl (by kernel_rfl) (aT (k:=3) T.aCL rfl (by kernel_rfl) (aT (k:=1) T.aDI rfl (by kernel_rfl) iZ)))) (fun p=>⟨p.1,p.2.1,p.2.2.1,p.2.2.2.1⟩) (fun p=>rfl)
theorem T.hd31:bP Tryz.prog 31 (List D.Site) (fun l=>[.slice 6 (l.map D.Site.V)]):=iC Tryz.underlying31 (by kernel_rfl) (by decide) (fun _=>rfl) T.aCM
theorem T.aDF:bP Tryz.prog 33 D.aAQ D.aAQ.V:=eF (t:=33) Tryz.underlying33 (by kernel_rfl) (aT (k:=1) T.hd3 rfl (by kernel_rfl) (aT (k:=1) T.hd3 rfl (by kernel_rfl) (aT (k:=1) T.hd3 rfl (by kernel_rfl) (aT (k:=1) T.hd3 rfl (by kernel_rfl) iZ)))) (fun p=>⟨p.1,p.2.1,p.2.2.1,p.2.2.2.1⟩) (fun p=>rfl)
theorem T.aCN:bP Tryz.prog 138 D.aAO D.aAO.V:=eF (t:=138) Tryz.underlying138 (by kernel_rfl) (aT (k:=1) T.hd3 rfl (by kernel_rfl) (aT (k:=1) T.hd3 rfl (by kernel_rfl) iZ)) (fun p=>⟨p.1,p.2.1⟩) (fun p=>rfl)
theorem T.aCA:bP Tryz.prog 140 D.aAN D.aAN.V:=eF (t:=140) Tryz.underlying140 (by kernel_rfl) (aT (k:=2) T.aCN rfl (by kernel_rfl) (aT (k:=1) T.hd3 rfl (by kernel_rfl) (aT (k:=1) T.hd3 rfl (by kernel_rfl) (aT (k:=1) T.hd3 rfl (by kernel_rfl) iZ)))) (fun p=>⟨p.1,p.2.1,p.2.2.1,p.2.2.2.1⟩) (fun p=>rfl)
theorem T.aCO:bP Tryz.prog 141 (List D.aAN) (fun l=>[.slice 5 (l.map D.aAN.V)]):=iC Tryz.underlying141 (by kernel_rfl) (by decide) (fun _=>rfl) T.aCA
theorem T.aCP:bP Tryz.prog 143 D.aAC D.aAC.V:=eF (t:=143) Tryz.underlying143 (by kernel_rfl) (aT (k:=5) T.aCA rfl (by kernel_rfl) (aT (k:=1) T.aCO rfl (by kernel_rfl) (aT (k:=1) T.hd3 rfl (by kernel_rfl) iZ))) (fun p=>⟨p.1,p.2.1,p.2.2.1⟩) (fun p=>rfl)
theorem T.hd34:bP Tryz.prog 34 (List D.aAC) (fun l=>[.slice 7 (l.map D.aAC.V)]):=iC Tryz.underlying34 (by kernel_rfl) (by decide) (fun _=>rfl) T.aCP
theorem T.aCS:bP Tryz.prog 262 D.aAM D.aAM.V:=eF (t:=262) Tryz.underlying262 (by kernel_rfl) (aT (k:=1) T.hd3 rfl (by kernel_rfl) (aT (k:=1) T.hd3 rfl (by kernel_rfl) (aT (k:=1) T.hd3 rfl (by kernel_rfl) (aT (k:=1) T.hd4 rfl (by kernel_rfl) iZ)))) (fun p=>⟨p.1,p.2.1,p.2.2.1,p.2.2.2.1⟩) (fun p=>rfl)
theorem T.aDG:bP Tryz.prog 35 (List D.aAM) (fun l=>[.slice 4 (l.map D.aAM.V)]):=iC Tryz.underlying35 (by kernel_rfl) (by decide) (fun _=>rfl) T.aCS
theorem T.aDH:bP Tryz.prog 37 D.aAK D.aAK.V:=eF (t:=37) Tryz.underlying37 (by kernel_rfl) (aT (k:=1) T.aDG rfl (by kernel_rfl) iZ) (fun p=>⟨p.1⟩) (fun p=>rfl)
theorem T.hd39:bP Tryz.prog 39 D.World D.World.V:=eF (t:=39) Tryz.underlying39 (by kernel_rfl) (aT (k:=1) T.hd3 rfl (by kernel_rfl) (aT (k:=1) T.hd3 rfl (by kernel_rfl) (aT (k:=1) T.aDC rfl (by kernel_rfl) (aT (k:=1) T.aDD rfl (by kernel_rfl) (aT (k:=4) T.aDE rfl (by kernel_rfl) (aT (k:=1) T.hd31 rfl (by kernel_rfl) (aT (k:=4) T.aDF rfl (by kernel_rfl) (aT (k:=1) T.hd34 rfl (by kernel_rfl) (aT (k:=1) T.hd3 rfl (by kernel_rfl) (aT (k:=1) T.aDH rfl (by kernel_rfl) iZ)))))))))) (fun p=>⟨p.1,p.2.1,p.2.2.1,p.2.2.2.1,p.2.2.2.2.1,p.2.2.2.2.2.1,p.2.2.2.2.2.2.1,p.2.2.2.2.2.2.2.1,p.2.2.2.2.2.2.2.2.1,p.2.2.2.2.2.2.2.2.2.1⟩) (fun p=>rfl)
theorem D.Box.aAW {w:Go.World}{X:Nat→Prop}{x:D.Box}(h:RdA w X x.V):x.ok:=lG h.2.2.1 (fun _ _=>trivial)
theorem D.aAE.aAW {w:Go.World}{X:Nat→Prop}{x:D.aAE}(h:RdA w X x.V):x.ok:=lG h.2.1 (fun y h=>D.Box.aAW h)
theorem D.aAA.aAW {w:Go.World}{X:Nat→Prop}{x:D.aAA}(h:RdA w X x.V):x.ok:=lG h.2.2.1 (fun _ _=>trivial)
theorem D.aAH.aAW {w:Go.World}{X:Nat→Prop}{x:D.aAH}(h:RdA w X x.V):x.ok:=⟨lG h.1 (fun _ _=>trivial),D.aAE.aAW ⟨h.2.1,h.2.2.1,trivial⟩,lG h.2.2.2.1 (fun y h=>D.aAA.aAW h)⟩
theorem D.aAK.aAW {w:Go.World}{X:Nat→Prop}{x:D.aAK}(h:RdA w X x.V):x.ok:=lG h.1 (fun _ _=>trivial)
theorem D.aAD.aAW {w:Go.World}{X:Nat→Prop}{x:D.aAD}(h:RdA w X x.V):x.ok:=lG h.1 (fun _ _=>trivial)
theorem D.Device.aAW {w:Go.World}{X:Nat→Prop}{x:D.Device}(h:RdA w X x.V):x.ok:=⟨lG h.2.2.2.2.1 (fun _ _=>trivial),D.aAD.aAW ⟨h.2.2.2.2.2.2.2.2.1,trivial⟩⟩
theorem D.aAG.aAW {w:Go.World}{X:Nat→Prop}{x:D.aAG}(h:RdA w X x.V):x.ok:=lG h.2.2.1 (fun _ _=>trivial)
theorem D.aAF.aAW {w:Go.World}{X:Nat→Prop}{x:D.aAF}(h:RdA w X x.V):x.ok:=lG h.2.2.1 (fun _ _=>trivial)
theorem D.Site.aAW {w:Go.World}{X:Nat→Prop}{x:D.Site}(h:RdA w X x.V):x.ok:=⟨bLj h.1,lG h.2.1 (fun y h=>D.aAG.aAW h),D.aAF.aAW ⟨h.2.2.1,h.2.2.2.1,h.2.2.2.2.1,trivial⟩,lG h.2.2.2.2.2.1 (fun _ _=>trivial)⟩
theorem D.aAC.aAW {w:Go.World}{X:Nat→Prop}{x:D.aAC}(h:RdA w X x.V):x.ok:=lG h.2.2.2.2.2.1 (fun _ _=>trivial)
theorem D.World.aAW {w:Go.World}{X:Nat→Prop}{x:D.World}(h:RdA w X x.V):x.ok:=⟨lG h.2.2.1 (fun y h=>D.Device.aAW h),lG h.2.2.2.1 (fun _ _=>trivial),D.aAH.aAW ⟨h.2.2.2.2.1,h.2.2.2.2.2.1,h.2.2.2.2.2.2.1,h.2.2.2.2.2.2.2.1,trivial⟩,lG h.2.2.2.2.2.2.2.2.1 (fun y h=>D.Site.aAW h),lG h.2.2.2.2.2.2.2.2.2.2.2.2.2.1 (fun y h=>D.aAC.aAW h),D.aAK.aAW ⟨h.2.2.2.2.2.2.2.2.2.2.2.2.2.2.2.1,trivial⟩⟩
theorem Ep (x0:D.World)(x1:Int)(x2:Int):(EV.dH Yn nH.ar (x0,x1,x2)).map EV.Ic=[.agg (D.World.V x0), .int .i64 x1, .int .i64 x2]:=by kernel_rfl
theorem zZ (args:Array Value)(w:Go.World):(callFunc 3 args).run Tryz.prog w= .ok (.enter 3 args) w:=by kernel_rfl
theorem Er (x0:D.World)(x1:Int)(x2:Int)(h:x0.ok):Spec Tryz.prog G0 3 [.agg (D.World.V x0), .int .i64 x1, .int .i64 x2] (fun v=>v= .bool true):=by
 rw[←Ep]
 exact(Eo (x0,x1,x2) true (aC h)).1 rfl rfl
theorem Aa (x0:D.World)(x1:Int)(x2:Int):Spec Tryz.prog G0 3 [.agg (D.World.V x0), .int .i64 x1, .int .i64 x2] (fun v=>v= .bool true):=bIq (zZ) (Er x0 x1 x2) (fun w X h=>D.World.aAW (RdA.agg h.1))
end
end Go.VK
