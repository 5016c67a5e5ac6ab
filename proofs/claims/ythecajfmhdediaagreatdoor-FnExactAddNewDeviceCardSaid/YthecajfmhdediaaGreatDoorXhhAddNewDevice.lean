import Derived.Test.YthecajfmhdediaaGreatDoorXhC
import Derived.Test.YthecajfmhdediaaGreatDoorEWptor
/- Printed by wip/tools: models, walks, proofs. -/
set_option linter.unusedVariables false
set_option linter.unusedSimpArgs false
set_option maxRecDepth 100000
set_option maxHeartbeats 4000000
namespace Go.VK
open Go.RowKit Go.Proofs
noncomputable section
theorem T.hd3:bS Tryz.prog 3 Int iV:=bJ5 Tryz.underlying3
theorem T.aCE:bS Tryz.prog 119 D.aAI D.aAI.V:=eO (t:=119) Tryz.underlying119 (by kernel_rfl) (aY (k:=1) T.hd3 rfl (by kernel_rfl) (aY (k:=1) T.hd3 rfl (by kernel_rfl) (aY (k:=1) T.hd3 rfl (by kernel_rfl) (aY (k:=1) T.hd3 rfl (by kernel_rfl) jF)))) (fun p=>⟨p.1,p.2.1,p.2.2.1,p.2.2.2.1⟩) (fun p=>rfl)
theorem T.aCQ:bS Tryz.prog 255 D.aAB D.aAB.V:=eO (t:=255) Tryz.underlying255 (by kernel_rfl) (aY (k:=1) T.hd3 rfl (by kernel_rfl) (aY (k:=1) T.hd3 rfl (by kernel_rfl) (aY (k:=1) T.hd3 rfl (by kernel_rfl) (aY (k:=1) T.hd3 rfl (by kernel_rfl) (aY (k:=1) T.hd3 rfl (by kernel_rfl) (aY (k:=1) T.hd3 rfl (by kernel_rfl) jF)))))) (fun p=>⟨p.1,p.2.1,p.2.2.1,p.2.2.2.1,p.2.2.2.2.1,p.2.2.2.2.2.1⟩) (fun p=>rfl)
theorem T.hd24:bS Tryz.prog 24 (List D.aAB) (fun l=>[.slice 6 (l.map D.aAB.V)]):=iH Tryz.underlying24 (by kernel_rfl) (by decide) (fun _=>rfl) T.aCQ
theorem T.hd4:bS Tryz.prog 4 Bool bV:=bH0 Tryz.underlying4
theorem T.aCV:bS Tryz.prog 345 D.Entry D.Entry.V:=eO (t:=345) Tryz.underlying345 (by kernel_rfl) (aY (k:=1) T.hd3 rfl (by kernel_rfl) (aY (k:=1) T.hd3 rfl (by kernel_rfl) (aY (k:=1) T.hd3 rfl (by kernel_rfl) (aY (k:=1) T.hd4 rfl (by kernel_rfl) jF)))) (fun p=>⟨p.1,p.2.1,p.2.2.1,p.2.2.2.1⟩) (fun p=>rfl)
theorem T.aCF:bS Tryz.prog 120 (List D.Entry) (fun l=>[.slice 4 (l.map D.Entry.V)]):=iH Tryz.underlying120 (by kernel_rfl) (by decide) (fun _=>rfl) T.aCV
theorem T.aCG:bS Tryz.prog 122 D.aAC D.aAC.V:=eO (t:=122) Tryz.underlying122 (by kernel_rfl) (aY (k:=1) T.aCF rfl (by kernel_rfl) jF) (fun p=>⟨p.1⟩) (fun p=>rfl)
theorem T.aCH:bS Tryz.prog 124 D.Device D.Device.V:=eO (t:=124) Tryz.underlying124 (by kernel_rfl) (aY (k:=4) T.aCE rfl (by kernel_rfl) (aY (k:=1) T.hd24 rfl (by kernel_rfl) (aY (k:=1) T.hd3 rfl (by kernel_rfl) (aY (k:=1) T.hd3 rfl (by kernel_rfl) (aY (k:=1) T.hd3 rfl (by kernel_rfl) (aY (k:=1) T.aCG rfl (by kernel_rfl) jF)))))) (fun p=>⟨p.1,p.2.1,p.2.2.1,p.2.2.2.1,p.2.2.2.2.1,p.2.2.2.2.2.1⟩) (fun p=>rfl)
theorem T.aDB:bS Tryz.prog 22 (List D.Device) (fun l=>[.slice 9 (l.map D.Device.V)]):=iH Tryz.underlying22 (by kernel_rfl) (by decide) (fun _=>rfl) T.aCH
theorem T.aDC:bS Tryz.prog 23 (List Bool) (fun l=>[.slice 1 (l.map bV)]):=iH Tryz.underlying23 (by kernel_rfl) (by decide) (fun _=>rfl) T.hd4
theorem T.hd5:bS Tryz.prog 5 Int y8:=bLi Tryz.underlying5
theorem T.aCA:bS Tryz.prog 213 (List Int) (fun l=>[.slice 1 (l.map y8)]):=iH Tryz.underlying213 (by kernel_rfl) (by decide) (fun _=>rfl) T.hd5
theorem T.aCS:bS Tryz.prog 291 D.Box D.Box.V:=eO (t:=291) Tryz.underlying291 (by kernel_rfl) (aY (k:=1) T.hd3 rfl (by kernel_rfl) (aY (k:=1) T.hd3 rfl (by kernel_rfl) (aY (k:=1) T.aCA rfl (by kernel_rfl) (aY (k:=1) T.hd3 rfl (by kernel_rfl) jF)))) (fun p=>⟨p.1,p.2.1,p.2.2.1,p.2.2.2.1⟩) (fun p=>rfl)
theorem T.hd25:bS Tryz.prog 25 (List D.Box) (fun l=>[.slice 4 (l.map D.Box.V)]):=iH Tryz.underlying25 (by kernel_rfl) (by decide) (fun _=>rfl) T.aCS
theorem T.hd27:bS Tryz.prog 27 D.aAE D.aAE.V:=eO (t:=27) Tryz.underlying27 (by kernel_rfl) (aY (k:=1) T.hd3 rfl (by kernel_rfl) (aY (k:=1) T.hd25 rfl (by kernel_rfl) jF)) (fun p=>⟨p.1,p.2.1⟩) (fun p=>rfl)
theorem T.aCP:bS Tryz.prog 215 D.aAA D.aAA.V:=eO (t:=215) Tryz.underlying215 (by kernel_rfl) (aY (k:=1) T.hd3 rfl (by kernel_rfl) (aY (k:=1) T.hd3 rfl (by kernel_rfl) (aY (k:=1) T.aCA rfl (by kernel_rfl) (aY (k:=1) T.hd3 rfl (by kernel_rfl) jF)))) (fun p=>⟨p.1,p.2.1,p.2.2.1,p.2.2.2.1⟩) (fun p=>rfl)
theorem T.hd28:bS Tryz.prog 28 (List D.aAA) (fun l=>[.slice 4 (l.map D.aAA.V)]):=iH Tryz.underlying28 (by kernel_rfl) (by decide) (fun _=>rfl) T.aCP
theorem T.aDD:bS Tryz.prog 30 D.aAH D.aAH.V:=eO (t:=30) Tryz.underlying30 (by kernel_rfl) (aY (k:=1) T.hd24 rfl (by kernel_rfl) (aY (k:=2) T.hd27 rfl (by kernel_rfl) (aY (k:=1) T.hd28 rfl (by kernel_rfl) jF))) (fun p=>⟨p.1,p.2.1,p.2.2.1⟩) (fun p=>rfl)
theorem T.hd9:bS Tryz.prog 9 ByteArray sV:=bJ6 Tryz.underlying9
theorem T.aCX:bS Tryz.prog 358 D.aAJ D.aAJ.V:=eO (t:=358) Tryz.underlying358 (by kernel_rfl) (aY (k:=1) T.hd3 rfl (by kernel_rfl) (aY (k:=1) T.hd3 rfl (by kernel_rfl) (aY (k:=1) T.hd3 rfl (by kernel_rfl) (aY (k:=1) T.hd4 rfl (by kernel_rfl) jF)))) (fun p=>⟨p.1,p.2.1,p.2.2.1,p.2.2.2.1⟩) (fun p=>rfl)
theorem T.aCT:bS Tryz.prog 293 (List D.aAJ) (fun l=>[.slice 4 (l.map D.aAJ.V)]):=iH Tryz.underlying293 (by kernel_rfl) (by decide) (fun _=>rfl) T.aCX
theorem T.aCU:bS Tryz.prog 295 D.aAG D.aAG.V:=eO (t:=295) Tryz.underlying295 (by kernel_rfl) (aY (k:=1) T.hd3 rfl (by kernel_rfl) (aY (k:=1) T.hd3 rfl (by kernel_rfl) (aY (k:=1) T.aCT rfl (by kernel_rfl) jF))) (fun p=>⟨p.1,p.2.1,p.2.2.1⟩) (fun p=>rfl)
theorem T.aCI:bS Tryz.prog 129 (List D.aAG) (fun l=>[.slice 3 (l.map D.aAG.V)]):=iH Tryz.underlying129 (by kernel_rfl) (by decide) (fun _=>rfl) T.aCU
theorem T.aCW:bS Tryz.prog 348 D.aAL D.aAL.V:=eO (t:=348) Tryz.underlying348 (by kernel_rfl) (aY (k:=1) T.hd3 rfl (by kernel_rfl) (aY (k:=1) T.hd3 rfl (by kernel_rfl) (aY (k:=1) T.hd3 rfl (by kernel_rfl) jF))) (fun p=>⟨p.1,p.2.1,p.2.2.1⟩) (fun p=>rfl)
theorem T.aCJ:bS Tryz.prog 130 (List D.aAL) (fun l=>[.slice 3 (l.map D.aAL.V)]):=iH Tryz.underlying130 (by kernel_rfl) (by decide) (fun _=>rfl) T.aCW
theorem T.aCK:bS Tryz.prog 132 D.aAF D.aAF.V:=eO (t:=132) Tryz.underlying132 (by kernel_rfl) (aY (k:=1) T.hd3 rfl (by kernel_rfl) (aY (k:=1) T.hd3 rfl (by kernel_rfl) (aY (k:=1) T.aCJ rfl (by kernel_rfl) jF))) (fun p=>⟨p.1,p.2.1,p.2.2.1⟩) (fun p=>rfl)
theorem T.aDH:bS Tryz.prog 87 (List Int) (fun l=>[.slice 1 (l.map iV)]):=iH Tryz.underlying87 (by kernel_rfl) (by decide) (fun _=>rfl) T.hd3
theorem T.aCL:bS Tryz.prog 134 D.Site D.Site.V:=eO (t:=134) Tryz.underlying134 (by kernel_rfl) (aY (k:=1) T.hd9 rfl (by kernel_rfl) (aY (k:=1) T.aCI rfl (by kernel_rfl) (aY (k:=3) T.aCK rfl (by kernel_rfl) (aY (k:=1) T.aDH rfl (by kernel_rfl) jF)))) (fun p=>⟨p.1,p.2.1,p.2.2.1,p.2.2.2.1⟩) (fun p=>rfl)
theorem T.hd31:bS Tryz.prog 31 (List D.Site) (fun l=>[.slice 6 (l.map D.Site.V)]):=iH Tryz.underlying31 (by kernel_rfl) (by decide) (fun _=>rfl) T.aCL
theorem T.aDE:bS Tryz.prog 33 D.aAQ D.aAQ.V:=eO (t:=33) Tryz.underlying33 (by kernel_rfl) (aY (k:=1) T.hd3 rfl (by kernel_rfl) (aY (k:=1) T.hd3 rfl (by kernel_rfl) (aY (k:=1) T.hd3 rfl (by kernel_rfl) (aY (k:=1) T.hd3 rfl (by kernel_rfl) jF)))) (fun p=>⟨p.1,p.2.1,p.2.2.1,p.2.2.2.1⟩) (fun p=>rfl)
theorem T.aCM:bS Tryz.prog 137 D.aAO D.aAO.V:=eO (t:=137) Tryz.underlying137 (by kernel_rfl) (aY (k:=1) T.hd3 rfl (by kernel_rfl) (aY (k:=1) T.hd3 rfl (by kernel_rfl) jF)) (fun p=>⟨p.1,p.2.1⟩) (fun p=>rfl)
theorem T.aBZ:bS Tryz.prog 139 D.aAN D.aAN.V:=eO (t:=139) Tryz.underlying139 (by kernel_rfl) (aY (k:=2) T.aCM rfl (by kernel_rfl) (aY (k:=1) T.hd3 rfl (by kernel_rfl) (aY (k:=1) T.hd3 rfl (by kernel_rfl) (aY (k:=1) T.hd3 rfl (by kernel_rfl) jF)))) (fun p=>⟨p.1,p.2.1,p.2.2.1,p.2.2.2.1⟩) (fun p=>rfl)
theorem T.aCN:bS Tryz.prog 140 (List D.aAN) (fun l=>[.slice 5 (l.map D.aAN.V)]):=iH Tryz.underlying140 (by kernel_rfl) (by decide) (fun _=>rfl) T.aBZ
theorem T.aCO:bS Tryz.prog 142 D.aAD D.aAD.V:=eO (t:=142) Tryz.underlying142 (by kernel_rfl) (aY (k:=5) T.aBZ rfl (by kernel_rfl) (aY (k:=1) T.aCN rfl (by kernel_rfl) (aY (k:=1) T.hd3 rfl (by kernel_rfl) jF))) (fun p=>⟨p.1,p.2.1,p.2.2.1⟩) (fun p=>rfl)
theorem T.hd34:bS Tryz.prog 34 (List D.aAD) (fun l=>[.slice 7 (l.map D.aAD.V)]):=iH Tryz.underlying34 (by kernel_rfl) (by decide) (fun _=>rfl) T.aCO
theorem T.aCR:bS Tryz.prog 264 D.aAM D.aAM.V:=eO (t:=264) Tryz.underlying264 (by kernel_rfl) (aY (k:=1) T.hd3 rfl (by kernel_rfl) (aY (k:=1) T.hd3 rfl (by kernel_rfl) (aY (k:=1) T.hd3 rfl (by kernel_rfl) (aY (k:=1) T.hd4 rfl (by kernel_rfl) jF)))) (fun p=>⟨p.1,p.2.1,p.2.2.1,p.2.2.2.1⟩) (fun p=>rfl)
theorem T.aDF:bS Tryz.prog 35 (List D.aAM) (fun l=>[.slice 4 (l.map D.aAM.V)]):=iH Tryz.underlying35 (by kernel_rfl) (by decide) (fun _=>rfl) T.aCR
theorem T.aDG:bS Tryz.prog 37 D.aAK D.aAK.V:=eO (t:=37) Tryz.underlying37 (by kernel_rfl) (aY (k:=1) T.aDF rfl (by kernel_rfl) jF) (fun p=>⟨p.1⟩) (fun p=>rfl)
theorem T.hd39:bS Tryz.prog 39 D.World D.World.V:=eO (t:=39) Tryz.underlying39 (by kernel_rfl) (aY (k:=1) T.hd3 rfl (by kernel_rfl) (aY (k:=1) T.hd3 rfl (by kernel_rfl) (aY (k:=1) T.aDB rfl (by kernel_rfl) (aY (k:=1) T.aDC rfl (by kernel_rfl) (aY (k:=4) T.aDD rfl (by kernel_rfl) (aY (k:=1) T.hd31 rfl (by kernel_rfl) (aY (k:=4) T.aDE rfl (by kernel_rfl) (aY (k:=1) T.hd34 rfl (by kernel_rfl) (aY (k:=1) T.hd3 rfl (by kernel_rfl) (aY (k:=1) T.aDG rfl (by kernel_rfl) jF)))))))))) (fun p=>⟨p.1,p.2.1,p.2.2.1,p.2.2.2.1,p.2.2.2.2.1,p.2.2.2.2.2.1,p.2.2.2.2.2.2.1,p.2.2.2.2.2.2.2.1,p.2.2.2.2.2.2.2.2.1,p.2.2.2.2.2.2.2.2.2.1⟩) (fun p=>rfl)
theorem D.Box.aAW {w:Go.World}{X:Nat→Prop}{x:D.Box}(h:RdA w X x.V):x.ok:=kX h.2.2.1 (fun _ _=>trivial)
theorem D.aAE.aAW {w:Go.World}{X:Nat→Prop}{x:D.aAE}(h:RdA w X x.V):x.ok:=kX h.2.1 (fun y h=>D.Box.aAW h)
theorem D.aAA.aAW {w:Go.World}{X:Nat→Prop}{x:D.aAA}(h:RdA w X x.V):x.ok:=kX h.2.2.1 (fun _ _=>trivial)
theorem D.aAH.aAW {w:Go.World}{X:Nat→Prop}{x:D.aAH}(h:RdA w X x.V):x.ok:=⟨kX h.1 (fun _ _=>trivial),D.aAE.aAW ⟨h.2.1,h.2.2.1,trivial⟩,kX h.2.2.2.1 (fun y h=>D.aAA.aAW h)⟩
theorem D.aAK.aAW {w:Go.World}{X:Nat→Prop}{x:D.aAK}(h:RdA w X x.V):x.ok:=kX h.1 (fun _ _=>trivial)
theorem D.aAC.aAW {w:Go.World}{X:Nat→Prop}{x:D.aAC}(h:RdA w X x.V):x.ok:=kX h.1 (fun _ _=>trivial)
theorem D.Device.aAW {w:Go.World}{X:Nat→Prop}{x:D.Device}(h:RdA w X x.V):x.ok:=⟨kX h.2.2.2.2.1 (fun _ _=>trivial),D.aAC.aAW ⟨h.2.2.2.2.2.2.2.2.1,trivial⟩⟩
theorem D.aAG.aAW {w:Go.World}{X:Nat→Prop}{x:D.aAG}(h:RdA w X x.V):x.ok:=kX h.2.2.1 (fun _ _=>trivial)
theorem D.aAF.aAW {w:Go.World}{X:Nat→Prop}{x:D.aAF}(h:RdA w X x.V):x.ok:=kX h.2.2.1 (fun _ _=>trivial)
theorem D.Site.aAW {w:Go.World}{X:Nat→Prop}{x:D.Site}(h:RdA w X x.V):x.ok:=⟨bK3 h.1,kX h.2.1 (fun y h=>D.aAG.aAW h),D.aAF.aAW ⟨h.2.2.1,h.2.2.2.1,h.2.2.2.2.1,trivial⟩,kX h.2.2.2.2.2.1 (fun _ _=>trivial)⟩
theorem D.aAD.aAW {w:Go.World}{X:Nat→Prop}{x:D.aAD}(h:RdA w X x.V):x.ok:=kX h.2.2.2.2.2.1 (fun _ _=>trivial)
theorem D.World.aAW {w:Go.World}{X:Nat→Prop}{x:D.World}(h:RdA w X x.V):x.ok:=⟨kX h.2.2.1 (fun y h=>D.Device.aAW h),kX h.2.2.2.1 (fun _ _=>trivial),D.aAH.aAW ⟨h.2.2.2.2.1,h.2.2.2.2.2.1,h.2.2.2.2.2.2.1,h.2.2.2.2.2.2.2.1,trivial⟩,kX h.2.2.2.2.2.2.2.2.1 (fun y h=>D.Site.aAW h),kX h.2.2.2.2.2.2.2.2.2.2.2.2.2.1 (fun y h=>D.aAD.aAW h),D.aAK.aAW ⟨h.2.2.2.2.2.2.2.2.2.2.2.2.2.2.2.1,trivial⟩⟩
theorem yE (x0:D.World)(x1:Int):(EV.dJ Yn lK.ar (x0,x1)).map EV.Ig=[.agg (D.World.V x0), .int .i64 x1]:=by kernel_rfl
theorem uV (args:Array Value)(w:Go.World):(callFunc 3 args).run Tryz.prog w= .ok (.enter 3 args) w:=by kernel_rfl
theorem yF (x0:D.World)(x1:Int)(h:x0.ok):Spec Tryz.prog G0 3 [.agg (D.World.V x0), .int .i64 x1] (fun v=>v= .bool true):=by
 rw[←yE]
 exact(yD (x0,x1) true (aD h)).1 rfl rfl
theorem uW (x0:D.World)(x1:Int):Spec Tryz.prog G0 3 [.agg (D.World.V x0), .int .i64 x1] (fun v=>v= .bool true):=bIx (uV) (yF x0 x1) (fun w X h=>D.World.aAW (RdA.agg h.1))
end
end Go.VK
