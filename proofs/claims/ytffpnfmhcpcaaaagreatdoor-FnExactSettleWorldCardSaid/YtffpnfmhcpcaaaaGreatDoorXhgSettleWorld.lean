import Derived.Test.YtffpnfmhcpcaaaaGreatDoorXgC
import Derived.Test.YtffpnfmhcpcaaaaGreatDoorEWptor
/-
  Printed by wip/tools (own work of this part): models of functions, walks over the value kit, and proofs.
-/
set_option linter.unusedVariables false
set_option linter.unusedSimpArgs false
set_option maxRecDepth 100000
set_option maxHeartbeats 4000000
namespace Go.VK
open Go.RowKit Go.Proofs
noncomputable section
theorem T.hd3:bL Tryz.prog 3 Int iV:=bB8 Tryz.underlying3
theorem T.hd100:bL Tryz.prog 100 D.KeyStore D.KeyStore.V:=dP (t:=100) Tryz.underlying100 (by kernel_rfl) (aR (k:=1) T.hd3 rfl (by kernel_rfl) (aR (k:=1) T.hd3 rfl (by kernel_rfl) (aR (k:=1) T.hd3 rfl (by kernel_rfl) (aR (k:=1) T.hd3 rfl (by kernel_rfl) iB)))) (fun p=>⟨p.1,p.2.1,p.2.2.1,p.2.2.2.1⟩) (fun p=>rfl)
theorem T.hd215:bL Tryz.prog 215 D.LogEntry D.LogEntry.V:=dP (t:=215) Tryz.underlying215 (by kernel_rfl) (aR (k:=1) T.hd3 rfl (by kernel_rfl) (aR (k:=1) T.hd3 rfl (by kernel_rfl) (aR (k:=1) T.hd3 rfl (by kernel_rfl) (aR (k:=1) T.hd3 rfl (by kernel_rfl) (aR (k:=1) T.hd3 rfl (by kernel_rfl) (aR (k:=1) T.hd3 rfl (by kernel_rfl) iB)))))) (fun p=>⟨p.1,p.2.1,p.2.2.1,p.2.2.2.1,p.2.2.2.2.1,p.2.2.2.2.2.1⟩) (fun p=>rfl)
theorem T.hd24:bL Tryz.prog 24 (List D.LogEntry) (fun l=>[.slice 6 (l.map D.LogEntry.V)]):=gJ Tryz.underlying24 (by kernel_rfl) (by decide) (fun _=>rfl) T.hd215
theorem T.hd4:bL Tryz.prog 4 Bool bV:=bAg Tryz.underlying4
theorem T.hd312:bL Tryz.prog 312 D.Entry D.Entry.V:=dP (t:=312) Tryz.underlying312 (by kernel_rfl) (aR (k:=1) T.hd3 rfl (by kernel_rfl) (aR (k:=1) T.hd3 rfl (by kernel_rfl) (aR (k:=1) T.hd3 rfl (by kernel_rfl) (aR (k:=1) T.hd4 rfl (by kernel_rfl) iB)))) (fun p=>⟨p.1,p.2.1,p.2.2.1,p.2.2.2.1⟩) (fun p=>rfl)
theorem T.hd101:bL Tryz.prog 101 (List D.Entry) (fun l=>[.slice 4 (l.map D.Entry.V)]):=gJ Tryz.underlying101 (by kernel_rfl) (by decide) (fun _=>rfl) T.hd312
theorem T.hd103:bL Tryz.prog 103 D.Bundle D.Bundle.V:=dP (t:=103) Tryz.underlying103 (by kernel_rfl) (aR (k:=1) T.hd101 rfl (by kernel_rfl) iB) (fun p=>⟨p.1⟩) (fun p=>rfl)
theorem T.hd105:bL Tryz.prog 105 D.Device D.Device.V:=dP (t:=105) Tryz.underlying105 (by kernel_rfl) (aR (k:=4) T.hd100 rfl (by kernel_rfl) (aR (k:=1) T.hd24 rfl (by kernel_rfl) (aR (k:=1) T.hd3 rfl (by kernel_rfl) (aR (k:=1) T.hd3 rfl (by kernel_rfl) (aR (k:=1) T.hd3 rfl (by kernel_rfl) (aR (k:=1) T.hd103 rfl (by kernel_rfl) iB)))))) (fun p=>⟨p.1,p.2.1,p.2.2.1,p.2.2.2.1,p.2.2.2.2.1,p.2.2.2.2.2.1⟩) (fun p=>rfl)
theorem T.hd22:bL Tryz.prog 22 (List D.Device) (fun l=>[.slice 9 (l.map D.Device.V)]):=gJ Tryz.underlying22 (by kernel_rfl) (by decide) (fun _=>rfl) T.hd105
theorem T.hd23:bL Tryz.prog 23 (List Bool) (fun l=>[.slice 1 (l.map bV)]):=gJ Tryz.underlying23 (by kernel_rfl) (by decide) (fun _=>rfl) T.hd4
theorem T.hd5:bL Tryz.prog 5 Int y8:=bDg Tryz.underlying5
theorem T.hd134:bL Tryz.prog 134 (List Int) (fun l=>[.slice 1 (l.map y8)]):=gJ Tryz.underlying134 (by kernel_rfl) (by decide) (fun _=>rfl) T.hd5
theorem T.hd264:bL Tryz.prog 264 D.Box D.Box.V:=dP (t:=264) Tryz.underlying264 (by kernel_rfl) (aR (k:=1) T.hd3 rfl (by kernel_rfl) (aR (k:=1) T.hd3 rfl (by kernel_rfl) (aR (k:=1) T.hd134 rfl (by kernel_rfl) (aR (k:=1) T.hd3 rfl (by kernel_rfl) iB)))) (fun p=>⟨p.1,p.2.1,p.2.2.1,p.2.2.2.1⟩) (fun p=>rfl)
theorem T.hd25:bL Tryz.prog 25 (List D.Box) (fun l=>[.slice 4 (l.map D.Box.V)]):=gJ Tryz.underlying25 (by kernel_rfl) (by decide) (fun _=>rfl) T.hd264
theorem T.hd27:bL Tryz.prog 27 D.EpochBoxes D.EpochBoxes.V:=dP (t:=27) Tryz.underlying27 (by kernel_rfl) (aR (k:=1) T.hd3 rfl (by kernel_rfl) (aR (k:=1) T.hd25 rfl (by kernel_rfl) iB)) (fun p=>⟨p.1,p.2.1⟩) (fun p=>rfl)
theorem T.hd193:bL Tryz.prog 193 D.SealedBundle D.SealedBundle.V:=dP (t:=193) Tryz.underlying193 (by kernel_rfl) (aR (k:=1) T.hd3 rfl (by kernel_rfl) (aR (k:=1) T.hd3 rfl (by kernel_rfl) (aR (k:=1) T.hd134 rfl (by kernel_rfl) (aR (k:=1) T.hd3 rfl (by kernel_rfl) iB)))) (fun p=>⟨p.1,p.2.1,p.2.2.1,p.2.2.2.1⟩) (fun p=>rfl)
theorem T.hd28:bL Tryz.prog 28 (List D.SealedBundle) (fun l=>[.slice 4 (l.map D.SealedBundle.V)]):=gJ Tryz.underlying28 (by kernel_rfl) (by decide) (fun _=>rfl) T.hd193
theorem T.hd30:bL Tryz.prog 30 D.Cloud D.Cloud.V:=dP (t:=30) Tryz.underlying30 (by kernel_rfl) (aR (k:=1) T.hd24 rfl (by kernel_rfl) (aR (k:=2) T.hd27 rfl (by kernel_rfl) (aR (k:=1) T.hd28 rfl (by kernel_rfl) iB))) (fun p=>⟨p.1,p.2.1,p.2.2.1⟩) (fun p=>rfl)
theorem T.hd9:bL Tryz.prog 9 ByteArray sV:=bB9 Tryz.underlying9
theorem T.hd327:bL Tryz.prog 327 D.Credential D.Credential.V:=dP (t:=327) Tryz.underlying327 (by kernel_rfl) (aR (k:=1) T.hd3 rfl (by kernel_rfl) (aR (k:=1) T.hd3 rfl (by kernel_rfl) (aR (k:=1) T.hd3 rfl (by kernel_rfl) (aR (k:=1) T.hd4 rfl (by kernel_rfl) iB)))) (fun p=>⟨p.1,p.2.1,p.2.2.1,p.2.2.2.1⟩) (fun p=>rfl)
theorem T.hd266:bL Tryz.prog 266 (List D.Credential) (fun l=>[.slice 4 (l.map D.Credential.V)]):=gJ Tryz.underlying266 (by kernel_rfl) (by decide) (fun _=>rfl) T.hd327
theorem T.hd268:bL Tryz.prog 268 D.Account D.Account.V:=dP (t:=268) Tryz.underlying268 (by kernel_rfl) (aR (k:=1) T.hd3 rfl (by kernel_rfl) (aR (k:=1) T.hd3 rfl (by kernel_rfl) (aR (k:=1) T.hd266 rfl (by kernel_rfl) iB))) (fun p=>⟨p.1,p.2.1,p.2.2.1⟩) (fun p=>rfl)
theorem T.hd110:bL Tryz.prog 110 (List D.Account) (fun l=>[.slice 3 (l.map D.Account.V)]):=gJ Tryz.underlying110 (by kernel_rfl) (by decide) (fun _=>rfl) T.hd268
theorem T.hd315:bL Tryz.prog 315 D.Challenge D.Challenge.V:=dP (t:=315) Tryz.underlying315 (by kernel_rfl) (aR (k:=1) T.hd3 rfl (by kernel_rfl) (aR (k:=1) T.hd3 rfl (by kernel_rfl) (aR (k:=1) T.hd3 rfl (by kernel_rfl) iB))) (fun p=>⟨p.1,p.2.1,p.2.2.1⟩) (fun p=>rfl)
theorem T.hd111:bL Tryz.prog 111 (List D.Challenge) (fun l=>[.slice 3 (l.map D.Challenge.V)]):=gJ Tryz.underlying111 (by kernel_rfl) (by decide) (fun _=>rfl) T.hd315
theorem T.hd113:bL Tryz.prog 113 D.ChallengeBook D.ChallengeBook.V:=dP (t:=113) Tryz.underlying113 (by kernel_rfl) (aR (k:=1) T.hd3 rfl (by kernel_rfl) (aR (k:=1) T.hd3 rfl (by kernel_rfl) (aR (k:=1) T.hd111 rfl (by kernel_rfl) iB))) (fun p=>⟨p.1,p.2.1,p.2.2.1⟩) (fun p=>rfl)
theorem T.hd96:bL Tryz.prog 96 (List Int) (fun l=>[.slice 1 (l.map iV)]):=gJ Tryz.underlying96 (by kernel_rfl) (by decide) (fun _=>rfl) T.hd3
theorem T.hd115:bL Tryz.prog 115 D.Site D.Site.V:=dP (t:=115) Tryz.underlying115 (by kernel_rfl) (aR (k:=1) T.hd9 rfl (by kernel_rfl) (aR (k:=1) T.hd110 rfl (by kernel_rfl) (aR (k:=3) T.hd113 rfl (by kernel_rfl) (aR (k:=1) T.hd96 rfl (by kernel_rfl) iB)))) (fun p=>⟨p.1,p.2.1,p.2.2.1,p.2.2.2.1⟩) (fun p=>rfl)
theorem T.hd31:bL Tryz.prog 31 (List D.Site) (fun l=>[.slice 6 (l.map D.Site.V)]):=gJ Tryz.underlying31 (by kernel_rfl) (by decide) (fun _=>rfl) T.hd115
theorem T.hd33:bL Tryz.prog 33 D.Vault D.Vault.V:=dP (t:=33) Tryz.underlying33 (by kernel_rfl) (aR (k:=1) T.hd3 rfl (by kernel_rfl) (aR (k:=1) T.hd3 rfl (by kernel_rfl) (aR (k:=1) T.hd3 rfl (by kernel_rfl) (aR (k:=1) T.hd3 rfl (by kernel_rfl) iB)))) (fun p=>⟨p.1,p.2.1,p.2.2.1,p.2.2.2.1⟩) (fun p=>rfl)
theorem T.hd118:bL Tryz.prog 118 D.Share D.Share.V:=dP (t:=118) Tryz.underlying118 (by kernel_rfl) (aR (k:=1) T.hd3 rfl (by kernel_rfl) (aR (k:=1) T.hd3 rfl (by kernel_rfl) iB)) (fun p=>⟨p.1,p.2.1⟩) (fun p=>rfl)
theorem T.hd120:bL Tryz.prog 120 D.Keeper D.Keeper.V:=dP (t:=120) Tryz.underlying120 (by kernel_rfl) (aR (k:=2) T.hd118 rfl (by kernel_rfl) (aR (k:=1) T.hd3 rfl (by kernel_rfl) (aR (k:=1) T.hd3 rfl (by kernel_rfl) (aR (k:=1) T.hd3 rfl (by kernel_rfl) iB)))) (fun p=>⟨p.1,p.2.1,p.2.2.1,p.2.2.2.1⟩) (fun p=>rfl)
theorem T.hd121:bL Tryz.prog 121 (List D.Keeper) (fun l=>[.slice 5 (l.map D.Keeper.V)]):=gJ Tryz.underlying121 (by kernel_rfl) (by decide) (fun _=>rfl) T.hd120
theorem T.hd123:bL Tryz.prog 123 D.KeeperHost D.KeeperHost.V:=dP (t:=123) Tryz.underlying123 (by kernel_rfl) (aR (k:=5) T.hd120 rfl (by kernel_rfl) (aR (k:=1) T.hd121 rfl (by kernel_rfl) (aR (k:=1) T.hd3 rfl (by kernel_rfl) iB))) (fun p=>⟨p.1,p.2.1,p.2.2.1⟩) (fun p=>rfl)
theorem T.hd34:bL Tryz.prog 34 (List D.KeeperHost) (fun l=>[.slice 7 (l.map D.KeeperHost.V)]):=gJ Tryz.underlying34 (by kernel_rfl) (by decide) (fun _=>rfl) T.hd123
theorem T.hd226:bL Tryz.prog 226 D.Notice D.Notice.V:=dP (t:=226) Tryz.underlying226 (by kernel_rfl) (aR (k:=1) T.hd3 rfl (by kernel_rfl) (aR (k:=1) T.hd3 rfl (by kernel_rfl) (aR (k:=1) T.hd3 rfl (by kernel_rfl) (aR (k:=1) T.hd4 rfl (by kernel_rfl) iB)))) (fun p=>⟨p.1,p.2.1,p.2.2.1,p.2.2.2.1⟩) (fun p=>rfl)
theorem T.hd35:bL Tryz.prog 35 (List D.Notice) (fun l=>[.slice 4 (l.map D.Notice.V)]):=gJ Tryz.underlying35 (by kernel_rfl) (by decide) (fun _=>rfl) T.hd226
theorem T.hd37:bL Tryz.prog 37 D.Mailbox D.Mailbox.V:=dP (t:=37) Tryz.underlying37 (by kernel_rfl) (aR (k:=1) T.hd35 rfl (by kernel_rfl) iB) (fun p=>⟨p.1⟩) (fun p=>rfl)
theorem T.hd39:bL Tryz.prog 39 D.World D.World.V:=dP (t:=39) Tryz.underlying39 (by kernel_rfl) (aR (k:=1) T.hd3 rfl (by kernel_rfl) (aR (k:=1) T.hd3 rfl (by kernel_rfl) (aR (k:=1) T.hd22 rfl (by kernel_rfl) (aR (k:=1) T.hd23 rfl (by kernel_rfl) (aR (k:=4) T.hd30 rfl (by kernel_rfl) (aR (k:=1) T.hd31 rfl (by kernel_rfl) (aR (k:=4) T.hd33 rfl (by kernel_rfl) (aR (k:=1) T.hd34 rfl (by kernel_rfl) (aR (k:=1) T.hd3 rfl (by kernel_rfl) (aR (k:=1) T.hd37 rfl (by kernel_rfl) iB)))))))))) (fun p=>⟨p.1,p.2.1,p.2.2.1,p.2.2.2.1,p.2.2.2.2.1,p.2.2.2.2.2.1,p.2.2.2.2.2.2.1,p.2.2.2.2.2.2.2.1,p.2.2.2.2.2.2.2.2.1,p.2.2.2.2.2.2.2.2.2.1⟩) (fun p=>rfl)
theorem D.Box.ok_of {w:Go.World}{X:Nat→Prop}{x:D.Box}(h:R9 w X x.V):x.ok:=jL h.2.2.1 (fun _ _=>trivial)
theorem D.EpochBoxes.ok_of {w:Go.World}{X:Nat→Prop}{x:D.EpochBoxes}(h:R9 w X x.V):x.ok:=jL h.2.1 (fun y h=>D.Box.ok_of h)
theorem D.SealedBundle.ok_of {w:Go.World}{X:Nat→Prop}{x:D.SealedBundle}(h:R9 w X x.V):x.ok:=jL h.2.2.1 (fun _ _=>trivial)
theorem D.Cloud.ok_of {w:Go.World}{X:Nat→Prop}{x:D.Cloud}(h:R9 w X x.V):x.ok:=⟨jL h.1 (fun _ _=>trivial),D.EpochBoxes.ok_of ⟨h.2.1,h.2.2.1,trivial⟩,jL h.2.2.2.1 (fun y h=>D.SealedBundle.ok_of h)⟩
theorem D.Mailbox.ok_of {w:Go.World}{X:Nat→Prop}{x:D.Mailbox}(h:R9 w X x.V):x.ok:=jL h.1 (fun _ _=>trivial)
theorem D.Bundle.ok_of {w:Go.World}{X:Nat→Prop}{x:D.Bundle}(h:R9 w X x.V):x.ok:=jL h.1 (fun _ _=>trivial)
theorem D.Device.ok_of {w:Go.World}{X:Nat→Prop}{x:D.Device}(h:R9 w X x.V):x.ok:=⟨jL h.2.2.2.2.1 (fun _ _=>trivial),D.Bundle.ok_of ⟨h.2.2.2.2.2.2.2.2.1,trivial⟩⟩
theorem D.Account.ok_of {w:Go.World}{X:Nat→Prop}{x:D.Account}(h:R9 w X x.V):x.ok:=jL h.2.2.1 (fun _ _=>trivial)
theorem D.ChallengeBook.ok_of {w:Go.World}{X:Nat→Prop}{x:D.ChallengeBook}(h:R9 w X x.V):x.ok:=jL h.2.2.1 (fun _ _=>trivial)
theorem D.Site.ok_of {w:Go.World}{X:Nat→Prop}{x:D.Site}(h:R9 w X x.V):x.ok:=⟨bC4 h.1,jL h.2.1 (fun y h=>D.Account.ok_of h),D.ChallengeBook.ok_of ⟨h.2.2.1,h.2.2.2.1,h.2.2.2.2.1,trivial⟩,jL h.2.2.2.2.2.1 (fun _ _=>trivial)⟩
theorem D.KeeperHost.ok_of {w:Go.World}{X:Nat→Prop}{x:D.KeeperHost}(h:R9 w X x.V):x.ok:=jL h.2.2.2.2.2.1 (fun _ _=>trivial)
theorem D.World.ok_of {w:Go.World}{X:Nat→Prop}{x:D.World}(h:R9 w X x.V):x.ok:=⟨jL h.2.2.1 (fun y h=>D.Device.ok_of h),jL h.2.2.2.1 (fun _ _=>trivial),D.Cloud.ok_of ⟨h.2.2.2.2.1,h.2.2.2.2.2.1,h.2.2.2.2.2.2.1,h.2.2.2.2.2.2.2.1,trivial⟩,jL h.2.2.2.2.2.2.2.2.1 (fun y h=>D.Site.ok_of h),jL h.2.2.2.2.2.2.2.2.2.2.2.2.2.1 (fun y h=>D.KeeperHost.ok_of h),D.Mailbox.ok_of ⟨h.2.2.2.2.2.2.2.2.2.2.2.2.2.2.2.1,trivial⟩⟩
theorem vK (x0:D.World):(EV.cO Yn kC.ar (x0)).map EV.Du=[.agg (D.World.V x0)]:=by kernel_rfl
theorem vC (args:Array Value)(w:Go.World):(callFunc 4 args).run Tryz.prog w= .ok (.enter 4 args) w:=by kernel_rfl
theorem vL (x0:D.World)(h:x0.ok):Spec Tryz.prog G0 4 [.agg (D.World.V x0)] (fun v=>v= .bool true):=by
 rw[←vK]
 exact(vJ (x0) true (aH h)).1 rfl rfl
theorem vD (x0:D.World):Spec Tryz.prog G0 4 [.agg (D.World.V x0)] (fun v=>v= .bool true):=bBa (vC) (vL x0) (fun w X h=>D.World.ok_of (R9.agg h.1))
end
end Go.VK
