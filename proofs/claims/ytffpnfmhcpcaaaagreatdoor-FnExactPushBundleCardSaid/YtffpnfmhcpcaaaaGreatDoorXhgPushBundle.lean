import Derived.Test.YtffpnfmhcpcaaaaGreatDoorXgC
import Derived.Test.YtffpnfmhcpcaaaaGreatDoorEWptor
/-
  Printed by wip/tools (own work of this part): models of functions, walks over the value kit, and proofs.
-/
set_option linter.unusedVariables false
set_option linter.unusedSimpArgs false
set_option maxRecDepth 100000
set_option maxHeartbeats 4000000
namespace Go.VK
open Go.RowKit Go.Proofs
noncomputable section
theorem T.hd3:HasData Tryz.prog 3 Int iV:=hd_int Tryz.underlying3
theorem T.hd100:HasData Tryz.prog 100 D.KeyStore D.KeyStore.V:=hd_struct (t:=100) Tryz.underlying100 (by kernel_rfl) (hf_cons (k:=1) T.hd3 rfl (by kernel_rfl) (hf_cons (k:=1) T.hd3 rfl (by kernel_rfl) (hf_cons (k:=1) T.hd3 rfl (by kernel_rfl) (hf_cons (k:=1) T.hd3 rfl (by kernel_rfl) hf_nil)))) (fun p=>⟨p.1,p.2.1,p.2.2.1,p.2.2.2.1⟩) (fun p=>rfl)
theorem T.hd215:HasData Tryz.prog 215 D.LogEntry D.LogEntry.V:=hd_struct (t:=215) Tryz.underlying215 (by kernel_rfl) (hf_cons (k:=1) T.hd3 rfl (by kernel_rfl) (hf_cons (k:=1) T.hd3 rfl (by kernel_rfl) (hf_cons (k:=1) T.hd3 rfl (by kernel_rfl) (hf_cons (k:=1) T.hd3 rfl (by kernel_rfl) (hf_cons (k:=1) T.hd3 rfl (by kernel_rfl) (hf_cons (k:=1) T.hd3 rfl (by kernel_rfl) hf_nil)))))) (fun p=>⟨p.1,p.2.1,p.2.2.1,p.2.2.2.1,p.2.2.2.2.1,p.2.2.2.2.2.1⟩) (fun p=>rfl)
theorem T.hd24:HasData Tryz.prog 24 (List D.LogEntry) (fun l=>[.slice 6 (l.map D.LogEntry.V)]):=hd_slice Tryz.underlying24 (by kernel_rfl) (by decide) (fun _=>rfl) T.hd215
theorem T.hd4:HasData Tryz.prog 4 Bool bV:=hd_bool Tryz.underlying4
theorem T.hd312:HasData Tryz.prog 312 D.Entry D.Entry.V:=hd_struct (t:=312) Tryz.underlying312 (by kernel_rfl) (hf_cons (k:=1) T.hd3 rfl (by kernel_rfl) (hf_cons (k:=1) T.hd3 rfl (by kernel_rfl) (hf_cons (k:=1) T.hd3 rfl (by kernel_rfl) (hf_cons (k:=1) T.hd4 rfl (by kernel_rfl) hf_nil)))) (fun p=>⟨p.1,p.2.1,p.2.2.1,p.2.2.2.1⟩) (fun p=>rfl)
theorem T.hd101:HasData Tryz.prog 101 (List D.Entry) (fun l=>[.slice 4 (l.map D.Entry.V)]):=hd_slice Tryz.underlying101 (by kernel_rfl) (by decide) (fun _=>rfl) T.hd312
theorem T.hd103:HasData Tryz.prog 103 D.Bundle D.Bundle.V:=hd_struct (t:=103) Tryz.underlying103 (by kernel_rfl) (hf_cons (k:=1) T.hd101 rfl (by kernel_rfl) hf_nil) (fun p=>⟨p.1⟩) (fun p=>rfl)
theorem T.hd105:HasData Tryz.prog 105 D.Device D.Device.V:=hd_struct (t:=105) Tryz.underlying105 (by kernel_rfl) (hf_cons (k:=4) T.hd100 rfl (by kernel_rfl) (hf_cons (k:=1) T.hd24 rfl (by kernel_rfl) (hf_cons (k:=1) T.hd3 rfl (by kernel_rfl) (hf_cons (k:=1) T.hd3 rfl (by kernel_rfl) (hf_cons (k:=1) T.hd3 rfl (by kernel_rfl) (hf_cons (k:=1) T.hd103 rfl (by kernel_rfl) hf_nil)))))) (fun p=>⟨p.1,p.2.1,p.2.2.1,p.2.2.2.1,p.2.2.2.2.1,p.2.2.2.2.2.1⟩) (fun p=>rfl)
theorem T.hd22:HasData Tryz.prog 22 (List D.Device) (fun l=>[.slice 9 (l.map D.Device.V)]):=hd_slice Tryz.underlying22 (by kernel_rfl) (by decide) (fun _=>rfl) T.hd105
theorem T.hd23:HasData Tryz.prog 23 (List Bool) (fun l=>[.slice 1 (l.map bV)]):=hd_slice Tryz.underlying23 (by kernel_rfl) (by decide) (fun _=>rfl) T.hd4
theorem T.hd5:HasData Tryz.prog 5 Int y8:=hd_u8 Tryz.underlying5
theorem T.hd134:HasData Tryz.prog 134 (List Int) (fun l=>[.slice 1 (l.map y8)]):=hd_slice Tryz.underlying134 (by kernel_rfl) (by decide) (fun _=>rfl) T.hd5
theorem T.hd264:HasData Tryz.prog 264 D.Box D.Box.V:=hd_struct (t:=264) Tryz.underlying264 (by kernel_rfl) (hf_cons (k:=1) T.hd3 rfl (by kernel_rfl) (hf_cons (k:=1) T.hd3 rfl (by kernel_rfl) (hf_cons (k:=1) T.hd134 rfl (by kernel_rfl) (hf_cons (k:=1) T.hd3 rfl (by kernel_rfl) hf_nil)))) (fun p=>⟨p.1,p.2.1,p.2.2.1,p.2.2.2.1⟩) (fun p=>rfl)
theorem T.hd25:HasData Tryz.prog 25 (List D.Box) (fun l=>[.slice 4 (l.map D.Box.V)]):=hd_slice Tryz.underlying25 (by kernel_rfl) (by decide) (fun _=>rfl) T.hd264
theorem T.hd27:HasData Tryz.prog 27 D.EpochBoxes D.EpochBoxes.V:=hd_struct (t:=27) Tryz.underlying27 (by kernel_rfl) (hf_cons (k:=1) T.hd3 rfl (by kernel_rfl) (hf_cons (k:=1) T.hd25 rfl (by kernel_rfl) hf_nil)) (fun p=>⟨p.1,p.2.1⟩) (fun p=>rfl)
theorem T.hd193:HasData Tryz.prog 193 D.SealedBundle D.SealedBundle.V:=hd_struct (t:=193) Tryz.underlying193 (by kernel_rfl) (hf_cons (k:=1) T.hd3 rfl (by kernel_rfl) (hf_cons (k:=1) T.hd3 rfl (by kernel_rfl) (hf_cons (k:=1) T.hd134 rfl (by kernel_rfl) (hf_cons (k:=1) T.hd3 rfl (by kernel_rfl) hf_nil)))) (fun p=>⟨p.1,p.2.1,p.2.2.1,p.2.2.2.1⟩) (fun p=>rfl)
theorem T.hd28:HasData Tryz.prog 28 (List D.SealedBundle) (fun l=>[.slice 4 (l.map D.SealedBundle.V)]):=hd_slice Tryz.underlying28 (by kernel_rfl) (by decide) (fun _=>rfl) T.hd193
theorem T.hd30:HasData Tryz.prog 30 D.Cloud D.Cloud.V:=hd_struct (t:=30) Tryz.underlying30 (by kernel_rfl) (hf_cons (k:=1) T.hd24 rfl (by kernel_rfl) (hf_cons (k:=2) T.hd27 rfl (by kernel_rfl) (hf_cons (k:=1) T.hd28 rfl (by kernel_rfl) hf_nil))) (fun p=>⟨p.1,p.2.1,p.2.2.1⟩) (fun p=>rfl)
theorem T.hd9:HasData Tryz.prog 9 ByteArray sV:=hd_str Tryz.underlying9
theorem T.hd327:HasData Tryz.prog 327 D.Credential D.Credential.V:=hd_struct (t:=327) Tryz.underlying327 (by kernel_rfl) (hf_cons (k:=1) T.hd3 rfl (by kernel_rfl) (hf_cons (k:=1) T.hd3 rfl (by kernel_rfl) (hf_cons (k:=1) T.hd3 rfl (by kernel_rfl) (hf_cons (k:=1) T.hd4 rfl (by kernel_rfl) hf_nil)))) (fun p=>⟨p.1,p.2.1,p.2.2.1,p.2.2.2.1⟩) (fun p=>rfl)
theorem T.hd266:HasData Tryz.prog 266 (List D.Credential) (fun l=>[.slice 4 (l.map D.Credential.V)]):=hd_slice Tryz.underlying266 (by kernel_rfl) (by decide) (fun _=>rfl) T.hd327
theorem T.hd268:HasData Tryz.prog 268 D.Account D.Account.V:=hd_struct (t:=268) Tryz.underlying268 (by kernel_rfl) (hf_cons (k:=1) T.hd3 rfl (by kernel_rfl) (hf_cons (k:=1) T.hd3 rfl (by kernel_rfl) (hf_cons (k:=1) T.hd266 rfl (by kernel_rfl) hf_nil))) (fun p=>⟨p.1,p.2.1,p.2.2.1⟩) (fun p=>rfl)
theorem T.hd110:HasData Tryz.prog 110 (List D.Account) (fun l=>[.slice 3 (l.map D.Account.V)]):=hd_slice Tryz.underlying110 (by kernel_rfl) (by decide) (fun _=>rfl) T.hd268
theorem T.hd315:HasData Tryz.prog 315 D.Challenge D.Challenge.V:=hd_struct (t:=315) Tryz.underlying315 (by kernel_rfl) (hf_cons (k:=1) T.hd3 rfl (by kernel_rfl) (hf_cons (k:=1) T.hd3 rfl (by kernel_rfl) (hf_cons (k:=1) T.hd3 rfl (by kernel_rfl) hf_nil))) (fun p=>⟨p.1,p.2.1,p.2.2.1⟩) (fun p=>rfl)
theorem T.hd111:HasData Tryz.prog 111 (List D.Challenge) (fun l=>[.slice 3 (l.map D.Challenge.V)]):=hd_slice Tryz.underlying111 (by kernel_rfl) (by decide) (fun _=>rfl) T.hd315
theorem T.hd113:HasData Tryz.prog 113 D.ChallengeBook D.ChallengeBook.V:=hd_struct (t:=113) Tryz.underlying113 (by kernel_rfl) (hf_cons (k:=1) T.hd3 rfl (by kernel_rfl) (hf_cons (k:=1) T.hd3 rfl (by kernel_rfl) (hf_cons (k:=1) T.hd111 rfl (by kernel_rfl) hf_nil))) (fun p=>⟨p.1,p.2.1,p.2.2.1⟩) (fun p=>rfl)
theorem T.hd96:HasData Tryz.prog 96 (List Int) (fun l=>[.slice 1 (l.map iV)]):=hd_slice Tryz.underlying96 (by kernel_rfl) (by decide) (fun _=>rfl) T.hd3
theorem T.hd115:HasData Tryz.prog 115 D.Site D.Site.V:=hd_struct (t:=115) Tryz.underlying115 (by kernel_rfl) (hf_cons (k:=1) T.hd9 rfl (by kernel_rfl) (hf_cons (k:=1) T.hd110 rfl (by kernel_rfl) (hf_cons (k:=3) T.hd113 rfl (by kernel_rfl) (hf_cons (k:=1) T.hd96 rfl (by kernel_rfl) hf_nil)))) (fun p=>⟨p.1,p.2.1,p.2.2.1,p.2.2.2.1⟩) (fun p=>rfl)
theorem T.hd31:HasData Tryz.prog 31 (List D.Site) (fun l=>[.slice 6 (l.map D.Site.V)]):=hd_slice Tryz.underlying31 (by kernel_rfl) (by decide) (fun _=>rfl) T.hd115
theorem T.hd33:HasData Tryz.prog 33 D.Vault D.Vault.V:=hd_struct (t:=33) Tryz.underlying33 (by kernel_rfl) (hf_cons (k:=1) T.hd3 rfl (by kernel_rfl) (hf_cons (k:=1) T.hd3 rfl (by kernel_rfl) (hf_cons (k:=1) T.hd3 rfl (by kernel_rfl) (hf_cons (k:=1) T.hd3 rfl (by kernel_rfl) hf_nil)))) (fun p=>⟨p.1,p.2.1,p.2.2.1,p.2.2.2.1⟩) (fun p=>rfl)
theorem T.hd118:HasData Tryz.prog 118 D.Share D.Share.V:=hd_struct (t:=118) Tryz.underlying118 (by kernel_rfl) (hf_cons (k:=1) T.hd3 rfl (by kernel_rfl) (hf_cons (k:=1) T.hd3 rfl (by kernel_rfl) hf_nil)) (fun p=>⟨p.1,p.2.1⟩) (fun p=>rfl)
theorem T.hd120:HasData Tryz.prog 120 D.Keeper D.Keeper.V:=hd_struct (t:=120) Tryz.underlying120 (by kernel_rfl) (hf_cons (k:=2) T.hd118 rfl (by kernel_rfl) (hf_cons (k:=1) T.hd3 rfl (by kernel_rfl) (hf_cons (k:=1) T.hd3 rfl (by kernel_rfl) (hf_cons (k:=1) T.hd3 rfl (by kernel_rfl) hf_nil)))) (fun p=>⟨p.1,p.2.1,p.2.2.1,p.2.2.2.1⟩) (fun p=>rfl)
theorem T.hd121:HasData Tryz.prog 121 (List D.Keeper) (fun l=>[.slice 5 (l.map D.Keeper.V)]):=hd_slice Tryz.underlying121 (by kernel_rfl) (by decide) (fun _=>rfl) T.hd120
theorem T.hd123:HasData Tryz.prog 123 D.KeeperHost D.KeeperHost.V:=hd_struct (t:=123) Tryz.underlying123 (by kernel_rfl) (hf_cons (k:=5) T.hd120 rfl (by kernel_rfl) (hf_cons (k:=1) T.hd121 rfl (by kernel_rfl) (hf_cons (k:=1) T.hd3 rfl (by kernel_rfl) hf_nil))) (fun p=>⟨p.1,p.2.1,p.2.2.1⟩) (fun p=>rfl)
theorem T.hd34:HasData Tryz.prog 34 (List D.KeeperHost) (fun l=>[.slice 7 (l.map D.KeeperHost.V)]):=hd_slice Tryz.underlying34 (by kernel_rfl) (by decide) (fun _=>rfl) T.hd123
theorem T.hd226:HasData Tryz.prog 226 D.Notice D.Notice.V:=hd_struct (t:=226) Tryz.underlying226 (by kernel_rfl) (hf_cons (k:=1) T.hd3 rfl (by kernel_rfl) (hf_cons (k:=1) T.hd3 rfl (by kernel_rfl) (hf_cons (k:=1) T.hd3 rfl (by kernel_rfl) (hf_cons (k:=1) T.hd4 rfl (by kernel_rfl) hf_nil)))) (fun p=>⟨p.1,p.2.1,p.2.2.1,p.2.2.2.1⟩) (fun p=>rfl)
theorem T.hd35:HasData Tryz.prog 35 (List D.Notice) (fun l=>[.slice 4 (l.map D.Notice.V)]):=hd_slice Tryz.underlying35 (by kernel_rfl) (by decide) (fun _=>rfl) T.hd226
theorem T.hd37:HasData Tryz.prog 37 D.Mailbox D.Mailbox.V:=hd_struct (t:=37) Tryz.underlying37 (by kernel_rfl) (hf_cons (k:=1) T.hd35 rfl (by kernel_rfl) hf_nil) (fun p=>⟨p.1⟩) (fun p=>rfl)
theorem T.hd39:HasData Tryz.prog 39 D.World D.World.V:=hd_struct (t:=39) Tryz.underlying39 (by kernel_rfl) (hf_cons (k:=1) T.hd3 rfl (by kernel_rfl) (hf_cons (k:=1) T.hd3 rfl (by kernel_rfl) (hf_cons (k:=1) T.hd22 rfl (by kernel_rfl) (hf_cons (k:=1) T.hd23 rfl (by kernel_rfl) (hf_cons (k:=4) T.hd30 rfl (by kernel_rfl) (hf_cons (k:=1) T.hd31 rfl (by kernel_rfl) (hf_cons (k:=4) T.hd33 rfl (by kernel_rfl) (hf_cons (k:=1) T.hd34 rfl (by kernel_rfl) (hf_cons (k:=1) T.hd3 rfl (by kernel_rfl) (hf_cons (k:=1) T.hd37 rfl (by kernel_rfl) hf_nil)))))))))) (fun p=>⟨p.1,p.2.1,p.2.2.1,p.2.2.2.1,p.2.2.2.2.1,p.2.2.2.2.2.1,p.2.2.2.2.2.2.1,p.2.2.2.2.2.2.2.1,p.2.2.2.2.2.2.2.2.1,p.2.2.2.2.2.2.2.2.2.1⟩) (fun p=>rfl)
theorem D.Box.ok_of {w:Go.World}{X:Nat→Prop}{x:D.Box}(h:RdA w X x.V):x.ok:=okL_of h.2.2.1 (fun _ _=>trivial)
theorem D.EpochBoxes.ok_of {w:Go.World}{X:Nat→Prop}{x:D.EpochBoxes}(h:RdA w X x.V):x.ok:=okL_of h.2.1 (fun y h=>D.Box.ok_of h)
theorem D.SealedBundle.ok_of {w:Go.World}{X:Nat→Prop}{x:D.SealedBundle}(h:RdA w X x.V):x.ok:=okL_of h.2.2.1 (fun _ _=>trivial)
theorem D.Cloud.ok_of {w:Go.World}{X:Nat→Prop}{x:D.Cloud}(h:RdA w X x.V):x.ok:=⟨okL_of h.1 (fun _ _=>trivial),D.EpochBoxes.ok_of ⟨h.2.1,h.2.2.1,trivial⟩,okL_of h.2.2.2.1 (fun y h=>D.SealedBundle.ok_of h)⟩
theorem D.Mailbox.ok_of {w:Go.World}{X:Nat→Prop}{x:D.Mailbox}(h:RdA w X x.V):x.ok:=okL_of h.1 (fun _ _=>trivial)
theorem D.Bundle.ok_of {w:Go.World}{X:Nat→Prop}{x:D.Bundle}(h:RdA w X x.V):x.ok:=okL_of h.1 (fun _ _=>trivial)
theorem D.Device.ok_of {w:Go.World}{X:Nat→Prop}{x:D.Device}(h:RdA w X x.V):x.ok:=⟨okL_of h.2.2.2.2.1 (fun _ _=>trivial),D.Bundle.ok_of ⟨h.2.2.2.2.2.2.2.2.1,trivial⟩⟩
theorem D.Account.ok_of {w:Go.World}{X:Nat→Prop}{x:D.Account}(h:RdA w X x.V):x.ok:=okL_of h.2.2.1 (fun _ _=>trivial)
theorem D.ChallengeBook.ok_of {w:Go.World}{X:Nat→Prop}{x:D.ChallengeBook}(h:RdA w X x.V):x.ok:=okL_of h.2.2.1 (fun _ _=>trivial)
theorem D.Site.ok_of {w:Go.World}{X:Nat→Prop}{x:D.Site}(h:RdA w X x.V):x.ok:=⟨okS_of h.1,okL_of h.2.1 (fun y h=>D.Account.ok_of h),D.ChallengeBook.ok_of ⟨h.2.2.1,h.2.2.2.1,h.2.2.2.2.1,trivial⟩,okL_of h.2.2.2.2.2.1 (fun _ _=>trivial)⟩
theorem D.KeeperHost.ok_of {w:Go.World}{X:Nat→Prop}{x:D.KeeperHost}(h:RdA w X x.V):x.ok:=okL_of h.2.2.2.2.2.1 (fun _ _=>trivial)
theorem D.World.ok_of {w:Go.World}{X:Nat→Prop}{x:D.World}(h:RdA w X x.V):x.ok:=⟨okL_of h.2.2.1 (fun y h=>D.Device.ok_of h),okL_of h.2.2.2.1 (fun _ _=>trivial),D.Cloud.ok_of ⟨h.2.2.2.2.1,h.2.2.2.2.2.1,h.2.2.2.2.2.2.1,h.2.2.2.2.2.2.2.1,trivial⟩,okL_of h.2.2.2.2.2.2.2.2.1 (fun y h=>D.Site.ok_of h),okL_of h.2.2.2.2.2.2.2.2.2.2.2.2.2.1 (fun y h=>D.KeeperHost.ok_of h),D.Mailbox.ok_of ⟨h.2.2.2.2.2.2.2.2.2.2.2.2.2.2.2.1,trivial⟩⟩
theorem v_laws_FnExactPushBundle (x0:D.World)(x1:Int):(EV.toCps Yn S_laws_FnExactPushBundle.ar (x0,x1)).map EV.cpV=[.agg (D.World.V x0), .int .i64 x1]:=by kernel_rfl
theorem en_laws_FnExactPushBundle (args:Array Value)(w:Go.World):(callFunc 3 args).run Tryz.prog w= .ok (.enter 3 args) w:=by kernel_rfl
theorem k_laws_FnExactPushBundle (x0:D.World)(x1:Int)(h:x0.ok):Spec Tryz.prog G0 3 [.agg (D.World.V x0), .int .i64 x1] (fun v=>v= .bool true):=by
 rw[←v_laws_FnExactPushBundle]
 exact(s_laws_FnExactPushBundle (x0,x1) true (gd_t h)).1 rfl rfl
theorem sp_laws_FnExactPushBundle (x0:D.World)(x1:Int):Spec Tryz.prog G0 3 [.agg (D.World.V x0), .int .i64 x1] (fun v=>v= .bool true):=spec_of (en_laws_FnExactPushBundle) (k_laws_FnExactPushBundle x0 x1) (fun w X h=>D.World.ok_of (RdA.agg h.1))
end
end Go.VK
