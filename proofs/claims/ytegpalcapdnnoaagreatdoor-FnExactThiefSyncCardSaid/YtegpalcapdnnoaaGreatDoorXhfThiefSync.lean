import Derived.Test.YtegpalcapdnnoaaGreatDoorXfC
import Derived.Test.YtegpalcapdnnoaaGreatDoorEVybtot
/-
  Printed by wip/tools (own work of this part): models of functions, walks over the value kit, and proofs.
-/
set_option linter.unusedVariables false
set_option linter.unusedSimpArgs false
set_option maxRecDepth 100000
set_option maxHeartbeats 4000000
namespace Go.VK
open Go.RowKit Go.Proofs
noncomputable section
theorem T.hd3:HasData Tryz.prog 3 Int iV:=hd_int Tryz.underlying3
theorem T.hd109:HasData Tryz.prog 109 D.KeyStore D.KeyStore.V:=hd_struct (t:=109) Tryz.underlying109 (by kernel_rfl) (hf_cons (k:=1) T.hd3 rfl (by kernel_rfl) (hf_cons (k:=1) T.hd3 rfl (by kernel_rfl) (hf_cons (k:=1) T.hd3 rfl (by kernel_rfl) (hf_cons (k:=1) T.hd3 rfl (by kernel_rfl) hf_nil)))) (fun p=>⟨p.1,p.2.1,p.2.2.1,p.2.2.2.1⟩) (fun p=>rfl)
theorem T.hd212:HasData Tryz.prog 212 D.LogEntry D.LogEntry.V:=hd_struct (t:=212) Tryz.underlying212 (by kernel_rfl) (hf_cons (k:=1) T.hd3 rfl (by kernel_rfl) (hf_cons (k:=1) T.hd3 rfl (by kernel_rfl) (hf_cons (k:=1) T.hd3 rfl (by kernel_rfl) (hf_cons (k:=1) T.hd3 rfl (by kernel_rfl) (hf_cons (k:=1) T.hd3 rfl (by kernel_rfl) (hf_cons (k:=1) T.hd3 rfl (by kernel_rfl) hf_nil)))))) (fun p=>⟨p.1,p.2.1,p.2.2.1,p.2.2.2.1,p.2.2.2.2.1,p.2.2.2.2.2.1⟩) (fun p=>rfl)
theorem T.hd24:HasData Tryz.prog 24 (List D.LogEntry) (fun l=>[.slice 6 (l.map D.LogEntry.V)]):=hd_slice Tryz.underlying24 (by kernel_rfl) (by decide) (fun _=>rfl) T.hd212
theorem T.hd4:HasData Tryz.prog 4 Bool bV:=hd_bool Tryz.underlying4
theorem T.hd305:HasData Tryz.prog 305 D.Entry D.Entry.V:=hd_struct (t:=305) Tryz.underlying305 (by kernel_rfl) (hf_cons (k:=1) T.hd3 rfl (by kernel_rfl) (hf_cons (k:=1) T.hd3 rfl (by kernel_rfl) (hf_cons (k:=1) T.hd3 rfl (by kernel_rfl) (hf_cons (k:=1) T.hd4 rfl (by kernel_rfl) hf_nil)))) (fun p=>⟨p.1,p.2.1,p.2.2.1,p.2.2.2.1⟩) (fun p=>rfl)
theorem T.hd110:HasData Tryz.prog 110 (List D.Entry) (fun l=>[.slice 4 (l.map D.Entry.V)]):=hd_slice Tryz.underlying110 (by kernel_rfl) (by decide) (fun _=>rfl) T.hd305
theorem T.hd112:HasData Tryz.prog 112 D.Bundle D.Bundle.V:=hd_struct (t:=112) Tryz.underlying112 (by kernel_rfl) (hf_cons (k:=1) T.hd110 rfl (by kernel_rfl) hf_nil) (fun p=>⟨p.1⟩) (fun p=>rfl)
theorem T.hd114:HasData Tryz.prog 114 D.Device D.Device.V:=hd_struct (t:=114) Tryz.underlying114 (by kernel_rfl) (hf_cons (k:=4) T.hd109 rfl (by kernel_rfl) (hf_cons (k:=1) T.hd24 rfl (by kernel_rfl) (hf_cons (k:=1) T.hd3 rfl (by kernel_rfl) (hf_cons (k:=1) T.hd3 rfl (by kernel_rfl) (hf_cons (k:=1) T.hd3 rfl (by kernel_rfl) (hf_cons (k:=1) T.hd112 rfl (by kernel_rfl) hf_nil)))))) (fun p=>⟨p.1,p.2.1,p.2.2.1,p.2.2.2.1,p.2.2.2.2.1,p.2.2.2.2.2.1⟩) (fun p=>rfl)
theorem T.hd22:HasData Tryz.prog 22 (List D.Device) (fun l=>[.slice 9 (l.map D.Device.V)]):=hd_slice Tryz.underlying22 (by kernel_rfl) (by decide) (fun _=>rfl) T.hd114
theorem T.hd23:HasData Tryz.prog 23 (List Bool) (fun l=>[.slice 1 (l.map bV)]):=hd_slice Tryz.underlying23 (by kernel_rfl) (by decide) (fun _=>rfl) T.hd4
theorem T.hd5:HasData Tryz.prog 5 Int y8:=hd_u8 Tryz.underlying5
theorem T.hd90:HasData Tryz.prog 90 (List Int) (fun l=>[.slice 1 (l.map y8)]):=hd_slice Tryz.underlying90 (by kernel_rfl) (by decide) (fun _=>rfl) T.hd5
theorem T.hd264:HasData Tryz.prog 264 D.Box D.Box.V:=hd_struct (t:=264) Tryz.underlying264 (by kernel_rfl) (hf_cons (k:=1) T.hd3 rfl (by kernel_rfl) (hf_cons (k:=1) T.hd3 rfl (by kernel_rfl) (hf_cons (k:=1) T.hd90 rfl (by kernel_rfl) (hf_cons (k:=1) T.hd3 rfl (by kernel_rfl) hf_nil)))) (fun p=>⟨p.1,p.2.1,p.2.2.1,p.2.2.2.1⟩) (fun p=>rfl)
theorem T.hd25:HasData Tryz.prog 25 (List D.Box) (fun l=>[.slice 4 (l.map D.Box.V)]):=hd_slice Tryz.underlying25 (by kernel_rfl) (by decide) (fun _=>rfl) T.hd264
theorem T.hd27:HasData Tryz.prog 27 D.EpochBoxes D.EpochBoxes.V:=hd_struct (t:=27) Tryz.underlying27 (by kernel_rfl) (hf_cons (k:=1) T.hd3 rfl (by kernel_rfl) (hf_cons (k:=1) T.hd25 rfl (by kernel_rfl) hf_nil)) (fun p=>⟨p.1,p.2.1⟩) (fun p=>rfl)
theorem T.hd195:HasData Tryz.prog 195 D.SealedBundle D.SealedBundle.V:=hd_struct (t:=195) Tryz.underlying195 (by kernel_rfl) (hf_cons (k:=1) T.hd3 rfl (by kernel_rfl) (hf_cons (k:=1) T.hd3 rfl (by kernel_rfl) (hf_cons (k:=1) T.hd90 rfl (by kernel_rfl) (hf_cons (k:=1) T.hd3 rfl (by kernel_rfl) hf_nil)))) (fun p=>⟨p.1,p.2.1,p.2.2.1,p.2.2.2.1⟩) (fun p=>rfl)
theorem T.hd28:HasData Tryz.prog 28 (List D.SealedBundle) (fun l=>[.slice 4 (l.map D.SealedBundle.V)]):=hd_slice Tryz.underlying28 (by kernel_rfl) (by decide) (fun _=>rfl) T.hd195
theorem T.hd30:HasData Tryz.prog 30 D.Cloud D.Cloud.V:=hd_struct (t:=30) Tryz.underlying30 (by kernel_rfl) (hf_cons (k:=1) T.hd24 rfl (by kernel_rfl) (hf_cons (k:=2) T.hd27 rfl (by kernel_rfl) (hf_cons (k:=1) T.hd28 rfl (by kernel_rfl) hf_nil))) (fun p=>⟨p.1,p.2.1,p.2.2.1⟩) (fun p=>rfl)
theorem T.hd9:HasData Tryz.prog 9 ByteArray sV:=hd_str Tryz.underlying9
theorem T.hd316:HasData Tryz.prog 316 D.Credential D.Credential.V:=hd_struct (t:=316) Tryz.underlying316 (by kernel_rfl) (hf_cons (k:=1) T.hd3 rfl (by kernel_rfl) (hf_cons (k:=1) T.hd3 rfl (by kernel_rfl) (hf_cons (k:=1) T.hd3 rfl (by kernel_rfl) (hf_cons (k:=1) T.hd4 rfl (by kernel_rfl) hf_nil)))) (fun p=>⟨p.1,p.2.1,p.2.2.1,p.2.2.2.1⟩) (fun p=>rfl)
theorem T.hd266:HasData Tryz.prog 266 (List D.Credential) (fun l=>[.slice 4 (l.map D.Credential.V)]):=hd_slice Tryz.underlying266 (by kernel_rfl) (by decide) (fun _=>rfl) T.hd316
theorem T.hd268:HasData Tryz.prog 268 D.Account D.Account.V:=hd_struct (t:=268) Tryz.underlying268 (by kernel_rfl) (hf_cons (k:=1) T.hd3 rfl (by kernel_rfl) (hf_cons (k:=1) T.hd3 rfl (by kernel_rfl) (hf_cons (k:=1) T.hd266 rfl (by kernel_rfl) hf_nil))) (fun p=>⟨p.1,p.2.1,p.2.2.1⟩) (fun p=>rfl)
theorem T.hd119:HasData Tryz.prog 119 (List D.Account) (fun l=>[.slice 3 (l.map D.Account.V)]):=hd_slice Tryz.underlying119 (by kernel_rfl) (by decide) (fun _=>rfl) T.hd268
theorem T.hd308:HasData Tryz.prog 308 D.Challenge D.Challenge.V:=hd_struct (t:=308) Tryz.underlying308 (by kernel_rfl) (hf_cons (k:=1) T.hd3 rfl (by kernel_rfl) (hf_cons (k:=1) T.hd3 rfl (by kernel_rfl) (hf_cons (k:=1) T.hd3 rfl (by kernel_rfl) hf_nil))) (fun p=>⟨p.1,p.2.1,p.2.2.1⟩) (fun p=>rfl)
theorem T.hd120:HasData Tryz.prog 120 (List D.Challenge) (fun l=>[.slice 3 (l.map D.Challenge.V)]):=hd_slice Tryz.underlying120 (by kernel_rfl) (by decide) (fun _=>rfl) T.hd308
theorem T.hd122:HasData Tryz.prog 122 D.ChallengeBook D.ChallengeBook.V:=hd_struct (t:=122) Tryz.underlying122 (by kernel_rfl) (hf_cons (k:=1) T.hd3 rfl (by kernel_rfl) (hf_cons (k:=1) T.hd3 rfl (by kernel_rfl) (hf_cons (k:=1) T.hd120 rfl (by kernel_rfl) hf_nil))) (fun p=>⟨p.1,p.2.1,p.2.2.1⟩) (fun p=>rfl)
theorem T.hd123:HasData Tryz.prog 123 (List Int) (fun l=>[.slice 1 (l.map iV)]):=hd_slice Tryz.underlying123 (by kernel_rfl) (by decide) (fun _=>rfl) T.hd3
theorem T.hd125:HasData Tryz.prog 125 D.Site D.Site.V:=hd_struct (t:=125) Tryz.underlying125 (by kernel_rfl) (hf_cons (k:=1) T.hd9 rfl (by kernel_rfl) (hf_cons (k:=1) T.hd119 rfl (by kernel_rfl) (hf_cons (k:=3) T.hd122 rfl (by kernel_rfl) (hf_cons (k:=1) T.hd123 rfl (by kernel_rfl) hf_nil)))) (fun p=>⟨p.1,p.2.1,p.2.2.1,p.2.2.2.1⟩) (fun p=>rfl)
theorem T.hd31:HasData Tryz.prog 31 (List D.Site) (fun l=>[.slice 6 (l.map D.Site.V)]):=hd_slice Tryz.underlying31 (by kernel_rfl) (by decide) (fun _=>rfl) T.hd125
theorem T.hd33:HasData Tryz.prog 33 D.Vault D.Vault.V:=hd_struct (t:=33) Tryz.underlying33 (by kernel_rfl) (hf_cons (k:=1) T.hd3 rfl (by kernel_rfl) (hf_cons (k:=1) T.hd3 rfl (by kernel_rfl) (hf_cons (k:=1) T.hd3 rfl (by kernel_rfl) (hf_cons (k:=1) T.hd3 rfl (by kernel_rfl) hf_nil)))) (fun p=>⟨p.1,p.2.1,p.2.2.1,p.2.2.2.1⟩) (fun p=>rfl)
theorem T.hd128:HasData Tryz.prog 128 D.Share D.Share.V:=hd_struct (t:=128) Tryz.underlying128 (by kernel_rfl) (hf_cons (k:=1) T.hd3 rfl (by kernel_rfl) (hf_cons (k:=1) T.hd3 rfl (by kernel_rfl) hf_nil)) (fun p=>⟨p.1,p.2.1⟩) (fun p=>rfl)
theorem T.hd130:HasData Tryz.prog 130 D.Keeper D.Keeper.V:=hd_struct (t:=130) Tryz.underlying130 (by kernel_rfl) (hf_cons (k:=2) T.hd128 rfl (by kernel_rfl) (hf_cons (k:=1) T.hd3 rfl (by kernel_rfl) (hf_cons (k:=1) T.hd3 rfl (by kernel_rfl) (hf_cons (k:=1) T.hd3 rfl (by kernel_rfl) hf_nil)))) (fun p=>⟨p.1,p.2.1,p.2.2.1,p.2.2.2.1⟩) (fun p=>rfl)
theorem T.hd131:HasData Tryz.prog 131 (List D.Keeper) (fun l=>[.slice 5 (l.map D.Keeper.V)]):=hd_slice Tryz.underlying131 (by kernel_rfl) (by decide) (fun _=>rfl) T.hd130
theorem T.hd133:HasData Tryz.prog 133 D.KeeperHost D.KeeperHost.V:=hd_struct (t:=133) Tryz.underlying133 (by kernel_rfl) (hf_cons (k:=5) T.hd130 rfl (by kernel_rfl) (hf_cons (k:=1) T.hd131 rfl (by kernel_rfl) (hf_cons (k:=1) T.hd3 rfl (by kernel_rfl) hf_nil))) (fun p=>⟨p.1,p.2.1,p.2.2.1⟩) (fun p=>rfl)
theorem T.hd34:HasData Tryz.prog 34 (List D.KeeperHost) (fun l=>[.slice 7 (l.map D.KeeperHost.V)]):=hd_slice Tryz.underlying34 (by kernel_rfl) (by decide) (fun _=>rfl) T.hd133
theorem T.hd223:HasData Tryz.prog 223 D.Notice D.Notice.V:=hd_struct (t:=223) Tryz.underlying223 (by kernel_rfl) (hf_cons (k:=1) T.hd3 rfl (by kernel_rfl) (hf_cons (k:=1) T.hd3 rfl (by kernel_rfl) (hf_cons (k:=1) T.hd3 rfl (by kernel_rfl) (hf_cons (k:=1) T.hd4 rfl (by kernel_rfl) hf_nil)))) (fun p=>⟨p.1,p.2.1,p.2.2.1,p.2.2.2.1⟩) (fun p=>rfl)
theorem T.hd35:HasData Tryz.prog 35 (List D.Notice) (fun l=>[.slice 4 (l.map D.Notice.V)]):=hd_slice Tryz.underlying35 (by kernel_rfl) (by decide) (fun _=>rfl) T.hd223
theorem T.hd37:HasData Tryz.prog 37 D.Mailbox D.Mailbox.V:=hd_struct (t:=37) Tryz.underlying37 (by kernel_rfl) (hf_cons (k:=1) T.hd35 rfl (by kernel_rfl) hf_nil) (fun p=>⟨p.1⟩) (fun p=>rfl)
theorem T.hd39:HasData Tryz.prog 39 D.World D.World.V:=hd_struct (t:=39) Tryz.underlying39 (by kernel_rfl) (hf_cons (k:=1) T.hd3 rfl (by kernel_rfl) (hf_cons (k:=1) T.hd3 rfl (by kernel_rfl) (hf_cons (k:=1) T.hd22 rfl (by kernel_rfl) (hf_cons (k:=1) T.hd23 rfl (by kernel_rfl) (hf_cons (k:=4) T.hd30 rfl (by kernel_rfl) (hf_cons (k:=1) T.hd31 rfl (by kernel_rfl) (hf_cons (k:=4) T.hd33 rfl (by kernel_rfl) (hf_cons (k:=1) T.hd34 rfl (by kernel_rfl) (hf_cons (k:=1) T.hd3 rfl (by kernel_rfl) (hf_cons (k:=1) T.hd37 rfl (by kernel_rfl) hf_nil)))))))))) (fun p=>⟨p.1,p.2.1,p.2.2.1,p.2.2.2.1,p.2.2.2.2.1,p.2.2.2.2.2.1,p.2.2.2.2.2.2.1,p.2.2.2.2.2.2.2.1,p.2.2.2.2.2.2.2.2.1,p.2.2.2.2.2.2.2.2.2.1⟩) (fun p=>rfl)
theorem D.Box.ok_of {w:Go.World}{X:Nat→Prop}{x:D.Box}(h:RdA w X x.V):x.ok:=okL_of h.2.2.1 (fun _ _=>trivial)
theorem D.EpochBoxes.ok_of {w:Go.World}{X:Nat→Prop}{x:D.EpochBoxes}(h:RdA w X x.V):x.ok:=okL_of h.2.1 (fun y h=>D.Box.ok_of h)
theorem D.SealedBundle.ok_of {w:Go.World}{X:Nat→Prop}{x:D.SealedBundle}(h:RdA w X x.V):x.ok:=okL_of h.2.2.1 (fun _ _=>trivial)
theorem D.Cloud.ok_of {w:Go.World}{X:Nat→Prop}{x:D.Cloud}(h:RdA w X x.V):x.ok:=⟨okL_of h.1 (fun _ _=>trivial),D.EpochBoxes.ok_of ⟨h.2.1,h.2.2.1,trivial⟩,okL_of h.2.2.2.1 (fun y h=>D.SealedBundle.ok_of h)⟩
theorem D.Mailbox.ok_of {w:Go.World}{X:Nat→Prop}{x:D.Mailbox}(h:RdA w X x.V):x.ok:=okL_of h.1 (fun _ _=>trivial)
theorem D.Bundle.ok_of {w:Go.World}{X:Nat→Prop}{x:D.Bundle}(h:RdA w X x.V):x.ok:=okL_of h.1 (fun _ _=>trivial)
theorem D.Device.ok_of {w:Go.World}{X:Nat→Prop}{x:D.Device}(h:RdA w X x.V):x.ok:=⟨okL_of h.2.2.2.2.1 (fun _ _=>trivial),D.Bundle.ok_of ⟨h.2.2.2.2.2.2.2.2.1,trivial⟩⟩
theorem D.Account.ok_of {w:Go.World}{X:Nat→Prop}{x:D.Account}(h:RdA w X x.V):x.ok:=okL_of h.2.2.1 (fun _ _=>trivial)
theorem D.ChallengeBook.ok_of {w:Go.World}{X:Nat→Prop}{x:D.ChallengeBook}(h:RdA w X x.V):x.ok:=okL_of h.2.2.1 (fun _ _=>trivial)
theorem D.Site.ok_of {w:Go.World}{X:Nat→Prop}{x:D.Site}(h:RdA w X x.V):x.ok:=⟨okS_of h.1,okL_of h.2.1 (fun y h=>D.Account.ok_of h),D.ChallengeBook.ok_of ⟨h.2.2.1,h.2.2.2.1,h.2.2.2.2.1,trivial⟩,okL_of h.2.2.2.2.2.1 (fun _ _=>trivial)⟩
theorem D.KeeperHost.ok_of {w:Go.World}{X:Nat→Prop}{x:D.KeeperHost}(h:RdA w X x.V):x.ok:=okL_of h.2.2.2.2.2.1 (fun _ _=>trivial)
theorem D.World.ok_of {w:Go.World}{X:Nat→Prop}{x:D.World}(h:RdA w X x.V):x.ok:=⟨okL_of h.2.2.1 (fun y h=>D.Device.ok_of h),okL_of h.2.2.2.1 (fun _ _=>trivial),D.Cloud.ok_of ⟨h.2.2.2.2.1,h.2.2.2.2.2.1,h.2.2.2.2.2.2.1,h.2.2.2.2.2.2.2.1,trivial⟩,okL_of h.2.2.2.2.2.2.2.2.1 (fun y h=>D.Site.ok_of h),okL_of h.2.2.2.2.2.2.2.2.2.2.2.2.2.1 (fun y h=>D.KeeperHost.ok_of h),D.Mailbox.ok_of ⟨h.2.2.2.2.2.2.2.2.2.2.2.2.2.2.2.1,trivial⟩⟩
theorem v_laws_FnExactThiefSync (x0:D.World)(x1:Int):(EV.toCps Yn S_laws_FnExactThiefSync.ar (x0,x1)).map EV.cpV=[.agg (D.World.V x0), .int .i64 x1]:=by kernel_rfl
theorem en_laws_FnExactThiefSync (args:Array Value)(w:Go.World):(callFunc 4 args).run Tryz.prog w= .ok (.enter 4 args) w:=by kernel_rfl
theorem k_laws_FnExactThiefSync (x0:D.World)(x1:Int)(h:x0.ok):Spec Tryz.prog G0 4 [.agg (D.World.V x0), .int .i64 x1] (fun v=>v= .bool true):=by
 rw[←v_laws_FnExactThiefSync]
 exact(s_laws_FnExactThiefSync (x0,x1) true (gd_t h)).1 rfl rfl
theorem sp_laws_FnExactThiefSync (x0:D.World)(x1:Int):Spec Tryz.prog G0 4 [.agg (D.World.V x0), .int .i64 x1] (fun v=>v= .bool true):=spec_of (en_laws_FnExactThiefSync) (k_laws_FnExactThiefSync x0 x1) (fun w X h=>D.World.ok_of (RdA.agg h.1))
end
end Go.VK
