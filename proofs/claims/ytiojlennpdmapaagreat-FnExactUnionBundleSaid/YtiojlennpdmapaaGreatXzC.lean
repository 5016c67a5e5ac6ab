import Derived.Test.YtiojlennpdmapaaGreatXzL
import Derived.Test.YtiojlennpdmapaaGreatXzP
/-
  Printed by wip/tools (own work of this part): models of functions, walks over the value kit, and proofs.
-/
set_option linter.unusedVariables false
set_option linter.unusedSimpArgs false
set_option maxRecDepth 100000
set_option maxHeartbeats 4000000
namespace Go.VK
open Go.RowKit Go.Proofs
noncomputable section
abbrev FS_laws_szLogEntryS : List (Nat × EV.Sum Un) := []
open EV in
def an_laws_szLogEntryS : An := (.s .n (.s .n (.s (.s .n (.s (.s .n .n) .n)) (.s .n .n))))
theorem e_laws_szLogEntryS (a0 : List D.LogEntry) (a1 : Int) : EV.evF Yn TI FS_laws_szLogEntryS (an_laws_szLogEntryS) (bodyOf Tryz.f58) 12 [.sl 198, .int .i64] [.int .i64] false [.tmp 4] (a0, a1) = m_laws_szLogEntryS a0 a1 := by kernel_rfl
def S_laws_szLogEntryS : EV.Sum Un := ⟨[.sl 198, .int .i64], [.int .i64], false, false, fun (a : (List D.LogEntry) × Int) => gd (SzP (okL (fun _ : D.LogEntry => True)) a.1 a.2) (some (szI (a.1.length) a.2))⟩
theorem en_laws_szLogEntryS (args : Array Value) (w : World) : (callFunc 58 args).run Tryz.prog w = .ok (.enter 58 args) w := by kernel_rfl
theorem s_laws_szLogEntryS : EV.SumOk Tryz.prog G0 Yn 58 S_laws_szLogEntryS := EV.sum_ok (an := fun _ => an_laws_szLogEntryS) good0 T.mix Tryz.func58 (cd := bodyOf Tryz.f58) rfl Tryz.ntmps58 (l := [.tmp 4]) rfl en_laws_szLogEntryS (by decide) rfl (fun (a : (List D.LogEntry) × Int) r hr => (e_laws_szLogEntryS a.1 a.2).trans (gd_use (t_laws_szLogEntryS a.1 a.2) hr))
abbrev FS_laws_szEntryS : List (Nat × EV.Sum Un) := []
open EV in
def an_laws_szEntryS : An := (.s .n (.s .n (.s (.s .n (.s (.s .n .n) .n)) (.s .n .n))))
theorem e_laws_szEntryS (a0 : List D.Entry) (a1 : Int) : EV.evF Yn TI FS_laws_szEntryS (an_laws_szEntryS) (bodyOf Tryz.f139) 12 [.sl 253, .int .i64] [.int .i64] false [.tmp 4] (a0, a1) = m_laws_szEntryS a0 a1 := by kernel_rfl
def S_laws_szEntryS : EV.Sum Un := ⟨[.sl 253, .int .i64], [.int .i64], false, false, fun (a : (List D.Entry) × Int) => gd (SzP (okL (fun _ : D.Entry => True)) a.1 a.2) (some (szI (a.1.length) a.2))⟩
theorem en_laws_szEntryS (args : Array Value) (w : World) : (callFunc 139 args).run Tryz.prog w = .ok (.enter 139 args) w := by kernel_rfl
theorem s_laws_szEntryS : EV.SumOk Tryz.prog G0 Yn 139 S_laws_szEntryS := EV.sum_ok (an := fun _ => an_laws_szEntryS) good0 T.mix Tryz.func139 (cd := bodyOf Tryz.f139) rfl Tryz.ntmps139 (l := [.tmp 4]) rfl en_laws_szEntryS (by decide) rfl (fun (a : (List D.Entry) × Int) r hr => (e_laws_szEntryS a.1 a.2).trans (gd_use (t_laws_szEntryS a.1 a.2) hr))
abbrev FS_laws_szBundle : List (Nat × EV.Sum Un) := [(139, S_laws_szEntryS)]
open EV in
def an_laws_szBundle : An := (.s .n (.s .n (.s (.s .n (.s (.s .n .n) .n)) (.s .n .n))))
theorem e_laws_szBundle (a0 : D.Bundle) (a1 : Int) : EV.evF Yn TI FS_laws_szBundle (an_laws_szBundle) (bodyOf Tryz.f103) 12 [.st 112, .int .i64] [.int .i64] false [.tmp 4] (a0, a1) = m_laws_szBundle a0 a1 := by kernel_rfl
def S_laws_szBundle : EV.Sum Un := ⟨[.st 112, .int .i64], [.int .i64], false, false, fun (a : D.Bundle × Int) => gd (SzP D.Bundle.ok a.1 a.2) (some (szI (a.1.sz) a.2))⟩
theorem en_laws_szBundle (args : Array Value) (w : World) : (callFunc 103 args).run Tryz.prog w = .ok (.enter 103 args) w := by kernel_rfl
theorem s_laws_szBundle : EV.SumOk Tryz.prog G0 Yn 103 S_laws_szBundle := EV.sum_ok (an := fun _ => an_laws_szBundle) (EV.good_cons s_laws_szEntryS good0) T.mix Tryz.func103 (cd := bodyOf Tryz.f103) rfl Tryz.ntmps103 (l := [.tmp 4]) rfl en_laws_szBundle (by decide) rfl (fun (a : D.Bundle × Int) r hr => (e_laws_szBundle a.1 a.2).trans (gd_use (t_laws_szBundle a.1 a.2) hr))
abbrev FS_laws_szDevice : List (Nat × EV.Sum Un) := [(58, S_laws_szLogEntryS), (103, S_laws_szBundle)]
open EV in
def an_laws_szDevice : An := (.s .n (.s .n (.s (.s .n (.s (.s .n .n) .n)) (.s .n (.s (.s .n (.s (.s .n .n) .n)) (.s .n .n))))))
theorem e_laws_szDevice (a0 : D.Device) (a1 : Int) : EV.evF Yn TI FS_laws_szDevice (an_laws_szDevice) (bodyOf Tryz.f57) 18 [.st 114, .int .i64] [.int .i64] false [.tmp 4] (a0, a1) = m_laws_szDevice a0 a1 := by kernel_rfl
def S_laws_szDevice : EV.Sum Un := ⟨[.st 114, .int .i64], [.int .i64], false, false, fun (a : D.Device × Int) => gd (SzP D.Device.ok a.1 a.2) (some (szI (a.1.sz) a.2))⟩
theorem en_laws_szDevice (args : Array Value) (w : World) : (callFunc 57 args).run Tryz.prog w = .ok (.enter 57 args) w := by kernel_rfl
theorem s_laws_szDevice : EV.SumOk Tryz.prog G0 Yn 57 S_laws_szDevice := EV.sum_ok (an := fun _ => an_laws_szDevice) (EV.good_cons s_laws_szLogEntryS (EV.good_cons s_laws_szBundle good0)) T.mix Tryz.func57 (cd := bodyOf Tryz.f57) rfl Tryz.ntmps57 (l := [.tmp 4]) rfl en_laws_szDevice (by decide) rfl (fun (a : D.Device × Int) r hr => (e_laws_szDevice a.1 a.2).trans (gd_use (t_laws_szDevice a.1 a.2) hr))
abbrev FS_laws_szDeviceS : List (Nat × EV.Sum Un) := [(57, S_laws_szDevice)]
open EV in
def an_laws_szDeviceS : An := (.s .n (.s .n (.s (.s .n (.s (.s .n .n) .n)) (.s (.jx ⟨[(1, 1), (2, 2), (6, 14)], [.dat (.s 1) (.int .i64)], [], []⟩ (.s .n (.s (.l ⟨[(1, 1), (2, 2), (6, 14)], [.dat (.s 1) (.int .i64), .nat (.s 5)], [], []⟩ FUEL (.s (.s .n (.s .n .n)) (.s (.s (.s .n (.s .n (.s (.s .n .n) .n))) .n) .n))) .n))) (.s .n .n)))))
theorem e_laws_szDeviceS (a0 : List D.Device) (a1 : Int) : EV.evF Yn TI FS_laws_szDeviceS (an_laws_szDeviceS) (bodyOf Tryz.f22) 27 [.sl 114, .int .i64] [.int .i64] false [.tmp 4] (a0, a1) = m_laws_szDeviceS a0 a1 := by kernel_rfl
def S_laws_szDeviceS : EV.Sum Un := ⟨[.sl 114, .int .i64], [.int .i64], false, false, fun (a : (List D.Device) × Int) => gd (SzP (okL D.Device.ok) a.1 a.2) (some (szI (a.1.length + (a.1.map D.Device.sz).sum) a.2))⟩
theorem en_laws_szDeviceS (args : Array Value) (w : World) : (callFunc 22 args).run Tryz.prog w = .ok (.enter 22 args) w := by kernel_rfl
theorem s_laws_szDeviceS : EV.SumOk Tryz.prog G0 Yn 22 S_laws_szDeviceS := EV.sum_ok (an := fun _ => an_laws_szDeviceS) (EV.good_cons s_laws_szDevice good0) T.mix Tryz.func22 (cd := bodyOf Tryz.f22) rfl Tryz.ntmps22 (l := [.tmp 4]) rfl en_laws_szDeviceS (by decide) rfl (fun (a : (List D.Device) × Int) r hr => (e_laws_szDeviceS a.1 a.2).trans (gd_use (t_laws_szDeviceS a.1 a.2) hr))
abbrev FS_laws_szBoolS : List (Nat × EV.Sum Un) := []
open EV in
def an_laws_szBoolS : An := (.s .n (.s .n (.s (.s .n (.s (.s .n .n) .n)) (.s .n .n))))
theorem e_laws_szBoolS (a0 : List Bool) (a1 : Int) : EV.evF Yn TI FS_laws_szBoolS (an_laws_szBoolS) (bodyOf Tryz.f23) 12 [.sl 4, .int .i64] [.int .i64] false [.tmp 4] (a0, a1) = m_laws_szBoolS a0 a1 := by kernel_rfl
def S_laws_szBoolS : EV.Sum Un := ⟨[.sl 4, .int .i64], [.int .i64], false, false, fun (a : (List Bool) × Int) => gd (SzP (okL (fun _ : Bool => True)) a.1 a.2) (some (szI (a.1.length) a.2))⟩
theorem en_laws_szBoolS (args : Array Value) (w : World) : (callFunc 23 args).run Tryz.prog w = .ok (.enter 23 args) w := by kernel_rfl
theorem s_laws_szBoolS : EV.SumOk Tryz.prog G0 Yn 23 S_laws_szBoolS := EV.sum_ok (an := fun _ => an_laws_szBoolS) good0 T.mix Tryz.func23 (cd := bodyOf Tryz.f23) rfl Tryz.ntmps23 (l := [.tmp 4]) rfl en_laws_szBoolS (by decide) rfl (fun (a : (List Bool) × Int) r hr => (e_laws_szBoolS a.1 a.2).trans (gd_use (t_laws_szBoolS a.1 a.2) hr))
abbrev FS_laws_szByteS : List (Nat × EV.Sum Un) := []
open EV in
def an_laws_szByteS : An := (.s .n (.s .n (.s (.s .n (.s (.s .n .n) .n)) (.s .n .n))))
theorem e_laws_szByteS (a0 : List Int) (a1 : Int) : EV.evF Yn TI FS_laws_szByteS (an_laws_szByteS) (bodyOf Tryz.f141) 12 [.sl 5, .int .i64] [.int .i64] false [.tmp 4] (a0, a1) = m_laws_szByteS a0 a1 := by kernel_rfl
def S_laws_szByteS : EV.Sum Un := ⟨[.sl 5, .int .i64], [.int .i64], false, false, fun (a : (List Int) × Int) => gd (SzP (okL (fun _ : Int => True)) a.1 a.2) (some (szI (a.1.length) a.2))⟩
theorem en_laws_szByteS (args : Array Value) (w : World) : (callFunc 141 args).run Tryz.prog w = .ok (.enter 141 args) w := by kernel_rfl
theorem s_laws_szByteS : EV.SumOk Tryz.prog G0 Yn 141 S_laws_szByteS := EV.sum_ok (an := fun _ => an_laws_szByteS) good0 T.mix Tryz.func141 (cd := bodyOf Tryz.f141) rfl Tryz.ntmps141 (l := [.tmp 4]) rfl en_laws_szByteS (by decide) rfl (fun (a : (List Int) × Int) r hr => (e_laws_szByteS a.1 a.2).trans (gd_use (t_laws_szByteS a.1 a.2) hr))
abbrev FS_laws_szBox : List (Nat × EV.Sum Un) := [(141, S_laws_szByteS)]
open EV in
def an_laws_szBox : An := (.s .n (.s .n (.s (.s .n (.s (.s .n .n) .n)) (.s .n .n))))
theorem e_laws_szBox (a0 : D.Box) (a1 : Int) : EV.evF Yn TI FS_laws_szBox (an_laws_szBox) (bodyOf Tryz.f140) 12 [.st 231, .int .i64] [.int .i64] false [.tmp 4] (a0, a1) = m_laws_szBox a0 a1 := by kernel_rfl
def S_laws_szBox : EV.Sum Un := ⟨[.st 231, .int .i64], [.int .i64], false, false, fun (a : D.Box × Int) => gd (SzP D.Box.ok a.1 a.2) (some (szI (a.1.sz) a.2))⟩
theorem en_laws_szBox (args : Array Value) (w : World) : (callFunc 140 args).run Tryz.prog w = .ok (.enter 140 args) w := by kernel_rfl
theorem s_laws_szBox : EV.SumOk Tryz.prog G0 Yn 140 S_laws_szBox := EV.sum_ok (an := fun _ => an_laws_szBox) (EV.good_cons s_laws_szByteS good0) T.mix Tryz.func140 (cd := bodyOf Tryz.f140) rfl Tryz.ntmps140 (l := [.tmp 4]) rfl en_laws_szBox (by decide) rfl (fun (a : D.Box × Int) r hr => (e_laws_szBox a.1 a.2).trans (gd_use (t_laws_szBox a.1 a.2) hr))
abbrev FS_laws_szBoxS : List (Nat × EV.Sum Un) := [(140, S_laws_szBox)]
open EV in
def an_laws_szBoxS : An := (.s .n (.s .n (.s (.s .n (.s (.s .n .n) .n)) (.s (.jx ⟨[(1, 1), (2, 2), (6, 14)], [.dat (.s 1) (.int .i64)], [], []⟩ (.s .n (.s (.l ⟨[(1, 1), (2, 2), (6, 14)], [.dat (.s 1) (.int .i64), .nat (.s 5)], [], []⟩ FUEL (.s (.s .n (.s .n .n)) (.s (.s (.s .n (.s .n (.s (.s .n .n) .n))) .n) .n))) .n))) (.s .n .n)))))
theorem e_laws_szBoxS (a0 : List D.Box) (a1 : Int) : EV.evF Yn TI FS_laws_szBoxS (an_laws_szBoxS) (bodyOf Tryz.f104) 27 [.sl 231, .int .i64] [.int .i64] false [.tmp 4] (a0, a1) = m_laws_szBoxS a0 a1 := by kernel_rfl
def S_laws_szBoxS : EV.Sum Un := ⟨[.sl 231, .int .i64], [.int .i64], false, false, fun (a : (List D.Box) × Int) => gd (SzP (okL D.Box.ok) a.1 a.2) (some (szI (a.1.length + (a.1.map D.Box.sz).sum) a.2))⟩
theorem en_laws_szBoxS (args : Array Value) (w : World) : (callFunc 104 args).run Tryz.prog w = .ok (.enter 104 args) w := by kernel_rfl
theorem s_laws_szBoxS : EV.SumOk Tryz.prog G0 Yn 104 S_laws_szBoxS := EV.sum_ok (an := fun _ => an_laws_szBoxS) (EV.good_cons s_laws_szBox good0) T.mix Tryz.func104 (cd := bodyOf Tryz.f104) rfl Tryz.ntmps104 (l := [.tmp 4]) rfl en_laws_szBoxS (by decide) rfl (fun (a : (List D.Box) × Int) r hr => (e_laws_szBoxS a.1 a.2).trans (gd_use (t_laws_szBoxS a.1 a.2) hr))
abbrev FS_laws_szEpochBoxes : List (Nat × EV.Sum Un) := [(104, S_laws_szBoxS)]
open EV in
def an_laws_szEpochBoxes : An := (.s .n (.s .n (.s (.s .n (.s (.s .n .n) .n)) (.s .n .n))))
theorem e_laws_szEpochBoxes (a0 : D.EpochBoxes) (a1 : Int) : EV.evF Yn TI FS_laws_szEpochBoxes (an_laws_szEpochBoxes) (bodyOf Tryz.f59) 12 [.st 27, .int .i64] [.int .i64] false [.tmp 4] (a0, a1) = m_laws_szEpochBoxes a0 a1 := by kernel_rfl
def S_laws_szEpochBoxes : EV.Sum Un := ⟨[.st 27, .int .i64], [.int .i64], false, false, fun (a : D.EpochBoxes × Int) => gd (SzP D.EpochBoxes.ok a.1 a.2) (some (szI (a.1.sz) a.2))⟩
theorem en_laws_szEpochBoxes (args : Array Value) (w : World) : (callFunc 59 args).run Tryz.prog w = .ok (.enter 59 args) w := by kernel_rfl
theorem s_laws_szEpochBoxes : EV.SumOk Tryz.prog G0 Yn 59 S_laws_szEpochBoxes := EV.sum_ok (an := fun _ => an_laws_szEpochBoxes) (EV.good_cons s_laws_szBoxS good0) T.mix Tryz.func59 (cd := bodyOf Tryz.f59) rfl Tryz.ntmps59 (l := [.tmp 4]) rfl en_laws_szEpochBoxes (by decide) rfl (fun (a : D.EpochBoxes × Int) r hr => (e_laws_szEpochBoxes a.1 a.2).trans (gd_use (t_laws_szEpochBoxes a.1 a.2) hr))
abbrev FS_laws_szSealedBundle : List (Nat × EV.Sum Un) := [(141, S_laws_szByteS)]
open EV in
def an_laws_szSealedBundle : An := (.s .n (.s .n (.s (.s .n (.s (.s .n .n) .n)) (.s .n .n))))
theorem e_laws_szSealedBundle (a0 : D.SealedBundle) (a1 : Int) : EV.evF Yn TI FS_laws_szSealedBundle (an_laws_szSealedBundle) (bodyOf Tryz.f105) 12 [.st 189, .int .i64] [.int .i64] false [.tmp 4] (a0, a1) = m_laws_szSealedBundle a0 a1 := by kernel_rfl
def S_laws_szSealedBundle : EV.Sum Un := ⟨[.st 189, .int .i64], [.int .i64], false, false, fun (a : D.SealedBundle × Int) => gd (SzP D.SealedBundle.ok a.1 a.2) (some (szI (a.1.sz) a.2))⟩
theorem en_laws_szSealedBundle (args : Array Value) (w : World) : (callFunc 105 args).run Tryz.prog w = .ok (.enter 105 args) w := by kernel_rfl
theorem s_laws_szSealedBundle : EV.SumOk Tryz.prog G0 Yn 105 S_laws_szSealedBundle := EV.sum_ok (an := fun _ => an_laws_szSealedBundle) (EV.good_cons s_laws_szByteS good0) T.mix Tryz.func105 (cd := bodyOf Tryz.f105) rfl Tryz.ntmps105 (l := [.tmp 4]) rfl en_laws_szSealedBundle (by decide) rfl (fun (a : D.SealedBundle × Int) r hr => (e_laws_szSealedBundle a.1 a.2).trans (gd_use (t_laws_szSealedBundle a.1 a.2) hr))
abbrev FS_laws_szSealedBundleS : List (Nat × EV.Sum Un) := [(105, S_laws_szSealedBundle)]
open EV in
def an_laws_szSealedBundleS : An := (.s .n (.s .n (.s (.s .n (.s (.s .n .n) .n)) (.s (.jx ⟨[(1, 1), (2, 2), (6, 14)], [.dat (.s 1) (.int .i64)], [], []⟩ (.s .n (.s (.l ⟨[(1, 1), (2, 2), (6, 14)], [.dat (.s 1) (.int .i64), .nat (.s 5)], [], []⟩ FUEL (.s (.s .n (.s .n .n)) (.s (.s (.s .n (.s .n (.s (.s .n .n) .n))) .n) .n))) .n))) (.s .n .n)))))
theorem e_laws_szSealedBundleS (a0 : List D.SealedBundle) (a1 : Int) : EV.evF Yn TI FS_laws_szSealedBundleS (an_laws_szSealedBundleS) (bodyOf Tryz.f60) 27 [.sl 189, .int .i64] [.int .i64] false [.tmp 4] (a0, a1) = m_laws_szSealedBundleS a0 a1 := by kernel_rfl
def S_laws_szSealedBundleS : EV.Sum Un := ⟨[.sl 189, .int .i64], [.int .i64], false, false, fun (a : (List D.SealedBundle) × Int) => gd (SzP (okL D.SealedBundle.ok) a.1 a.2) (some (szI (a.1.length + (a.1.map D.SealedBundle.sz).sum) a.2))⟩
theorem en_laws_szSealedBundleS (args : Array Value) (w : World) : (callFunc 60 args).run Tryz.prog w = .ok (.enter 60 args) w := by kernel_rfl
theorem s_laws_szSealedBundleS : EV.SumOk Tryz.prog G0 Yn 60 S_laws_szSealedBundleS := EV.sum_ok (an := fun _ => an_laws_szSealedBundleS) (EV.good_cons s_laws_szSealedBundle good0) T.mix Tryz.func60 (cd := bodyOf Tryz.f60) rfl Tryz.ntmps60 (l := [.tmp 4]) rfl en_laws_szSealedBundleS (by decide) rfl (fun (a : (List D.SealedBundle) × Int) r hr => (e_laws_szSealedBundleS a.1 a.2).trans (gd_use (t_laws_szSealedBundleS a.1 a.2) hr))
abbrev FS_laws_szCloud : List (Nat × EV.Sum Un) := [(58, S_laws_szLogEntryS), (59, S_laws_szEpochBoxes), (60, S_laws_szSealedBundleS)]
open EV in
def an_laws_szCloud : An := (.s .n (.s .n (.s (.s .n (.s (.s .n .n) .n)) (.s .n (.s (.s .n (.s (.s .n .n) .n)) (.s .n (.s (.s .n (.s (.s .n .n) .n)) (.s .n .n))))))))
theorem e_laws_szCloud (a0 : D.Cloud) (a1 : Int) : EV.evF Yn TI FS_laws_szCloud (an_laws_szCloud) (bodyOf Tryz.f24) 24 [.st 30, .int .i64] [.int .i64] false [.tmp 4] (a0, a1) = m_laws_szCloud a0 a1 := by kernel_rfl
def S_laws_szCloud : EV.Sum Un := ⟨[.st 30, .int .i64], [.int .i64], false, false, fun (a : D.Cloud × Int) => gd (SzP D.Cloud.ok a.1 a.2) (some (szI (a.1.sz) a.2))⟩
theorem en_laws_szCloud (args : Array Value) (w : World) : (callFunc 24 args).run Tryz.prog w = .ok (.enter 24 args) w := by kernel_rfl
theorem s_laws_szCloud : EV.SumOk Tryz.prog G0 Yn 24 S_laws_szCloud := EV.sum_ok (an := fun _ => an_laws_szCloud) (EV.good_cons s_laws_szLogEntryS (EV.good_cons s_laws_szEpochBoxes (EV.good_cons s_laws_szSealedBundleS good0))) T.mix Tryz.func24 (cd := bodyOf Tryz.f24) rfl Tryz.ntmps24 (l := [.tmp 4]) rfl en_laws_szCloud (by decide) rfl (fun (a : D.Cloud × Int) r hr => (e_laws_szCloud a.1 a.2).trans (gd_use (t_laws_szCloud a.1 a.2) hr))
abbrev FS_laws_szCredentialS : List (Nat × EV.Sum Un) := []
open EV in
def an_laws_szCredentialS : An := (.s .n (.s .n (.s (.s .n (.s (.s .n .n) .n)) (.s .n .n))))
theorem e_laws_szCredentialS (a0 : List D.Credential) (a1 : Int) : EV.evF Yn TI FS_laws_szCredentialS (an_laws_szCredentialS) (bodyOf Tryz.f161) 12 [.sl 263, .int .i64] [.int .i64] false [.tmp 4] (a0, a1) = m_laws_szCredentialS a0 a1 := by kernel_rfl
def S_laws_szCredentialS : EV.Sum Un := ⟨[.sl 263, .int .i64], [.int .i64], false, false, fun (a : (List D.Credential) × Int) => gd (SzP (okL (fun _ : D.Credential => True)) a.1 a.2) (some (szI (a.1.length) a.2))⟩
theorem en_laws_szCredentialS (args : Array Value) (w : World) : (callFunc 161 args).run Tryz.prog w = .ok (.enter 161 args) w := by kernel_rfl
theorem s_laws_szCredentialS : EV.SumOk Tryz.prog G0 Yn 161 S_laws_szCredentialS := EV.sum_ok (an := fun _ => an_laws_szCredentialS) good0 T.mix Tryz.func161 (cd := bodyOf Tryz.f161) rfl Tryz.ntmps161 (l := [.tmp 4]) rfl en_laws_szCredentialS (by decide) rfl (fun (a : (List D.Credential) × Int) r hr => (e_laws_szCredentialS a.1 a.2).trans (gd_use (t_laws_szCredentialS a.1 a.2) hr))
abbrev FS_laws_szAccount : List (Nat × EV.Sum Un) := [(161, S_laws_szCredentialS)]
open EV in
def an_laws_szAccount : An := (.s .n (.s .n (.s (.s .n (.s (.s .n .n) .n)) (.s .n .n))))
theorem e_laws_szAccount (a0 : D.Account) (a1 : Int) : EV.evF Yn TI FS_laws_szAccount (an_laws_szAccount) (bodyOf Tryz.f142) 12 [.st 235, .int .i64] [.int .i64] false [.tmp 4] (a0, a1) = m_laws_szAccount a0 a1 := by kernel_rfl
def S_laws_szAccount : EV.Sum Un := ⟨[.st 235, .int .i64], [.int .i64], false, false, fun (a : D.Account × Int) => gd (SzP D.Account.ok a.1 a.2) (some (szI (a.1.sz) a.2))⟩
theorem en_laws_szAccount (args : Array Value) (w : World) : (callFunc 142 args).run Tryz.prog w = .ok (.enter 142 args) w := by kernel_rfl
theorem s_laws_szAccount : EV.SumOk Tryz.prog G0 Yn 142 S_laws_szAccount := EV.sum_ok (an := fun _ => an_laws_szAccount) (EV.good_cons s_laws_szCredentialS good0) T.mix Tryz.func142 (cd := bodyOf Tryz.f142) rfl Tryz.ntmps142 (l := [.tmp 4]) rfl en_laws_szAccount (by decide) rfl (fun (a : D.Account × Int) r hr => (e_laws_szAccount a.1 a.2).trans (gd_use (t_laws_szAccount a.1 a.2) hr))
abbrev FS_laws_szAccountS : List (Nat × EV.Sum Un) := [(142, S_laws_szAccount)]
open EV in
def an_laws_szAccountS : An := (.s .n (.s .n (.s (.s .n (.s (.s .n .n) .n)) (.s (.jx ⟨[(1, 1), (2, 2), (6, 14)], [.dat (.s 1) (.int .i64)], [], []⟩ (.s .n (.s (.l ⟨[(1, 1), (2, 2), (6, 14)], [.dat (.s 1) (.int .i64), .nat (.s 5)], [], []⟩ FUEL (.s (.s .n (.s .n .n)) (.s (.s (.s .n (.s .n (.s (.s .n .n) .n))) .n) .n))) .n))) (.s .n .n)))))
theorem e_laws_szAccountS (a0 : List D.Account) (a1 : Int) : EV.evF Yn TI FS_laws_szAccountS (an_laws_szAccountS) (bodyOf Tryz.f106) 27 [.sl 235, .int .i64] [.int .i64] false [.tmp 4] (a0, a1) = m_laws_szAccountS a0 a1 := by kernel_rfl
def S_laws_szAccountS : EV.Sum Un := ⟨[.sl 235, .int .i64], [.int .i64], false, false, fun (a : (List D.Account) × Int) => gd (SzP (okL D.Account.ok) a.1 a.2) (some (szI (a.1.length + (a.1.map D.Account.sz).sum) a.2))⟩
theorem en_laws_szAccountS (args : Array Value) (w : World) : (callFunc 106 args).run Tryz.prog w = .ok (.enter 106 args) w := by kernel_rfl
theorem s_laws_szAccountS : EV.SumOk Tryz.prog G0 Yn 106 S_laws_szAccountS := EV.sum_ok (an := fun _ => an_laws_szAccountS) (EV.good_cons s_laws_szAccount good0) T.mix Tryz.func106 (cd := bodyOf Tryz.f106) rfl Tryz.ntmps106 (l := [.tmp 4]) rfl en_laws_szAccountS (by decide) rfl (fun (a : (List D.Account) × Int) r hr => (e_laws_szAccountS a.1 a.2).trans (gd_use (t_laws_szAccountS a.1 a.2) hr))
abbrev FS_laws_szChallengeS : List (Nat × EV.Sum Un) := []
open EV in
def an_laws_szChallengeS : An := (.s .n (.s .n (.s (.s .n (.s (.s .n .n) .n)) (.s .n .n))))
theorem e_laws_szChallengeS (a0 : List D.Challenge) (a1 : Int) : EV.evF Yn TI FS_laws_szChallengeS (an_laws_szChallengeS) (bodyOf Tryz.f143) 12 [.sl 256, .int .i64] [.int .i64] false [.tmp 4] (a0, a1) = m_laws_szChallengeS a0 a1 := by kernel_rfl
def S_laws_szChallengeS : EV.Sum Un := ⟨[.sl 256, .int .i64], [.int .i64], false, false, fun (a : (List D.Challenge) × Int) => gd (SzP (okL (fun _ : D.Challenge => True)) a.1 a.2) (some (szI (a.1.length) a.2))⟩
theorem en_laws_szChallengeS (args : Array Value) (w : World) : (callFunc 143 args).run Tryz.prog w = .ok (.enter 143 args) w := by kernel_rfl
theorem s_laws_szChallengeS : EV.SumOk Tryz.prog G0 Yn 143 S_laws_szChallengeS := EV.sum_ok (an := fun _ => an_laws_szChallengeS) good0 T.mix Tryz.func143 (cd := bodyOf Tryz.f143) rfl Tryz.ntmps143 (l := [.tmp 4]) rfl en_laws_szChallengeS (by decide) rfl (fun (a : (List D.Challenge) × Int) r hr => (e_laws_szChallengeS a.1 a.2).trans (gd_use (t_laws_szChallengeS a.1 a.2) hr))
abbrev FS_laws_szChallengeBook : List (Nat × EV.Sum Un) := [(143, S_laws_szChallengeS)]
open EV in
def an_laws_szChallengeBook : An := (.s .n (.s .n (.s (.s .n (.s (.s .n .n) .n)) (.s .n .n))))
theorem e_laws_szChallengeBook (a0 : D.ChallengeBook) (a1 : Int) : EV.evF Yn TI FS_laws_szChallengeBook (an_laws_szChallengeBook) (bodyOf Tryz.f107) 12 [.st 122, .int .i64] [.int .i64] false [.tmp 4] (a0, a1) = m_laws_szChallengeBook a0 a1 := by kernel_rfl
def S_laws_szChallengeBook : EV.Sum Un := ⟨[.st 122, .int .i64], [.int .i64], false, false, fun (a : D.ChallengeBook × Int) => gd (SzP D.ChallengeBook.ok a.1 a.2) (some (szI (a.1.sz) a.2))⟩
theorem en_laws_szChallengeBook (args : Array Value) (w : World) : (callFunc 107 args).run Tryz.prog w = .ok (.enter 107 args) w := by kernel_rfl
theorem s_laws_szChallengeBook : EV.SumOk Tryz.prog G0 Yn 107 S_laws_szChallengeBook := EV.sum_ok (an := fun _ => an_laws_szChallengeBook) (EV.good_cons s_laws_szChallengeS good0) T.mix Tryz.func107 (cd := bodyOf Tryz.f107) rfl Tryz.ntmps107 (l := [.tmp 4]) rfl en_laws_szChallengeBook (by decide) rfl (fun (a : D.ChallengeBook × Int) r hr => (e_laws_szChallengeBook a.1 a.2).trans (gd_use (t_laws_szChallengeBook a.1 a.2) hr))
abbrev FS_laws_szIntS : List (Nat × EV.Sum Un) := []
open EV in
def an_laws_szIntS : An := (.s .n (.s .n (.s (.s .n (.s (.s .n .n) .n)) (.s .n .n))))
theorem e_laws_szIntS (a0 : List Int) (a1 : Int) : EV.evF Yn TI FS_laws_szIntS (an_laws_szIntS) (bodyOf Tryz.f108) 12 [.sl 3, .int .i64] [.int .i64] false [.tmp 4] (a0, a1) = m_laws_szIntS a0 a1 := by kernel_rfl
def S_laws_szIntS : EV.Sum Un := ⟨[.sl 3, .int .i64], [.int .i64], false, false, fun (a : (List Int) × Int) => gd (SzP (okL (fun _ : Int => True)) a.1 a.2) (some (szI (a.1.length) a.2))⟩
theorem en_laws_szIntS (args : Array Value) (w : World) : (callFunc 108 args).run Tryz.prog w = .ok (.enter 108 args) w := by kernel_rfl
theorem s_laws_szIntS : EV.SumOk Tryz.prog G0 Yn 108 S_laws_szIntS := EV.sum_ok (an := fun _ => an_laws_szIntS) good0 T.mix Tryz.func108 (cd := bodyOf Tryz.f108) rfl Tryz.ntmps108 (l := [.tmp 4]) rfl en_laws_szIntS (by decide) rfl (fun (a : (List Int) × Int) r hr => (e_laws_szIntS a.1 a.2).trans (gd_use (t_laws_szIntS a.1 a.2) hr))
abbrev FS_laws_szSite : List (Nat × EV.Sum Un) := [(106, S_laws_szAccountS), (107, S_laws_szChallengeBook), (108, S_laws_szIntS)]
open EV in
def an_laws_szSite : An := (.s .n (.s .n (.s (.s .n (.s (.s .n .n) .n)) (.s .n (.s (.s .n (.s (.s .n .n) .n)) (.s .n (.s (.s .n (.s (.s .n .n) .n)) (.s .n (.s (.s .n (.s (.s .n .n) .n)) (.s .n .n))))))))))
theorem e_laws_szSite (a0 : D.Site) (a1 : Int) : EV.evF Yn TI FS_laws_szSite (an_laws_szSite) (bodyOf Tryz.f61) 31 [.st 124, .int .i64] [.int .i64] false [.tmp 4] (a0, a1) = m_laws_szSite a0 a1 := by kernel_rfl
def S_laws_szSite : EV.Sum Un := ⟨[.st 124, .int .i64], [.int .i64], false, false, fun (a : D.Site × Int) => gd (SzP D.Site.ok a.1 a.2) (some (szI (a.1.sz) a.2))⟩
theorem en_laws_szSite (args : Array Value) (w : World) : (callFunc 61 args).run Tryz.prog w = .ok (.enter 61 args) w := by kernel_rfl
theorem s_laws_szSite : EV.SumOk Tryz.prog G0 Yn 61 S_laws_szSite := EV.sum_ok (an := fun _ => an_laws_szSite) (EV.good_cons s_laws_szAccountS (EV.good_cons s_laws_szChallengeBook (EV.good_cons s_laws_szIntS good0))) T.mix Tryz.func61 (cd := bodyOf Tryz.f61) rfl Tryz.ntmps61 (l := [.tmp 4]) rfl en_laws_szSite (by decide) rfl (fun (a : D.Site × Int) r hr => (e_laws_szSite a.1 a.2).trans (gd_use (t_laws_szSite a.1 a.2) hr))
abbrev FS_laws_szSiteS : List (Nat × EV.Sum Un) := [(61, S_laws_szSite)]
open EV in
def an_laws_szSiteS : An := (.s .n (.s .n (.s (.s .n (.s (.s .n .n) .n)) (.s (.jx ⟨[(1, 1), (2, 2), (6, 14)], [.dat (.s 1) (.int .i64)], [], []⟩ (.s .n (.s (.l ⟨[(1, 1), (2, 2), (6, 14)], [.dat (.s 1) (.int .i64), .nat (.s 5)], [], []⟩ FUEL (.s (.s .n (.s .n .n)) (.s (.s (.s .n (.s .n (.s (.s .n .n) .n))) .n) .n))) .n))) (.s .n .n)))))
theorem e_laws_szSiteS (a0 : List D.Site) (a1 : Int) : EV.evF Yn TI FS_laws_szSiteS (an_laws_szSiteS) (bodyOf Tryz.f25) 27 [.sl 124, .int .i64] [.int .i64] false [.tmp 4] (a0, a1) = m_laws_szSiteS a0 a1 := by kernel_rfl
def S_laws_szSiteS : EV.Sum Un := ⟨[.sl 124, .int .i64], [.int .i64], false, false, fun (a : (List D.Site) × Int) => gd (SzP (okL D.Site.ok) a.1 a.2) (some (szI (a.1.length + (a.1.map D.Site.sz).sum) a.2))⟩
theorem en_laws_szSiteS (args : Array Value) (w : World) : (callFunc 25 args).run Tryz.prog w = .ok (.enter 25 args) w := by kernel_rfl
theorem s_laws_szSiteS : EV.SumOk Tryz.prog G0 Yn 25 S_laws_szSiteS := EV.sum_ok (an := fun _ => an_laws_szSiteS) (EV.good_cons s_laws_szSite good0) T.mix Tryz.func25 (cd := bodyOf Tryz.f25) rfl Tryz.ntmps25 (l := [.tmp 4]) rfl en_laws_szSiteS (by decide) rfl (fun (a : (List D.Site) × Int) r hr => (e_laws_szSiteS a.1 a.2).trans (gd_use (t_laws_szSiteS a.1 a.2) hr))
abbrev FS_laws_szKeeperS : List (Nat × EV.Sum Un) := []
open EV in
def an_laws_szKeeperS : An := (.s .n (.s .n (.s (.s .n (.s (.s .n .n) .n)) (.s .n .n))))
theorem e_laws_szKeeperS (a0 : List D.Keeper) (a1 : Int) : EV.evF Yn TI FS_laws_szKeeperS (an_laws_szKeeperS) (bodyOf Tryz.f109) 12 [.sl 129, .int .i64] [.int .i64] false [.tmp 4] (a0, a1) = m_laws_szKeeperS a0 a1 := by kernel_rfl
def S_laws_szKeeperS : EV.Sum Un := ⟨[.sl 129, .int .i64], [.int .i64], false, false, fun (a : (List D.Keeper) × Int) => gd (SzP (okL (fun _ : D.Keeper => True)) a.1 a.2) (some (szI (a.1.length) a.2))⟩
theorem en_laws_szKeeperS (args : Array Value) (w : World) : (callFunc 109 args).run Tryz.prog w = .ok (.enter 109 args) w := by kernel_rfl
theorem s_laws_szKeeperS : EV.SumOk Tryz.prog G0 Yn 109 S_laws_szKeeperS := EV.sum_ok (an := fun _ => an_laws_szKeeperS) good0 T.mix Tryz.func109 (cd := bodyOf Tryz.f109) rfl Tryz.ntmps109 (l := [.tmp 4]) rfl en_laws_szKeeperS (by decide) rfl (fun (a : (List D.Keeper) × Int) r hr => (e_laws_szKeeperS a.1 a.2).trans (gd_use (t_laws_szKeeperS a.1 a.2) hr))
abbrev FS_laws_szKeeperHost : List (Nat × EV.Sum Un) := [(109, S_laws_szKeeperS)]
open EV in
def an_laws_szKeeperHost : An := (.s .n (.s .n (.s (.s .n (.s (.s .n .n) .n)) (.s .n .n))))
theorem e_laws_szKeeperHost (a0 : D.KeeperHost) (a1 : Int) : EV.evF Yn TI FS_laws_szKeeperHost (an_laws_szKeeperHost) (bodyOf Tryz.f62) 12 [.st 132, .int .i64] [.int .i64] false [.tmp 4] (a0, a1) = m_laws_szKeeperHost a0 a1 := by kernel_rfl
def S_laws_szKeeperHost : EV.Sum Un := ⟨[.st 132, .int .i64], [.int .i64], false, false, fun (a : D.KeeperHost × Int) => gd (SzP D.KeeperHost.ok a.1 a.2) (some (szI (a.1.sz) a.2))⟩
theorem en_laws_szKeeperHost (args : Array Value) (w : World) : (callFunc 62 args).run Tryz.prog w = .ok (.enter 62 args) w := by kernel_rfl
theorem s_laws_szKeeperHost : EV.SumOk Tryz.prog G0 Yn 62 S_laws_szKeeperHost := EV.sum_ok (an := fun _ => an_laws_szKeeperHost) (EV.good_cons s_laws_szKeeperS good0) T.mix Tryz.func62 (cd := bodyOf Tryz.f62) rfl Tryz.ntmps62 (l := [.tmp 4]) rfl en_laws_szKeeperHost (by decide) rfl (fun (a : D.KeeperHost × Int) r hr => (e_laws_szKeeperHost a.1 a.2).trans (gd_use (t_laws_szKeeperHost a.1 a.2) hr))
abbrev FS_laws_szKeeperHostS : List (Nat × EV.Sum Un) := [(62, S_laws_szKeeperHost)]
open EV in
def an_laws_szKeeperHostS : An := (.s .n (.s .n (.s (.s .n (.s (.s .n .n) .n)) (.s (.jx ⟨[(1, 1), (2, 2), (6, 14)], [.dat (.s 1) (.int .i64)], [], []⟩ (.s .n (.s (.l ⟨[(1, 1), (2, 2), (6, 14)], [.dat (.s 1) (.int .i64), .nat (.s 5)], [], []⟩ FUEL (.s (.s .n (.s .n .n)) (.s (.s (.s .n (.s .n (.s (.s .n .n) .n))) .n) .n))) .n))) (.s .n .n)))))
theorem e_laws_szKeeperHostS (a0 : List D.KeeperHost) (a1 : Int) : EV.evF Yn TI FS_laws_szKeeperHostS (an_laws_szKeeperHostS) (bodyOf Tryz.f26) 27 [.sl 132, .int .i64] [.int .i64] false [.tmp 4] (a0, a1) = m_laws_szKeeperHostS a0 a1 := by kernel_rfl
def S_laws_szKeeperHostS : EV.Sum Un := ⟨[.sl 132, .int .i64], [.int .i64], false, false, fun (a : (List D.KeeperHost) × Int) => gd (SzP (okL D.KeeperHost.ok) a.1 a.2) (some (szI (a.1.length + (a.1.map D.KeeperHost.sz).sum) a.2))⟩
theorem en_laws_szKeeperHostS (args : Array Value) (w : World) : (callFunc 26 args).run Tryz.prog w = .ok (.enter 26 args) w := by kernel_rfl
theorem s_laws_szKeeperHostS : EV.SumOk Tryz.prog G0 Yn 26 S_laws_szKeeperHostS := EV.sum_ok (an := fun _ => an_laws_szKeeperHostS) (EV.good_cons s_laws_szKeeperHost good0) T.mix Tryz.func26 (cd := bodyOf Tryz.f26) rfl Tryz.ntmps26 (l := [.tmp 4]) rfl en_laws_szKeeperHostS (by decide) rfl (fun (a : (List D.KeeperHost) × Int) r hr => (e_laws_szKeeperHostS a.1 a.2).trans (gd_use (t_laws_szKeeperHostS a.1 a.2) hr))
abbrev FS_laws_szNoticeS : List (Nat × EV.Sum Un) := []
open EV in
def an_laws_szNoticeS : An := (.s .n (.s .n (.s (.s .n (.s (.s .n .n) .n)) (.s .n .n))))
theorem e_laws_szNoticeS (a0 : List D.Notice) (a1 : Int) : EV.evF Yn TI FS_laws_szNoticeS (an_laws_szNoticeS) (bodyOf Tryz.f63) 12 [.sl 210, .int .i64] [.int .i64] false [.tmp 4] (a0, a1) = m_laws_szNoticeS a0 a1 := by kernel_rfl
def S_laws_szNoticeS : EV.Sum Un := ⟨[.sl 210, .int .i64], [.int .i64], false, false, fun (a : (List D.Notice) × Int) => gd (SzP (okL (fun _ : D.Notice => True)) a.1 a.2) (some (szI (a.1.length) a.2))⟩
theorem en_laws_szNoticeS (args : Array Value) (w : World) : (callFunc 63 args).run Tryz.prog w = .ok (.enter 63 args) w := by kernel_rfl
theorem s_laws_szNoticeS : EV.SumOk Tryz.prog G0 Yn 63 S_laws_szNoticeS := EV.sum_ok (an := fun _ => an_laws_szNoticeS) good0 T.mix Tryz.func63 (cd := bodyOf Tryz.f63) rfl Tryz.ntmps63 (l := [.tmp 4]) rfl en_laws_szNoticeS (by decide) rfl (fun (a : (List D.Notice) × Int) r hr => (e_laws_szNoticeS a.1 a.2).trans (gd_use (t_laws_szNoticeS a.1 a.2) hr))
abbrev FS_laws_szMailbox : List (Nat × EV.Sum Un) := [(63, S_laws_szNoticeS)]
open EV in
def an_laws_szMailbox : An := (.s .n (.s .n (.s (.s .n (.s (.s .n .n) .n)) (.s .n .n))))
theorem e_laws_szMailbox (a0 : D.Mailbox) (a1 : Int) : EV.evF Yn TI FS_laws_szMailbox (an_laws_szMailbox) (bodyOf Tryz.f27) 12 [.st 37, .int .i64] [.int .i64] false [.tmp 4] (a0, a1) = m_laws_szMailbox a0 a1 := by kernel_rfl
def S_laws_szMailbox : EV.Sum Un := ⟨[.st 37, .int .i64], [.int .i64], false, false, fun (a : D.Mailbox × Int) => gd (SzP D.Mailbox.ok a.1 a.2) (some (szI (a.1.sz) a.2))⟩
theorem en_laws_szMailbox (args : Array Value) (w : World) : (callFunc 27 args).run Tryz.prog w = .ok (.enter 27 args) w := by kernel_rfl
theorem s_laws_szMailbox : EV.SumOk Tryz.prog G0 Yn 27 S_laws_szMailbox := EV.sum_ok (an := fun _ => an_laws_szMailbox) (EV.good_cons s_laws_szNoticeS good0) T.mix Tryz.func27 (cd := bodyOf Tryz.f27) rfl Tryz.ntmps27 (l := [.tmp 4]) rfl en_laws_szMailbox (by decide) rfl (fun (a : D.Mailbox × Int) r hr => (e_laws_szMailbox a.1 a.2).trans (gd_use (t_laws_szMailbox a.1 a.2) hr))
abbrev FS_laws_szWorld : List (Nat × EV.Sum Un) := [(22, S_laws_szDeviceS), (23, S_laws_szBoolS), (24, S_laws_szCloud), (25, S_laws_szSiteS), (26, S_laws_szKeeperHostS), (27, S_laws_szMailbox)]
open EV in
def an_laws_szWorld : An := (.s .n (.s .n (.s (.s .n (.s (.s .n .n) .n)) (.s .n (.s (.s .n (.s (.s .n .n) .n)) (.s .n (.s (.s .n (.s (.s .n .n) .n)) (.s .n (.s (.s .n (.s (.s .n .n) .n)) (.s .n (.s (.s .n (.s (.s .n .n) .n)) (.s .n (.s (.s .n (.s (.s .n .n) .n)) (.s .n .n))))))))))))))
theorem e_laws_szWorld (a0 : D.World) (a1 : Int) : EV.evF Yn TI FS_laws_szWorld (an_laws_szWorld) (bodyOf Tryz.f6) 42 [.st 39, .int .i64] [.int .i64] false [.tmp 4] (a0, a1) = m_laws_szWorld a0 a1 := by kernel_rfl
def S_laws_szWorld : EV.Sum Un := ⟨[.st 39, .int .i64], [.int .i64], false, false, fun (a : D.World × Int) => gd (SzP D.World.ok a.1 a.2) (some (szI (a.1.sz) a.2))⟩
theorem en_laws_szWorld (args : Array Value) (w : World) : (callFunc 6 args).run Tryz.prog w = .ok (.enter 6 args) w := by kernel_rfl
theorem s_laws_szWorld : EV.SumOk Tryz.prog G0 Yn 6 S_laws_szWorld := EV.sum_ok (an := fun _ => an_laws_szWorld) (EV.good_cons s_laws_szDeviceS (EV.good_cons s_laws_szBoolS (EV.good_cons s_laws_szCloud (EV.good_cons s_laws_szSiteS (EV.good_cons s_laws_szKeeperHostS (EV.good_cons s_laws_szMailbox good0)))))) T.mix Tryz.func6 (cd := bodyOf Tryz.f6) rfl Tryz.ntmps6 (l := [.tmp 4]) rfl en_laws_szWorld (by decide) rfl (fun (a : D.World × Int) r hr => (e_laws_szWorld a.1 a.2).trans (gd_use (t_laws_szWorld a.1 a.2) hr))
abbrev FS_laws_toKeyStore : List (Nat × EV.Sum Un) := []
open EV in
def an_laws_toKeyStore : An := (.s .n (.s .n (.s .n (.s .n (.s .n (.s .n (.s .n .n)))))))
theorem e_laws_toKeyStore (a0 : D.KeyStore) : EV.evF Yn TI FS_laws_toKeyStore (an_laws_toKeyStore) (bodyOf Tryz.f110) 17 [.st 109] [.st 103] false [.cell 2 103] (a0) = m_laws_toKeyStore a0 := by kernel_rfl
def S_laws_toKeyStore : EV.Sum Un := ⟨[.st 109], [.st 103], false, false, fun (a : D.KeyStore) => some (a)⟩
theorem en_laws_toKeyStore (args : Array Value) (w : World) : (callFunc 110 args).run Tryz.prog w = .ok (.enter 110 args) w := by kernel_rfl
theorem s_laws_toKeyStore : EV.SumOk Tryz.prog G0 Yn 110 S_laws_toKeyStore := EV.sum_ok (an := fun _ => an_laws_toKeyStore) good0 T.mix Tryz.func110 (cd := bodyOf Tryz.f110) rfl Tryz.ntmps110 (l := [.cell 2 103]) rfl en_laws_toKeyStore (by decide) rfl (fun (a : D.KeyStore) r hr => (e_laws_toKeyStore a).trans ((t_laws_toKeyStore a).trans hr))
abbrev FS_laws_toLogEntry : List (Nat × EV.Sum Un) := []
open EV in
def an_laws_toLogEntry : An := (.s .n (.s .n (.s .n (.s .n (.s .n (.s .n (.s .n (.s .n (.s .n .n)))))))))
theorem e_laws_toLogEntry (a0 : D.LogEntry) : EV.evF Yn TI FS_laws_toLogEntry (an_laws_toLogEntry) (bodyOf Tryz.f112) 23 [.st 198] [.st 196] false [.cell 2 196] (a0) = m_laws_toLogEntry a0 := by kernel_rfl
def S_laws_toLogEntry : EV.Sum Un := ⟨[.st 198], [.st 196], false, false, fun (a : D.LogEntry) => some (a)⟩
theorem en_laws_toLogEntry (args : Array Value) (w : World) : (callFunc 112 args).run Tryz.prog w = .ok (.enter 112 args) w := by kernel_rfl
theorem s_laws_toLogEntry : EV.SumOk Tryz.prog G0 Yn 112 S_laws_toLogEntry := EV.sum_ok (an := fun _ => an_laws_toLogEntry) good0 T.mix Tryz.func112 (cd := bodyOf Tryz.f112) rfl Tryz.ntmps112 (l := [.cell 2 196]) rfl en_laws_toLogEntry (by decide) rfl (fun (a : D.LogEntry) r hr => (e_laws_toLogEntry a).trans ((t_laws_toLogEntry a).trans hr))
abbrev FS_laws_toLogEntryS : List (Nat × EV.Sum Un) := [(112, S_laws_toLogEntry)]
open EV in
def an_laws_toLogEntryS : An := (.s .n (.s .n (.s (.j ⟨[(4, 1), (3, 14)], [.ti 0 196 true], [], []⟩ (.s .n (.s (.l ⟨[(4, 1), (3, 14)], [.nat (.s 4), .ti 0 196 true], [], []⟩ FUEL (.s (.s .n (.s .n .n)) (.s (.s .n .n) .n))) .n))) (.s .n .n))))
theorem e_laws_toLogEntryS (a0 : List D.LogEntry) : EV.evF Yn TI FS_laws_toLogEntryS (an_laws_toLogEntryS) (bodyOf Tryz.f66) 23 [.sl 198] [.sl 196] true [.tmp 2] (a0) = m_laws_toLogEntryS a0 := by kernel_rfl
def S_laws_toLogEntryS : EV.Sum Un := ⟨[.sl 198], [.sl 196], true, false, fun (a : (List D.LogEntry)) => gd (a.length ≤ 1048576) (some (a))⟩
theorem en_laws_toLogEntryS (args : Array Value) (w : World) : (callFunc 66 args).run Tryz.prog w = .ok (.enter 66 args) w := by kernel_rfl
theorem s_laws_toLogEntryS : EV.SumOk Tryz.prog G0 Yn 66 S_laws_toLogEntryS := EV.sum_ok (an := fun _ => an_laws_toLogEntryS) (EV.good_cons s_laws_toLogEntry good0) T.mix Tryz.func66 (cd := bodyOf Tryz.f66) rfl Tryz.ntmps66 (l := [.tmp 2]) rfl en_laws_toLogEntryS (by decide) rfl (fun (a : (List D.LogEntry)) r hr => (e_laws_toLogEntryS a).trans (gd_use (t_laws_toLogEntryS a) hr))
abbrev FS_laws_toEntry : List (Nat × EV.Sum Un) := []
open EV in
def an_laws_toEntry : An := (.s .n (.s .n (.s .n (.s .n (.s .n (.s .n (.s .n .n)))))))
theorem e_laws_toEntry (a0 : D.Entry) : EV.evF Yn TI FS_laws_toEntry (an_laws_toEntry) (bodyOf Tryz.f162) 17 [.st 253] [.st 180] false [.cell 2 180] (a0) = m_laws_toEntry a0 := by kernel_rfl
def S_laws_toEntry : EV.Sum Un := ⟨[.st 253], [.st 180], false, false, fun (a : D.Entry) => some (a)⟩
theorem en_laws_toEntry (args : Array Value) (w : World) : (callFunc 162 args).run Tryz.prog w = .ok (.enter 162 args) w := by kernel_rfl
theorem s_laws_toEntry : EV.SumOk Tryz.prog G0 Yn 162 S_laws_toEntry := EV.sum_ok (an := fun _ => an_laws_toEntry) good0 T.mix Tryz.func162 (cd := bodyOf Tryz.f162) rfl Tryz.ntmps162 (l := [.cell 2 180]) rfl en_laws_toEntry (by decide) rfl (fun (a : D.Entry) r hr => (e_laws_toEntry a).trans ((t_laws_toEntry a).trans hr))
abbrev FS_laws_toEntryS : List (Nat × EV.Sum Un) := [(162, S_laws_toEntry)]
open EV in
def an_laws_toEntryS : An := (.s .n (.s .n (.s (.j ⟨[(4, 1), (3, 14)], [.ti 0 180 true], [], []⟩ (.s .n (.s (.l ⟨[(4, 1), (3, 14)], [.nat (.s 4), .ti 0 180 true], [], []⟩ FUEL (.s (.s .n (.s .n .n)) (.s (.s .n .n) .n))) .n))) (.s .n .n))))
theorem e_laws_toEntryS (a0 : List D.Entry) : EV.evF Yn TI FS_laws_toEntryS (an_laws_toEntryS) (bodyOf Tryz.f144) 23 [.sl 253] [.sl 180] true [.tmp 2] (a0) = m_laws_toEntryS a0 := by kernel_rfl
def S_laws_toEntryS : EV.Sum Un := ⟨[.sl 253], [.sl 180], true, false, fun (a : (List D.Entry)) => gd (a.length ≤ 1048576) (some (a))⟩
theorem en_laws_toEntryS (args : Array Value) (w : World) : (callFunc 144 args).run Tryz.prog w = .ok (.enter 144 args) w := by kernel_rfl
theorem s_laws_toEntryS : EV.SumOk Tryz.prog G0 Yn 144 S_laws_toEntryS := EV.sum_ok (an := fun _ => an_laws_toEntryS) (EV.good_cons s_laws_toEntry good0) T.mix Tryz.func144 (cd := bodyOf Tryz.f144) rfl Tryz.ntmps144 (l := [.tmp 2]) rfl en_laws_toEntryS (by decide) rfl (fun (a : (List D.Entry)) r hr => (e_laws_toEntryS a).trans (gd_use (t_laws_toEntryS a) hr))
abbrev FS_laws_toBundle : List (Nat × EV.Sum Un) := [(144, S_laws_toEntryS)]
open EV in
def an_laws_toBundle : An := (.s .n (.s .n (.s .n (.s .n .n))))
theorem e_laws_toBundle (a0 : D.Bundle) : EV.evF Yn TI FS_laws_toBundle (an_laws_toBundle) (bodyOf Tryz.f111) 9 [.st 112] [.st 69] true [.cell 2 69] (a0) = m_laws_toBundle a0 := by kernel_rfl
def S_laws_toBundle : EV.Sum Un := ⟨[.st 112], [.st 69], true, false, fun (a : D.Bundle) => gd (a.sz ≤ 1048576) (some (a))⟩
theorem en_laws_toBundle (args : Array Value) (w : World) : (callFunc 111 args).run Tryz.prog w = .ok (.enter 111 args) w := by kernel_rfl
theorem s_laws_toBundle : EV.SumOk Tryz.prog G0 Yn 111 S_laws_toBundle := EV.sum_ok (an := fun _ => an_laws_toBundle) (EV.good_cons s_laws_toEntryS good0) T.mix Tryz.func111 (cd := bodyOf Tryz.f111) rfl Tryz.ntmps111 (l := [.cell 2 69]) rfl en_laws_toBundle (by decide) rfl (fun (a : D.Bundle) r hr => (e_laws_toBundle a).trans (gd_use (t_laws_toBundle a) hr))
abbrev FS_laws_toDevice : List (Nat × EV.Sum Un) := [(110, S_laws_toKeyStore), (66, S_laws_toLogEntryS), (111, S_laws_toBundle)]
open EV in
def an_laws_toDevice : An := (.s .n (.s .n (.s .n (.s .n (.s .n (.s .n (.s .n (.s .n (.s .n .n)))))))))
theorem e_laws_toDevice (a0 : D.Device) : EV.evF Yn TI FS_laws_toDevice (an_laws_toDevice) (bodyOf Tryz.f65) 26 [.st 114] [.st 105] true [.cell 2 105] (a0) = m_laws_toDevice a0 := by kernel_rfl
def S_laws_toDevice : EV.Sum Un := ⟨[.st 114], [.st 105], true, false, fun (a : D.Device) => gd (a.sz ≤ 1048576) (some (a))⟩
theorem en_laws_toDevice (args : Array Value) (w : World) : (callFunc 65 args).run Tryz.prog w = .ok (.enter 65 args) w := by kernel_rfl
theorem s_laws_toDevice : EV.SumOk Tryz.prog G0 Yn 65 S_laws_toDevice := EV.sum_ok (an := fun _ => an_laws_toDevice) (EV.good_cons s_laws_toKeyStore (EV.good_cons s_laws_toLogEntryS (EV.good_cons s_laws_toBundle good0))) T.mix Tryz.func65 (cd := bodyOf Tryz.f65) rfl Tryz.ntmps65 (l := [.cell 2 105]) rfl en_laws_toDevice (by decide) rfl (fun (a : D.Device) r hr => (e_laws_toDevice a).trans (gd_use (t_laws_toDevice a) hr))
abbrev FS_laws_toDeviceS : List (Nat × EV.Sum Un) := [(65, S_laws_toDevice)]
open EV in
def an_laws_toDeviceS : An := (.s .n (.s .n (.s (.j ⟨[(4, 1), (3, 14)], [.ti 0 105 true], [], []⟩ (.s .n (.s (.l ⟨[(4, 1), (3, 14)], [.nat (.s 4), .ti 0 105 true], [], []⟩ FUEL (.s (.s .n (.s .n .n)) (.s (.s .n .n) .n))) .n))) (.s .n .n))))
theorem e_laws_toDeviceS (a0 : List D.Device) : EV.evF Yn TI FS_laws_toDeviceS (an_laws_toDeviceS) (bodyOf Tryz.f29) 23 [.sl 114] [.sl 105] true [.tmp 2] (a0) = m_laws_toDeviceS a0 := by kernel_rfl
def S_laws_toDeviceS : EV.Sum Un := ⟨[.sl 114], [.sl 105], true, false, fun (a : (List D.Device)) => gd (a.length + (a.map D.Device.sz).sum ≤ 1048576) (some (a))⟩
theorem en_laws_toDeviceS (args : Array Value) (w : World) : (callFunc 29 args).run Tryz.prog w = .ok (.enter 29 args) w := by kernel_rfl
theorem s_laws_toDeviceS : EV.SumOk Tryz.prog G0 Yn 29 S_laws_toDeviceS := EV.sum_ok (an := fun _ => an_laws_toDeviceS) (EV.good_cons s_laws_toDevice good0) T.mix Tryz.func29 (cd := bodyOf Tryz.f29) rfl Tryz.ntmps29 (l := [.tmp 2]) rfl en_laws_toDeviceS (by decide) rfl (fun (a : (List D.Device)) r hr => (e_laws_toDeviceS a).trans (gd_use (t_laws_toDeviceS a) hr))
abbrev FS_laws_toBoolS : List (Nat × EV.Sum Un) := []
open EV in
def an_laws_toBoolS : An := (.s .n (.s .n (.s (.j ⟨[(4, 1), (3, 13)], [.ti 0 4 true], [], []⟩ (.s .n (.s (.l ⟨[(4, 1), (3, 13)], [.nat (.s 4), .ti 0 4 true], [], []⟩ FUEL (.s (.s .n (.s .n .n)) (.s (.s .n .n) .n))) .n))) (.s .n .n))))
theorem e_laws_toBoolS (a0 : List Bool) : EV.evF Yn TI FS_laws_toBoolS (an_laws_toBoolS) (bodyOf Tryz.f30) 22 [.sl 4] [.sl 4] true [.tmp 2] (a0) = m_laws_toBoolS a0 := by kernel_rfl
def S_laws_toBoolS : EV.Sum Un := ⟨[.sl 4], [.sl 4], true, false, fun (a : (List Bool)) => gd (a.length ≤ 1048576) (some (a))⟩
theorem en_laws_toBoolS (args : Array Value) (w : World) : (callFunc 30 args).run Tryz.prog w = .ok (.enter 30 args) w := by kernel_rfl
theorem s_laws_toBoolS : EV.SumOk Tryz.prog G0 Yn 30 S_laws_toBoolS := EV.sum_ok (an := fun _ => an_laws_toBoolS) good0 T.mix Tryz.func30 (cd := bodyOf Tryz.f30) rfl Tryz.ntmps30 (l := [.tmp 2]) rfl en_laws_toBoolS (by decide) rfl (fun (a : (List Bool)) r hr => (e_laws_toBoolS a).trans (gd_use (t_laws_toBoolS a) hr))
abbrev FS_laws_toByteS : List (Nat × EV.Sum Un) := []
open EV in
def an_laws_toByteS : An := (.s .n (.s .n (.s (.j ⟨[(4, 1), (3, 13)], [.ti 0 5 true], [], []⟩ (.s .n (.s (.l ⟨[(4, 1), (3, 13)], [.nat (.s 4), .ti 0 5 true], [], []⟩ FUEL (.s (.s .n (.s .n .n)) (.s (.s .n .n) .n))) .n))) (.s .n .n))))
theorem e_laws_toByteS (a0 : List Int) : EV.evF Yn TI FS_laws_toByteS (an_laws_toByteS) (bodyOf Tryz.f146) 22 [.sl 5] [.sl 5] true [.tmp 2] (a0) = m_laws_toByteS a0 := by kernel_rfl
def S_laws_toByteS : EV.Sum Un := ⟨[.sl 5], [.sl 5], true, false, fun (a : (List Int)) => gd (a.length ≤ 1048576) (some (a))⟩
theorem en_laws_toByteS (args : Array Value) (w : World) : (callFunc 146 args).run Tryz.prog w = .ok (.enter 146 args) w := by kernel_rfl
theorem s_laws_toByteS : EV.SumOk Tryz.prog G0 Yn 146 S_laws_toByteS := EV.sum_ok (an := fun _ => an_laws_toByteS) good0 T.mix Tryz.func146 (cd := bodyOf Tryz.f146) rfl Tryz.ntmps146 (l := [.tmp 2]) rfl en_laws_toByteS (by decide) rfl (fun (a : (List Int)) r hr => (e_laws_toByteS a).trans (gd_use (t_laws_toByteS a) hr))
abbrev FS_laws_toBox : List (Nat × EV.Sum Un) := [(146, S_laws_toByteS)]
open EV in
def an_laws_toBox : An := (.s .n (.s .n (.s .n (.s .n (.s .n (.s .n (.s .n .n)))))))
theorem e_laws_toBox (a0 : D.Box) : EV.evF Yn TI FS_laws_toBox (an_laws_toBox) (bodyOf Tryz.f145) 18 [.st 231] [.st 238] true [.cell 2 238] (a0) = m_laws_toBox a0 := by kernel_rfl
def S_laws_toBox : EV.Sum Un := ⟨[.st 231], [.st 238], true, false, fun (a : D.Box) => gd (a.sz ≤ 1048576) (some (a))⟩
theorem en_laws_toBox (args : Array Value) (w : World) : (callFunc 145 args).run Tryz.prog w = .ok (.enter 145 args) w := by kernel_rfl
theorem s_laws_toBox : EV.SumOk Tryz.prog G0 Yn 145 S_laws_toBox := EV.sum_ok (an := fun _ => an_laws_toBox) (EV.good_cons s_laws_toByteS good0) T.mix Tryz.func145 (cd := bodyOf Tryz.f145) rfl Tryz.ntmps145 (l := [.cell 2 238]) rfl en_laws_toBox (by decide) rfl (fun (a : D.Box) r hr => (e_laws_toBox a).trans (gd_use (t_laws_toBox a) hr))
abbrev FS_laws_toBoxS : List (Nat × EV.Sum Un) := [(145, S_laws_toBox)]
open EV in
def an_laws_toBoxS : An := (.s .n (.s .n (.s (.j ⟨[(4, 1), (3, 14)], [.ti 0 238 true], [], []⟩ (.s .n (.s (.l ⟨[(4, 1), (3, 14)], [.nat (.s 4), .ti 0 238 true], [], []⟩ FUEL (.s (.s .n (.s .n .n)) (.s (.s .n .n) .n))) .n))) (.s .n .n))))
theorem e_laws_toBoxS (a0 : List D.Box) : EV.evF Yn TI FS_laws_toBoxS (an_laws_toBoxS) (bodyOf Tryz.f113) 23 [.sl 231] [.sl 238] true [.tmp 2] (a0) = m_laws_toBoxS a0 := by kernel_rfl
def S_laws_toBoxS : EV.Sum Un := ⟨[.sl 231], [.sl 238], true, false, fun (a : (List D.Box)) => gd (a.length + (a.map D.Box.sz).sum ≤ 1048576) (some (a))⟩
theorem en_laws_toBoxS (args : Array Value) (w : World) : (callFunc 113 args).run Tryz.prog w = .ok (.enter 113 args) w := by kernel_rfl
theorem s_laws_toBoxS : EV.SumOk Tryz.prog G0 Yn 113 S_laws_toBoxS := EV.sum_ok (an := fun _ => an_laws_toBoxS) (EV.good_cons s_laws_toBox good0) T.mix Tryz.func113 (cd := bodyOf Tryz.f113) rfl Tryz.ntmps113 (l := [.tmp 2]) rfl en_laws_toBoxS (by decide) rfl (fun (a : (List D.Box)) r hr => (e_laws_toBoxS a).trans (gd_use (t_laws_toBoxS a) hr))
abbrev FS_laws_toEpochBoxes : List (Nat × EV.Sum Un) := [(113, S_laws_toBoxS)]
open EV in
def an_laws_toEpochBoxes : An := (.s .n (.s .n (.s .n (.s .n (.s .n .n)))))
theorem e_laws_toEpochBoxes (a0 : D.EpochBoxes) : EV.evF Yn TI FS_laws_toEpochBoxes (an_laws_toEpochBoxes) (bodyOf Tryz.f67) 12 [.st 27] [.st 48] true [.cell 2 48] (a0) = m_laws_toEpochBoxes a0 := by kernel_rfl
def S_laws_toEpochBoxes : EV.Sum Un := ⟨[.st 27], [.st 48], true, false, fun (a : D.EpochBoxes) => gd (a.sz ≤ 1048576) (some (a))⟩
theorem en_laws_toEpochBoxes (args : Array Value) (w : World) : (callFunc 67 args).run Tryz.prog w = .ok (.enter 67 args) w := by kernel_rfl
theorem s_laws_toEpochBoxes : EV.SumOk Tryz.prog G0 Yn 67 S_laws_toEpochBoxes := EV.sum_ok (an := fun _ => an_laws_toEpochBoxes) (EV.good_cons s_laws_toBoxS good0) T.mix Tryz.func67 (cd := bodyOf Tryz.f67) rfl Tryz.ntmps67 (l := [.cell 2 48]) rfl en_laws_toEpochBoxes (by decide) rfl (fun (a : D.EpochBoxes) r hr => (e_laws_toEpochBoxes a).trans (gd_use (t_laws_toEpochBoxes a) hr))
abbrev FS_laws_toSealedBundle : List (Nat × EV.Sum Un) := [(146, S_laws_toByteS)]
open EV in
def an_laws_toSealedBundle : An := (.s .n (.s .n (.s .n (.s .n (.s .n (.s .n (.s .n .n)))))))
theorem e_laws_toSealedBundle (a0 : D.SealedBundle) : EV.evF Yn TI FS_laws_toSealedBundle (an_laws_toSealedBundle) (bodyOf Tryz.f114) 18 [.st 189] [.st 200] true [.cell 2 200] (a0) = m_laws_toSealedBundle a0 := by kernel_rfl
def S_laws_toSealedBundle : EV.Sum Un := ⟨[.st 189], [.st 200], true, false, fun (a : D.SealedBundle) => gd (a.sz ≤ 1048576) (some (a))⟩
theorem en_laws_toSealedBundle (args : Array Value) (w : World) : (callFunc 114 args).run Tryz.prog w = .ok (.enter 114 args) w := by kernel_rfl
theorem s_laws_toSealedBundle : EV.SumOk Tryz.prog G0 Yn 114 S_laws_toSealedBundle := EV.sum_ok (an := fun _ => an_laws_toSealedBundle) (EV.good_cons s_laws_toByteS good0) T.mix Tryz.func114 (cd := bodyOf Tryz.f114) rfl Tryz.ntmps114 (l := [.cell 2 200]) rfl en_laws_toSealedBundle (by decide) rfl (fun (a : D.SealedBundle) r hr => (e_laws_toSealedBundle a).trans (gd_use (t_laws_toSealedBundle a) hr))
abbrev FS_laws_toSealedBundleS : List (Nat × EV.Sum Un) := [(114, S_laws_toSealedBundle)]
open EV in
def an_laws_toSealedBundleS : An := (.s .n (.s .n (.s (.j ⟨[(4, 1), (3, 14)], [.ti 0 200 true], [], []⟩ (.s .n (.s (.l ⟨[(4, 1), (3, 14)], [.nat (.s 4), .ti 0 200 true], [], []⟩ FUEL (.s (.s .n (.s .n .n)) (.s (.s .n .n) .n))) .n))) (.s .n .n))))
theorem e_laws_toSealedBundleS (a0 : List D.SealedBundle) : EV.evF Yn TI FS_laws_toSealedBundleS (an_laws_toSealedBundleS) (bodyOf Tryz.f68) 23 [.sl 189] [.sl 200] true [.tmp 2] (a0) = m_laws_toSealedBundleS a0 := by kernel_rfl
def S_laws_toSealedBundleS : EV.Sum Un := ⟨[.sl 189], [.sl 200], true, false, fun (a : (List D.SealedBundle)) => gd (a.length + (a.map D.SealedBundle.sz).sum ≤ 1048576) (some (a))⟩
theorem en_laws_toSealedBundleS (args : Array Value) (w : World) : (callFunc 68 args).run Tryz.prog w = .ok (.enter 68 args) w := by kernel_rfl
theorem s_laws_toSealedBundleS : EV.SumOk Tryz.prog G0 Yn 68 S_laws_toSealedBundleS := EV.sum_ok (an := fun _ => an_laws_toSealedBundleS) (EV.good_cons s_laws_toSealedBundle good0) T.mix Tryz.func68 (cd := bodyOf Tryz.f68) rfl Tryz.ntmps68 (l := [.tmp 2]) rfl en_laws_toSealedBundleS (by decide) rfl (fun (a : (List D.SealedBundle)) r hr => (e_laws_toSealedBundleS a).trans (gd_use (t_laws_toSealedBundleS a) hr))
abbrev FS_laws_toCloud : List (Nat × EV.Sum Un) := [(66, S_laws_toLogEntryS), (67, S_laws_toEpochBoxes), (68, S_laws_toSealedBundleS)]
open EV in
def an_laws_toCloud : An := (.s .n (.s .n (.s .n (.s .n (.s .n (.s .n .n))))))
theorem e_laws_toCloud (a0 : D.Cloud) : EV.evF Yn TI FS_laws_toCloud (an_laws_toCloud) (bodyOf Tryz.f31) 17 [.st 30] [.st 51] true [.cell 2 51] (a0) = m_laws_toCloud a0 := by kernel_rfl
def S_laws_toCloud : EV.Sum Un := ⟨[.st 30], [.st 51], true, false, fun (a : D.Cloud) => gd (a.sz ≤ 1048576) (some (a))⟩
theorem en_laws_toCloud (args : Array Value) (w : World) : (callFunc 31 args).run Tryz.prog w = .ok (.enter 31 args) w := by kernel_rfl
theorem s_laws_toCloud : EV.SumOk Tryz.prog G0 Yn 31 S_laws_toCloud := EV.sum_ok (an := fun _ => an_laws_toCloud) (EV.good_cons s_laws_toLogEntryS (EV.good_cons s_laws_toEpochBoxes (EV.good_cons s_laws_toSealedBundleS good0))) T.mix Tryz.func31 (cd := bodyOf Tryz.f31) rfl Tryz.ntmps31 (l := [.cell 2 51]) rfl en_laws_toCloud (by decide) rfl (fun (a : D.Cloud) r hr => (e_laws_toCloud a).trans (gd_use (t_laws_toCloud a) hr))
abbrev FS_laws_toCredential : List (Nat × EV.Sum Un) := []
open EV in
def an_laws_toCredential : An := (.s .n (.s .n (.s .n (.s .n (.s .n (.s .n (.s .n .n)))))))
theorem e_laws_toCredential (a0 : D.Credential) : EV.evF Yn TI FS_laws_toCredential (an_laws_toCredential) (bodyOf Tryz.f170) 17 [.st 263] [.st 145] false [.cell 2 145] (a0) = m_laws_toCredential a0 := by kernel_rfl
def S_laws_toCredential : EV.Sum Un := ⟨[.st 263], [.st 145], false, false, fun (a : D.Credential) => some (a)⟩
theorem en_laws_toCredential (args : Array Value) (w : World) : (callFunc 170 args).run Tryz.prog w = .ok (.enter 170 args) w := by kernel_rfl
theorem s_laws_toCredential : EV.SumOk Tryz.prog G0 Yn 170 S_laws_toCredential := EV.sum_ok (an := fun _ => an_laws_toCredential) good0 T.mix Tryz.func170 (cd := bodyOf Tryz.f170) rfl Tryz.ntmps170 (l := [.cell 2 145]) rfl en_laws_toCredential (by decide) rfl (fun (a : D.Credential) r hr => (e_laws_toCredential a).trans ((t_laws_toCredential a).trans hr))
abbrev FS_laws_toCredentialS : List (Nat × EV.Sum Un) := [(170, S_laws_toCredential)]
open EV in
def an_laws_toCredentialS : An := (.s .n (.s .n (.s (.j ⟨[(4, 1), (3, 14)], [.ti 0 145 true], [], []⟩ (.s .n (.s (.l ⟨[(4, 1), (3, 14)], [.nat (.s 4), .ti 0 145 true], [], []⟩ FUEL (.s (.s .n (.s .n .n)) (.s (.s .n .n) .n))) .n))) (.s .n .n))))
theorem e_laws_toCredentialS (a0 : List D.Credential) : EV.evF Yn TI FS_laws_toCredentialS (an_laws_toCredentialS) (bodyOf Tryz.f163) 23 [.sl 263] [.sl 145] true [.tmp 2] (a0) = m_laws_toCredentialS a0 := by kernel_rfl
def S_laws_toCredentialS : EV.Sum Un := ⟨[.sl 263], [.sl 145], true, false, fun (a : (List D.Credential)) => gd (a.length ≤ 1048576) (some (a))⟩
theorem en_laws_toCredentialS (args : Array Value) (w : World) : (callFunc 163 args).run Tryz.prog w = .ok (.enter 163 args) w := by kernel_rfl
theorem s_laws_toCredentialS : EV.SumOk Tryz.prog G0 Yn 163 S_laws_toCredentialS := EV.sum_ok (an := fun _ => an_laws_toCredentialS) (EV.good_cons s_laws_toCredential good0) T.mix Tryz.func163 (cd := bodyOf Tryz.f163) rfl Tryz.ntmps163 (l := [.tmp 2]) rfl en_laws_toCredentialS (by decide) rfl (fun (a : (List D.Credential)) r hr => (e_laws_toCredentialS a).trans (gd_use (t_laws_toCredentialS a) hr))
abbrev FS_laws_toAccount : List (Nat × EV.Sum Un) := [(163, S_laws_toCredentialS)]
open EV in
def an_laws_toAccount : An := (.s .n (.s .n (.s .n (.s .n (.s .n (.s .n .n))))))
theorem e_laws_toAccount (a0 : D.Account) : EV.evF Yn TI FS_laws_toAccount (an_laws_toAccount) (bodyOf Tryz.f147) 15 [.st 235] [.st 143] true [.cell 2 143] (a0) = m_laws_toAccount a0 := by kernel_rfl
def S_laws_toAccount : EV.Sum Un := ⟨[.st 235], [.st 143], true, false, fun (a : D.Account) => gd (a.sz ≤ 1048576) (some (a))⟩
theorem en_laws_toAccount (args : Array Value) (w : World) : (callFunc 147 args).run Tryz.prog w = .ok (.enter 147 args) w := by kernel_rfl
theorem s_laws_toAccount : EV.SumOk Tryz.prog G0 Yn 147 S_laws_toAccount := EV.sum_ok (an := fun _ => an_laws_toAccount) (EV.good_cons s_laws_toCredentialS good0) T.mix Tryz.func147 (cd := bodyOf Tryz.f147) rfl Tryz.ntmps147 (l := [.cell 2 143]) rfl en_laws_toAccount (by decide) rfl (fun (a : D.Account) r hr => (e_laws_toAccount a).trans (gd_use (t_laws_toAccount a) hr))
abbrev FS_laws_toAccountS : List (Nat × EV.Sum Un) := [(147, S_laws_toAccount)]
open EV in
def an_laws_toAccountS : An := (.s .n (.s .n (.s (.j ⟨[(4, 1), (3, 14)], [.ti 0 143 true], [], []⟩ (.s .n (.s (.l ⟨[(4, 1), (3, 14)], [.nat (.s 4), .ti 0 143 true], [], []⟩ FUEL (.s (.s .n (.s .n .n)) (.s (.s .n .n) .n))) .n))) (.s .n .n))))
theorem e_laws_toAccountS (a0 : List D.Account) : EV.evF Yn TI FS_laws_toAccountS (an_laws_toAccountS) (bodyOf Tryz.f115) 23 [.sl 235] [.sl 143] true [.tmp 2] (a0) = m_laws_toAccountS a0 := by kernel_rfl
def S_laws_toAccountS : EV.Sum Un := ⟨[.sl 235], [.sl 143], true, false, fun (a : (List D.Account)) => gd (a.length + (a.map D.Account.sz).sum ≤ 1048576) (some (a))⟩
theorem en_laws_toAccountS (args : Array Value) (w : World) : (callFunc 115 args).run Tryz.prog w = .ok (.enter 115 args) w := by kernel_rfl
theorem s_laws_toAccountS : EV.SumOk Tryz.prog G0 Yn 115 S_laws_toAccountS := EV.sum_ok (an := fun _ => an_laws_toAccountS) (EV.good_cons s_laws_toAccount good0) T.mix Tryz.func115 (cd := bodyOf Tryz.f115) rfl Tryz.ntmps115 (l := [.tmp 2]) rfl en_laws_toAccountS (by decide) rfl (fun (a : (List D.Account)) r hr => (e_laws_toAccountS a).trans (gd_use (t_laws_toAccountS a) hr))
abbrev FS_laws_toChallenge : List (Nat × EV.Sum Un) := []
open EV in
def an_laws_toChallenge : An := (.s .n (.s .n (.s .n (.s .n (.s .n (.s .n .n))))))
theorem e_laws_toChallenge (a0 : D.Challenge) : EV.evF Yn TI FS_laws_toChallenge (an_laws_toChallenge) (bodyOf Tryz.f164) 14 [.st 256] [.st 224] false [.cell 2 224] (a0) = m_laws_toChallenge a0 := by kernel_rfl
def S_laws_toChallenge : EV.Sum Un := ⟨[.st 256], [.st 224], false, false, fun (a : D.Challenge) => some (a)⟩
theorem en_laws_toChallenge (args : Array Value) (w : World) : (callFunc 164 args).run Tryz.prog w = .ok (.enter 164 args) w := by kernel_rfl
theorem s_laws_toChallenge : EV.SumOk Tryz.prog G0 Yn 164 S_laws_toChallenge := EV.sum_ok (an := fun _ => an_laws_toChallenge) good0 T.mix Tryz.func164 (cd := bodyOf Tryz.f164) rfl Tryz.ntmps164 (l := [.cell 2 224]) rfl en_laws_toChallenge (by decide) rfl (fun (a : D.Challenge) r hr => (e_laws_toChallenge a).trans ((t_laws_toChallenge a).trans hr))
abbrev FS_laws_toChallengeS : List (Nat × EV.Sum Un) := [(164, S_laws_toChallenge)]
open EV in
def an_laws_toChallengeS : An := (.s .n (.s .n (.s (.j ⟨[(4, 1), (3, 14)], [.ti 0 224 true], [], []⟩ (.s .n (.s (.l ⟨[(4, 1), (3, 14)], [.nat (.s 4), .ti 0 224 true], [], []⟩ FUEL (.s (.s .n (.s .n .n)) (.s (.s .n .n) .n))) .n))) (.s .n .n))))
theorem e_laws_toChallengeS (a0 : List D.Challenge) : EV.evF Yn TI FS_laws_toChallengeS (an_laws_toChallengeS) (bodyOf Tryz.f148) 23 [.sl 256] [.sl 224] true [.tmp 2] (a0) = m_laws_toChallengeS a0 := by kernel_rfl
def S_laws_toChallengeS : EV.Sum Un := ⟨[.sl 256], [.sl 224], true, false, fun (a : (List D.Challenge)) => gd (a.length ≤ 1048576) (some (a))⟩
theorem en_laws_toChallengeS (args : Array Value) (w : World) : (callFunc 148 args).run Tryz.prog w = .ok (.enter 148 args) w := by kernel_rfl
theorem s_laws_toChallengeS : EV.SumOk Tryz.prog G0 Yn 148 S_laws_toChallengeS := EV.sum_ok (an := fun _ => an_laws_toChallengeS) (EV.good_cons s_laws_toChallenge good0) T.mix Tryz.func148 (cd := bodyOf Tryz.f148) rfl Tryz.ntmps148 (l := [.tmp 2]) rfl en_laws_toChallengeS (by decide) rfl (fun (a : (List D.Challenge)) r hr => (e_laws_toChallengeS a).trans (gd_use (t_laws_toChallengeS a) hr))
abbrev FS_laws_toChallengeBook : List (Nat × EV.Sum Un) := [(148, S_laws_toChallengeS)]
open EV in
def an_laws_toChallengeBook : An := (.s .n (.s .n (.s .n (.s .n (.s .n (.s .n .n))))))
theorem e_laws_toChallengeBook (a0 : D.ChallengeBook) : EV.evF Yn TI FS_laws_toChallengeBook (an_laws_toChallengeBook) (bodyOf Tryz.f116) 15 [.st 122] [.st 138] true [.cell 2 138] (a0) = m_laws_toChallengeBook a0 := by kernel_rfl
def S_laws_toChallengeBook : EV.Sum Un := ⟨[.st 122], [.st 138], true, false, fun (a : D.ChallengeBook) => gd (a.sz ≤ 1048576) (some (a))⟩
theorem en_laws_toChallengeBook (args : Array Value) (w : World) : (callFunc 116 args).run Tryz.prog w = .ok (.enter 116 args) w := by kernel_rfl
theorem s_laws_toChallengeBook : EV.SumOk Tryz.prog G0 Yn 116 S_laws_toChallengeBook := EV.sum_ok (an := fun _ => an_laws_toChallengeBook) (EV.good_cons s_laws_toChallengeS good0) T.mix Tryz.func116 (cd := bodyOf Tryz.f116) rfl Tryz.ntmps116 (l := [.cell 2 138]) rfl en_laws_toChallengeBook (by decide) rfl (fun (a : D.ChallengeBook) r hr => (e_laws_toChallengeBook a).trans (gd_use (t_laws_toChallengeBook a) hr))
abbrev FS_laws_toIntS : List (Nat × EV.Sum Un) := []
open EV in
def an_laws_toIntS : An := (.s .n (.s .n (.s (.j ⟨[(4, 1), (3, 13)], [.ti 0 3 true], [], []⟩ (.s .n (.s (.l ⟨[(4, 1), (3, 13)], [.nat (.s 4), .ti 0 3 true], [], []⟩ FUEL (.s (.s .n (.s .n .n)) (.s (.s .n .n) .n))) .n))) (.s .n .n))))
theorem e_laws_toIntS (a0 : List Int) : EV.evF Yn TI FS_laws_toIntS (an_laws_toIntS) (bodyOf Tryz.f117) 22 [.sl 3] [.sl 3] true [.tmp 2] (a0) = m_laws_toIntS a0 := by kernel_rfl
def S_laws_toIntS : EV.Sum Un := ⟨[.sl 3], [.sl 3], true, false, fun (a : (List Int)) => gd (a.length ≤ 1048576) (some (a))⟩
theorem en_laws_toIntS (args : Array Value) (w : World) : (callFunc 117 args).run Tryz.prog w = .ok (.enter 117 args) w := by kernel_rfl
theorem s_laws_toIntS : EV.SumOk Tryz.prog G0 Yn 117 S_laws_toIntS := EV.sum_ok (an := fun _ => an_laws_toIntS) good0 T.mix Tryz.func117 (cd := bodyOf Tryz.f117) rfl Tryz.ntmps117 (l := [.tmp 2]) rfl en_laws_toIntS (by decide) rfl (fun (a : (List Int)) r hr => (e_laws_toIntS a).trans (gd_use (t_laws_toIntS a) hr))
abbrev FS_laws_toSite : List (Nat × EV.Sum Un) := [(115, S_laws_toAccountS), (116, S_laws_toChallengeBook), (117, S_laws_toIntS)]
open EV in
def an_laws_toSite : An := (.s .n (.s .n (.s .n (.s .n (.s .n (.s .n (.s .n .n)))))))
theorem e_laws_toSite (a0 : D.Site) : EV.evF Yn TI FS_laws_toSite (an_laws_toSite) (bodyOf Tryz.f69) 20 [.st 124] [.st 140] true [.cell 2 140] (a0) = m_laws_toSite a0 := by kernel_rfl
def S_laws_toSite : EV.Sum Un := ⟨[.st 124], [.st 140], true, false, fun (a : D.Site) => gd (a.sz ≤ 1048576) (some (a))⟩
theorem en_laws_toSite (args : Array Value) (w : World) : (callFunc 69 args).run Tryz.prog w = .ok (.enter 69 args) w := by kernel_rfl
theorem s_laws_toSite : EV.SumOk Tryz.prog G0 Yn 69 S_laws_toSite := EV.sum_ok (an := fun _ => an_laws_toSite) (EV.good_cons s_laws_toAccountS (EV.good_cons s_laws_toChallengeBook (EV.good_cons s_laws_toIntS good0))) T.mix Tryz.func69 (cd := bodyOf Tryz.f69) rfl Tryz.ntmps69 (l := [.cell 2 140]) rfl en_laws_toSite (by decide) rfl (fun (a : D.Site) r hr => (e_laws_toSite a).trans (gd_use (t_laws_toSite a) hr))
abbrev FS_laws_toSiteS : List (Nat × EV.Sum Un) := [(69, S_laws_toSite)]
open EV in
def an_laws_toSiteS : An := (.s .n (.s .n (.s (.j ⟨[(4, 1), (3, 14)], [.ti 0 140 true], [], []⟩ (.s .n (.s (.l ⟨[(4, 1), (3, 14)], [.nat (.s 4), .ti 0 140 true], [], []⟩ FUEL (.s (.s .n (.s .n .n)) (.s (.s .n .n) .n))) .n))) (.s .n .n))))
theorem e_laws_toSiteS (a0 : List D.Site) : EV.evF Yn TI FS_laws_toSiteS (an_laws_toSiteS) (bodyOf Tryz.f32) 23 [.sl 124] [.sl 140] true [.tmp 2] (a0) = m_laws_toSiteS a0 := by kernel_rfl
def S_laws_toSiteS : EV.Sum Un := ⟨[.sl 124], [.sl 140], true, false, fun (a : (List D.Site)) => gd (a.length + (a.map D.Site.sz).sum ≤ 1048576) (some (a))⟩
theorem en_laws_toSiteS (args : Array Value) (w : World) : (callFunc 32 args).run Tryz.prog w = .ok (.enter 32 args) w := by kernel_rfl
theorem s_laws_toSiteS : EV.SumOk Tryz.prog G0 Yn 32 S_laws_toSiteS := EV.sum_ok (an := fun _ => an_laws_toSiteS) (EV.good_cons s_laws_toSite good0) T.mix Tryz.func32 (cd := bodyOf Tryz.f32) rfl Tryz.ntmps32 (l := [.tmp 2]) rfl en_laws_toSiteS (by decide) rfl (fun (a : (List D.Site)) r hr => (e_laws_toSiteS a).trans (gd_use (t_laws_toSiteS a) hr))
abbrev FS_laws_toVault : List (Nat × EV.Sum Un) := []
open EV in
def an_laws_toVault : An := (.s .n (.s .n (.s .n (.s .n (.s .n (.s .n (.s .n .n)))))))
theorem e_laws_toVault (a0 : D.Vault) : EV.evF Yn TI FS_laws_toVault (an_laws_toVault) (bodyOf Tryz.f33) 17 [.st 33] [.st 53] false [.cell 2 53] (a0) = m_laws_toVault a0 := by kernel_rfl
def S_laws_toVault : EV.Sum Un := ⟨[.st 33], [.st 53], false, false, fun (a : D.Vault) => some (a)⟩
theorem en_laws_toVault (args : Array Value) (w : World) : (callFunc 33 args).run Tryz.prog w = .ok (.enter 33 args) w := by kernel_rfl
theorem s_laws_toVault : EV.SumOk Tryz.prog G0 Yn 33 S_laws_toVault := EV.sum_ok (an := fun _ => an_laws_toVault) good0 T.mix Tryz.func33 (cd := bodyOf Tryz.f33) rfl Tryz.ntmps33 (l := [.cell 2 53]) rfl en_laws_toVault (by decide) rfl (fun (a : D.Vault) r hr => (e_laws_toVault a).trans ((t_laws_toVault a).trans hr))
abbrev FS_laws_toShare : List (Nat × EV.Sum Un) := []
open EV in
def an_laws_toShare : An := (.s .n (.s .n (.s .n (.s .n (.s .n .n)))))
theorem e_laws_toShare (a0 : D.Share) : EV.evF Yn TI FS_laws_toShare (an_laws_toShare) (bodyOf Tryz.f149) 11 [.st 127] [.st 151] false [.cell 2 151] (a0) = m_laws_toShare a0 := by kernel_rfl
def S_laws_toShare : EV.Sum Un := ⟨[.st 127], [.st 151], false, false, fun (a : D.Share) => some (a)⟩
theorem en_laws_toShare (args : Array Value) (w : World) : (callFunc 149 args).run Tryz.prog w = .ok (.enter 149 args) w := by kernel_rfl
theorem s_laws_toShare : EV.SumOk Tryz.prog G0 Yn 149 S_laws_toShare := EV.sum_ok (an := fun _ => an_laws_toShare) good0 T.mix Tryz.func149 (cd := bodyOf Tryz.f149) rfl Tryz.ntmps149 (l := [.cell 2 151]) rfl en_laws_toShare (by decide) rfl (fun (a : D.Share) r hr => (e_laws_toShare a).trans ((t_laws_toShare a).trans hr))
abbrev FS_laws_toKeeper : List (Nat × EV.Sum Un) := [(149, S_laws_toShare)]
open EV in
def an_laws_toKeeper : An := (.s .n (.s .n (.s .n (.s .n (.s .n (.s .n (.s .n .n)))))))
theorem e_laws_toKeeper (a0 : D.Keeper) : EV.evF Yn TI FS_laws_toKeeper (an_laws_toKeeper) (bodyOf Tryz.f118) 18 [.st 129] [.st 153] false [.cell 2 153] (a0) = m_laws_toKeeper a0 := by kernel_rfl
def S_laws_toKeeper : EV.Sum Un := ⟨[.st 129], [.st 153], false, false, fun (a : D.Keeper) => some (a)⟩
theorem en_laws_toKeeper (args : Array Value) (w : World) : (callFunc 118 args).run Tryz.prog w = .ok (.enter 118 args) w := by kernel_rfl
theorem s_laws_toKeeper : EV.SumOk Tryz.prog G0 Yn 118 S_laws_toKeeper := EV.sum_ok (an := fun _ => an_laws_toKeeper) (EV.good_cons s_laws_toShare good0) T.mix Tryz.func118 (cd := bodyOf Tryz.f118) rfl Tryz.ntmps118 (l := [.cell 2 153]) rfl en_laws_toKeeper (by decide) rfl (fun (a : D.Keeper) r hr => (e_laws_toKeeper a).trans ((t_laws_toKeeper a).trans hr))
abbrev FS_laws_toKeeperS : List (Nat × EV.Sum Un) := [(118, S_laws_toKeeper)]
open EV in
def an_laws_toKeeperS : An := (.s .n (.s .n (.s (.j ⟨[(4, 1), (3, 14)], [.ti 0 153 true], [], []⟩ (.s .n (.s (.l ⟨[(4, 1), (3, 14)], [.nat (.s 4), .ti 0 153 true], [], []⟩ FUEL (.s (.s .n (.s .n .n)) (.s (.s .n .n) .n))) .n))) (.s .n .n))))
theorem e_laws_toKeeperS (a0 : List D.Keeper) : EV.evF Yn TI FS_laws_toKeeperS (an_laws_toKeeperS) (bodyOf Tryz.f119) 23 [.sl 129] [.sl 153] true [.tmp 2] (a0) = m_laws_toKeeperS a0 := by kernel_rfl
def S_laws_toKeeperS : EV.Sum Un := ⟨[.sl 129], [.sl 153], true, false, fun (a : (List D.Keeper)) => gd (a.length ≤ 1048576) (some (a))⟩
theorem en_laws_toKeeperS (args : Array Value) (w : World) : (callFunc 119 args).run Tryz.prog w = .ok (.enter 119 args) w := by kernel_rfl
theorem s_laws_toKeeperS : EV.SumOk Tryz.prog G0 Yn 119 S_laws_toKeeperS := EV.sum_ok (an := fun _ => an_laws_toKeeperS) (EV.good_cons s_laws_toKeeper good0) T.mix Tryz.func119 (cd := bodyOf Tryz.f119) rfl Tryz.ntmps119 (l := [.tmp 2]) rfl en_laws_toKeeperS (by decide) rfl (fun (a : (List D.Keeper)) r hr => (e_laws_toKeeperS a).trans (gd_use (t_laws_toKeeperS a) hr))
abbrev FS_laws_toKeeperHost : List (Nat × EV.Sum Un) := [(118, S_laws_toKeeper), (119, S_laws_toKeeperS)]
open EV in
def an_laws_toKeeperHost : An := (.s .n (.s .n (.s .n (.s .n (.s .n (.s .n .n))))))
theorem e_laws_toKeeperHost (a0 : D.KeeperHost) : EV.evF Yn TI FS_laws_toKeeperHost (an_laws_toKeeperHost) (bodyOf Tryz.f70) 16 [.st 132] [.st 156] true [.cell 2 156] (a0) = m_laws_toKeeperHost a0 := by kernel_rfl
def S_laws_toKeeperHost : EV.Sum Un := ⟨[.st 132], [.st 156], true, false, fun (a : D.KeeperHost) => gd (a.sz ≤ 1048576) (some (a))⟩
theorem en_laws_toKeeperHost (args : Array Value) (w : World) : (callFunc 70 args).run Tryz.prog w = .ok (.enter 70 args) w := by kernel_rfl
theorem s_laws_toKeeperHost : EV.SumOk Tryz.prog G0 Yn 70 S_laws_toKeeperHost := EV.sum_ok (an := fun _ => an_laws_toKeeperHost) (EV.good_cons s_laws_toKeeper (EV.good_cons s_laws_toKeeperS good0)) T.mix Tryz.func70 (cd := bodyOf Tryz.f70) rfl Tryz.ntmps70 (l := [.cell 2 156]) rfl en_laws_toKeeperHost (by decide) rfl (fun (a : D.KeeperHost) r hr => (e_laws_toKeeperHost a).trans (gd_use (t_laws_toKeeperHost a) hr))
abbrev FS_laws_toKeeperHostS : List (Nat × EV.Sum Un) := [(70, S_laws_toKeeperHost)]
open EV in
def an_laws_toKeeperHostS : An := (.s .n (.s .n (.s (.j ⟨[(4, 1), (3, 14)], [.ti 0 156 true], [], []⟩ (.s .n (.s (.l ⟨[(4, 1), (3, 14)], [.nat (.s 4), .ti 0 156 true], [], []⟩ FUEL (.s (.s .n (.s .n .n)) (.s (.s .n .n) .n))) .n))) (.s .n .n))))
theorem e_laws_toKeeperHostS (a0 : List D.KeeperHost) : EV.evF Yn TI FS_laws_toKeeperHostS (an_laws_toKeeperHostS) (bodyOf Tryz.f34) 23 [.sl 132] [.sl 156] true [.tmp 2] (a0) = m_laws_toKeeperHostS a0 := by kernel_rfl
def S_laws_toKeeperHostS : EV.Sum Un := ⟨[.sl 132], [.sl 156], true, false, fun (a : (List D.KeeperHost)) => gd (a.length + (a.map D.KeeperHost.sz).sum ≤ 1048576) (some (a))⟩
theorem en_laws_toKeeperHostS (args : Array Value) (w : World) : (callFunc 34 args).run Tryz.prog w = .ok (.enter 34 args) w := by kernel_rfl
theorem s_laws_toKeeperHostS : EV.SumOk Tryz.prog G0 Yn 34 S_laws_toKeeperHostS := EV.sum_ok (an := fun _ => an_laws_toKeeperHostS) (EV.good_cons s_laws_toKeeperHost good0) T.mix Tryz.func34 (cd := bodyOf Tryz.f34) rfl Tryz.ntmps34 (l := [.tmp 2]) rfl en_laws_toKeeperHostS (by decide) rfl (fun (a : (List D.KeeperHost)) r hr => (e_laws_toKeeperHostS a).trans (gd_use (t_laws_toKeeperHostS a) hr))
abbrev FS_laws_toNotice : List (Nat × EV.Sum Un) := []
open EV in
def an_laws_toNotice : An := (.s .n (.s .n (.s .n (.s .n (.s .n (.s .n (.s .n .n)))))))
theorem e_laws_toNotice (a0 : D.Notice) : EV.evF Yn TI FS_laws_toNotice (an_laws_toNotice) (bodyOf Tryz.f120) 17 [.st 210] [.st 208] false [.cell 2 208] (a0) = m_laws_toNotice a0 := by kernel_rfl
def S_laws_toNotice : EV.Sum Un := ⟨[.st 210], [.st 208], false, false, fun (a : D.Notice) => some (a)⟩
theorem en_laws_toNotice (args : Array Value) (w : World) : (callFunc 120 args).run Tryz.prog w = .ok (.enter 120 args) w := by kernel_rfl
theorem s_laws_toNotice : EV.SumOk Tryz.prog G0 Yn 120 S_laws_toNotice := EV.sum_ok (an := fun _ => an_laws_toNotice) good0 T.mix Tryz.func120 (cd := bodyOf Tryz.f120) rfl Tryz.ntmps120 (l := [.cell 2 208]) rfl en_laws_toNotice (by decide) rfl (fun (a : D.Notice) r hr => (e_laws_toNotice a).trans ((t_laws_toNotice a).trans hr))
abbrev FS_laws_toNoticeS : List (Nat × EV.Sum Un) := [(120, S_laws_toNotice)]
open EV in
def an_laws_toNoticeS : An := (.s .n (.s .n (.s (.j ⟨[(4, 1), (3, 14)], [.ti 0 208 true], [], []⟩ (.s .n (.s (.l ⟨[(4, 1), (3, 14)], [.nat (.s 4), .ti 0 208 true], [], []⟩ FUEL (.s (.s .n (.s .n .n)) (.s (.s .n .n) .n))) .n))) (.s .n .n))))
theorem e_laws_toNoticeS (a0 : List D.Notice) : EV.evF Yn TI FS_laws_toNoticeS (an_laws_toNoticeS) (bodyOf Tryz.f71) 23 [.sl 210] [.sl 208] true [.tmp 2] (a0) = m_laws_toNoticeS a0 := by kernel_rfl
def S_laws_toNoticeS : EV.Sum Un := ⟨[.sl 210], [.sl 208], true, false, fun (a : (List D.Notice)) => gd (a.length ≤ 1048576) (some (a))⟩
theorem en_laws_toNoticeS (args : Array Value) (w : World) : (callFunc 71 args).run Tryz.prog w = .ok (.enter 71 args) w := by kernel_rfl
theorem s_laws_toNoticeS : EV.SumOk Tryz.prog G0 Yn 71 S_laws_toNoticeS := EV.sum_ok (an := fun _ => an_laws_toNoticeS) (EV.good_cons s_laws_toNotice good0) T.mix Tryz.func71 (cd := bodyOf Tryz.f71) rfl Tryz.ntmps71 (l := [.tmp 2]) rfl en_laws_toNoticeS (by decide) rfl (fun (a : (List D.Notice)) r hr => (e_laws_toNoticeS a).trans (gd_use (t_laws_toNoticeS a) hr))
abbrev FS_laws_toMailbox : List (Nat × EV.Sum Un) := [(71, S_laws_toNoticeS)]
open EV in
def an_laws_toMailbox : An := (.s .n (.s .n (.s .n (.s .n .n))))
theorem e_laws_toMailbox (a0 : D.Mailbox) : EV.evF Yn TI FS_laws_toMailbox (an_laws_toMailbox) (bodyOf Tryz.f35) 9 [.st 37] [.st 57] true [.cell 2 57] (a0) = m_laws_toMailbox a0 := by kernel_rfl
def S_laws_toMailbox : EV.Sum Un := ⟨[.st 37], [.st 57], true, false, fun (a : D.Mailbox) => gd (a.sz ≤ 1048576) (some (a))⟩
theorem en_laws_toMailbox (args : Array Value) (w : World) : (callFunc 35 args).run Tryz.prog w = .ok (.enter 35 args) w := by kernel_rfl
theorem s_laws_toMailbox : EV.SumOk Tryz.prog G0 Yn 35 S_laws_toMailbox := EV.sum_ok (an := fun _ => an_laws_toMailbox) (EV.good_cons s_laws_toNoticeS good0) T.mix Tryz.func35 (cd := bodyOf Tryz.f35) rfl Tryz.ntmps35 (l := [.cell 2 57]) rfl en_laws_toMailbox (by decide) rfl (fun (a : D.Mailbox) r hr => (e_laws_toMailbox a).trans (gd_use (t_laws_toMailbox a) hr))
abbrev FS_laws_toWorld : List (Nat × EV.Sum Un) := [(29, S_laws_toDeviceS), (30, S_laws_toBoolS), (31, S_laws_toCloud), (32, S_laws_toSiteS), (33, S_laws_toVault), (34, S_laws_toKeeperHostS), (35, S_laws_toMailbox)]
open EV in
def an_laws_toWorld : An := (.s .n (.s .n (.s .n (.s .n (.s .n (.s .n (.s .n (.s .n (.s .n (.s .n (.s .n (.s .n (.s .n .n)))))))))))))
theorem e_laws_toWorld (a0 : D.World) : EV.evF Yn TI FS_laws_toWorld (an_laws_toWorld) (bodyOf Tryz.f8) 42 [.st 39] [.st 59] true [.cell 2 59] (a0) = m_laws_toWorld a0 := by kernel_rfl
def S_laws_toWorld : EV.Sum Un := ⟨[.st 39], [.st 59], true, false, fun (a : D.World) => gd (a.sz ≤ 1048576) (some (a))⟩
theorem en_laws_toWorld (args : Array Value) (w : World) : (callFunc 8 args).run Tryz.prog w = .ok (.enter 8 args) w := by kernel_rfl
theorem s_laws_toWorld : EV.SumOk Tryz.prog G0 Yn 8 S_laws_toWorld := EV.sum_ok (an := fun _ => an_laws_toWorld) (EV.good_cons s_laws_toDeviceS (EV.good_cons s_laws_toBoolS (EV.good_cons s_laws_toCloud (EV.good_cons s_laws_toSiteS (EV.good_cons s_laws_toVault (EV.good_cons s_laws_toKeeperHostS (EV.good_cons s_laws_toMailbox good0))))))) T.mix Tryz.func8 (cd := bodyOf Tryz.f8) rfl Tryz.ntmps8 (l := [.cell 2 59]) rfl en_laws_toWorld (by decide) rfl (fun (a : D.World) r hr => (e_laws_toWorld a).trans (gd_use (t_laws_toWorld a) hr))
abbrev FS_spec_l1In : List (Nat × EV.Sum Un) := []
open EV in
def an_spec_l1In : An := (.s .n (.s (.rj 4 ⟨[(6, 1), (3, 5)], [.dat (.s 6) (.bool)], [], []⟩ .n) .n))
theorem e_spec_l1In (a0 : Int) (a1 : Int) (a2 : Int) : EV.evF Yn TI FS_spec_l1In (an_spec_l1In) (bodyOf Tryz.f64) 15 [.int .i64, .int .i64, .int .i64] [.bool] false [.tmp 6] (a0, a1, a2) = m_spec_l1In a0 a1 a2 := by kernel_rfl
def S_spec_l1In : EV.Sum Un := ⟨[.int .i64, .int .i64, .int .i64], [.bool], false, false, fun (a : Int × Int × Int) => some (inR a.1 a.2.1 a.2.2)⟩
theorem en_spec_l1In (args : Array Value) (w : World) : (callFunc 64 args).run Tryz.prog w = .ok (.enter 64 args) w := by kernel_rfl
theorem s_spec_l1In : EV.SumOk Tryz.prog G0 Yn 64 S_spec_l1In := EV.sum_ok (an := fun _ => an_spec_l1In) good0 T.mix Tryz.func64 (cd := bodyOf Tryz.f64) rfl Tryz.ntmps64 (l := [.tmp 6]) rfl en_spec_l1In (by decide) rfl (fun (a : Int × Int × Int) r hr => (e_spec_l1In a.1 a.2.1 a.2.2).trans ((t_spec_l1In a.1 a.2.1 a.2.2).trans hr))
abbrev FS_laws_eqIntS : List (Nat × EV.Sum Un) := []
open EV in
def an_laws_eqIntS : An := (.s .n (.s (.s .n (.s (.s .n .n) .n)) (.s (.jx ⟨[(4, 2), (5, 15)], [], [], []⟩ (.s .n (.s (.l ⟨[(4, 2), (5, 15)], [.nat (.s 5)], [], []⟩ FUEL (.s (.s .n (.s .n .n)) (.s (.s (.s (.r none [(0, true), (1, true), (2, true), (3, true), (4, true), (5, true), (6, true), (7, true), (8, true)]) (.s (.s .n .n) .n)) .n) .n))) .n))) (.s .n .n))))
theorem e_laws_eqIntS (a0 : List Int) (a1 : List Int) : EV.evF Yn TI FS_laws_eqIntS (an_laws_eqIntS) (bodyOf Tryz.f10) 26 [.sl 3, .sl 3] [.bool] false [.tmp 4] (a0, a1) = m_laws_eqIntS a0 a1 := by kernel_rfl
def S_laws_eqIntS : EV.Sum Un := ⟨[.sl 3, .sl 3], [.bool], false, false, fun (a : (List Int) × (List Int)) => gd (EqZ (a.1.length) a.1 a.2) (some true)⟩
theorem en_laws_eqIntS (args : Array Value) (w : World) : (callFunc 10 args).run Tryz.prog w = .ok (.enter 10 args) w := by kernel_rfl
theorem s_laws_eqIntS : EV.SumOk Tryz.prog G0 Yn 10 S_laws_eqIntS := EV.sum_ok (an := fun _ => an_laws_eqIntS) good0 T.mix Tryz.func10 (cd := bodyOf Tryz.f10) rfl Tryz.ntmps10 (l := [.tmp 4]) rfl en_laws_eqIntS (by decide) rfl (fun (a : (List Int) × (List Int)) r hr => (e_laws_eqIntS a.1 a.2).trans (gd_use (t_laws_eqIntS a.1 a.2) hr))
abbrev FS_laws_eqKeyStore : List (Nat × EV.Sum Un) := []
open EV in
def an_laws_eqKeyStore : An := (.s .n (.s (.s .n (.s (.s .n .n) .n)) (.s (.s .n (.s (.s .n .n) .n)) (.s (.s .n (.s (.s .n .n) .n)) (.s (.s .n (.s (.s .n .n) .n)) (.s .n .n))))))
theorem e_laws_eqKeyStore (a0 : D.KeyStore) (a1 : D.KeyStore) : EV.evF Yn TI FS_laws_eqKeyStore (an_laws_eqKeyStore) (bodyOf Tryz.f121) 25 [.st 103, .st 103] [.bool] false [.tmp 4] (a0, a1) = m_laws_eqKeyStore a0 a1 := by kernel_rfl
def S_laws_eqKeyStore : EV.Sum Un := ⟨[.st 103, .st 103], [.bool], false, false, fun (a : D.KeyStore × D.KeyStore) => gd (EqZ (0) a.1 a.2) (some true)⟩
theorem en_laws_eqKeyStore (args : Array Value) (w : World) : (callFunc 121 args).run Tryz.prog w = .ok (.enter 121 args) w := by kernel_rfl
theorem s_laws_eqKeyStore : EV.SumOk Tryz.prog G0 Yn 121 S_laws_eqKeyStore := EV.sum_ok (an := fun _ => an_laws_eqKeyStore) good0 T.mix Tryz.func121 (cd := bodyOf Tryz.f121) rfl Tryz.ntmps121 (l := [.tmp 4]) rfl en_laws_eqKeyStore (by decide) rfl (fun (a : D.KeyStore × D.KeyStore) r hr => (e_laws_eqKeyStore a.1 a.2).trans (gd_use (t_laws_eqKeyStore a.1 a.2) hr))
abbrev FS_laws_eqLogEntry : List (Nat × EV.Sum Un) := []
open EV in
def an_laws_eqLogEntry : An := (.s .n (.s (.s .n (.s (.s .n .n) .n)) (.s (.s .n (.s (.s .n .n) .n)) (.s (.s .n (.s (.s .n .n) .n)) (.s (.s .n (.s (.s .n .n) .n)) (.s (.s .n (.s (.s .n .n) .n)) (.s (.s .n (.s (.s .n .n) .n)) (.s .n .n))))))))
theorem e_laws_eqLogEntry (a0 : D.LogEntry) (a1 : D.LogEntry) : EV.evF Yn TI FS_laws_eqLogEntry (an_laws_eqLogEntry) (bodyOf Tryz.f122) 35 [.st 196, .st 196] [.bool] false [.tmp 4] (a0, a1) = m_laws_eqLogEntry a0 a1 := by kernel_rfl
def S_laws_eqLogEntry : EV.Sum Un := ⟨[.st 196, .st 196], [.bool], false, false, fun (a : D.LogEntry × D.LogEntry) => gd (EqZ (0) a.1 a.2) (some true)⟩
theorem en_laws_eqLogEntry (args : Array Value) (w : World) : (callFunc 122 args).run Tryz.prog w = .ok (.enter 122 args) w := by kernel_rfl
theorem s_laws_eqLogEntry : EV.SumOk Tryz.prog G0 Yn 122 S_laws_eqLogEntry := EV.sum_ok (an := fun _ => an_laws_eqLogEntry) good0 T.mix Tryz.func122 (cd := bodyOf Tryz.f122) rfl Tryz.ntmps122 (l := [.tmp 4]) rfl en_laws_eqLogEntry (by decide) rfl (fun (a : D.LogEntry × D.LogEntry) r hr => (e_laws_eqLogEntry a.1 a.2).trans (gd_use (t_laws_eqLogEntry a.1 a.2) hr))
abbrev FS_laws_eqLogEntryS : List (Nat × EV.Sum Un) := [(122, S_laws_eqLogEntry)]
open EV in
def an_laws_eqLogEntryS : An := (.s .n (.s (.s .n (.s (.s .n .n) .n)) (.s (.jx ⟨[(4, 2), (5, 16)], [], [], []⟩ (.s .n (.s (.l ⟨[(4, 2), (5, 16)], [.nat (.s 5)], [], []⟩ FUEL (.s (.s .n (.s .n .n)) (.s (.s (.s (.r none [(0, true), (1, true), (2, true), (3, true), (4, true), (5, true), (6, true), (7, true), (8, false), (9, true)]) (.s (.s .n .n) .n)) .n) .n))) .n))) (.s .n .n))))
theorem e_laws_eqLogEntryS (a0 : List D.LogEntry) (a1 : List D.LogEntry) : EV.evF Yn TI FS_laws_eqLogEntryS (an_laws_eqLogEntryS) (bodyOf Tryz.f74) 27 [.sl 196, .sl 196] [.bool] false [.tmp 4] (a0, a1) = m_laws_eqLogEntryS a0 a1 := by kernel_rfl
def S_laws_eqLogEntryS : EV.Sum Un := ⟨[.sl 196, .sl 196], [.bool], false, false, fun (a : (List D.LogEntry) × (List D.LogEntry)) => gd (EqZ (a.1.length) a.1 a.2) (some true)⟩
theorem en_laws_eqLogEntryS (args : Array Value) (w : World) : (callFunc 74 args).run Tryz.prog w = .ok (.enter 74 args) w := by kernel_rfl
theorem s_laws_eqLogEntryS : EV.SumOk Tryz.prog G0 Yn 74 S_laws_eqLogEntryS := EV.sum_ok (an := fun _ => an_laws_eqLogEntryS) (EV.good_cons s_laws_eqLogEntry good0) T.mix Tryz.func74 (cd := bodyOf Tryz.f74) rfl Tryz.ntmps74 (l := [.tmp 4]) rfl en_laws_eqLogEntryS (by decide) rfl (fun (a : (List D.LogEntry) × (List D.LogEntry)) r hr => (e_laws_eqLogEntryS a.1 a.2).trans (gd_use (t_laws_eqLogEntryS a.1 a.2) hr))
abbrev FS_laws_eqEntry : List (Nat × EV.Sum Un) := []
open EV in
def an_laws_eqEntry : An := (.s .n (.s (.s .n (.s (.s .n .n) .n)) (.s (.s .n (.s (.s .n .n) .n)) (.s (.s .n (.s (.s .n .n) .n)) (.s (.s .n (.s (.s .n .n) .n)) (.s .n .n))))))
theorem e_laws_eqEntry (a0 : D.Entry) (a1 : D.Entry) : EV.evF Yn TI FS_laws_eqEntry (an_laws_eqEntry) (bodyOf Tryz.f102) 25 [.st 180, .st 180] [.bool] false [.tmp 4] (a0, a1) = m_laws_eqEntry a0 a1 := by kernel_rfl
def S_laws_eqEntry : EV.Sum Un := ⟨[.st 180, .st 180], [.bool], false, false, fun (a : D.Entry × D.Entry) => gd (EqZ (0) a.1 a.2) (some true)⟩
theorem en_laws_eqEntry (args : Array Value) (w : World) : (callFunc 102 args).run Tryz.prog w = .ok (.enter 102 args) w := by kernel_rfl
theorem s_laws_eqEntry : EV.SumOk Tryz.prog G0 Yn 102 S_laws_eqEntry := EV.sum_ok (an := fun _ => an_laws_eqEntry) good0 T.mix Tryz.func102 (cd := bodyOf Tryz.f102) rfl Tryz.ntmps102 (l := [.tmp 4]) rfl en_laws_eqEntry (by decide) rfl (fun (a : D.Entry × D.Entry) r hr => (e_laws_eqEntry a.1 a.2).trans (gd_use (t_laws_eqEntry a.1 a.2) hr))
abbrev FS_laws_eqEntryS : List (Nat × EV.Sum Un) := [(102, S_laws_eqEntry)]
open EV in
def an_laws_eqEntryS : An := (.s .n (.s (.s .n (.s (.s .n .n) .n)) (.s (.jx ⟨[(4, 2), (5, 16)], [], [], []⟩ (.s .n (.s (.l ⟨[(4, 2), (5, 16)], [.nat (.s 5)], [], []⟩ FUEL (.s (.s .n (.s .n .n)) (.s (.s (.s (.r none [(0, true), (1, true), (2, true), (3, true), (4, true), (5, true), (6, true), (7, true), (8, false), (9, true)]) (.s (.s .n .n) .n)) .n) .n))) .n))) (.s .n .n))))
theorem e_laws_eqEntryS (a0 : List D.Entry) (a1 : List D.Entry) : EV.evF Yn TI FS_laws_eqEntryS (an_laws_eqEntryS) (bodyOf Tryz.f54) 27 [.sl 180, .sl 180] [.bool] false [.tmp 4] (a0, a1) = m_laws_eqEntryS a0 a1 := by kernel_rfl
def S_laws_eqEntryS : EV.Sum Un := ⟨[.sl 180, .sl 180], [.bool], false, false, fun (a : (List D.Entry) × (List D.Entry)) => gd (EqZ (a.1.length) a.1 a.2) (some true)⟩
theorem en_laws_eqEntryS (args : Array Value) (w : World) : (callFunc 54 args).run Tryz.prog w = .ok (.enter 54 args) w := by kernel_rfl
theorem s_laws_eqEntryS : EV.SumOk Tryz.prog G0 Yn 54 S_laws_eqEntryS := EV.sum_ok (an := fun _ => an_laws_eqEntryS) (EV.good_cons s_laws_eqEntry good0) T.mix Tryz.func54 (cd := bodyOf Tryz.f54) rfl Tryz.ntmps54 (l := [.tmp 4]) rfl en_laws_eqEntryS (by decide) rfl (fun (a : (List D.Entry) × (List D.Entry)) r hr => (e_laws_eqEntryS a.1 a.2).trans (gd_use (t_laws_eqEntryS a.1 a.2) hr))
abbrev FS_laws_eqBundle : List (Nat × EV.Sum Un) := [(54, S_laws_eqEntryS)]
open EV in
def an_laws_eqBundle : An := (.s .n (.s (.s .n (.s (.s .n .n) .n)) (.s .n .n)))
theorem e_laws_eqBundle (a0 : D.Bundle) (a1 : D.Bundle) : EV.evF Yn TI FS_laws_eqBundle (an_laws_eqBundle) (bodyOf Tryz.f19) 11 [.st 69, .st 69] [.bool] false [.tmp 4] (a0, a1) = m_laws_eqBundle a0 a1 := by kernel_rfl
def S_laws_eqBundle : EV.Sum Un := ⟨[.st 69, .st 69], [.bool], false, false, fun (a : D.Bundle × D.Bundle) => gd (EqZ (a.1.sz) a.1 a.2) (some true)⟩
theorem en_laws_eqBundle (args : Array Value) (w : World) : (callFunc 19 args).run Tryz.prog w = .ok (.enter 19 args) w := by kernel_rfl
theorem s_laws_eqBundle : EV.SumOk Tryz.prog G0 Yn 19 S_laws_eqBundle := EV.sum_ok (an := fun _ => an_laws_eqBundle) (EV.good_cons s_laws_eqEntryS good0) T.mix Tryz.func19 (cd := bodyOf Tryz.f19) rfl Tryz.ntmps19 (l := [.tmp 4]) rfl en_laws_eqBundle (by decide) rfl (fun (a : D.Bundle × D.Bundle) r hr => (e_laws_eqBundle a.1 a.2).trans (gd_use (t_laws_eqBundle a.1 a.2) hr))
abbrev FS_laws_eqDevice : List (Nat × EV.Sum Un) := [(121, S_laws_eqKeyStore), (74, S_laws_eqLogEntryS), (19, S_laws_eqBundle)]
open EV in
def an_laws_eqDevice : An := (.s .n (.s (.s .n (.s (.s .n .n) .n)) (.s (.s .n (.s (.s .n .n) .n)) (.s (.s .n (.s (.s .n .n) .n)) (.s (.s .n (.s (.s .n .n) .n)) (.s (.s .n (.s (.s .n .n) .n)) (.s (.s .n (.s (.s .n .n) .n)) (.s .n .n))))))))
theorem e_laws_eqDevice (a0 : D.Device) (a1 : D.Device) : EV.evF Yn TI FS_laws_eqDevice (an_laws_eqDevice) (bodyOf Tryz.f73) 38 [.st 105, .st 105] [.bool] false [.tmp 4] (a0, a1) = m_laws_eqDevice a0 a1 := by kernel_rfl
def S_laws_eqDevice : EV.Sum Un := ⟨[.st 105, .st 105], [.bool], false, false, fun (a : D.Device × D.Device) => gd (EqZ (a.1.sz) a.1 a.2) (some true)⟩
theorem en_laws_eqDevice (args : Array Value) (w : World) : (callFunc 73 args).run Tryz.prog w = .ok (.enter 73 args) w := by kernel_rfl
theorem s_laws_eqDevice : EV.SumOk Tryz.prog G0 Yn 73 S_laws_eqDevice := EV.sum_ok (an := fun _ => an_laws_eqDevice) (EV.good_cons s_laws_eqKeyStore (EV.good_cons s_laws_eqLogEntryS (EV.good_cons s_laws_eqBundle good0))) T.mix Tryz.func73 (cd := bodyOf Tryz.f73) rfl Tryz.ntmps73 (l := [.tmp 4]) rfl en_laws_eqDevice (by decide) rfl (fun (a : D.Device × D.Device) r hr => (e_laws_eqDevice a.1 a.2).trans (gd_use (t_laws_eqDevice a.1 a.2) hr))
abbrev FS_laws_eqDeviceS : List (Nat × EV.Sum Un) := [(73, S_laws_eqDevice)]
open EV in
def an_laws_eqDeviceS : An := (.s .n (.s (.s .n (.s (.s .n .n) .n)) (.s (.jx ⟨[(4, 2), (5, 16)], [], [], []⟩ (.s .n (.s (.l ⟨[(4, 2), (5, 16)], [.nat (.s 5)], [], []⟩ FUEL (.s (.s .n (.s .n .n)) (.s (.s (.s (.r none [(0, true), (1, true), (2, true), (3, true), (4, true), (5, true), (6, true), (7, true), (8, false), (9, true)]) (.s (.s .n .n) .n)) .n) .n))) .n))) (.s .n .n))))
theorem e_laws_eqDeviceS (a0 : List D.Device) (a1 : List D.Device) : EV.evF Yn TI FS_laws_eqDeviceS (an_laws_eqDeviceS) (bodyOf Tryz.f37) 27 [.sl 105, .sl 105] [.bool] false [.tmp 4] (a0, a1) = m_laws_eqDeviceS a0 a1 := by kernel_rfl
def S_laws_eqDeviceS : EV.Sum Un := ⟨[.sl 105, .sl 105], [.bool], false, false, fun (a : (List D.Device) × (List D.Device)) => gd (EqZ (a.1.length + (a.1.map D.Device.sz).sum) a.1 a.2) (some true)⟩
theorem en_laws_eqDeviceS (args : Array Value) (w : World) : (callFunc 37 args).run Tryz.prog w = .ok (.enter 37 args) w := by kernel_rfl
theorem s_laws_eqDeviceS : EV.SumOk Tryz.prog G0 Yn 37 S_laws_eqDeviceS := EV.sum_ok (an := fun _ => an_laws_eqDeviceS) (EV.good_cons s_laws_eqDevice good0) T.mix Tryz.func37 (cd := bodyOf Tryz.f37) rfl Tryz.ntmps37 (l := [.tmp 4]) rfl en_laws_eqDeviceS (by decide) rfl (fun (a : (List D.Device) × (List D.Device)) r hr => (e_laws_eqDeviceS a.1 a.2).trans (gd_use (t_laws_eqDeviceS a.1 a.2) hr))
abbrev FS_laws_eqBoolS : List (Nat × EV.Sum Un) := []
open EV in
def an_laws_eqBoolS : An := (.s .n (.s (.s .n (.s (.s .n .n) .n)) (.s (.jx ⟨[(4, 2), (5, 15)], [], [], []⟩ (.s .n (.s (.l ⟨[(4, 2), (5, 15)], [.nat (.s 5)], [], []⟩ FUEL (.s (.s .n (.s .n .n)) (.s (.s (.s (.r none [(0, true), (1, true), (2, true), (3, true), (4, true), (5, true), (6, true), (7, true), (8, true)]) (.s (.s .n .n) .n)) .n) .n))) .n))) (.s .n .n))))
theorem e_laws_eqBoolS (a0 : List Bool) (a1 : List Bool) : EV.evF Yn TI FS_laws_eqBoolS (an_laws_eqBoolS) (bodyOf Tryz.f38) 26 [.sl 4, .sl 4] [.bool] false [.tmp 4] (a0, a1) = m_laws_eqBoolS a0 a1 := by kernel_rfl
def S_laws_eqBoolS : EV.Sum Un := ⟨[.sl 4, .sl 4], [.bool], false, false, fun (a : (List Bool) × (List Bool)) => gd (EqZ (a.1.length) a.1 a.2) (some true)⟩
theorem en_laws_eqBoolS (args : Array Value) (w : World) : (callFunc 38 args).run Tryz.prog w = .ok (.enter 38 args) w := by kernel_rfl
theorem s_laws_eqBoolS : EV.SumOk Tryz.prog G0 Yn 38 S_laws_eqBoolS := EV.sum_ok (an := fun _ => an_laws_eqBoolS) good0 T.mix Tryz.func38 (cd := bodyOf Tryz.f38) rfl Tryz.ntmps38 (l := [.tmp 4]) rfl en_laws_eqBoolS (by decide) rfl (fun (a : (List Bool) × (List Bool)) r hr => (e_laws_eqBoolS a.1 a.2).trans (gd_use (t_laws_eqBoolS a.1 a.2) hr))
abbrev FS_laws_eqByteS : List (Nat × EV.Sum Un) := []
open EV in
def an_laws_eqByteS : An := (.s .n (.s (.s .n (.s (.s .n .n) .n)) (.s (.jx ⟨[(4, 2), (5, 15)], [], [], []⟩ (.s .n (.s (.l ⟨[(4, 2), (5, 15)], [.nat (.s 5)], [], []⟩ FUEL (.s (.s .n (.s .n .n)) (.s (.s (.s (.r none [(0, true), (1, true), (2, true), (3, true), (4, true), (5, true), (6, true), (7, true), (8, true)]) (.s (.s .n .n) .n)) .n) .n))) .n))) (.s .n .n))))
theorem e_laws_eqByteS (a0 : List Int) (a1 : List Int) : EV.evF Yn TI FS_laws_eqByteS (an_laws_eqByteS) (bodyOf Tryz.f151) 26 [.sl 5, .sl 5] [.bool] false [.tmp 4] (a0, a1) = m_laws_eqByteS a0 a1 := by kernel_rfl
def S_laws_eqByteS : EV.Sum Un := ⟨[.sl 5, .sl 5], [.bool], false, false, fun (a : (List Int) × (List Int)) => gd (EqZ (a.1.length) a.1 a.2) (some true)⟩
theorem en_laws_eqByteS (args : Array Value) (w : World) : (callFunc 151 args).run Tryz.prog w = .ok (.enter 151 args) w := by kernel_rfl
theorem s_laws_eqByteS : EV.SumOk Tryz.prog G0 Yn 151 S_laws_eqByteS := EV.sum_ok (an := fun _ => an_laws_eqByteS) good0 T.mix Tryz.func151 (cd := bodyOf Tryz.f151) rfl Tryz.ntmps151 (l := [.tmp 4]) rfl en_laws_eqByteS (by decide) rfl (fun (a : (List Int) × (List Int)) r hr => (e_laws_eqByteS a.1 a.2).trans (gd_use (t_laws_eqByteS a.1 a.2) hr))
abbrev FS_laws_eqBox : List (Nat × EV.Sum Un) := [(151, S_laws_eqByteS)]
open EV in
def an_laws_eqBox : An := (.s .n (.s (.s .n (.s (.s .n .n) .n)) (.s (.s .n (.s (.s .n .n) .n)) (.s (.s .n (.s (.s .n .n) .n)) (.s (.s .n (.s (.s .n .n) .n)) (.s .n .n))))))
theorem e_laws_eqBox (a0 : D.Box) (a1 : D.Box) : EV.evF Yn TI FS_laws_eqBox (an_laws_eqBox) (bodyOf Tryz.f150) 26 [.st 238, .st 238] [.bool] false [.tmp 4] (a0, a1) = m_laws_eqBox a0 a1 := by kernel_rfl
def S_laws_eqBox : EV.Sum Un := ⟨[.st 238, .st 238], [.bool], false, false, fun (a : D.Box × D.Box) => gd (EqZ (a.1.sz) a.1 a.2) (some true)⟩
theorem en_laws_eqBox (args : Array Value) (w : World) : (callFunc 150 args).run Tryz.prog w = .ok (.enter 150 args) w := by kernel_rfl
theorem s_laws_eqBox : EV.SumOk Tryz.prog G0 Yn 150 S_laws_eqBox := EV.sum_ok (an := fun _ => an_laws_eqBox) (EV.good_cons s_laws_eqByteS good0) T.mix Tryz.func150 (cd := bodyOf Tryz.f150) rfl Tryz.ntmps150 (l := [.tmp 4]) rfl en_laws_eqBox (by decide) rfl (fun (a : D.Box × D.Box) r hr => (e_laws_eqBox a.1 a.2).trans (gd_use (t_laws_eqBox a.1 a.2) hr))
abbrev FS_laws_eqBoxS : List (Nat × EV.Sum Un) := [(150, S_laws_eqBox)]
open EV in
def an_laws_eqBoxS : An := (.s .n (.s (.s .n (.s (.s .n .n) .n)) (.s (.jx ⟨[(4, 2), (5, 16)], [], [], []⟩ (.s .n (.s (.l ⟨[(4, 2), (5, 16)], [.nat (.s 5)], [], []⟩ FUEL (.s (.s .n (.s .n .n)) (.s (.s (.s (.r none [(0, true), (1, true), (2, true), (3, true), (4, true), (5, true), (6, true), (7, true), (8, false), (9, true)]) (.s (.s .n .n) .n)) .n) .n))) .n))) (.s .n .n))))
theorem e_laws_eqBoxS (a0 : List D.Box) (a1 : List D.Box) : EV.evF Yn TI FS_laws_eqBoxS (an_laws_eqBoxS) (bodyOf Tryz.f123) 27 [.sl 238, .sl 238] [.bool] false [.tmp 4] (a0, a1) = m_laws_eqBoxS a0 a1 := by kernel_rfl
def S_laws_eqBoxS : EV.Sum Un := ⟨[.sl 238, .sl 238], [.bool], false, false, fun (a : (List D.Box) × (List D.Box)) => gd (EqZ (a.1.length + (a.1.map D.Box.sz).sum) a.1 a.2) (some true)⟩
theorem en_laws_eqBoxS (args : Array Value) (w : World) : (callFunc 123 args).run Tryz.prog w = .ok (.enter 123 args) w := by kernel_rfl
theorem s_laws_eqBoxS : EV.SumOk Tryz.prog G0 Yn 123 S_laws_eqBoxS := EV.sum_ok (an := fun _ => an_laws_eqBoxS) (EV.good_cons s_laws_eqBox good0) T.mix Tryz.func123 (cd := bodyOf Tryz.f123) rfl Tryz.ntmps123 (l := [.tmp 4]) rfl en_laws_eqBoxS (by decide) rfl (fun (a : (List D.Box) × (List D.Box)) r hr => (e_laws_eqBoxS a.1 a.2).trans (gd_use (t_laws_eqBoxS a.1 a.2) hr))
abbrev FS_laws_eqEpochBoxes : List (Nat × EV.Sum Un) := [(123, S_laws_eqBoxS)]
open EV in
def an_laws_eqEpochBoxes : An := (.s .n (.s (.s .n (.s (.s .n .n) .n)) (.s (.s .n (.s (.s .n .n) .n)) (.s .n .n))))
theorem e_laws_eqEpochBoxes (a0 : D.EpochBoxes) (a1 : D.EpochBoxes) : EV.evF Yn TI FS_laws_eqEpochBoxes (an_laws_eqEpochBoxes) (bodyOf Tryz.f75) 16 [.st 48, .st 48] [.bool] false [.tmp 4] (a0, a1) = m_laws_eqEpochBoxes a0 a1 := by kernel_rfl
def S_laws_eqEpochBoxes : EV.Sum Un := ⟨[.st 48, .st 48], [.bool], false, false, fun (a : D.EpochBoxes × D.EpochBoxes) => gd (EqZ (a.1.sz) a.1 a.2) (some true)⟩
theorem en_laws_eqEpochBoxes (args : Array Value) (w : World) : (callFunc 75 args).run Tryz.prog w = .ok (.enter 75 args) w := by kernel_rfl
theorem s_laws_eqEpochBoxes : EV.SumOk Tryz.prog G0 Yn 75 S_laws_eqEpochBoxes := EV.sum_ok (an := fun _ => an_laws_eqEpochBoxes) (EV.good_cons s_laws_eqBoxS good0) T.mix Tryz.func75 (cd := bodyOf Tryz.f75) rfl Tryz.ntmps75 (l := [.tmp 4]) rfl en_laws_eqEpochBoxes (by decide) rfl (fun (a : D.EpochBoxes × D.EpochBoxes) r hr => (e_laws_eqEpochBoxes a.1 a.2).trans (gd_use (t_laws_eqEpochBoxes a.1 a.2) hr))
abbrev FS_laws_eqSealedBundle : List (Nat × EV.Sum Un) := [(151, S_laws_eqByteS)]
open EV in
def an_laws_eqSealedBundle : An := (.s .n (.s (.s .n (.s (.s .n .n) .n)) (.s (.s .n (.s (.s .n .n) .n)) (.s (.s .n (.s (.s .n .n) .n)) (.s (.s .n (.s (.s .n .n) .n)) (.s .n .n))))))
theorem e_laws_eqSealedBundle (a0 : D.SealedBundle) (a1 : D.SealedBundle) : EV.evF Yn TI FS_laws_eqSealedBundle (an_laws_eqSealedBundle) (bodyOf Tryz.f124) 26 [.st 200, .st 200] [.bool] false [.tmp 4] (a0, a1) = m_laws_eqSealedBundle a0 a1 := by kernel_rfl
def S_laws_eqSealedBundle : EV.Sum Un := ⟨[.st 200, .st 200], [.bool], false, false, fun (a : D.SealedBundle × D.SealedBundle) => gd (EqZ (a.1.sz) a.1 a.2) (some true)⟩
theorem en_laws_eqSealedBundle (args : Array Value) (w : World) : (callFunc 124 args).run Tryz.prog w = .ok (.enter 124 args) w := by kernel_rfl
theorem s_laws_eqSealedBundle : EV.SumOk Tryz.prog G0 Yn 124 S_laws_eqSealedBundle := EV.sum_ok (an := fun _ => an_laws_eqSealedBundle) (EV.good_cons s_laws_eqByteS good0) T.mix Tryz.func124 (cd := bodyOf Tryz.f124) rfl Tryz.ntmps124 (l := [.tmp 4]) rfl en_laws_eqSealedBundle (by decide) rfl (fun (a : D.SealedBundle × D.SealedBundle) r hr => (e_laws_eqSealedBundle a.1 a.2).trans (gd_use (t_laws_eqSealedBundle a.1 a.2) hr))
abbrev FS_laws_eqSealedBundleS : List (Nat × EV.Sum Un) := [(124, S_laws_eqSealedBundle)]
open EV in
def an_laws_eqSealedBundleS : An := (.s .n (.s (.s .n (.s (.s .n .n) .n)) (.s (.jx ⟨[(4, 2), (5, 16)], [], [], []⟩ (.s .n (.s (.l ⟨[(4, 2), (5, 16)], [.nat (.s 5)], [], []⟩ FUEL (.s (.s .n (.s .n .n)) (.s (.s (.s (.r none [(0, true), (1, true), (2, true), (3, true), (4, true), (5, true), (6, true), (7, true), (8, false), (9, true)]) (.s (.s .n .n) .n)) .n) .n))) .n))) (.s .n .n))))
theorem e_laws_eqSealedBundleS (a0 : List D.SealedBundle) (a1 : List D.SealedBundle) : EV.evF Yn TI FS_laws_eqSealedBundleS (an_laws_eqSealedBundleS) (bodyOf Tryz.f76) 27 [.sl 200, .sl 200] [.bool] false [.tmp 4] (a0, a1) = m_laws_eqSealedBundleS a0 a1 := by kernel_rfl
def S_laws_eqSealedBundleS : EV.Sum Un := ⟨[.sl 200, .sl 200], [.bool], false, false, fun (a : (List D.SealedBundle) × (List D.SealedBundle)) => gd (EqZ (a.1.length + (a.1.map D.SealedBundle.sz).sum) a.1 a.2) (some true)⟩
theorem en_laws_eqSealedBundleS (args : Array Value) (w : World) : (callFunc 76 args).run Tryz.prog w = .ok (.enter 76 args) w := by kernel_rfl
theorem s_laws_eqSealedBundleS : EV.SumOk Tryz.prog G0 Yn 76 S_laws_eqSealedBundleS := EV.sum_ok (an := fun _ => an_laws_eqSealedBundleS) (EV.good_cons s_laws_eqSealedBundle good0) T.mix Tryz.func76 (cd := bodyOf Tryz.f76) rfl Tryz.ntmps76 (l := [.tmp 4]) rfl en_laws_eqSealedBundleS (by decide) rfl (fun (a : (List D.SealedBundle) × (List D.SealedBundle)) r hr => (e_laws_eqSealedBundleS a.1 a.2).trans (gd_use (t_laws_eqSealedBundleS a.1 a.2) hr))
abbrev FS_laws_eqCloud : List (Nat × EV.Sum Un) := [(74, S_laws_eqLogEntryS), (75, S_laws_eqEpochBoxes), (76, S_laws_eqSealedBundleS)]
open EV in
def an_laws_eqCloud : An := (.s .n (.s (.s .n (.s (.s .n .n) .n)) (.s (.s .n (.s (.s .n .n) .n)) (.s (.s .n (.s (.s .n .n) .n)) (.s .n .n)))))
theorem e_laws_eqCloud (a0 : D.Cloud) (a1 : D.Cloud) : EV.evF Yn TI FS_laws_eqCloud (an_laws_eqCloud) (bodyOf Tryz.f39) 23 [.st 51, .st 51] [.bool] false [.tmp 4] (a0, a1) = m_laws_eqCloud a0 a1 := by kernel_rfl
def S_laws_eqCloud : EV.Sum Un := ⟨[.st 51, .st 51], [.bool], false, false, fun (a : D.Cloud × D.Cloud) => gd (EqZ (a.1.sz) a.1 a.2) (some true)⟩
theorem en_laws_eqCloud (args : Array Value) (w : World) : (callFunc 39 args).run Tryz.prog w = .ok (.enter 39 args) w := by kernel_rfl
theorem s_laws_eqCloud : EV.SumOk Tryz.prog G0 Yn 39 S_laws_eqCloud := EV.sum_ok (an := fun _ => an_laws_eqCloud) (EV.good_cons s_laws_eqLogEntryS (EV.good_cons s_laws_eqEpochBoxes (EV.good_cons s_laws_eqSealedBundleS good0))) T.mix Tryz.func39 (cd := bodyOf Tryz.f39) rfl Tryz.ntmps39 (l := [.tmp 4]) rfl en_laws_eqCloud (by decide) rfl (fun (a : D.Cloud × D.Cloud) r hr => (e_laws_eqCloud a.1 a.2).trans (gd_use (t_laws_eqCloud a.1 a.2) hr))
abbrev FS_laws_eqCredential : List (Nat × EV.Sum Un) := []
open EV in
def an_laws_eqCredential : An := (.s .n (.s (.s .n (.s (.s .n .n) .n)) (.s (.s .n (.s (.s .n .n) .n)) (.s (.s .n (.s (.s .n .n) .n)) (.s (.s .n (.s (.s .n .n) .n)) (.s .n .n))))))
theorem e_laws_eqCredential (a0 : D.Credential) (a1 : D.Credential) : EV.evF Yn TI FS_laws_eqCredential (an_laws_eqCredential) (bodyOf Tryz.f171) 25 [.st 145, .st 145] [.bool] false [.tmp 4] (a0, a1) = m_laws_eqCredential a0 a1 := by kernel_rfl
def S_laws_eqCredential : EV.Sum Un := ⟨[.st 145, .st 145], [.bool], false, false, fun (a : D.Credential × D.Credential) => gd (EqZ (0) a.1 a.2) (some true)⟩
theorem en_laws_eqCredential (args : Array Value) (w : World) : (callFunc 171 args).run Tryz.prog w = .ok (.enter 171 args) w := by kernel_rfl
theorem s_laws_eqCredential : EV.SumOk Tryz.prog G0 Yn 171 S_laws_eqCredential := EV.sum_ok (an := fun _ => an_laws_eqCredential) good0 T.mix Tryz.func171 (cd := bodyOf Tryz.f171) rfl Tryz.ntmps171 (l := [.tmp 4]) rfl en_laws_eqCredential (by decide) rfl (fun (a : D.Credential × D.Credential) r hr => (e_laws_eqCredential a.1 a.2).trans (gd_use (t_laws_eqCredential a.1 a.2) hr))
abbrev FS_laws_eqCredentialS : List (Nat × EV.Sum Un) := [(171, S_laws_eqCredential)]
open EV in
def an_laws_eqCredentialS : An := (.s .n (.s (.s .n (.s (.s .n .n) .n)) (.s (.jx ⟨[(4, 2), (5, 16)], [], [], []⟩ (.s .n (.s (.l ⟨[(4, 2), (5, 16)], [.nat (.s 5)], [], []⟩ FUEL (.s (.s .n (.s .n .n)) (.s (.s (.s (.r none [(0, true), (1, true), (2, true), (3, true), (4, true), (5, true), (6, true), (7, true), (8, false), (9, true)]) (.s (.s .n .n) .n)) .n) .n))) .n))) (.s .n .n))))
theorem e_laws_eqCredentialS (a0 : List D.Credential) (a1 : List D.Credential) : EV.evF Yn TI FS_laws_eqCredentialS (an_laws_eqCredentialS) (bodyOf Tryz.f165) 27 [.sl 145, .sl 145] [.bool] false [.tmp 4] (a0, a1) = m_laws_eqCredentialS a0 a1 := by kernel_rfl
def S_laws_eqCredentialS : EV.Sum Un := ⟨[.sl 145, .sl 145], [.bool], false, false, fun (a : (List D.Credential) × (List D.Credential)) => gd (EqZ (a.1.length) a.1 a.2) (some true)⟩
theorem en_laws_eqCredentialS (args : Array Value) (w : World) : (callFunc 165 args).run Tryz.prog w = .ok (.enter 165 args) w := by kernel_rfl
theorem s_laws_eqCredentialS : EV.SumOk Tryz.prog G0 Yn 165 S_laws_eqCredentialS := EV.sum_ok (an := fun _ => an_laws_eqCredentialS) (EV.good_cons s_laws_eqCredential good0) T.mix Tryz.func165 (cd := bodyOf Tryz.f165) rfl Tryz.ntmps165 (l := [.tmp 4]) rfl en_laws_eqCredentialS (by decide) rfl (fun (a : (List D.Credential) × (List D.Credential)) r hr => (e_laws_eqCredentialS a.1 a.2).trans (gd_use (t_laws_eqCredentialS a.1 a.2) hr))
abbrev FS_laws_eqAccount : List (Nat × EV.Sum Un) := [(165, S_laws_eqCredentialS)]
open EV in
def an_laws_eqAccount : An := (.s .n (.s (.s .n (.s (.s .n .n) .n)) (.s (.s .n (.s (.s .n .n) .n)) (.s (.s .n (.s (.s .n .n) .n)) (.s .n .n)))))
theorem e_laws_eqAccount (a0 : D.Account) (a1 : D.Account) : EV.evF Yn TI FS_laws_eqAccount (an_laws_eqAccount) (bodyOf Tryz.f152) 21 [.st 143, .st 143] [.bool] false [.tmp 4] (a0, a1) = m_laws_eqAccount a0 a1 := by kernel_rfl
def S_laws_eqAccount : EV.Sum Un := ⟨[.st 143, .st 143], [.bool], false, false, fun (a : D.Account × D.Account) => gd (EqZ (a.1.sz) a.1 a.2) (some true)⟩
theorem en_laws_eqAccount (args : Array Value) (w : World) : (callFunc 152 args).run Tryz.prog w = .ok (.enter 152 args) w := by kernel_rfl
theorem s_laws_eqAccount : EV.SumOk Tryz.prog G0 Yn 152 S_laws_eqAccount := EV.sum_ok (an := fun _ => an_laws_eqAccount) (EV.good_cons s_laws_eqCredentialS good0) T.mix Tryz.func152 (cd := bodyOf Tryz.f152) rfl Tryz.ntmps152 (l := [.tmp 4]) rfl en_laws_eqAccount (by decide) rfl (fun (a : D.Account × D.Account) r hr => (e_laws_eqAccount a.1 a.2).trans (gd_use (t_laws_eqAccount a.1 a.2) hr))
abbrev FS_laws_eqAccountS : List (Nat × EV.Sum Un) := [(152, S_laws_eqAccount)]
open EV in
def an_laws_eqAccountS : An := (.s .n (.s (.s .n (.s (.s .n .n) .n)) (.s (.jx ⟨[(4, 2), (5, 16)], [], [], []⟩ (.s .n (.s (.l ⟨[(4, 2), (5, 16)], [.nat (.s 5)], [], []⟩ FUEL (.s (.s .n (.s .n .n)) (.s (.s (.s (.r none [(0, true), (1, true), (2, true), (3, true), (4, true), (5, true), (6, true), (7, true), (8, false), (9, true)]) (.s (.s .n .n) .n)) .n) .n))) .n))) (.s .n .n))))
theorem e_laws_eqAccountS (a0 : List D.Account) (a1 : List D.Account) : EV.evF Yn TI FS_laws_eqAccountS (an_laws_eqAccountS) (bodyOf Tryz.f125) 27 [.sl 143, .sl 143] [.bool] false [.tmp 4] (a0, a1) = m_laws_eqAccountS a0 a1 := by kernel_rfl
def S_laws_eqAccountS : EV.Sum Un := ⟨[.sl 143, .sl 143], [.bool], false, false, fun (a : (List D.Account) × (List D.Account)) => gd (EqZ (a.1.length + (a.1.map D.Account.sz).sum) a.1 a.2) (some true)⟩
theorem en_laws_eqAccountS (args : Array Value) (w : World) : (callFunc 125 args).run Tryz.prog w = .ok (.enter 125 args) w := by kernel_rfl
theorem s_laws_eqAccountS : EV.SumOk Tryz.prog G0 Yn 125 S_laws_eqAccountS := EV.sum_ok (an := fun _ => an_laws_eqAccountS) (EV.good_cons s_laws_eqAccount good0) T.mix Tryz.func125 (cd := bodyOf Tryz.f125) rfl Tryz.ntmps125 (l := [.tmp 4]) rfl en_laws_eqAccountS (by decide) rfl (fun (a : (List D.Account) × (List D.Account)) r hr => (e_laws_eqAccountS a.1 a.2).trans (gd_use (t_laws_eqAccountS a.1 a.2) hr))
abbrev FS_laws_eqChallenge : List (Nat × EV.Sum Un) := []
open EV in
def an_laws_eqChallenge : An := (.s .n (.s (.s .n (.s (.s .n .n) .n)) (.s (.s .n (.s (.s .n .n) .n)) (.s (.s .n (.s (.s .n .n) .n)) (.s .n .n)))))
theorem e_laws_eqChallenge (a0 : D.Challenge) (a1 : D.Challenge) : EV.evF Yn TI FS_laws_eqChallenge (an_laws_eqChallenge) (bodyOf Tryz.f166) 20 [.st 224, .st 224] [.bool] false [.tmp 4] (a0, a1) = m_laws_eqChallenge a0 a1 := by kernel_rfl
def S_laws_eqChallenge : EV.Sum Un := ⟨[.st 224, .st 224], [.bool], false, false, fun (a : D.Challenge × D.Challenge) => gd (EqZ (0) a.1 a.2) (some true)⟩
theorem en_laws_eqChallenge (args : Array Value) (w : World) : (callFunc 166 args).run Tryz.prog w = .ok (.enter 166 args) w := by kernel_rfl
theorem s_laws_eqChallenge : EV.SumOk Tryz.prog G0 Yn 166 S_laws_eqChallenge := EV.sum_ok (an := fun _ => an_laws_eqChallenge) good0 T.mix Tryz.func166 (cd := bodyOf Tryz.f166) rfl Tryz.ntmps166 (l := [.tmp 4]) rfl en_laws_eqChallenge (by decide) rfl (fun (a : D.Challenge × D.Challenge) r hr => (e_laws_eqChallenge a.1 a.2).trans (gd_use (t_laws_eqChallenge a.1 a.2) hr))
abbrev FS_laws_eqChallengeS : List (Nat × EV.Sum Un) := [(166, S_laws_eqChallenge)]
open EV in
def an_laws_eqChallengeS : An := (.s .n (.s (.s .n (.s (.s .n .n) .n)) (.s (.jx ⟨[(4, 2), (5, 16)], [], [], []⟩ (.s .n (.s (.l ⟨[(4, 2), (5, 16)], [.nat (.s 5)], [], []⟩ FUEL (.s (.s .n (.s .n .n)) (.s (.s (.s (.r none [(0, true), (1, true), (2, true), (3, true), (4, true), (5, true), (6, true), (7, true), (8, false), (9, true)]) (.s (.s .n .n) .n)) .n) .n))) .n))) (.s .n .n))))
theorem e_laws_eqChallengeS (a0 : List D.Challenge) (a1 : List D.Challenge) : EV.evF Yn TI FS_laws_eqChallengeS (an_laws_eqChallengeS) (bodyOf Tryz.f153) 27 [.sl 224, .sl 224] [.bool] false [.tmp 4] (a0, a1) = m_laws_eqChallengeS a0 a1 := by kernel_rfl
def S_laws_eqChallengeS : EV.Sum Un := ⟨[.sl 224, .sl 224], [.bool], false, false, fun (a : (List D.Challenge) × (List D.Challenge)) => gd (EqZ (a.1.length) a.1 a.2) (some true)⟩
theorem en_laws_eqChallengeS (args : Array Value) (w : World) : (callFunc 153 args).run Tryz.prog w = .ok (.enter 153 args) w := by kernel_rfl
theorem s_laws_eqChallengeS : EV.SumOk Tryz.prog G0 Yn 153 S_laws_eqChallengeS := EV.sum_ok (an := fun _ => an_laws_eqChallengeS) (EV.good_cons s_laws_eqChallenge good0) T.mix Tryz.func153 (cd := bodyOf Tryz.f153) rfl Tryz.ntmps153 (l := [.tmp 4]) rfl en_laws_eqChallengeS (by decide) rfl (fun (a : (List D.Challenge) × (List D.Challenge)) r hr => (e_laws_eqChallengeS a.1 a.2).trans (gd_use (t_laws_eqChallengeS a.1 a.2) hr))
abbrev FS_laws_eqChallengeBook : List (Nat × EV.Sum Un) := [(153, S_laws_eqChallengeS)]
open EV in
def an_laws_eqChallengeBook : An := (.s .n (.s (.s .n (.s (.s .n .n) .n)) (.s (.s .n (.s (.s .n .n) .n)) (.s (.s .n (.s (.s .n .n) .n)) (.s .n .n)))))
theorem e_laws_eqChallengeBook (a0 : D.ChallengeBook) (a1 : D.ChallengeBook) : EV.evF Yn TI FS_laws_eqChallengeBook (an_laws_eqChallengeBook) (bodyOf Tryz.f126) 21 [.st 138, .st 138] [.bool] false [.tmp 4] (a0, a1) = m_laws_eqChallengeBook a0 a1 := by kernel_rfl
def S_laws_eqChallengeBook : EV.Sum Un := ⟨[.st 138, .st 138], [.bool], false, false, fun (a : D.ChallengeBook × D.ChallengeBook) => gd (EqZ (a.1.sz) a.1 a.2) (some true)⟩
theorem en_laws_eqChallengeBook (args : Array Value) (w : World) : (callFunc 126 args).run Tryz.prog w = .ok (.enter 126 args) w := by kernel_rfl
theorem s_laws_eqChallengeBook : EV.SumOk Tryz.prog G0 Yn 126 S_laws_eqChallengeBook := EV.sum_ok (an := fun _ => an_laws_eqChallengeBook) (EV.good_cons s_laws_eqChallengeS good0) T.mix Tryz.func126 (cd := bodyOf Tryz.f126) rfl Tryz.ntmps126 (l := [.tmp 4]) rfl en_laws_eqChallengeBook (by decide) rfl (fun (a : D.ChallengeBook × D.ChallengeBook) r hr => (e_laws_eqChallengeBook a.1 a.2).trans (gd_use (t_laws_eqChallengeBook a.1 a.2) hr))
abbrev FS_laws_eqSite : List (Nat × EV.Sum Un) := [(125, S_laws_eqAccountS), (126, S_laws_eqChallengeBook), (10, S_laws_eqIntS)]
open EV in
def an_laws_eqSite : An := (.s .n (.s (.s .n (.s (.s .n .n) .n)) (.s (.s .n (.s (.s .n .n) .n)) (.s (.s .n (.s (.s .n .n) .n)) (.s (.s .n (.s (.s .n .n) .n)) (.s .n .n))))))
theorem e_laws_eqSite (a0 : D.Site) (a1 : D.Site) : EV.evF Yn TI FS_laws_eqSite (an_laws_eqSite) (bodyOf Tryz.f77) 28 [.st 140, .st 140] [.bool] false [.tmp 4] (a0, a1) = m_laws_eqSite a0 a1 := by kernel_rfl
def S_laws_eqSite : EV.Sum Un := ⟨[.st 140, .st 140], [.bool], false, false, fun (a : D.Site × D.Site) => gd (EqZ (a.1.sz) a.1 a.2) (some true)⟩
theorem en_laws_eqSite (args : Array Value) (w : World) : (callFunc 77 args).run Tryz.prog w = .ok (.enter 77 args) w := by kernel_rfl
theorem s_laws_eqSite : EV.SumOk Tryz.prog G0 Yn 77 S_laws_eqSite := EV.sum_ok (an := fun _ => an_laws_eqSite) (EV.good_cons s_laws_eqAccountS (EV.good_cons s_laws_eqChallengeBook (EV.good_cons s_laws_eqIntS good0))) T.mix Tryz.func77 (cd := bodyOf Tryz.f77) rfl Tryz.ntmps77 (l := [.tmp 4]) rfl en_laws_eqSite (by decide) rfl (fun (a : D.Site × D.Site) r hr => (e_laws_eqSite a.1 a.2).trans (gd_use (t_laws_eqSite a.1 a.2) hr))
abbrev FS_laws_eqSiteS : List (Nat × EV.Sum Un) := [(77, S_laws_eqSite)]
open EV in
def an_laws_eqSiteS : An := (.s .n (.s (.s .n (.s (.s .n .n) .n)) (.s (.jx ⟨[(4, 2), (5, 16)], [], [], []⟩ (.s .n (.s (.l ⟨[(4, 2), (5, 16)], [.nat (.s 5)], [], []⟩ FUEL (.s (.s .n (.s .n .n)) (.s (.s (.s (.r none [(0, true), (1, true), (2, true), (3, true), (4, true), (5, true), (6, true), (7, true), (8, false), (9, true)]) (.s (.s .n .n) .n)) .n) .n))) .n))) (.s .n .n))))
theorem e_laws_eqSiteS (a0 : List D.Site) (a1 : List D.Site) : EV.evF Yn TI FS_laws_eqSiteS (an_laws_eqSiteS) (bodyOf Tryz.f40) 27 [.sl 140, .sl 140] [.bool] false [.tmp 4] (a0, a1) = m_laws_eqSiteS a0 a1 := by kernel_rfl
def S_laws_eqSiteS : EV.Sum Un := ⟨[.sl 140, .sl 140], [.bool], false, false, fun (a : (List D.Site) × (List D.Site)) => gd (EqZ (a.1.length + (a.1.map D.Site.sz).sum) a.1 a.2) (some true)⟩
theorem en_laws_eqSiteS (args : Array Value) (w : World) : (callFunc 40 args).run Tryz.prog w = .ok (.enter 40 args) w := by kernel_rfl
theorem s_laws_eqSiteS : EV.SumOk Tryz.prog G0 Yn 40 S_laws_eqSiteS := EV.sum_ok (an := fun _ => an_laws_eqSiteS) (EV.good_cons s_laws_eqSite good0) T.mix Tryz.func40 (cd := bodyOf Tryz.f40) rfl Tryz.ntmps40 (l := [.tmp 4]) rfl en_laws_eqSiteS (by decide) rfl (fun (a : (List D.Site) × (List D.Site)) r hr => (e_laws_eqSiteS a.1 a.2).trans (gd_use (t_laws_eqSiteS a.1 a.2) hr))
abbrev FS_laws_eqVault : List (Nat × EV.Sum Un) := []
open EV in
def an_laws_eqVault : An := (.s .n (.s (.s .n (.s (.s .n .n) .n)) (.s (.s .n (.s (.s .n .n) .n)) (.s (.s .n (.s (.s .n .n) .n)) (.s (.s .n (.s (.s .n .n) .n)) (.s .n .n))))))
theorem e_laws_eqVault (a0 : D.Vault) (a1 : D.Vault) : EV.evF Yn TI FS_laws_eqVault (an_laws_eqVault) (bodyOf Tryz.f41) 25 [.st 53, .st 53] [.bool] false [.tmp 4] (a0, a1) = m_laws_eqVault a0 a1 := by kernel_rfl
def S_laws_eqVault : EV.Sum Un := ⟨[.st 53, .st 53], [.bool], false, false, fun (a : D.Vault × D.Vault) => gd (EqZ (0) a.1 a.2) (some true)⟩
theorem en_laws_eqVault (args : Array Value) (w : World) : (callFunc 41 args).run Tryz.prog w = .ok (.enter 41 args) w := by kernel_rfl
theorem s_laws_eqVault : EV.SumOk Tryz.prog G0 Yn 41 S_laws_eqVault := EV.sum_ok (an := fun _ => an_laws_eqVault) good0 T.mix Tryz.func41 (cd := bodyOf Tryz.f41) rfl Tryz.ntmps41 (l := [.tmp 4]) rfl en_laws_eqVault (by decide) rfl (fun (a : D.Vault × D.Vault) r hr => (e_laws_eqVault a.1 a.2).trans (gd_use (t_laws_eqVault a.1 a.2) hr))
abbrev FS_laws_eqShare : List (Nat × EV.Sum Un) := []
open EV in
def an_laws_eqShare : An := (.s .n (.s (.s .n (.s (.s .n .n) .n)) (.s (.s .n (.s (.s .n .n) .n)) (.s .n .n))))
theorem e_laws_eqShare (a0 : D.Share) (a1 : D.Share) : EV.evF Yn TI FS_laws_eqShare (an_laws_eqShare) (bodyOf Tryz.f154) 15 [.st 151, .st 151] [.bool] false [.tmp 4] (a0, a1) = m_laws_eqShare a0 a1 := by kernel_rfl
def S_laws_eqShare : EV.Sum Un := ⟨[.st 151, .st 151], [.bool], false, false, fun (a : D.Share × D.Share) => gd (EqZ (0) a.1 a.2) (some true)⟩
theorem en_laws_eqShare (args : Array Value) (w : World) : (callFunc 154 args).run Tryz.prog w = .ok (.enter 154 args) w := by kernel_rfl
theorem s_laws_eqShare : EV.SumOk Tryz.prog G0 Yn 154 S_laws_eqShare := EV.sum_ok (an := fun _ => an_laws_eqShare) good0 T.mix Tryz.func154 (cd := bodyOf Tryz.f154) rfl Tryz.ntmps154 (l := [.tmp 4]) rfl en_laws_eqShare (by decide) rfl (fun (a : D.Share × D.Share) r hr => (e_laws_eqShare a.1 a.2).trans (gd_use (t_laws_eqShare a.1 a.2) hr))
abbrev FS_laws_eqKeeper : List (Nat × EV.Sum Un) := [(154, S_laws_eqShare)]
open EV in
def an_laws_eqKeeper : An := (.s .n (.s (.s .n (.s (.s .n .n) .n)) (.s (.s .n (.s (.s .n .n) .n)) (.s (.s .n (.s (.s .n .n) .n)) (.s (.s .n (.s (.s .n .n) .n)) (.s .n .n))))))
theorem e_laws_eqKeeper (a0 : D.Keeper) (a1 : D.Keeper) : EV.evF Yn TI FS_laws_eqKeeper (an_laws_eqKeeper) (bodyOf Tryz.f127) 26 [.st 153, .st 153] [.bool] false [.tmp 4] (a0, a1) = m_laws_eqKeeper a0 a1 := by kernel_rfl
def S_laws_eqKeeper : EV.Sum Un := ⟨[.st 153, .st 153], [.bool], false, false, fun (a : D.Keeper × D.Keeper) => gd (EqZ (0) a.1 a.2) (some true)⟩
theorem en_laws_eqKeeper (args : Array Value) (w : World) : (callFunc 127 args).run Tryz.prog w = .ok (.enter 127 args) w := by kernel_rfl
theorem s_laws_eqKeeper : EV.SumOk Tryz.prog G0 Yn 127 S_laws_eqKeeper := EV.sum_ok (an := fun _ => an_laws_eqKeeper) (EV.good_cons s_laws_eqShare good0) T.mix Tryz.func127 (cd := bodyOf Tryz.f127) rfl Tryz.ntmps127 (l := [.tmp 4]) rfl en_laws_eqKeeper (by decide) rfl (fun (a : D.Keeper × D.Keeper) r hr => (e_laws_eqKeeper a.1 a.2).trans (gd_use (t_laws_eqKeeper a.1 a.2) hr))
abbrev FS_laws_eqKeeperS : List (Nat × EV.Sum Un) := [(127, S_laws_eqKeeper)]
open EV in
def an_laws_eqKeeperS : An := (.s .n (.s (.s .n (.s (.s .n .n) .n)) (.s (.jx ⟨[(4, 2), (5, 16)], [], [], []⟩ (.s .n (.s (.l ⟨[(4, 2), (5, 16)], [.nat (.s 5)], [], []⟩ FUEL (.s (.s .n (.s .n .n)) (.s (.s (.s (.r none [(0, true), (1, true), (2, true), (3, true), (4, true), (5, true), (6, true), (7, true), (8, false), (9, true)]) (.s (.s .n .n) .n)) .n) .n))) .n))) (.s .n .n))))
theorem e_laws_eqKeeperS (a0 : List D.Keeper) (a1 : List D.Keeper) : EV.evF Yn TI FS_laws_eqKeeperS (an_laws_eqKeeperS) (bodyOf Tryz.f128) 27 [.sl 153, .sl 153] [.bool] false [.tmp 4] (a0, a1) = m_laws_eqKeeperS a0 a1 := by kernel_rfl
def S_laws_eqKeeperS : EV.Sum Un := ⟨[.sl 153, .sl 153], [.bool], false, false, fun (a : (List D.Keeper) × (List D.Keeper)) => gd (EqZ (a.1.length) a.1 a.2) (some true)⟩
theorem en_laws_eqKeeperS (args : Array Value) (w : World) : (callFunc 128 args).run Tryz.prog w = .ok (.enter 128 args) w := by kernel_rfl
theorem s_laws_eqKeeperS : EV.SumOk Tryz.prog G0 Yn 128 S_laws_eqKeeperS := EV.sum_ok (an := fun _ => an_laws_eqKeeperS) (EV.good_cons s_laws_eqKeeper good0) T.mix Tryz.func128 (cd := bodyOf Tryz.f128) rfl Tryz.ntmps128 (l := [.tmp 4]) rfl en_laws_eqKeeperS (by decide) rfl (fun (a : (List D.Keeper) × (List D.Keeper)) r hr => (e_laws_eqKeeperS a.1 a.2).trans (gd_use (t_laws_eqKeeperS a.1 a.2) hr))
abbrev FS_laws_eqKeeperHost : List (Nat × EV.Sum Un) := [(127, S_laws_eqKeeper), (128, S_laws_eqKeeperS)]
open EV in
def an_laws_eqKeeperHost : An := (.s .n (.s (.s .n (.s (.s .n .n) .n)) (.s (.s .n (.s (.s .n .n) .n)) (.s (.s .n (.s (.s .n .n) .n)) (.s .n .n)))))
theorem e_laws_eqKeeperHost (a0 : D.KeeperHost) (a1 : D.KeeperHost) : EV.evF Yn TI FS_laws_eqKeeperHost (an_laws_eqKeeperHost) (bodyOf Tryz.f78) 22 [.st 156, .st 156] [.bool] false [.tmp 4] (a0, a1) = m_laws_eqKeeperHost a0 a1 := by kernel_rfl
def S_laws_eqKeeperHost : EV.Sum Un := ⟨[.st 156, .st 156], [.bool], false, false, fun (a : D.KeeperHost × D.KeeperHost) => gd (EqZ (a.1.sz) a.1 a.2) (some true)⟩
theorem en_laws_eqKeeperHost (args : Array Value) (w : World) : (callFunc 78 args).run Tryz.prog w = .ok (.enter 78 args) w := by kernel_rfl
theorem s_laws_eqKeeperHost : EV.SumOk Tryz.prog G0 Yn 78 S_laws_eqKeeperHost := EV.sum_ok (an := fun _ => an_laws_eqKeeperHost) (EV.good_cons s_laws_eqKeeper (EV.good_cons s_laws_eqKeeperS good0)) T.mix Tryz.func78 (cd := bodyOf Tryz.f78) rfl Tryz.ntmps78 (l := [.tmp 4]) rfl en_laws_eqKeeperHost (by decide) rfl (fun (a : D.KeeperHost × D.KeeperHost) r hr => (e_laws_eqKeeperHost a.1 a.2).trans (gd_use (t_laws_eqKeeperHost a.1 a.2) hr))
abbrev FS_laws_eqKeeperHostS : List (Nat × EV.Sum Un) := [(78, S_laws_eqKeeperHost)]
open EV in
def an_laws_eqKeeperHostS : An := (.s .n (.s (.s .n (.s (.s .n .n) .n)) (.s (.jx ⟨[(4, 2), (5, 16)], [], [], []⟩ (.s .n (.s (.l ⟨[(4, 2), (5, 16)], [.nat (.s 5)], [], []⟩ FUEL (.s (.s .n (.s .n .n)) (.s (.s (.s (.r none [(0, true), (1, true), (2, true), (3, true), (4, true), (5, true), (6, true), (7, true), (8, false), (9, true)]) (.s (.s .n .n) .n)) .n) .n))) .n))) (.s .n .n))))
theorem e_laws_eqKeeperHostS (a0 : List D.KeeperHost) (a1 : List D.KeeperHost) : EV.evF Yn TI FS_laws_eqKeeperHostS (an_laws_eqKeeperHostS) (bodyOf Tryz.f42) 27 [.sl 156, .sl 156] [.bool] false [.tmp 4] (a0, a1) = m_laws_eqKeeperHostS a0 a1 := by kernel_rfl
def S_laws_eqKeeperHostS : EV.Sum Un := ⟨[.sl 156, .sl 156], [.bool], false, false, fun (a : (List D.KeeperHost) × (List D.KeeperHost)) => gd (EqZ (a.1.length + (a.1.map D.KeeperHost.sz).sum) a.1 a.2) (some true)⟩
theorem en_laws_eqKeeperHostS (args : Array Value) (w : World) : (callFunc 42 args).run Tryz.prog w = .ok (.enter 42 args) w := by kernel_rfl
theorem s_laws_eqKeeperHostS : EV.SumOk Tryz.prog G0 Yn 42 S_laws_eqKeeperHostS := EV.sum_ok (an := fun _ => an_laws_eqKeeperHostS) (EV.good_cons s_laws_eqKeeperHost good0) T.mix Tryz.func42 (cd := bodyOf Tryz.f42) rfl Tryz.ntmps42 (l := [.tmp 4]) rfl en_laws_eqKeeperHostS (by decide) rfl (fun (a : (List D.KeeperHost) × (List D.KeeperHost)) r hr => (e_laws_eqKeeperHostS a.1 a.2).trans (gd_use (t_laws_eqKeeperHostS a.1 a.2) hr))
abbrev FS_laws_eqNotice : List (Nat × EV.Sum Un) := []
open EV in
def an_laws_eqNotice : An := (.s .n (.s (.s .n (.s (.s .n .n) .n)) (.s (.s .n (.s (.s .n .n) .n)) (.s (.s .n (.s (.s .n .n) .n)) (.s (.s .n (.s (.s .n .n) .n)) (.s .n .n))))))
theorem e_laws_eqNotice (a0 : D.Notice) (a1 : D.Notice) : EV.evF Yn TI FS_laws_eqNotice (an_laws_eqNotice) (bodyOf Tryz.f129) 25 [.st 208, .st 208] [.bool] false [.tmp 4] (a0, a1) = m_laws_eqNotice a0 a1 := by kernel_rfl
def S_laws_eqNotice : EV.Sum Un := ⟨[.st 208, .st 208], [.bool], false, false, fun (a : D.Notice × D.Notice) => gd (EqZ (0) a.1 a.2) (some true)⟩
theorem en_laws_eqNotice (args : Array Value) (w : World) : (callFunc 129 args).run Tryz.prog w = .ok (.enter 129 args) w := by kernel_rfl
theorem s_laws_eqNotice : EV.SumOk Tryz.prog G0 Yn 129 S_laws_eqNotice := EV.sum_ok (an := fun _ => an_laws_eqNotice) good0 T.mix Tryz.func129 (cd := bodyOf Tryz.f129) rfl Tryz.ntmps129 (l := [.tmp 4]) rfl en_laws_eqNotice (by decide) rfl (fun (a : D.Notice × D.Notice) r hr => (e_laws_eqNotice a.1 a.2).trans (gd_use (t_laws_eqNotice a.1 a.2) hr))
abbrev FS_laws_eqNoticeS : List (Nat × EV.Sum Un) := [(129, S_laws_eqNotice)]
open EV in
def an_laws_eqNoticeS : An := (.s .n (.s (.s .n (.s (.s .n .n) .n)) (.s (.jx ⟨[(4, 2), (5, 16)], [], [], []⟩ (.s .n (.s (.l ⟨[(4, 2), (5, 16)], [.nat (.s 5)], [], []⟩ FUEL (.s (.s .n (.s .n .n)) (.s (.s (.s (.r none [(0, true), (1, true), (2, true), (3, true), (4, true), (5, true), (6, true), (7, true), (8, false), (9, true)]) (.s (.s .n .n) .n)) .n) .n))) .n))) (.s .n .n))))
theorem e_laws_eqNoticeS (a0 : List D.Notice) (a1 : List D.Notice) : EV.evF Yn TI FS_laws_eqNoticeS (an_laws_eqNoticeS) (bodyOf Tryz.f79) 27 [.sl 208, .sl 208] [.bool] false [.tmp 4] (a0, a1) = m_laws_eqNoticeS a0 a1 := by kernel_rfl
def S_laws_eqNoticeS : EV.Sum Un := ⟨[.sl 208, .sl 208], [.bool], false, false, fun (a : (List D.Notice) × (List D.Notice)) => gd (EqZ (a.1.length) a.1 a.2) (some true)⟩
theorem en_laws_eqNoticeS (args : Array Value) (w : World) : (callFunc 79 args).run Tryz.prog w = .ok (.enter 79 args) w := by kernel_rfl
theorem s_laws_eqNoticeS : EV.SumOk Tryz.prog G0 Yn 79 S_laws_eqNoticeS := EV.sum_ok (an := fun _ => an_laws_eqNoticeS) (EV.good_cons s_laws_eqNotice good0) T.mix Tryz.func79 (cd := bodyOf Tryz.f79) rfl Tryz.ntmps79 (l := [.tmp 4]) rfl en_laws_eqNoticeS (by decide) rfl (fun (a : (List D.Notice) × (List D.Notice)) r hr => (e_laws_eqNoticeS a.1 a.2).trans (gd_use (t_laws_eqNoticeS a.1 a.2) hr))
abbrev FS_laws_eqMailbox : List (Nat × EV.Sum Un) := [(79, S_laws_eqNoticeS)]
open EV in
def an_laws_eqMailbox : An := (.s .n (.s (.s .n (.s (.s .n .n) .n)) (.s .n .n)))
theorem e_laws_eqMailbox (a0 : D.Mailbox) (a1 : D.Mailbox) : EV.evF Yn TI FS_laws_eqMailbox (an_laws_eqMailbox) (bodyOf Tryz.f43) 11 [.st 57, .st 57] [.bool] false [.tmp 4] (a0, a1) = m_laws_eqMailbox a0 a1 := by kernel_rfl
def S_laws_eqMailbox : EV.Sum Un := ⟨[.st 57, .st 57], [.bool], false, false, fun (a : D.Mailbox × D.Mailbox) => gd (EqZ (a.1.sz) a.1 a.2) (some true)⟩
theorem en_laws_eqMailbox (args : Array Value) (w : World) : (callFunc 43 args).run Tryz.prog w = .ok (.enter 43 args) w := by kernel_rfl
theorem s_laws_eqMailbox : EV.SumOk Tryz.prog G0 Yn 43 S_laws_eqMailbox := EV.sum_ok (an := fun _ => an_laws_eqMailbox) (EV.good_cons s_laws_eqNoticeS good0) T.mix Tryz.func43 (cd := bodyOf Tryz.f43) rfl Tryz.ntmps43 (l := [.tmp 4]) rfl en_laws_eqMailbox (by decide) rfl (fun (a : D.Mailbox × D.Mailbox) r hr => (e_laws_eqMailbox a.1 a.2).trans (gd_use (t_laws_eqMailbox a.1 a.2) hr))
abbrev FS_laws_eqWorld : List (Nat × EV.Sum Un) := [(37, S_laws_eqDeviceS), (38, S_laws_eqBoolS), (39, S_laws_eqCloud), (40, S_laws_eqSiteS), (41, S_laws_eqVault), (42, S_laws_eqKeeperHostS), (43, S_laws_eqMailbox)]
open EV in
def an_laws_eqWorld : An := (.s .n (.s (.s .n (.s (.s .n .n) .n)) (.s (.s .n (.s (.s .n .n) .n)) (.s (.s .n (.s (.s .n .n) .n)) (.s (.s .n (.s (.s .n .n) .n)) (.s (.s .n (.s (.s .n .n) .n)) (.s (.s .n (.s (.s .n .n) .n)) (.s (.s .n (.s (.s .n .n) .n)) (.s (.s .n (.s (.s .n .n) .n)) (.s (.s .n (.s (.s .n .n) .n)) (.s (.s .n (.s (.s .n .n) .n)) (.s .n .n))))))))))))
theorem e_laws_eqWorld (a0 : D.World) (a1 : D.World) : EV.evF Yn TI FS_laws_eqWorld (an_laws_eqWorld) (bodyOf Tryz.f11) 62 [.st 59, .st 59] [.bool] false [.tmp 4] (a0, a1) = m_laws_eqWorld a0 a1 := by kernel_rfl
def S_laws_eqWorld : EV.Sum Un := ⟨[.st 59, .st 59], [.bool], false, false, fun (a : D.World × D.World) => gd (EqZ (a.1.sz) a.1 a.2) (some true)⟩
theorem en_laws_eqWorld (args : Array Value) (w : World) : (callFunc 11 args).run Tryz.prog w = .ok (.enter 11 args) w := by kernel_rfl
theorem s_laws_eqWorld : EV.SumOk Tryz.prog G0 Yn 11 S_laws_eqWorld := EV.sum_ok (an := fun _ => an_laws_eqWorld) (EV.good_cons s_laws_eqDeviceS (EV.good_cons s_laws_eqBoolS (EV.good_cons s_laws_eqCloud (EV.good_cons s_laws_eqSiteS (EV.good_cons s_laws_eqVault (EV.good_cons s_laws_eqKeeperHostS (EV.good_cons s_laws_eqMailbox good0))))))) T.mix Tryz.func11 (cd := bodyOf Tryz.f11) rfl Tryz.ntmps11 (l := [.tmp 4]) rfl en_laws_eqWorld (by decide) rfl (fun (a : D.World × D.World) r hr => (e_laws_eqWorld a.1 a.2).trans (gd_use (t_laws_eqWorld a.1 a.2) hr))
abbrev FS_laws_markLogEntryS : List (Nat × EV.Sum Un) := []
open EV in
def an_laws_markLogEntryS : An := (.s .n (.s (.j ⟨[(1, 1), (3, 49)], [.dat (.s 1) (.int .i64), .ti 0 196 true], [], []⟩ (.s .n (.s (.l ⟨[(1, 1), (3, 49)], [.dat (.s 1) (.int .i64), .nat (.s 5), .ti 0 196 true], [], []⟩ FUEL (.s (.s .n (.s .n .n)) (.s (.s (.s .n (.s .n (.s .n (.s .n (.s .n (.s .n (.s .n (.s .n (.s .n (.s .n (.s .n .n))))))))))) .n) .n))) .n))) (.s .n .n)))
theorem e_laws_markLogEntryS (a0 : List D.LogEntry) (a1 : Int) : EV.evM Yn TI FS_laws_markLogEntryS (an_laws_markLogEntryS) (bodyOf Tryz.f80) 55 (.sl 196) [.tmp 4] (a0, a1) = m_laws_markLogEntryS a0 a1 := by kernel_rfl
def S_laws_markLogEntryS : EV.Sum Un := ⟨[.sl 196, .int .i64], [.sl 196, .int .i64], false, true, fun (a : (List D.LogEntry) × Int) => gd (MkP (a.1.length) (cntL cn_LogEntry a.1) a.2) (some (mkL mk_LogEntry a.1 a.2))⟩
theorem en_laws_markLogEntryS (args : Array Value) (w : World) : (callFunc 80 args).run Tryz.prog w = .ok (.enter 80 args) w := by kernel_rfl
theorem s_laws_markLogEntryS : EV.SumOk Tryz.prog G0 Yn 80 S_laws_markLogEntryS := EV.sum_wt (an := fun _ => an_laws_markLogEntryS) good0 T.mix Tryz.func80 (cd := bodyOf Tryz.f80) rfl Tryz.ntmps80 (l := [.tmp 4]) rfl en_laws_markLogEntryS (by decide) (fun (a : (List D.LogEntry) × Int) r hr => (e_laws_markLogEntryS a.1 a.2).trans (gd_use (t_laws_markLogEntryS a.1 a.2) hr))
abbrev FS_laws_markEntryS : List (Nat × EV.Sum Un) := []
open EV in
def an_laws_markEntryS : An := (.s .n (.s (.j ⟨[(1, 1), (3, 37)], [.dat (.s 1) (.int .i64), .ti 0 180 true], [], []⟩ (.s .n (.s (.l ⟨[(1, 1), (3, 37)], [.dat (.s 1) (.int .i64), .nat (.s 5), .ti 0 180 true], [], []⟩ FUEL (.s (.s .n (.s .n .n)) (.s (.s (.s .n (.s .n (.s .n (.s .n (.s .n (.s .n (.s .n .n))))))) .n) .n))) .n))) (.s .n .n)))
theorem e_laws_markEntryS (a0 : List D.Entry) (a1 : Int) : EV.evM Yn TI FS_laws_markEntryS (an_laws_markEntryS) (bodyOf Tryz.f55) 43 (.sl 180) [.tmp 4] (a0, a1) = m_laws_markEntryS a0 a1 := by kernel_rfl
def S_laws_markEntryS : EV.Sum Un := ⟨[.sl 180, .int .i64], [.sl 180, .int .i64], false, true, fun (a : (List D.Entry) × Int) => gd (MkP (a.1.length) (cntL cn_Entry a.1) a.2) (some (mkL mk_Entry a.1 a.2))⟩
theorem en_laws_markEntryS (args : Array Value) (w : World) : (callFunc 55 args).run Tryz.prog w = .ok (.enter 55 args) w := by kernel_rfl
theorem s_laws_markEntryS : EV.SumOk Tryz.prog G0 Yn 55 S_laws_markEntryS := EV.sum_wt (an := fun _ => an_laws_markEntryS) good0 T.mix Tryz.func55 (cd := bodyOf Tryz.f55) rfl Tryz.ntmps55 (l := [.tmp 4]) rfl en_laws_markEntryS (by decide) (fun (a : (List D.Entry) × Int) r hr => (e_laws_markEntryS a.1 a.2).trans (gd_use (t_laws_markEntryS a.1 a.2) hr))
abbrev FS_laws_markDeviceS : List (Nat × EV.Sum Un) := [(80, S_laws_markLogEntryS), (55, S_laws_markEntryS)]
open EV in
def an_laws_markDeviceS : An := (.s .n (.s (.j ⟨[(1, 1), (3, 75)], [.dat (.s 1) (.int .i64), .ti 0 105 true], [], []⟩ (.s .n (.s (.l ⟨[(1, 1), (3, 75)], [.dat (.s 1) (.int .i64), .nat (.s 5), .ti 0 105 true], [], []⟩ FUEL (.s (.s .n (.s .n .n)) (.s (.s (.s .n (.s .n (.s .n (.s .n (.s .n (.s .n (.s .n (.s .n (.s .n (.s .n (.s .n (.s .n (.s .n (.s .n (.s .n .n))))))))))))))) .n) .n))) .n))) (.s .n .n)))
theorem e_laws_markDeviceS (a0 : List D.Device) (a1 : Int) : EV.evM Yn TI FS_laws_markDeviceS (an_laws_markDeviceS) (bodyOf Tryz.f44) 81 (.sl 105) [.tmp 4] (a0, a1) = m_laws_markDeviceS a0 a1 := by kernel_rfl
def S_laws_markDeviceS : EV.Sum Un := ⟨[.sl 105, .int .i64], [.sl 105, .int .i64], false, true, fun (a : (List D.Device) × Int) => gd (MkP (a.1.length + (a.1.map D.Device.sz).sum) (cntL cn_Device a.1) a.2) (some (mkL mk_Device a.1 a.2))⟩
theorem en_laws_markDeviceS (args : Array Value) (w : World) : (callFunc 44 args).run Tryz.prog w = .ok (.enter 44 args) w := by kernel_rfl
theorem s_laws_markDeviceS : EV.SumOk Tryz.prog G0 Yn 44 S_laws_markDeviceS := EV.sum_wt (an := fun _ => an_laws_markDeviceS) (EV.good_cons s_laws_markLogEntryS (EV.good_cons s_laws_markEntryS good0)) T.mix Tryz.func44 (cd := bodyOf Tryz.f44) rfl Tryz.ntmps44 (l := [.tmp 4]) rfl en_laws_markDeviceS (by decide) (fun (a : (List D.Device) × Int) r hr => (e_laws_markDeviceS a.1 a.2).trans (gd_use (t_laws_markDeviceS a.1 a.2) hr))
abbrev FS_laws_markBoolS : List (Nat × EV.Sum Un) := []
open EV in
def an_laws_markBoolS : An := (.s .n (.s (.j ⟨[(1, 1), (3, 15)], [.dat (.s 1) (.int .i64), .ti 0 4 true], [], []⟩ (.s .n (.s (.l ⟨[(1, 1), (3, 15)], [.dat (.s 1) (.int .i64), .nat (.s 5), .ti 0 4 true], [], []⟩ FUEL (.s (.s .n (.s .n .n)) (.s (.s (.s .n .n) .n) .n))) .n))) (.s .n .n)))
theorem e_laws_markBoolS (a0 : List Bool) (a1 : Int) : EV.evM Yn TI FS_laws_markBoolS (an_laws_markBoolS) (bodyOf Tryz.f45) 21 (.sl 4) [.tmp 4] (a0, a1) = m_laws_markBoolS a0 a1 := by kernel_rfl
def S_laws_markBoolS : EV.Sum Un := ⟨[.sl 4, .int .i64], [.sl 4, .int .i64], false, true, fun (a : (List Bool) × Int) => gd (MkP (a.1.length) (cntL cn1 a.1) a.2) (some (mkL mkB a.1 a.2))⟩
theorem en_laws_markBoolS (args : Array Value) (w : World) : (callFunc 45 args).run Tryz.prog w = .ok (.enter 45 args) w := by kernel_rfl
theorem s_laws_markBoolS : EV.SumOk Tryz.prog G0 Yn 45 S_laws_markBoolS := EV.sum_wt (an := fun _ => an_laws_markBoolS) good0 T.mix Tryz.func45 (cd := bodyOf Tryz.f45) rfl Tryz.ntmps45 (l := [.tmp 4]) rfl en_laws_markBoolS (by decide) (fun (a : (List Bool) × Int) r hr => (e_laws_markBoolS a.1 a.2).trans (gd_use (t_laws_markBoolS a.1 a.2) hr))
abbrev FS_laws_markByteS : List (Nat × EV.Sum Un) := []
open EV in
def an_laws_markByteS : An := (.s .n (.s (.j ⟨[(1, 1), (3, 14)], [.dat (.s 1) (.int .i64), .ti 0 5 true], [], []⟩ (.s .n (.s (.l ⟨[(1, 1), (3, 14)], [.dat (.s 1) (.int .i64), .nat (.s 5), .ti 0 5 true], [], []⟩ FUEL (.s (.s .n (.s .n .n)) (.s (.s (.s .n .n) .n) .n))) .n))) (.s .n .n)))
theorem e_laws_markByteS (a0 : List Int) (a1 : Int) : EV.evM Yn TI FS_laws_markByteS (an_laws_markByteS) (bodyOf Tryz.f131) 20 (.sl 5) [.tmp 4] (a0, a1) = m_laws_markByteS a0 a1 := by kernel_rfl
def S_laws_markByteS : EV.Sum Un := ⟨[.sl 5, .int .i64], [.sl 5, .int .i64], false, true, fun (a : (List Int) × Int) => gd (MkP (a.1.length) (cntL cn1 a.1) a.2) (some (mkL mkU a.1 a.2))⟩
theorem en_laws_markByteS (args : Array Value) (w : World) : (callFunc 131 args).run Tryz.prog w = .ok (.enter 131 args) w := by kernel_rfl
theorem s_laws_markByteS : EV.SumOk Tryz.prog G0 Yn 131 S_laws_markByteS := EV.sum_wt (an := fun _ => an_laws_markByteS) good0 T.mix Tryz.func131 (cd := bodyOf Tryz.f131) rfl Tryz.ntmps131 (l := [.tmp 4]) rfl en_laws_markByteS (by decide) (fun (a : (List Int) × Int) r hr => (e_laws_markByteS a.1 a.2).trans (gd_use (t_laws_markByteS a.1 a.2) hr))
abbrev FS_laws_markBoxS : List (Nat × EV.Sum Un) := [(131, S_laws_markByteS)]
open EV in
def an_laws_markBoxS : An := (.s .n (.s (.j ⟨[(1, 1), (3, 35)], [.dat (.s 1) (.int .i64), .ti 0 238 true], [], []⟩ (.s .n (.s (.l ⟨[(1, 1), (3, 35)], [.dat (.s 1) (.int .i64), .nat (.s 5), .ti 0 238 true], [], []⟩ FUEL (.s (.s .n (.s .n .n)) (.s (.s (.s .n (.s .n (.s .n (.s .n (.s .n (.s .n .n)))))) .n) .n))) .n))) (.s .n .n)))
theorem e_laws_markBoxS (a0 : List D.Box) (a1 : Int) : EV.evM Yn TI FS_laws_markBoxS (an_laws_markBoxS) (bodyOf Tryz.f130) 41 (.sl 238) [.tmp 4] (a0, a1) = m_laws_markBoxS a0 a1 := by kernel_rfl
def S_laws_markBoxS : EV.Sum Un := ⟨[.sl 238, .int .i64], [.sl 238, .int .i64], false, true, fun (a : (List D.Box) × Int) => gd (MkP (a.1.length + (a.1.map D.Box.sz).sum) (cntL cn_Box a.1) a.2) (some (mkL mk_Box a.1 a.2))⟩
theorem en_laws_markBoxS (args : Array Value) (w : World) : (callFunc 130 args).run Tryz.prog w = .ok (.enter 130 args) w := by kernel_rfl
theorem s_laws_markBoxS : EV.SumOk Tryz.prog G0 Yn 130 S_laws_markBoxS := EV.sum_wt (an := fun _ => an_laws_markBoxS) (EV.good_cons s_laws_markByteS good0) T.mix Tryz.func130 (cd := bodyOf Tryz.f130) rfl Tryz.ntmps130 (l := [.tmp 4]) rfl en_laws_markBoxS (by decide) (fun (a : (List D.Box) × Int) r hr => (e_laws_markBoxS a.1 a.2).trans (gd_use (t_laws_markBoxS a.1 a.2) hr))
abbrev FS_laws_markEpochBoxes : List (Nat × EV.Sum Un) := [(130, S_laws_markBoxS)]
open EV in
def an_laws_markEpochBoxes : An := (.s .n (.s .n (.s .n .n)))
theorem e_laws_markEpochBoxes (a0 : D.EpochBoxes) (a1 : Int) : EV.evM Yn TI FS_laws_markEpochBoxes (an_laws_markEpochBoxes) (bodyOf Tryz.f81) 10 (.st 48) [.tmp 4] (a0, a1) = m_laws_markEpochBoxes a0 a1 := by kernel_rfl
def S_laws_markEpochBoxes : EV.Sum Un := ⟨[.st 48, .int .i64], [.st 48, .int .i64], false, true, fun (a : D.EpochBoxes × Int) => gd (MkP (a.1.sz) (cv_EpochBoxes a.1) a.2) (some (mv_EpochBoxes a.1 a.2))⟩
theorem en_laws_markEpochBoxes (args : Array Value) (w : World) : (callFunc 81 args).run Tryz.prog w = .ok (.enter 81 args) w := by kernel_rfl
theorem s_laws_markEpochBoxes : EV.SumOk Tryz.prog G0 Yn 81 S_laws_markEpochBoxes := EV.sum_wt (an := fun _ => an_laws_markEpochBoxes) (EV.good_cons s_laws_markBoxS good0) T.mix Tryz.func81 (cd := bodyOf Tryz.f81) rfl Tryz.ntmps81 (l := [.tmp 4]) rfl en_laws_markEpochBoxes (by decide) (fun (a : D.EpochBoxes × Int) r hr => (e_laws_markEpochBoxes a.1 a.2).trans (gd_use (t_laws_markEpochBoxes a.1 a.2) hr))
abbrev FS_laws_markSealedBundleS : List (Nat × EV.Sum Un) := [(131, S_laws_markByteS)]
open EV in
def an_laws_markSealedBundleS : An := (.s .n (.s (.j ⟨[(1, 1), (3, 35)], [.dat (.s 1) (.int .i64), .ti 0 200 true], [], []⟩ (.s .n (.s (.l ⟨[(1, 1), (3, 35)], [.dat (.s 1) (.int .i64), .nat (.s 5), .ti 0 200 true], [], []⟩ FUEL (.s (.s .n (.s .n .n)) (.s (.s (.s .n (.s .n (.s .n (.s .n (.s .n (.s .n .n)))))) .n) .n))) .n))) (.s .n .n)))
theorem e_laws_markSealedBundleS (a0 : List D.SealedBundle) (a1 : Int) : EV.evM Yn TI FS_laws_markSealedBundleS (an_laws_markSealedBundleS) (bodyOf Tryz.f82) 41 (.sl 200) [.tmp 4] (a0, a1) = m_laws_markSealedBundleS a0 a1 := by kernel_rfl
def S_laws_markSealedBundleS : EV.Sum Un := ⟨[.sl 200, .int .i64], [.sl 200, .int .i64], false, true, fun (a : (List D.SealedBundle) × Int) => gd (MkP (a.1.length + (a.1.map D.SealedBundle.sz).sum) (cntL cn_SealedBundle a.1) a.2) (some (mkL mk_SealedBundle a.1 a.2))⟩
theorem en_laws_markSealedBundleS (args : Array Value) (w : World) : (callFunc 82 args).run Tryz.prog w = .ok (.enter 82 args) w := by kernel_rfl
theorem s_laws_markSealedBundleS : EV.SumOk Tryz.prog G0 Yn 82 S_laws_markSealedBundleS := EV.sum_wt (an := fun _ => an_laws_markSealedBundleS) (EV.good_cons s_laws_markByteS good0) T.mix Tryz.func82 (cd := bodyOf Tryz.f82) rfl Tryz.ntmps82 (l := [.tmp 4]) rfl en_laws_markSealedBundleS (by decide) (fun (a : (List D.SealedBundle) × Int) r hr => (e_laws_markSealedBundleS a.1 a.2).trans (gd_use (t_laws_markSealedBundleS a.1 a.2) hr))
abbrev FS_laws_markCloud : List (Nat × EV.Sum Un) := [(80, S_laws_markLogEntryS), (81, S_laws_markEpochBoxes), (82, S_laws_markSealedBundleS)]
open EV in
def an_laws_markCloud : An := (.s .n (.s .n (.s .n (.s .n (.s .n .n)))))
theorem e_laws_markCloud (a0 : D.Cloud) (a1 : Int) : EV.evM Yn TI FS_laws_markCloud (an_laws_markCloud) (bodyOf Tryz.f46) 18 (.st 51) [.tmp 4] (a0, a1) = m_laws_markCloud a0 a1 := by kernel_rfl
def S_laws_markCloud : EV.Sum Un := ⟨[.st 51, .int .i64], [.st 51, .int .i64], false, true, fun (a : D.Cloud × Int) => gd (MkP (a.1.sz) (cv_Cloud a.1) a.2) (some (mv_Cloud a.1 a.2))⟩
theorem en_laws_markCloud (args : Array Value) (w : World) : (callFunc 46 args).run Tryz.prog w = .ok (.enter 46 args) w := by kernel_rfl
theorem s_laws_markCloud : EV.SumOk Tryz.prog G0 Yn 46 S_laws_markCloud := EV.sum_wt (an := fun _ => an_laws_markCloud) (EV.good_cons s_laws_markLogEntryS (EV.good_cons s_laws_markEpochBoxes (EV.good_cons s_laws_markSealedBundleS good0))) T.mix Tryz.func46 (cd := bodyOf Tryz.f46) rfl Tryz.ntmps46 (l := [.tmp 4]) rfl en_laws_markCloud (by decide) (fun (a : D.Cloud × Int) r hr => (e_laws_markCloud a.1 a.2).trans (gd_use (t_laws_markCloud a.1 a.2) hr))
abbrev FS_laws_markText : List (Nat × EV.Sum Un) := []
open EV in
def an_laws_markText : An := (.s .n (.s (.s .n (.s (.s .n .n) .n)) (.s .n (.s (.j ⟨[(0, 1), (2, 1), (2, 12)], [.dat (.s 3) (.str)], [], []⟩ (.s (.l ⟨[(0, 1), (2, 1), (2, 12)], [.dat (.s 0) (.int .i64), .dat (.s 3) (.str)], [], []⟩ FUEL (.s (.s .n (.s .n .n)) (.s (.s .n .n) .n))) .n)) (.s .n .n)))))
theorem e_laws_markText (a0 : Int) : EV.evF Yn TI FS_laws_markText (an_laws_markText) (bodyOf Tryz.f83) 20 [.int .i64] [.str] false [.tmp 2] (a0) = m_laws_markText a0 := by kernel_rfl
def S_laws_markText : EV.Sum Un := ⟨[.int .i64], [.str], false, false, fun (a : Int) => m_laws_markText a⟩
theorem en_laws_markText (args : Array Value) (w : World) : (callFunc 83 args).run Tryz.prog w = .ok (.enter 83 args) w := by kernel_rfl
theorem s_laws_markText : EV.SumOk Tryz.prog G0 Yn 83 S_laws_markText := EV.sum_ok (an := fun _ => an_laws_markText) good0 T.mix Tryz.func83 (cd := bodyOf Tryz.f83) rfl Tryz.ntmps83 (l := [.tmp 2]) rfl en_laws_markText (by decide) rfl (fun (a : Int) r hr => (e_laws_markText a).trans hr)
abbrev FS_laws_markCredentialS : List (Nat × EV.Sum Un) := []
open EV in
def an_laws_markCredentialS : An := (.s .n (.s (.j ⟨[(1, 1), (3, 37)], [.dat (.s 1) (.int .i64), .ti 0 145 true], [], []⟩ (.s .n (.s (.l ⟨[(1, 1), (3, 37)], [.dat (.s 1) (.int .i64), .nat (.s 5), .ti 0 145 true], [], []⟩ FUEL (.s (.s .n (.s .n .n)) (.s (.s (.s .n (.s .n (.s .n (.s .n (.s .n (.s .n (.s .n .n))))))) .n) .n))) .n))) (.s .n .n)))
theorem e_laws_markCredentialS (a0 : List D.Credential) (a1 : Int) : EV.evM Yn TI FS_laws_markCredentialS (an_laws_markCredentialS) (bodyOf Tryz.f132) 43 (.sl 145) [.tmp 4] (a0, a1) = m_laws_markCredentialS a0 a1 := by kernel_rfl
def S_laws_markCredentialS : EV.Sum Un := ⟨[.sl 145, .int .i64], [.sl 145, .int .i64], false, true, fun (a : (List D.Credential) × Int) => gd (MkP (a.1.length) (cntL cn_Credential a.1) a.2) (some (mkL mk_Credential a.1 a.2))⟩
theorem en_laws_markCredentialS (args : Array Value) (w : World) : (callFunc 132 args).run Tryz.prog w = .ok (.enter 132 args) w := by kernel_rfl
theorem s_laws_markCredentialS : EV.SumOk Tryz.prog G0 Yn 132 S_laws_markCredentialS := EV.sum_wt (an := fun _ => an_laws_markCredentialS) good0 T.mix Tryz.func132 (cd := bodyOf Tryz.f132) rfl Tryz.ntmps132 (l := [.tmp 4]) rfl en_laws_markCredentialS (by decide) (fun (a : (List D.Credential) × Int) r hr => (e_laws_markCredentialS a.1 a.2).trans (gd_use (t_laws_markCredentialS a.1 a.2) hr))
abbrev FS_laws_markAccountS : List (Nat × EV.Sum Un) := [(132, S_laws_markCredentialS)]
open EV in
def an_laws_markAccountS : An := (.s .n (.s (.j ⟨[(1, 1), (3, 28)], [.dat (.s 1) (.int .i64), .ti 0 143 true], [], []⟩ (.s .n (.s (.l ⟨[(1, 1), (3, 28)], [.dat (.s 1) (.int .i64), .nat (.s 5), .ti 0 143 true], [], []⟩ FUEL (.s (.s .n (.s .n .n)) (.s (.s (.s .n (.s .n (.s .n (.s .n .n)))) .n) .n))) .n))) (.s .n .n)))
theorem e_laws_markAccountS (a0 : List D.Account) (a1 : Int) : EV.evM Yn TI FS_laws_markAccountS (an_laws_markAccountS) (bodyOf Tryz.f84) 34 (.sl 143) [.tmp 4] (a0, a1) = m_laws_markAccountS a0 a1 := by kernel_rfl
def S_laws_markAccountS : EV.Sum Un := ⟨[.sl 143, .int .i64], [.sl 143, .int .i64], false, true, fun (a : (List D.Account) × Int) => gd (MkP (a.1.length + (a.1.map D.Account.sz).sum) (cntL cn_Account a.1) a.2) (some (mkL mk_Account a.1 a.2))⟩
theorem en_laws_markAccountS (args : Array Value) (w : World) : (callFunc 84 args).run Tryz.prog w = .ok (.enter 84 args) w := by kernel_rfl
theorem s_laws_markAccountS : EV.SumOk Tryz.prog G0 Yn 84 S_laws_markAccountS := EV.sum_wt (an := fun _ => an_laws_markAccountS) (EV.good_cons s_laws_markCredentialS good0) T.mix Tryz.func84 (cd := bodyOf Tryz.f84) rfl Tryz.ntmps84 (l := [.tmp 4]) rfl en_laws_markAccountS (by decide) (fun (a : (List D.Account) × Int) r hr => (e_laws_markAccountS a.1 a.2).trans (gd_use (t_laws_markAccountS a.1 a.2) hr))
abbrev FS_laws_markChallengeS : List (Nat × EV.Sum Un) := []
open EV in
def an_laws_markChallengeS : An := (.s .n (.s (.j ⟨[(1, 1), (3, 28)], [.dat (.s 1) (.int .i64), .ti 0 224 true], [], []⟩ (.s .n (.s (.l ⟨[(1, 1), (3, 28)], [.dat (.s 1) (.int .i64), .nat (.s 5), .ti 0 224 true], [], []⟩ FUEL (.s (.s .n (.s .n .n)) (.s (.s (.s .n (.s .n (.s .n (.s .n (.s .n .n))))) .n) .n))) .n))) (.s .n .n)))
theorem e_laws_markChallengeS (a0 : List D.Challenge) (a1 : Int) : EV.evM Yn TI FS_laws_markChallengeS (an_laws_markChallengeS) (bodyOf Tryz.f85) 34 (.sl 224) [.tmp 4] (a0, a1) = m_laws_markChallengeS a0 a1 := by kernel_rfl
def S_laws_markChallengeS : EV.Sum Un := ⟨[.sl 224, .int .i64], [.sl 224, .int .i64], false, true, fun (a : (List D.Challenge) × Int) => gd (MkP (a.1.length) (cntL cn_Challenge a.1) a.2) (some (mkL mk_Challenge a.1 a.2))⟩
theorem en_laws_markChallengeS (args : Array Value) (w : World) : (callFunc 85 args).run Tryz.prog w = .ok (.enter 85 args) w := by kernel_rfl
theorem s_laws_markChallengeS : EV.SumOk Tryz.prog G0 Yn 85 S_laws_markChallengeS := EV.sum_wt (an := fun _ => an_laws_markChallengeS) good0 T.mix Tryz.func85 (cd := bodyOf Tryz.f85) rfl Tryz.ntmps85 (l := [.tmp 4]) rfl en_laws_markChallengeS (by decide) (fun (a : (List D.Challenge) × Int) r hr => (e_laws_markChallengeS a.1 a.2).trans (gd_use (t_laws_markChallengeS a.1 a.2) hr))
abbrev FS_laws_markIntS : List (Nat × EV.Sum Un) := []
open EV in
def an_laws_markIntS : An := (.s .n (.s (.j ⟨[(1, 1), (3, 13)], [.dat (.s 1) (.int .i64), .ti 0 3 true], [], []⟩ (.s .n (.s (.l ⟨[(1, 1), (3, 13)], [.dat (.s 1) (.int .i64), .nat (.s 5), .ti 0 3 true], [], []⟩ FUEL (.s (.s .n (.s .n .n)) (.s (.s (.s .n .n) .n) .n))) .n))) (.s .n .n)))
theorem e_laws_markIntS (a0 : List Int) (a1 : Int) : EV.evM Yn TI FS_laws_markIntS (an_laws_markIntS) (bodyOf Tryz.f13) 19 (.sl 3) [.tmp 4] (a0, a1) = m_laws_markIntS a0 a1 := by kernel_rfl
def S_laws_markIntS : EV.Sum Un := ⟨[.sl 3, .int .i64], [.sl 3, .int .i64], false, true, fun (a : (List Int) × Int) => gd (MkP (a.1.length) (cntL cn1 a.1) a.2) (some (mkL mkI a.1 a.2))⟩
theorem en_laws_markIntS (args : Array Value) (w : World) : (callFunc 13 args).run Tryz.prog w = .ok (.enter 13 args) w := by kernel_rfl
theorem s_laws_markIntS : EV.SumOk Tryz.prog G0 Yn 13 S_laws_markIntS := EV.sum_wt (an := fun _ => an_laws_markIntS) good0 T.mix Tryz.func13 (cd := bodyOf Tryz.f13) rfl Tryz.ntmps13 (l := [.tmp 4]) rfl en_laws_markIntS (by decide) (fun (a : (List Int) × Int) r hr => (e_laws_markIntS a.1 a.2).trans (gd_use (t_laws_markIntS a.1 a.2) hr))
abbrev FS_laws_markSiteS : List (Nat × EV.Sum Un) := [(83, S_laws_markText), (84, S_laws_markAccountS), (85, S_laws_markChallengeS), (13, S_laws_markIntS)]
open EV in
def an_laws_markSiteS : An := (.s .n (.s (.j ⟨[(1, 1), (3, 53)], [.dat (.s 1) (.int .i64), .ti 0 140 true], [], []⟩ (.s .n (.s (.l ⟨[(1, 1), (3, 53)], [.dat (.s 1) (.int .i64), .nat (.s 5), .ti 0 140 true], [], []⟩ FUEL (.s (.s .n (.s .n .n)) (.s (.s (.s .n (.s .n (.s .n (.s .n (.s .n (.s .n (.s .n (.s .n .n)))))))) .n) .n))) .n))) (.s .n .n)))
theorem e_laws_markSiteS (a0 : List D.Site) (a1 : Int) : EV.evM Yn TI FS_laws_markSiteS (an_laws_markSiteS) (bodyOf Tryz.f47) 59 (.sl 140) [.tmp 4] (a0, a1) = m_laws_markSiteS a0 a1 := by kernel_rfl
def S_laws_markSiteS : EV.Sum Un := ⟨[.sl 140, .int .i64], [.sl 140, .int .i64], false, true, fun (a : (List D.Site) × Int) => gd (MkP (a.1.length + (a.1.map D.Site.sz).sum) (cntL cn_Site a.1) a.2) (some (mkL mk_Site a.1 a.2))⟩
theorem en_laws_markSiteS (args : Array Value) (w : World) : (callFunc 47 args).run Tryz.prog w = .ok (.enter 47 args) w := by kernel_rfl
theorem s_laws_markSiteS : EV.SumOk Tryz.prog G0 Yn 47 S_laws_markSiteS := EV.sum_wt (an := fun _ => an_laws_markSiteS) (EV.good_cons s_laws_markText (EV.good_cons s_laws_markAccountS (EV.good_cons s_laws_markChallengeS (EV.good_cons s_laws_markIntS good0)))) T.mix Tryz.func47 (cd := bodyOf Tryz.f47) rfl Tryz.ntmps47 (l := [.tmp 4]) rfl en_laws_markSiteS (by decide) (fun (a : (List D.Site) × Int) r hr => (e_laws_markSiteS a.1 a.2).trans (gd_use (t_laws_markSiteS a.1 a.2) hr))
abbrev FS_laws_markKeeperS : List (Nat × EV.Sum Un) := []
open EV in
def an_laws_markKeeperS : An := (.s .n (.s (.j ⟨[(1, 1), (3, 44)], [.dat (.s 1) (.int .i64), .ti 0 153 true], [], []⟩ (.s .n (.s (.l ⟨[(1, 1), (3, 44)], [.dat (.s 1) (.int .i64), .nat (.s 5), .ti 0 153 true], [], []⟩ FUEL (.s (.s .n (.s .n .n)) (.s (.s (.s .n (.s .n (.s .n (.s .n (.s .n (.s .n (.s .n (.s .n (.s .n .n))))))))) .n) .n))) .n))) (.s .n .n)))
theorem e_laws_markKeeperS (a0 : List D.Keeper) (a1 : Int) : EV.evM Yn TI FS_laws_markKeeperS (an_laws_markKeeperS) (bodyOf Tryz.f86) 50 (.sl 153) [.tmp 4] (a0, a1) = m_laws_markKeeperS a0 a1 := by kernel_rfl
def S_laws_markKeeperS : EV.Sum Un := ⟨[.sl 153, .int .i64], [.sl 153, .int .i64], false, true, fun (a : (List D.Keeper) × Int) => gd (MkP (a.1.length) (cntL cn_Keeper a.1) a.2) (some (mkL mk_Keeper a.1 a.2))⟩
theorem en_laws_markKeeperS (args : Array Value) (w : World) : (callFunc 86 args).run Tryz.prog w = .ok (.enter 86 args) w := by kernel_rfl
theorem s_laws_markKeeperS : EV.SumOk Tryz.prog G0 Yn 86 S_laws_markKeeperS := EV.sum_wt (an := fun _ => an_laws_markKeeperS) good0 T.mix Tryz.func86 (cd := bodyOf Tryz.f86) rfl Tryz.ntmps86 (l := [.tmp 4]) rfl en_laws_markKeeperS (by decide) (fun (a : (List D.Keeper) × Int) r hr => (e_laws_markKeeperS a.1 a.2).trans (gd_use (t_laws_markKeeperS a.1 a.2) hr))
abbrev FS_laws_markKeeperHostS : List (Nat × EV.Sum Un) := [(86, S_laws_markKeeperS)]
open EV in
def an_laws_markKeeperHostS : An := (.s .n (.s (.j ⟨[(1, 1), (3, 63)], [.dat (.s 1) (.int .i64), .ti 0 156 true], [], []⟩ (.s .n (.s (.l ⟨[(1, 1), (3, 63)], [.dat (.s 1) (.int .i64), .nat (.s 5), .ti 0 156 true], [], []⟩ FUEL (.s (.s .n (.s .n .n)) (.s (.s (.s .n (.s .n (.s .n (.s .n (.s .n (.s .n (.s .n (.s .n (.s .n (.s .n (.s .n (.s .n .n)))))))))))) .n) .n))) .n))) (.s .n .n)))
theorem e_laws_markKeeperHostS (a0 : List D.KeeperHost) (a1 : Int) : EV.evM Yn TI FS_laws_markKeeperHostS (an_laws_markKeeperHostS) (bodyOf Tryz.f48) 69 (.sl 156) [.tmp 4] (a0, a1) = m_laws_markKeeperHostS a0 a1 := by kernel_rfl
def S_laws_markKeeperHostS : EV.Sum Un := ⟨[.sl 156, .int .i64], [.sl 156, .int .i64], false, true, fun (a : (List D.KeeperHost) × Int) => gd (MkP (a.1.length + (a.1.map D.KeeperHost.sz).sum) (cntL cn_KeeperHost a.1) a.2) (some (mkL mk_KeeperHost a.1 a.2))⟩
theorem en_laws_markKeeperHostS (args : Array Value) (w : World) : (callFunc 48 args).run Tryz.prog w = .ok (.enter 48 args) w := by kernel_rfl
theorem s_laws_markKeeperHostS : EV.SumOk Tryz.prog G0 Yn 48 S_laws_markKeeperHostS := EV.sum_wt (an := fun _ => an_laws_markKeeperHostS) (EV.good_cons s_laws_markKeeperS good0) T.mix Tryz.func48 (cd := bodyOf Tryz.f48) rfl Tryz.ntmps48 (l := [.tmp 4]) rfl en_laws_markKeeperHostS (by decide) (fun (a : (List D.KeeperHost) × Int) r hr => (e_laws_markKeeperHostS a.1 a.2).trans (gd_use (t_laws_markKeeperHostS a.1 a.2) hr))
abbrev FS_laws_markNoticeS : List (Nat × EV.Sum Un) := []
open EV in
def an_laws_markNoticeS : An := (.s .n (.s (.j ⟨[(1, 1), (3, 37)], [.dat (.s 1) (.int .i64), .ti 0 208 true], [], []⟩ (.s .n (.s (.l ⟨[(1, 1), (3, 37)], [.dat (.s 1) (.int .i64), .nat (.s 5), .ti 0 208 true], [], []⟩ FUEL (.s (.s .n (.s .n .n)) (.s (.s (.s .n (.s .n (.s .n (.s .n (.s .n (.s .n (.s .n .n))))))) .n) .n))) .n))) (.s .n .n)))
theorem e_laws_markNoticeS (a0 : List D.Notice) (a1 : Int) : EV.evM Yn TI FS_laws_markNoticeS (an_laws_markNoticeS) (bodyOf Tryz.f87) 43 (.sl 208) [.tmp 4] (a0, a1) = m_laws_markNoticeS a0 a1 := by kernel_rfl
def S_laws_markNoticeS : EV.Sum Un := ⟨[.sl 208, .int .i64], [.sl 208, .int .i64], false, true, fun (a : (List D.Notice) × Int) => gd (MkP (a.1.length) (cntL cn_Notice a.1) a.2) (some (mkL mk_Notice a.1 a.2))⟩
theorem en_laws_markNoticeS (args : Array Value) (w : World) : (callFunc 87 args).run Tryz.prog w = .ok (.enter 87 args) w := by kernel_rfl
theorem s_laws_markNoticeS : EV.SumOk Tryz.prog G0 Yn 87 S_laws_markNoticeS := EV.sum_wt (an := fun _ => an_laws_markNoticeS) good0 T.mix Tryz.func87 (cd := bodyOf Tryz.f87) rfl Tryz.ntmps87 (l := [.tmp 4]) rfl en_laws_markNoticeS (by decide) (fun (a : (List D.Notice) × Int) r hr => (e_laws_markNoticeS a.1 a.2).trans (gd_use (t_laws_markNoticeS a.1 a.2) hr))
abbrev FS_laws_markMailbox : List (Nat × EV.Sum Un) := [(87, S_laws_markNoticeS)]
open EV in
def an_laws_markMailbox : An := (.s .n (.s .n (.s .n .n)))
theorem e_laws_markMailbox (a0 : D.Mailbox) (a1 : Int) : EV.evM Yn TI FS_laws_markMailbox (an_laws_markMailbox) (bodyOf Tryz.f49) 10 (.st 57) [.tmp 4] (a0, a1) = m_laws_markMailbox a0 a1 := by kernel_rfl
def S_laws_markMailbox : EV.Sum Un := ⟨[.st 57, .int .i64], [.st 57, .int .i64], false, true, fun (a : D.Mailbox × Int) => gd (MkP (a.1.sz) (cv_Mailbox a.1) a.2) (some (mv_Mailbox a.1 a.2))⟩
theorem en_laws_markMailbox (args : Array Value) (w : World) : (callFunc 49 args).run Tryz.prog w = .ok (.enter 49 args) w := by kernel_rfl
theorem s_laws_markMailbox : EV.SumOk Tryz.prog G0 Yn 49 S_laws_markMailbox := EV.sum_wt (an := fun _ => an_laws_markMailbox) (EV.good_cons s_laws_markNoticeS good0) T.mix Tryz.func49 (cd := bodyOf Tryz.f49) rfl Tryz.ntmps49 (l := [.tmp 4]) rfl en_laws_markMailbox (by decide) (fun (a : D.Mailbox × Int) r hr => (e_laws_markMailbox a.1 a.2).trans (gd_use (t_laws_markMailbox a.1 a.2) hr))
abbrev FS_laws_markWorld : List (Nat × EV.Sum Un) := [(44, S_laws_markDeviceS), (45, S_laws_markBoolS), (46, S_laws_markCloud), (47, S_laws_markSiteS), (48, S_laws_markKeeperHostS), (49, S_laws_markMailbox)]
open EV in
def an_laws_markWorld : An := (.s .n (.s .n (.s .n (.s .n (.s .n (.s .n (.s .n (.s .n .n))))))))
theorem e_laws_markWorld (a0 : D.World) (a1 : Int) : EV.evM Yn TI FS_laws_markWorld (an_laws_markWorld) (bodyOf Tryz.f12) 30 (.st 59) [.tmp 4] (a0, a1) = m_laws_markWorld a0 a1 := by kernel_rfl
def S_laws_markWorld : EV.Sum Un := ⟨[.st 59, .int .i64], [.st 59, .int .i64], false, true, fun (a : D.World × Int) => gd (MkP (a.1.sz) (cv_World a.1) a.2) (some (mv_World a.1 a.2))⟩
theorem en_laws_markWorld (args : Array Value) (w : World) : (callFunc 12 args).run Tryz.prog w = .ok (.enter 12 args) w := by kernel_rfl
theorem s_laws_markWorld : EV.SumOk Tryz.prog G0 Yn 12 S_laws_markWorld := EV.sum_wt (an := fun _ => an_laws_markWorld) (EV.good_cons s_laws_markDeviceS (EV.good_cons s_laws_markBoolS (EV.good_cons s_laws_markCloud (EV.good_cons s_laws_markSiteS (EV.good_cons s_laws_markKeeperHostS (EV.good_cons s_laws_markMailbox good0)))))) T.mix Tryz.func12 (cd := bodyOf Tryz.f12) rfl Tryz.ntmps12 (l := [.tmp 4]) rfl en_laws_markWorld (by decide) (fun (a : D.World × Int) r hr => (e_laws_markWorld a.1 a.2).trans (gd_use (t_laws_markWorld a.1 a.2) hr))
abbrev FS_spec_l19Has : List (Nat × EV.Sum Un) := []
open EV in
def an_spec_l19Has : An := (.s .n (.s (.jx ⟨[(4, 14)], [], [], []⟩ (.s .n (.s (.l ⟨[(4, 14)], [.nat (.s 5)], [], []⟩ FUEL (.s (.s .n (.s .n .n)) (.s (.s (.s .n (.s (.s .n .n) .n)) .n) .n))) .n))) (.s .n .n)))
theorem e_spec_l19Has (a0 : List Int) (a1 : Int) : EV.evF Yn TI FS_spec_l19Has (an_spec_l19Has) (bodyOf Tryz.f88) 18 [.sl 3, .int .i64] [.bool] false [.tmp 4] (a0, a1) = m_spec_l19Has a0 a1 := by kernel_rfl
def S_spec_l19Has : EV.Sum Un := ⟨[.sl 3, .int .i64], [.bool], false, false, fun (a : (List Int) × Int) => gd (a.1.length ≤ 1099511627776) (some (hasF a.1 a.2))⟩
theorem en_spec_l19Has (args : Array Value) (w : World) : (callFunc 88 args).run Tryz.prog w = .ok (.enter 88 args) w := by kernel_rfl
theorem s_spec_l19Has : EV.SumOk Tryz.prog G0 Yn 88 S_spec_l19Has := EV.sum_ok (an := fun _ => an_spec_l19Has) good0 T.mix Tryz.func88 (cd := bodyOf Tryz.f88) rfl Tryz.ntmps88 (l := [.tmp 4]) rfl en_spec_l19Has (by decide) rfl (fun (a : (List Int) × Int) r hr => (e_spec_l19Has a.1 a.2).trans (gd_use (t_spec_l19Has a.1 a.2) hr))
abbrev FS_spec_DevicesOf : List (Nat × EV.Sum Un) := [(88, S_spec_l19Has)]
open EV in
def an_spec_DevicesOf : An := (.s .n (.s .n (.s (.j ⟨[(3, 5), (1, 56)], [.tr (.s 3) 0 3 true], [], []⟩ (.s .n (.s (.l ⟨[(3, 5), (1, 56)], [.tr (.s 3) 0 3 true, .nat (.s 4)], [], []⟩ FUEL (.s (.s .n (.s .n .n)) (.s (.j ⟨[(3, 1), (1, 3), (7, 50)], [.tr (.s 3) 0 3 true], [], []⟩ (.s (.s .n (.s (.s (.rj 7 ⟨[(20, 1), (6, 6)], [.dat (.s 20) (.bool)], [], []⟩ .n) (.s .n (.s .n (.s (.s .n (.s (.j ⟨[(6, 2), (37, 19)], [.tr (.s 6) 1 3 true], [], []⟩ (.s .n (.s (.l ⟨[(6, 2), (37, 19)], [.tr (.s 6) 1 3 true, .nat (.s 7)], [], []⟩ FUEL (.s (.s .n (.s .n .n)) (.s (.j ⟨[(6, 1), (44, 13)], [.tr (.s 6) 1 3 true], [], []⟩ (.s (.s .n (.s .n .n)) .n)) .n))) .n))) .n)) .n)))) .n)) .n)) .n))) .n))) (.s .n .n))))
theorem e_spec_DevicesOf (a0 : List D.LogEntry) : EV.evF Yn TI FS_spec_DevicesOf (an_spec_DevicesOf) (bodyOf Tryz.f89) 66 [.sl 196] [.sl 3] true [.tmp 2] (a0) = m_spec_DevicesOf a0 := by kernel_rfl
def S_spec_DevicesOf : EV.Sum Un := ⟨[.sl 196], [.sl 3], true, false, fun (a : (List D.LogEntry)) => gd (a.length ≤ 34359738368) (some (devicesOfF a))⟩
theorem en_spec_DevicesOf (args : Array Value) (w : World) : (callFunc 89 args).run Tryz.prog w = .ok (.enter 89 args) w := by kernel_rfl
theorem s_spec_DevicesOf : EV.SumOk Tryz.prog G0 Yn 89 S_spec_DevicesOf := EV.sum_ok (an := fun _ => an_spec_DevicesOf) (EV.good_cons s_spec_l19Has good0) T.mix Tryz.func89 (cd := bodyOf Tryz.f89) rfl Tryz.ntmps89 (l := [.tmp 2]) rfl en_spec_DevicesOf (by decide) rfl (fun (a : (List D.LogEntry)) r hr => (e_spec_DevicesOf a).trans (gd_use (t_spec_DevicesOf a) hr))
abbrev FS_spec_Mod : List (Nat × EV.Sum Un) := [(64, S_spec_l1In)]
open EV in
def an_spec_Mod : An := (.s .n (.s (.s .n (.s (.s .n .n) .n)) (.s .n .n)))
theorem e_spec_Mod (a0 : Int) (a1 : Int) : EV.evF Yn TI FS_spec_Mod (an_spec_Mod) (bodyOf Tryz.f174) 15 [.int .i64, .int .i64] [.int .i64] false [.tmp 4] (a0, a1) = m_spec_Mod a0 a1 := by kernel_rfl
def S_spec_Mod : EV.Sum Un := ⟨[.int .i64, .int .i64], [.int .i64], false, false, fun (a : Int × Int) => some (modI a.1 a.2)⟩
theorem en_spec_Mod (args : Array Value) (w : World) : (callFunc 174 args).run Tryz.prog w = .ok (.enter 174 args) w := by kernel_rfl
theorem s_spec_Mod : EV.SumOk Tryz.prog G0 Yn 174 S_spec_Mod := EV.sum_ok (an := fun _ => an_spec_Mod) (EV.good_cons s_spec_l1In good0) T.mix Tryz.func174 (cd := bodyOf Tryz.f174) rfl Tryz.ntmps174 (l := [.tmp 4]) rfl en_spec_Mod (by decide) rfl (fun (a : Int × Int) r hr => (e_spec_Mod a.1 a.2).trans ((t_spec_Mod a.1 a.2).trans hr))
abbrev FS_spec_Hash : List (Nat × EV.Sum Un) := [(174, S_spec_Mod)]
open EV in
def an_spec_Hash : An := (.s .n (.s .n (.s (.j ⟨[(3, 18)], [.dat (.s 3) (.int .i64)], [], []⟩ (.s .n (.s (.l ⟨[(3, 18)], [.dat (.s 3) (.int .i64), .nat (.s 4)], [], []⟩ FUEL (.s (.s .n (.s .n .n)) (.s (.s .n .n) .n))) .n))) (.s .n .n))))
theorem e_spec_Hash (a0 : List Int) : EV.evF Yn TI FS_spec_Hash (an_spec_Hash) (bodyOf Tryz.f172) 22 [.sl 3] [.int .i64] false [.tmp 2] (a0) = m_spec_Hash a0 := by kernel_rfl
def S_spec_Hash : EV.Sum Un := ⟨[.sl 3], [.int .i64], false, false, fun (a : (List Int)) => gd (a.length ≤ 1099511627776) (some (hashI a))⟩
theorem en_spec_Hash (args : Array Value) (w : World) : (callFunc 172 args).run Tryz.prog w = .ok (.enter 172 args) w := by kernel_rfl
theorem s_spec_Hash : EV.SumOk Tryz.prog G0 Yn 172 S_spec_Hash := EV.sum_ok (an := fun _ => an_spec_Hash) (EV.good_cons s_spec_Mod good0) T.mix Tryz.func172 (cd := bodyOf Tryz.f172) rfl Tryz.ntmps172 (l := [.tmp 2]) rfl en_spec_Hash (by decide) rfl (fun (a : (List Int)) r hr => (e_spec_Hash a).trans (gd_use (t_spec_Hash a) hr))
abbrev FS_spec_KeyedHash : List (Nat × EV.Sum Un) := [(172, S_spec_Hash)]
open EV in
def an_spec_KeyedHash : An := (.s .n (.s .n .n))
theorem e_spec_KeyedHash (a0 : Int) (a1 : List Int) : EV.evF Yn TI FS_spec_KeyedHash (an_spec_KeyedHash) (bodyOf Tryz.f168) 13 [.int .i64, .sl 3] [.int .i64] false [.tmp 4] (a0, a1) = m_spec_KeyedHash a0 a1 := by kernel_rfl
def S_spec_KeyedHash : EV.Sum Un := ⟨[.int .i64, .sl 3], [.int .i64], false, false, fun (a : Int × (List Int)) => gd (a.2.length ≤ 34359738368) (some (keyedI a.1 a.2))⟩
theorem en_spec_KeyedHash (args : Array Value) (w : World) : (callFunc 168 args).run Tryz.prog w = .ok (.enter 168 args) w := by kernel_rfl
theorem s_spec_KeyedHash : EV.SumOk Tryz.prog G0 Yn 168 S_spec_KeyedHash := EV.sum_ok (an := fun _ => an_spec_KeyedHash) (EV.good_cons s_spec_Hash good0) T.mix Tryz.func168 (cd := bodyOf Tryz.f168) rfl Tryz.ntmps168 (l := [.tmp 4]) rfl en_spec_KeyedHash (by decide) rfl (fun (a : Int × (List Int)) r hr => (e_spec_KeyedHash a.1 a.2).trans (gd_use (t_spec_KeyedHash a.1 a.2) hr))
abbrev FS_spec_Max : List (Nat × EV.Sum Un) := []
open EV in
def an_spec_Max : An := (.s .n (.s (.s .n (.s (.s .n .n) .n)) (.s .n .n)))
theorem e_spec_Max (a0 : Int) (a1 : Int) : EV.evF Yn TI FS_spec_Max (an_spec_Max) (bodyOf Tryz.f167) 10 [.int .i64, .int .i64] [.int .i64] false [.tmp 4] (a0, a1) = m_spec_Max a0 a1 := by kernel_rfl
def S_spec_Max : EV.Sum Un := ⟨[.int .i64, .int .i64], [.int .i64], false, false, fun (a : Int × Int) => some (maxF a.1 a.2)⟩
theorem en_spec_Max (args : Array Value) (w : World) : (callFunc 167 args).run Tryz.prog w = .ok (.enter 167 args) w := by kernel_rfl
theorem s_spec_Max : EV.SumOk Tryz.prog G0 Yn 167 S_spec_Max := EV.sum_ok (an := fun _ => an_spec_Max) good0 T.mix Tryz.func167 (cd := bodyOf Tryz.f167) rfl Tryz.ntmps167 (l := [.tmp 4]) rfl en_spec_Max (by decide) rfl (fun (a : Int × Int) r hr => (e_spec_Max a.1 a.2).trans ((t_spec_Max a.1 a.2).trans hr))
abbrev FS_spec_DeriveKey : List (Nat × EV.Sum Un) := [(168, S_spec_KeyedHash), (167, S_spec_Max)]
open EV in
def an_spec_DeriveKey : An := (.s .n (.s .n .n))
theorem e_spec_DeriveKey (a0 : Int) (a1 : List Int) : EV.evF Yn TI FS_spec_DeriveKey (an_spec_DeriveKey) (bodyOf Tryz.f156) 11 [.int .i64, .sl 3] [.int .i64] false [.tmp 4] (a0, a1) = m_spec_DeriveKey a0 a1 := by kernel_rfl
def S_spec_DeriveKey : EV.Sum Un := ⟨[.int .i64, .sl 3], [.int .i64], false, false, fun (a : Int × (List Int)) => gd (a.2.length ≤ 34359738300) (some (deriveF a.1 a.2))⟩
theorem en_spec_DeriveKey (args : Array Value) (w : World) : (callFunc 156 args).run Tryz.prog w = .ok (.enter 156 args) w := by kernel_rfl
theorem s_spec_DeriveKey : EV.SumOk Tryz.prog G0 Yn 156 S_spec_DeriveKey := EV.sum_ok (an := fun _ => an_spec_DeriveKey) (EV.good_cons s_spec_KeyedHash (EV.good_cons s_spec_Max good0)) T.mix Tryz.func156 (cd := bodyOf Tryz.f156) rfl Tryz.ntmps156 (l := [.tmp 4]) rfl en_spec_DeriveKey (by decide) rfl (fun (a : Int × (List Int)) r hr => (e_spec_DeriveKey a.1 a.2).trans (gd_use (t_spec_DeriveKey a.1 a.2) hr))
abbrev FS_spec_l10Device : List (Nat × EV.Sum Un) := [(156, S_spec_DeriveKey)]
open EV in
def an_spec_l10Device : An := (.s .n (.s .n .n))
theorem e_spec_l10Device (a0 : D.KeyStore) : EV.evF Yn TI FS_spec_l10Device (an_spec_l10Device) (bodyOf Tryz.f134) 7 [.st 103] [.int .i64] false [.tmp 2] (a0) = m_spec_l10Device a0 := by kernel_rfl
def S_spec_l10Device : EV.Sum Un := ⟨[.st 103], [.int .i64], false, false, fun (a : D.KeyStore) => some (devKeyF a)⟩
theorem en_spec_l10Device (args : Array Value) (w : World) : (callFunc 134 args).run Tryz.prog w = .ok (.enter 134 args) w := by kernel_rfl
theorem s_spec_l10Device : EV.SumOk Tryz.prog G0 Yn 134 S_spec_l10Device := EV.sum_ok (an := fun _ => an_spec_l10Device) (EV.good_cons s_spec_DeriveKey good0) T.mix Tryz.func134 (cd := bodyOf Tryz.f134) rfl Tryz.ntmps134 (l := [.tmp 2]) rfl en_spec_l10Device (by decide) rfl (fun (a : D.KeyStore) r hr => (e_spec_l10Device a).trans ((t_spec_l10Device a).trans hr))
abbrev FS_spec_IsValidKey : List (Nat × EV.Sum Un) := [(64, S_spec_l1In)]
open EV in
def an_spec_IsValidKey : An := (.s .n (.s .n .n))
theorem e_spec_IsValidKey (a0 : Int) : EV.evF Yn TI FS_spec_IsValidKey (an_spec_IsValidKey) (bodyOf Tryz.f155) 5 [.int .i64] [.bool] false [.tmp 2] (a0) = m_spec_IsValidKey a0 := by kernel_rfl
def S_spec_IsValidKey : EV.Sum Un := ⟨[.int .i64], [.bool], false, false, fun (a : Int) => some (keyF a)⟩
theorem en_spec_IsValidKey (args : Array Value) (w : World) : (callFunc 155 args).run Tryz.prog w = .ok (.enter 155 args) w := by kernel_rfl
theorem s_spec_IsValidKey : EV.SumOk Tryz.prog G0 Yn 155 S_spec_IsValidKey := EV.sum_ok (an := fun _ => an_spec_IsValidKey) (EV.good_cons s_spec_l1In good0) T.mix Tryz.func155 (cd := bodyOf Tryz.f155) rfl Tryz.ntmps155 (l := [.tmp 2]) rfl en_spec_IsValidKey (by decide) rfl (fun (a : Int) r hr => (e_spec_IsValidKey a).trans ((t_spec_IsValidKey a).trans hr))
abbrev FS_spec_PublicKey : List (Nat × EV.Sum Un) := [(155, S_spec_IsValidKey)]
open EV in
def an_spec_PublicKey : An := (.s .n (.s (.s .n (.s (.s .n .n) .n)) (.s .n .n)))
theorem e_spec_PublicKey (a0 : Int) : EV.evF Yn TI FS_spec_PublicKey (an_spec_PublicKey) (bodyOf Tryz.f133) 9 [.int .i64] [.int .i64] false [.tmp 2] (a0) = m_spec_PublicKey a0 := by kernel_rfl
def S_spec_PublicKey : EV.Sum Un := ⟨[.int .i64], [.int .i64], false, false, fun (a : Int) => some (publicF a)⟩
theorem en_spec_PublicKey (args : Array Value) (w : World) : (callFunc 133 args).run Tryz.prog w = .ok (.enter 133 args) w := by kernel_rfl
theorem s_spec_PublicKey : EV.SumOk Tryz.prog G0 Yn 133 S_spec_PublicKey := EV.sum_ok (an := fun _ => an_spec_PublicKey) (EV.good_cons s_spec_IsValidKey good0) T.mix Tryz.func133 (cd := bodyOf Tryz.f133) rfl Tryz.ntmps133 (l := [.tmp 2]) rfl en_spec_PublicKey (by decide) rfl (fun (a : Int) r hr => (e_spec_PublicKey a).trans ((t_spec_PublicKey a).trans hr))
abbrev FS_spec_DevicePublic : List (Nat × EV.Sum Un) := [(134, S_spec_l10Device), (133, S_spec_PublicKey)]
open EV in
def an_spec_DevicePublic : An := (.s .n (.s .n .n))
theorem e_spec_DevicePublic (a0 : D.KeyStore) : EV.evF Yn TI FS_spec_DevicePublic (an_spec_DevicePublic) (bodyOf Tryz.f90) 6 [.st 103] [.int .i64] false [.tmp 2] (a0) = m_spec_DevicePublic a0 := by kernel_rfl
def S_spec_DevicePublic : EV.Sum Un := ⟨[.st 103], [.int .i64], false, false, fun (a : D.KeyStore) => some (devPubF a)⟩
theorem en_spec_DevicePublic (args : Array Value) (w : World) : (callFunc 90 args).run Tryz.prog w = .ok (.enter 90 args) w := by kernel_rfl
theorem s_spec_DevicePublic : EV.SumOk Tryz.prog G0 Yn 90 S_spec_DevicePublic := EV.sum_ok (an := fun _ => an_spec_DevicePublic) (EV.good_cons s_spec_l10Device (EV.good_cons s_spec_PublicKey good0)) T.mix Tryz.func90 (cd := bodyOf Tryz.f90) rfl Tryz.ntmps90 (l := [.tmp 2]) rfl en_spec_DevicePublic (by decide) rfl (fun (a : D.KeyStore) r hr => (e_spec_DevicePublic a).trans ((t_spec_DevicePublic a).trans hr))
abbrev FS_spec_InList : List (Nat × EV.Sum Un) := [(64, S_spec_l1In), (89, S_spec_DevicesOf), (90, S_spec_DevicePublic), (88, S_spec_l19Has)]
open EV in
def an_spec_InList : An := (.s .n (.s (.rj 7 ⟨[(4, 1), (6, 14)], [.dat (.s 4) (.bool)], [], []⟩ (.r none [(0, true), (1, true), (2, true), (3, true), (4, true), (5, false), (6, true), (7, true), (8, true), (9, true), (11, true), (12, true), (13, true), (14, true), (15, true), (16, true), (10, false), (17, false), (18, false), (19, true), (20, true)])) .n))
theorem e_spec_InList (a0 : D.World) (a1 : Int) : EV.evF Yn TI FS_spec_InList (an_spec_InList) (bodyOf Tryz.f50) 25 [.st 59, .int .i64] [.bool] false [.tmp 4] (a0, a1) = m_spec_InList a0 a1 := by kernel_rfl
def S_spec_InList : EV.Sum Un := ⟨[.st 59, .int .i64], [.bool], false, false, fun (a : D.World × Int) => gd (WOk a.1) (some (inListF a.1 a.2))⟩
theorem en_spec_InList (args : Array Value) (w : World) : (callFunc 50 args).run Tryz.prog w = .ok (.enter 50 args) w := by kernel_rfl
theorem s_spec_InList : EV.SumOk Tryz.prog G0 Yn 50 S_spec_InList := EV.sum_ok (an := fun _ => an_spec_InList) (EV.good_cons s_spec_l1In (EV.good_cons s_spec_DevicesOf (EV.good_cons s_spec_DevicePublic (EV.good_cons s_spec_l19Has good0)))) T.mix Tryz.func50 (cd := bodyOf Tryz.f50) rfl Tryz.ntmps50 (l := [.tmp 4]) rfl en_spec_InList (by decide) rfl (fun (a : D.World × Int) r hr => (e_spec_InList a.1 a.2).trans (gd_use (t_spec_InList a.1 a.2) hr))
abbrev FS_spec_ReachableDevices : List (Nat × EV.Sum Un) := [(50, S_spec_InList)]
open EV in
def an_spec_ReachableDevices : An := (.s .n (.s .n (.s (.j ⟨[(3, 2), (1, 29)], [.tr (.s 3) 1 3 true], [], []⟩ (.s .n (.s (.l ⟨[(3, 2), (1, 29)], [.tr (.s 3) 1 3 true, .dat (.s 4) (.int .i64)], [], []⟩ FUEL (.s (.s (.rj 6 ⟨[(11, 7)], [.dat (.s 17) (.bool)], [], []⟩ .n) (.s .n .n)) (.s (.j ⟨[(3, 1), (16, 15)], [.tr (.s 3) 1 3 true], [], []⟩ (.s (.s (.rj 4 ⟨[(23, 8)], [.dat (.s 30) (.bool)], [], []⟩ .n) (.s .n .n)) .n)) .n))) .n))) (.s .n .n))))
theorem e_spec_ReachableDevices (a0 : D.World) : EV.evF Yn TI FS_spec_ReachableDevices (an_spec_ReachableDevices) (bodyOf Tryz.f15) 36 [.st 59] [.sl 3] true [.tmp 2] (a0) = m_spec_ReachableDevices a0 := by kernel_rfl
def S_spec_ReachableDevices : EV.Sum Un := ⟨[.st 59], [.sl 3], true, false, fun (a : D.World) => gd (WOk a) (some (reachF a))⟩
theorem en_spec_ReachableDevices (args : Array Value) (w : World) : (callFunc 15 args).run Tryz.prog w = .ok (.enter 15 args) w := by kernel_rfl
theorem s_spec_ReachableDevices : EV.SumOk Tryz.prog G0 Yn 15 S_spec_ReachableDevices := EV.sum_ok (an := fun _ => an_spec_ReachableDevices) (EV.good_cons s_spec_InList good0) T.mix Tryz.func15 (cd := bodyOf Tryz.f15) rfl Tryz.ntmps15 (l := [.tmp 2]) rfl en_spec_ReachableDevices (by decide) rfl (fun (a : D.World) r hr => (e_spec_ReachableDevices a).trans (gd_use (t_spec_ReachableDevices a) hr))
abbrev FS_impl_hasDevice : List (Nat × EV.Sum Un) := []
open EV in
def an_impl_hasDevice : An := (.s .n (.s (.rj 3 ⟨[(4, 1), (2, 7)], [.dat (.s 4) (.bool)], [], []⟩ .n) .n))
theorem e_impl_hasDevice (a0 : D.World) (a1 : Int) : EV.evF Yn TI FS_impl_hasDevice (an_impl_hasDevice) (bodyOf Tryz.f91) 14 [.st 59, .int .i64] [.bool] false [.tmp 4] (a0, a1) = m_impl_hasDevice a0 a1 := by kernel_rfl
def S_impl_hasDevice : EV.Sum Un := ⟨[.st 59, .int .i64], [.bool], false, false, fun (a : D.World × Int) => some (hasDevF a.1 a.2)⟩
theorem en_impl_hasDevice (args : Array Value) (w : World) : (callFunc 91 args).run Tryz.prog w = .ok (.enter 91 args) w := by kernel_rfl
theorem s_impl_hasDevice : EV.SumOk Tryz.prog G0 Yn 91 S_impl_hasDevice := EV.sum_ok (an := fun _ => an_impl_hasDevice) good0 T.mix Tryz.func91 (cd := bodyOf Tryz.f91) rfl Tryz.ntmps91 (l := [.tmp 4]) rfl en_impl_hasDevice (by decide) rfl (fun (a : D.World × Int) r hr => (e_impl_hasDevice a.1 a.2).trans ((t_impl_hasDevice a.1 a.2).trans hr))
abbrev FS_impl_has : List (Nat × EV.Sum Un) := []
open EV in
def an_impl_has : An := (.s .n (.s (.jx ⟨[(4, 1), (1, 11)], [], [], []⟩ (.s .n (.s (.l ⟨[(4, 1), (1, 1), (2, 8)], [.nat (.s 9)], [], []⟩ FUEL (.s .n (.s (.s .n .n) (.s (.s (.s .n (.s .n (.s (.s .n .n) .n))) .n) .n)))) .n))) (.s .n .n)))
theorem e_impl_has (a0 : List Int) (a1 : Int) : EV.evF Yn TI FS_impl_has (an_impl_has) (bodyOf Tryz.f92) 17 [.sl 3, .int .i64] [.bool] false [.tmp 4] (a0, a1) = m_impl_has a0 a1 := by kernel_rfl
def S_impl_has : EV.Sum Un := ⟨[.sl 3, .int .i64], [.bool], false, false, fun (a : (List Int) × Int) => gd (a.1.length ≤ 1099511627776) (some (hasF a.1 a.2))⟩
theorem en_impl_has (args : Array Value) (w : World) : (callFunc 92 args).run Tryz.prog w = .ok (.enter 92 args) w := by kernel_rfl
theorem s_impl_has : EV.SumOk Tryz.prog G0 Yn 92 S_impl_has := EV.sum_ok (an := fun _ => an_impl_has) good0 T.mix Tryz.func92 (cd := bodyOf Tryz.f92) rfl Tryz.ntmps92 (l := [.tmp 4]) rfl en_impl_has (by decide) rfl (fun (a : (List Int) × Int) r hr => (e_impl_has a.1 a.2).trans (gd_use (t_impl_has a.1 a.2) hr))
abbrev FS_impl_DevicesOf : List (Nat × EV.Sum Un) := [(92, S_impl_has)]
open EV in
def an_impl_DevicesOf : An := (.s .n (.s .n (.s (.j ⟨[(3, 1), (1, 2), (1, 1), (1, 40)], [.tr (.s 3) 0 3 true], [], []⟩ (.s .n (.s (.l ⟨[(3, 1), (1, 2), (1, 1), (3, 38)], [.tr (.s 3) 0 3 true, .nat (.s 12)], [], []⟩ FUEL (.s .n (.s (.s .n .n) (.s (.j ⟨[(3, 1), (1, 2), (1, 1), (5, 35)], [.tr (.s 3) 0 3 true], [], []⟩ (.s (.s .n (.s .n (.s (.s .n (.s (.s .n (.s .n .n)) (.s .n (.s (.s .n (.s (.j ⟨[(6, 1), (1, 1), (24, 15)], [.tr (.s 6) 2 3 true], [], []⟩ (.s .n (.s (.l ⟨[(6, 1), (1, 1), (26, 13)], [.tr (.s 6) 2 3 true, .nat (.s 35)], [], []⟩ FUEL (.s .n (.s (.s .n .n) (.s (.j ⟨[(6, 1), (1, 1), (28, 10)], [.tr (.s 6) 2 3 true], [], []⟩ (.s (.s .n (.s .n (.s .n .n))) .n)) .n)))) .n))) .n)) .n)))) .n))) .n)) .n)))) .n))) (.s .n .n))))
theorem e_impl_DevicesOf (a0 : List D.LogEntry) : EV.evF Yn TI FS_impl_DevicesOf (an_impl_DevicesOf) (bodyOf Tryz.f93) 51 [.sl 196] [.sl 3] true [.tmp 2] (a0) = m_impl_DevicesOf a0 := by kernel_rfl
def S_impl_DevicesOf : EV.Sum Un := ⟨[.sl 196], [.sl 3], true, false, fun (a : (List D.LogEntry)) => gd (a.length ≤ 34359738368) (some (devicesOfF a))⟩
theorem en_impl_DevicesOf (args : Array Value) (w : World) : (callFunc 93 args).run Tryz.prog w = .ok (.enter 93 args) w := by kernel_rfl
theorem s_impl_DevicesOf : EV.SumOk Tryz.prog G0 Yn 93 S_impl_DevicesOf := EV.sum_ok (an := fun _ => an_impl_DevicesOf) (EV.good_cons s_impl_has good0) T.mix Tryz.func93 (cd := bodyOf Tryz.f93) rfl Tryz.ntmps93 (l := [.tmp 2]) rfl en_impl_DevicesOf (by decide) rfl (fun (a : (List D.LogEntry)) r hr => (e_impl_DevicesOf a).trans (gd_use (t_impl_DevicesOf a) hr))
abbrev FS_impl_joined : List (Nat × EV.Sum Un) := []
open EV in
def an_impl_joined : An := (.s .n (.s .n (.s (.j ⟨[(5, 1), (1, 1), (3, 10)], [.tr (.s 5) 0 3 true], [], []⟩ (.s .n (.s (.l ⟨[(5, 1), (1, 1), (5, 8)], [.tr (.s 5) 0 3 true, .nat (.s 13)], [], []⟩ FUEL (.s .n (.s (.s .n .n) (.s (.s (.s .n .n) .n) .n)))) .n))) (.s .n .n))))
theorem e_impl_joined (a0 : List Int) (a1 : List (List Int)) : EV.evF Yn TI FS_impl_joined (an_impl_joined) (bodyOf Tryz.f160) 22 [.sl 3, .sl 41] [.sl 3] true [.tmp 4] (a0, a1) = m_impl_joined a0 a1 := by kernel_rfl
def S_impl_joined : EV.Sum Un := ⟨[.sl 3, .sl 41], [.sl 3], true, false, fun (a : (List Int) × (List (List Int))) => gd (a.1.length + a.2.flatten.length ≤ 68719476736 ∧ a.2.length ≤ 1099511627776) (some (joinF a.1 a.2))⟩
theorem en_impl_joined (args : Array Value) (w : World) : (callFunc 160 args).run Tryz.prog w = .ok (.enter 160 args) w := by kernel_rfl
theorem s_impl_joined : EV.SumOk Tryz.prog G0 Yn 160 S_impl_joined := EV.sum_ok (an := fun _ => an_impl_joined) good0 T.mix Tryz.func160 (cd := bodyOf Tryz.f160) rfl Tryz.ntmps160 (l := [.tmp 4]) rfl en_impl_joined (by decide) rfl (fun (a : (List Int) × (List (List Int))) r hr => (e_impl_joined a.1 a.2).trans (gd_use (t_impl_joined a.1 a.2) hr))
abbrev FS_impl_Mod : List (Nat × EV.Sum Un) := []
open EV in
def an_impl_Mod : An := (.s .n (.s (.s (.rj 3 ⟨[(8, 4)], [.dat (.s 11) (.bool)], [], []⟩ .n) (.s (.s .n .n) .n)) (.s .n (.s (.j ⟨[(5, 1), (9, 5)], [.dat (.s 5) (.int .i64)], [], []⟩ (.s .n (.s .n .n))) (.s .n .n)))))
theorem e_impl_Mod (a0 : Int) (a1 : Int) : EV.evF Yn TI FS_impl_Mod (an_impl_Mod) (bodyOf Tryz.f173) 21 [.int .i64, .int .i64] [.int .i64] false [.tmp 4] (a0, a1) = m_impl_Mod a0 a1 := by kernel_rfl
def S_impl_Mod : EV.Sum Un := ⟨[.int .i64, .int .i64], [.int .i64], false, false, fun (a : Int × Int) => some (modI a.1 a.2)⟩
theorem en_impl_Mod (args : Array Value) (w : World) : (callFunc 173 args).run Tryz.prog w = .ok (.enter 173 args) w := by kernel_rfl
theorem s_impl_Mod : EV.SumOk Tryz.prog G0 Yn 173 S_impl_Mod := EV.sum_ok (an := fun _ => an_impl_Mod) good0 T.mix Tryz.func173 (cd := bodyOf Tryz.f173) rfl Tryz.ntmps173 (l := [.tmp 4]) rfl en_impl_Mod (by decide) rfl (fun (a : Int × Int) r hr => (e_impl_Mod a.1 a.2).trans ((t_impl_Mod a.1 a.2).trans hr))
abbrev FS_impl_Hash : List (Nat × EV.Sum Un) := [(173, S_impl_Mod)]
open EV in
def an_impl_Hash : An := (.s .n (.s .n (.s (.j ⟨[(3, 1), (1, 15)], [.dat (.s 3) (.int .i64)], [], []⟩ (.s .n (.s (.l ⟨[(3, 1), (1, 1), (2, 12)], [.dat (.s 3) (.int .i64), .nat (.s 8)], [], []⟩ FUEL (.s .n (.s (.s .n .n) (.s (.s (.s .n .n) .n) .n)))) .n))) (.s .n .n))))
theorem e_impl_Hash (a0 : List Int) : EV.evF Yn TI FS_impl_Hash (an_impl_Hash) (bodyOf Tryz.f169) 21 [.sl 3] [.int .i64] false [.tmp 2] (a0) = m_impl_Hash a0 := by kernel_rfl
def S_impl_Hash : EV.Sum Un := ⟨[.sl 3], [.int .i64], false, false, fun (a : (List Int)) => gd (a.length ≤ 1099511627776) (some (hashI a))⟩
theorem en_impl_Hash (args : Array Value) (w : World) : (callFunc 169 args).run Tryz.prog w = .ok (.enter 169 args) w := by kernel_rfl
theorem s_impl_Hash : EV.SumOk Tryz.prog G0 Yn 169 S_impl_Hash := EV.sum_ok (an := fun _ => an_impl_Hash) (EV.good_cons s_impl_Mod good0) T.mix Tryz.func169 (cd := bodyOf Tryz.f169) rfl Tryz.ntmps169 (l := [.tmp 2]) rfl en_impl_Hash (by decide) rfl (fun (a : (List Int)) r hr => (e_impl_Hash a).trans (gd_use (t_impl_Hash a) hr))
abbrev FS_impl_KeyedHash : List (Nat × EV.Sum Un) := [(160, S_impl_joined), (169, S_impl_Hash)]
open EV in
def an_impl_KeyedHash : An := (.s .n (.s .n .n))
theorem e_impl_KeyedHash (a0 : Int) (a1 : List Int) : EV.evF Yn TI FS_impl_KeyedHash (an_impl_KeyedHash) (bodyOf Tryz.f159) 13 [.int .i64, .sl 3] [.int .i64] false [.tmp 4] (a0, a1) = m_impl_KeyedHash a0 a1 := by kernel_rfl
def S_impl_KeyedHash : EV.Sum Un := ⟨[.int .i64, .sl 3], [.int .i64], false, false, fun (a : Int × (List Int)) => gd (a.2.length ≤ 34359738368) (some (keyedI a.1 a.2))⟩
theorem en_impl_KeyedHash (args : Array Value) (w : World) : (callFunc 159 args).run Tryz.prog w = .ok (.enter 159 args) w := by kernel_rfl
theorem s_impl_KeyedHash : EV.SumOk Tryz.prog G0 Yn 159 S_impl_KeyedHash := EV.sum_ok (an := fun _ => an_impl_KeyedHash) (EV.good_cons s_impl_joined (EV.good_cons s_impl_Hash good0)) T.mix Tryz.func159 (cd := bodyOf Tryz.f159) rfl Tryz.ntmps159 (l := [.tmp 4]) rfl en_impl_KeyedHash (by decide) rfl (fun (a : Int × (List Int)) r hr => (e_impl_KeyedHash a.1 a.2).trans (gd_use (t_impl_KeyedHash a.1 a.2) hr))
abbrev FS_impl_orOne : List (Nat × EV.Sum Un) := []
open EV in
def an_impl_orOne : An := (.s .n (.s (.s .n (.s (.s .n .n) .n)) (.s .n .n)))
theorem e_impl_orOne (a0 : Int) : EV.evF Yn TI FS_impl_orOne (an_impl_orOne) (bodyOf Tryz.f158) 6 [.int .i64] [.int .i64] false [.tmp 2] (a0) = m_impl_orOne a0 := by kernel_rfl
def S_impl_orOne : EV.Sum Un := ⟨[.int .i64], [.int .i64], false, false, fun (a : Int) => some (orOneF a)⟩
theorem en_impl_orOne (args : Array Value) (w : World) : (callFunc 158 args).run Tryz.prog w = .ok (.enter 158 args) w := by kernel_rfl
theorem s_impl_orOne : EV.SumOk Tryz.prog G0 Yn 158 S_impl_orOne := EV.sum_ok (an := fun _ => an_impl_orOne) good0 T.mix Tryz.func158 (cd := bodyOf Tryz.f158) rfl Tryz.ntmps158 (l := [.tmp 2]) rfl en_impl_orOne (by decide) rfl (fun (a : Int) r hr => (e_impl_orOne a).trans ((t_impl_orOne a).trans hr))
abbrev FS_impl_DeriveKey : List (Nat × EV.Sum Un) := [(160, S_impl_joined), (159, S_impl_KeyedHash), (158, S_impl_orOne)]
open EV in
def an_impl_DeriveKey : An := (.s .n (.s .n .n))
theorem e_impl_DeriveKey (a0 : Int) (a1 : List Int) : EV.evF Yn TI FS_impl_DeriveKey (an_impl_DeriveKey) (bodyOf Tryz.f136) 12 [.int .i64, .sl 3] [.int .i64] false [.tmp 4] (a0, a1) = m_impl_DeriveKey a0 a1 := by kernel_rfl
def S_impl_DeriveKey : EV.Sum Un := ⟨[.int .i64, .sl 3], [.int .i64], false, false, fun (a : Int × (List Int)) => gd (a.2.length ≤ 34359738300) (some (deriveF a.1 a.2))⟩
theorem en_impl_DeriveKey (args : Array Value) (w : World) : (callFunc 136 args).run Tryz.prog w = .ok (.enter 136 args) w := by kernel_rfl
theorem s_impl_DeriveKey : EV.SumOk Tryz.prog G0 Yn 136 S_impl_DeriveKey := EV.sum_ok (an := fun _ => an_impl_DeriveKey) (EV.good_cons s_impl_joined (EV.good_cons s_impl_KeyedHash (EV.good_cons s_impl_orOne good0))) T.mix Tryz.func136 (cd := bodyOf Tryz.f136) rfl Tryz.ntmps136 (l := [.tmp 4]) rfl en_impl_DeriveKey (by decide) rfl (fun (a : Int × (List Int)) r hr => (e_impl_DeriveKey a.1 a.2).trans (gd_use (t_impl_DeriveKey a.1 a.2) hr))
abbrev FS_impl_InRange : List (Nat × EV.Sum Un) := []
open EV in
def an_impl_InRange : An := (.s .n (.s (.rj 4 ⟨[(6, 1), (3, 5)], [.dat (.s 6) (.bool)], [], []⟩ .n) .n))
theorem e_impl_InRange (a0 : Int) (a1 : Int) (a2 : Int) : EV.evF Yn TI FS_impl_InRange (an_impl_InRange) (bodyOf Tryz.f138) 15 [.int .i64, .int .i64, .int .i64] [.bool] false [.tmp 6] (a0, a1, a2) = m_impl_InRange a0 a1 a2 := by kernel_rfl
def S_impl_InRange : EV.Sum Un := ⟨[.int .i64, .int .i64, .int .i64], [.bool], false, false, fun (a : Int × Int × Int) => some (inR a.1 a.2.1 a.2.2)⟩
theorem en_impl_InRange (args : Array Value) (w : World) : (callFunc 138 args).run Tryz.prog w = .ok (.enter 138 args) w := by kernel_rfl
theorem s_impl_InRange : EV.SumOk Tryz.prog G0 Yn 138 S_impl_InRange := EV.sum_ok (an := fun _ => an_impl_InRange) good0 T.mix Tryz.func138 (cd := bodyOf Tryz.f138) rfl Tryz.ntmps138 (l := [.tmp 6]) rfl en_impl_InRange (by decide) rfl (fun (a : Int × Int × Int) r hr => (e_impl_InRange a.1 a.2.1 a.2.2).trans ((t_impl_InRange a.1 a.2.1 a.2.2).trans hr))
abbrev FS_impl_IsValidKey : List (Nat × EV.Sum Un) := [(138, S_impl_InRange)]
open EV in
def an_impl_IsValidKey : An := (.s .n (.s .n .n))
theorem e_impl_IsValidKey (a0 : Int) : EV.evF Yn TI FS_impl_IsValidKey (an_impl_IsValidKey) (bodyOf Tryz.f157) 5 [.int .i64] [.bool] false [.tmp 2] (a0) = m_impl_IsValidKey a0 := by kernel_rfl
def S_impl_IsValidKey : EV.Sum Un := ⟨[.int .i64], [.bool], false, false, fun (a : Int) => some (keyF a)⟩
theorem en_impl_IsValidKey (args : Array Value) (w : World) : (callFunc 157 args).run Tryz.prog w = .ok (.enter 157 args) w := by kernel_rfl
theorem s_impl_IsValidKey : EV.SumOk Tryz.prog G0 Yn 157 S_impl_IsValidKey := EV.sum_ok (an := fun _ => an_impl_IsValidKey) (EV.good_cons s_impl_InRange good0) T.mix Tryz.func157 (cd := bodyOf Tryz.f157) rfl Tryz.ntmps157 (l := [.tmp 2]) rfl en_impl_IsValidKey (by decide) rfl (fun (a : Int) r hr => (e_impl_IsValidKey a).trans ((t_impl_IsValidKey a).trans hr))
abbrev FS_impl_PublicKey : List (Nat × EV.Sum Un) := [(157, S_impl_IsValidKey)]
open EV in
def an_impl_PublicKey : An := (.s .n (.s (.s .n (.s (.s .n .n) .n)) (.s .n .n)))
theorem e_impl_PublicKey (a0 : Int) : EV.evF Yn TI FS_impl_PublicKey (an_impl_PublicKey) (bodyOf Tryz.f135) 9 [.int .i64] [.int .i64] false [.tmp 2] (a0) = m_impl_PublicKey a0 := by kernel_rfl
def S_impl_PublicKey : EV.Sum Un := ⟨[.int .i64], [.int .i64], false, false, fun (a : Int) => some (publicF a)⟩
theorem en_impl_PublicKey (args : Array Value) (w : World) : (callFunc 135 args).run Tryz.prog w = .ok (.enter 135 args) w := by kernel_rfl
theorem s_impl_PublicKey : EV.SumOk Tryz.prog G0 Yn 135 S_impl_PublicKey := EV.sum_ok (an := fun _ => an_impl_PublicKey) (EV.good_cons s_impl_IsValidKey good0) T.mix Tryz.func135 (cd := bodyOf Tryz.f135) rfl Tryz.ntmps135 (l := [.tmp 2]) rfl en_impl_PublicKey (by decide) rfl (fun (a : Int) r hr => (e_impl_PublicKey a).trans ((t_impl_PublicKey a).trans hr))
abbrev FS_impl_DevicePublic : List (Nat × EV.Sum Un) := [(136, S_impl_DeriveKey), (135, S_impl_PublicKey)]
open EV in
def an_impl_DevicePublic : An := (.s .n (.s .n .n))
theorem e_impl_DevicePublic (a0 : D.KeyStore) : EV.evF Yn TI FS_impl_DevicePublic (an_impl_DevicePublic) (bodyOf Tryz.f94) 8 [.st 103] [.int .i64] false [.tmp 2] (a0) = m_impl_DevicePublic a0 := by kernel_rfl
def S_impl_DevicePublic : EV.Sum Un := ⟨[.st 103], [.int .i64], false, false, fun (a : D.KeyStore) => some (devPubF a)⟩
theorem en_impl_DevicePublic (args : Array Value) (w : World) : (callFunc 94 args).run Tryz.prog w = .ok (.enter 94 args) w := by kernel_rfl
theorem s_impl_DevicePublic : EV.SumOk Tryz.prog G0 Yn 94 S_impl_DevicePublic := EV.sum_ok (an := fun _ => an_impl_DevicePublic) (EV.good_cons s_impl_DeriveKey (EV.good_cons s_impl_PublicKey good0)) T.mix Tryz.func94 (cd := bodyOf Tryz.f94) rfl Tryz.ntmps94 (l := [.tmp 2]) rfl en_impl_DevicePublic (by decide) rfl (fun (a : D.KeyStore) r hr => (e_impl_DevicePublic a).trans ((t_impl_DevicePublic a).trans hr))
abbrev FS_impl_InList : List (Nat × EV.Sum Un) := [(91, S_impl_hasDevice), (93, S_impl_DevicesOf), (94, S_impl_DevicePublic), (92, S_impl_has)]
open EV in
def an_impl_InList : An := (.s .n (.s (.rj 4 ⟨[(4, 1), (3, 14)], [.dat (.s 4) (.bool)], [], []⟩ (.r none [(0, true), (1, true), (2, false), (3, true), (4, true), (5, true), (6, true), (8, true), (9, true), (10, true), (11, true), (12, true), (13, true), (7, false), (14, false), (15, false), (16, true), (17, true)])) .n))
theorem e_impl_InList (a0 : D.World) (a1 : Int) : EV.evF Yn TI FS_impl_InList (an_impl_InList) (bodyOf Tryz.f51) 22 [.st 59, .int .i64] [.bool] false [.tmp 4] (a0, a1) = m_impl_InList a0 a1 := by kernel_rfl
def S_impl_InList : EV.Sum Un := ⟨[.st 59, .int .i64], [.bool], false, false, fun (a : D.World × Int) => gd (WOk a.1) (some (inListF a.1 a.2))⟩
theorem en_impl_InList (args : Array Value) (w : World) : (callFunc 51 args).run Tryz.prog w = .ok (.enter 51 args) w := by kernel_rfl
theorem s_impl_InList : EV.SumOk Tryz.prog G0 Yn 51 S_impl_InList := EV.sum_ok (an := fun _ => an_impl_InList) (EV.good_cons s_impl_hasDevice (EV.good_cons s_impl_DevicesOf (EV.good_cons s_impl_DevicePublic (EV.good_cons s_impl_has good0)))) T.mix Tryz.func51 (cd := bodyOf Tryz.f51) rfl Tryz.ntmps51 (l := [.tmp 4]) rfl en_impl_InList (by decide) rfl (fun (a : D.World × Int) r hr => (e_impl_InList a.1 a.2).trans (gd_use (t_impl_InList a.1 a.2) hr))
abbrev FS_impl_ReachableDevices : List (Nat × EV.Sum Un) := [(51, S_impl_InList)]
open EV in
def an_impl_ReachableDevices : An := (.s .n (.s .n (.s (.j ⟨[(3, 2), (1, 29)], [.tr (.s 3) 1 3 true], [], []⟩ (.s .n (.s (.l ⟨[(3, 2), (4, 26)], [.tr (.s 3) 1 3 true, .nat (.s 9)], [], []⟩ FUEL (.s .n (.s (.s .n .n) (.s (.j ⟨[(3, 2), (6, 23)], [.tr (.s 3) 1 3 true], [], []⟩ (.s (.s .n (.s (.rj 4 ⟨[(15, 15)], [.dat (.s 29) (.bool)], [], []⟩ .n) (.s .n .n))) .n)) .n)))) .n))) (.s .n .n))))
theorem e_impl_ReachableDevices (a0 : D.World) : EV.evF Yn TI FS_impl_ReachableDevices (an_impl_ReachableDevices) (bodyOf Tryz.f16) 36 [.st 59] [.sl 3] true [.tmp 2] (a0) = m_impl_ReachableDevices a0 := by kernel_rfl
def S_impl_ReachableDevices : EV.Sum Un := ⟨[.st 59], [.sl 3], true, false, fun (a : D.World) => gd (WOk a) (some (reachF a))⟩
theorem en_impl_ReachableDevices (args : Array Value) (w : World) : (callFunc 16 args).run Tryz.prog w = .ok (.enter 16 args) w := by kernel_rfl
theorem s_impl_ReachableDevices : EV.SumOk Tryz.prog G0 Yn 16 S_impl_ReachableDevices := EV.sum_ok (an := fun _ => an_impl_ReachableDevices) (EV.good_cons s_impl_InList good0) T.mix Tryz.func16 (cd := bodyOf Tryz.f16) rfl Tryz.ntmps16 (l := [.tmp 2]) rfl en_impl_ReachableDevices (by decide) rfl (fun (a : D.World) r hr => (e_impl_ReachableDevices a).trans (gd_use (t_impl_ReachableDevices a) hr))
abbrev FS_spec_l17Less : List (Nat × EV.Sum Un) := []
open EV in
def an_spec_l17Less : An := (.s .n (.s (.rj 5 ⟨[(6, 1), (4, 12)], [.dat (.s 6) (.bool)], [], []⟩ .n) .n))
theorem e_spec_l17Less (a0 : D.Entry) (a1 : Int) (a2 : Int) : EV.evF Yn TI FS_spec_l17Less (an_spec_l17Less) (bodyOf Tryz.f137) 23 [.st 180, .int .i64, .int .i64] [.bool] false [.tmp 6] (a0, a1, a2) = m_spec_l17Less a0 a1 a2 := by kernel_rfl
def S_spec_l17Less : EV.Sum Un := ⟨[.st 180, .int .i64, .int .i64], [.bool], false, false, fun (a : D.Entry × Int × Int) => some (lessF a.1 a.2.1 a.2.2)⟩
theorem en_spec_l17Less (args : Array Value) (w : World) : (callFunc 137 args).run Tryz.prog w = .ok (.enter 137 args) w := by kernel_rfl
theorem s_spec_l17Less : EV.SumOk Tryz.prog G0 Yn 137 S_spec_l17Less := EV.sum_ok (an := fun _ => an_spec_l17Less) good0 T.mix Tryz.func137 (cd := bodyOf Tryz.f137) rfl Tryz.ntmps137 (l := [.tmp 6]) rfl en_spec_l17Less (by decide) rfl (fun (a : D.Entry × Int × Int) r hr => (e_spec_l17Less a.1 a.2.1 a.2.2).trans ((t_spec_l17Less a.1 a.2.1 a.2.2).trans hr))
abbrev FS_spec_IsBundle : List (Nat × EV.Sum Un) := [(64, S_spec_l1In), (137, S_spec_l17Less)]
open EV in
def an_spec_IsBundle : An := (.s .n (.s (.jx ⟨[(2, 49)], [], [], []⟩ (.s .n (.s (.l ⟨[(2, 49)], [.nat (.s 3)], [], []⟩ FUEL (.s (.s .n (.s .n .n)) (.s (.s (.s .n (.s (.rj 5 ⟨[(21, 30)], [.dat (.s 50) (.bool)], [], []⟩ (.r none [(0, true), (1, true), (2, false), (3, true), (4, true), (5, true), (6, true), (7, false), (8, true), (9, true), (10, true), (11, true), (12, true), (13, false), (14, true), (15, true), (16, true), (17, true), (18, true), (19, true), (20, true), (21, true), (22, true), (23, true), (24, true), (25, true), (26, true), (27, true), (28, true), (29, true), (30, false), (31, true), (32, true), (33, true)])) (.s (.s .n .n) .n))) .n) .n))) .n))) (.s .n .n)))
theorem e_spec_IsBundle (a0 : D.Bundle) : EV.evF Yn TI FS_spec_IsBundle (an_spec_IsBundle) (bodyOf Tryz.f95) 55 [.st 69] [.bool] false [.tmp 2] (a0) = m_spec_IsBundle a0 := by kernel_rfl
def S_spec_IsBundle : EV.Sum Un := ⟨[.st 69], [.bool], false, false, fun (a : D.Bundle) => gd (a.sz ≤ 34359738368) (some (bundleOkF a))⟩
theorem en_spec_IsBundle (args : Array Value) (w : World) : (callFunc 95 args).run Tryz.prog w = .ok (.enter 95 args) w := by kernel_rfl
theorem s_spec_IsBundle : EV.SumOk Tryz.prog G0 Yn 95 S_spec_IsBundle := EV.sum_ok (an := fun _ => an_spec_IsBundle) (EV.good_cons s_spec_l1In (EV.good_cons s_spec_l17Less good0)) T.mix Tryz.func95 (cd := bodyOf Tryz.f95) rfl Tryz.ntmps95 (l := [.tmp 2]) rfl en_spec_IsBundle (by decide) rfl (fun (a : D.Bundle) r hr => (e_spec_IsBundle a).trans (gd_use (t_spec_IsBundle a) hr))
abbrev FS_spec_l17Copy : List (Nat × EV.Sum Un) := []
open EV in
def an_spec_l17Copy : An := (.s .n (.s .n .n))
theorem e_spec_l17Copy (a0 : D.Bundle) : EV.evF Yn TI FS_spec_l17Copy (an_spec_l17Copy) (bodyOf Tryz.f96) 8 [.st 69] [.st 69] true [.cell 2 69] (a0) = m_spec_l17Copy a0 := by kernel_rfl
def S_spec_l17Copy : EV.Sum Un := ⟨[.st 69], [.st 69], true, false, fun (a : D.Bundle) => gd (a.sz ≤ 34359738368) (some (a))⟩
theorem en_spec_l17Copy (args : Array Value) (w : World) : (callFunc 96 args).run Tryz.prog w = .ok (.enter 96 args) w := by kernel_rfl
theorem s_spec_l17Copy : EV.SumOk Tryz.prog G0 Yn 96 S_spec_l17Copy := EV.sum_ok (an := fun _ => an_spec_l17Copy) good0 T.mix Tryz.func96 (cd := bodyOf Tryz.f96) rfl Tryz.ntmps96 (l := [.cell 2 69]) rfl en_spec_l17Copy (by decide) rfl (fun (a : D.Bundle) r hr => (e_spec_l17Copy a).trans (gd_use (t_spec_l17Copy a) hr))
abbrev FS_spec_FindEntry : List (Nat × EV.Sum Un) := []
open EV in
def an_spec_FindEntry : An := (.s .n (.s (.jx ⟨[(6, 28)], [], [], []⟩ (.s .n (.s (.l ⟨[(6, 28)], [.nat (.s 7)], [], []⟩ FUEL (.s (.s .n (.s .n .n)) (.s (.s (.s (.rj 9 ⟨[(23, 10)], [.dat (.s 32) (.bool)], [], []⟩ .n) (.s (.s .n .n) .n)) .n) .n))) .n))) (.s .n .n)))
theorem e_spec_FindEntry (a0 : D.Bundle) (a1 : Int) (a2 : Int) : EV.evF Yn TI FS_spec_FindEntry (an_spec_FindEntry) (bodyOf Tryz.f97) 34 [.st 69, .int .i64, .int .i64] [.int .i64] false [.tmp 6] (a0, a1, a2) = m_spec_FindEntry a0 a1 a2 := by kernel_rfl
def S_spec_FindEntry : EV.Sum Un := ⟨[.st 69, .int .i64, .int .i64], [.int .i64], false, false, fun (a : D.Bundle × Int × Int) => gd (a.1.sz ≤ 34359738368) (some (findEntryF a.1 a.2.1 a.2.2))⟩
theorem en_spec_FindEntry (args : Array Value) (w : World) : (callFunc 97 args).run Tryz.prog w = .ok (.enter 97 args) w := by kernel_rfl
theorem s_spec_FindEntry : EV.SumOk Tryz.prog G0 Yn 97 S_spec_FindEntry := EV.sum_ok (an := fun _ => an_spec_FindEntry) good0 T.mix Tryz.func97 (cd := bodyOf Tryz.f97) rfl Tryz.ntmps97 (l := [.tmp 6]) rfl en_spec_FindEntry (by decide) rfl (fun (a : D.Bundle × Int × Int) r hr => (e_spec_FindEntry a.1 a.2.1 a.2.2).trans (gd_use (t_spec_FindEntry a.1 a.2.1 a.2.2) hr))
abbrev FS_spec_l17Set : List (Nat × EV.Sum Un) := [(96, S_spec_l17Copy), (97, S_spec_FindEntry), (137, S_spec_l17Less)]
open EV in
def an_spec_l17Set : An := (.s .n (.s .n (.s (.s .n (.s .n (.s (.s .n (.s .n .n)) .n))) (.s .n (.s (.j ⟨[(7, 1), (16, 19)], [.dat (.s 7) (.int .i64)], [], []⟩ (.s (.l ⟨[(7, 1), (16, 19)], [.dat (.s 7) (.int .i64)], [], []⟩ FUEL (.s (.s (.rj 6 ⟨[(29, 12)], [.dat (.s 40) (.bool)], [], []⟩ (.r none [(0, true), (1, true), (2, true), (3, true), (4, true), (5, true), (6, true), (7, true), (8, true), (9, true), (10, true), (11, true), (12, true), (13, true), (14, true), (15, false), (16, true)])) (.s .n .n)) (.s .n .n))) .n)) (.s (.y true (some 7) (some 15) [(1, true), (2, true), (3, true), (4, true), (6, true), (9, true), (10, true), (11, true), (12, true), (0, false), (5, false), (7, false), (8, false), (13, false), (14, false), (15, false)]) (.s .n .n)))))))
theorem e_spec_l17Set (a0 : D.Bundle) (a1 : D.Entry) : EV.evF Yn TI FS_spec_l17Set (an_spec_l17Set) (bodyOf Tryz.f98) 59 [.st 69, .st 180] [.st 69] true [.cell 4 69] (a0, a1) = m_spec_l17Set a0 a1 := by kernel_rfl
def S_spec_l17Set : EV.Sum Un := ⟨[.st 69, .st 180], [.st 69], true, false, fun (a : D.Bundle × D.Entry) => gd (a.1.sz ≤ 34359738360) (some (setF a.1 a.2))⟩
theorem en_spec_l17Set (args : Array Value) (w : World) : (callFunc 98 args).run Tryz.prog w = .ok (.enter 98 args) w := by kernel_rfl
theorem s_spec_l17Set : EV.SumOk Tryz.prog G0 Yn 98 S_spec_l17Set := EV.sum_ok (an := fun _ => an_spec_l17Set) (EV.good_cons s_spec_l17Copy (EV.good_cons s_spec_FindEntry (EV.good_cons s_spec_l17Less good0))) T.mix Tryz.func98 (cd := bodyOf Tryz.f98) rfl Tryz.ntmps98 (l := [.cell 4 69]) rfl en_spec_l17Set (by decide) rfl (fun (a : D.Bundle × D.Entry) r hr => (e_spec_l17Set a.1 a.2).trans (gd_use (t_spec_l17Set a.1 a.2) hr))
abbrev FS_spec_MergeBundles : List (Nat × EV.Sum Un) := [(95, S_spec_IsBundle), (96, S_spec_l17Copy), (97, S_spec_FindEntry), (98, S_spec_l17Set)]
open EV in
def an_spec_MergeBundles : An := (.s .n (.s (.s (.rj 4 ⟨[(13, 5)], [.dat (.s 17) (.bool)], [], []⟩ .n) (.s (.s .n .n) .n)) (.s .n (.s (.j ⟨[(7, 3), (12, 49)], [.tr (.c 4 0) 3 180 true], [], []⟩ (.s .n (.s (.l ⟨[(7, 3), (12, 49)], [.nat (.s 7), .tr (.c 4 0) 3 180 true], [], []⟩ FUEL (.s (.s .n (.s .n .n)) (.s (.j ⟨[(8, 2), (19, 42)], [.tr (.c 4 0) 3 180 true], [], []⟩ (.s (.s .n (.s .n (.s (.rj 3 ⟨[(42, 26)], [.dat (.s 67) (.bool)], [], []⟩ (.r none [(0, true), (1, true), (2, true), (3, true), (4, true), (5, true), (6, true), (7, true), (8, true), (9, true), (10, true), (11, true), (12, true), (13, true), (14, true), (15, true), (16, true), (17, true), (18, true), (19, true), (20, true), (21, true), (22, true), (23, true), (24, true), (25, true), (26, true), (27, true)])) (.s .n .n)))) .n)) .n))) .n))) (.s (.s .n (.s (.s .n .n) .n)) (.s .n .n))))))
theorem e_spec_MergeBundles (a0 : D.Bundle) (a1 : D.Bundle) : EV.evF Yn TI FS_spec_MergeBundles (an_spec_MergeBundles) (bodyOf Tryz.f52) 77 [.st 69, .st 69] [.st 69, .bool] true [.cell 4 69, .tmp 5] (a0, a1) = m_spec_MergeBundles a0 a1 := by kernel_rfl
def S_spec_MergeBundles : EV.Sum Un := ⟨[.st 69, .st 69], [.st 69, .bool], true, false, fun (a : D.Bundle × D.Bundle) => gd (a.1.sz ≤ 34359738368 ∧ a.2.sz ≤ 34359738368) (some (mergeF a.1 a.2))⟩
theorem en_spec_MergeBundles (args : Array Value) (w : World) : (callFunc 52 args).run Tryz.prog w = .ok (.enter 52 args) w := by kernel_rfl
theorem s_spec_MergeBundles : EV.SumOk Tryz.prog G0 Yn 52 S_spec_MergeBundles := EV.sum_ok (an := fun _ => an_spec_MergeBundles) (EV.good_cons s_spec_IsBundle (EV.good_cons s_spec_l17Copy (EV.good_cons s_spec_FindEntry (EV.good_cons s_spec_l17Set good0)))) T.mix Tryz.func52 (cd := bodyOf Tryz.f52) rfl Tryz.ntmps52 (l := [.cell 4 69, .tmp 5]) rfl en_spec_MergeBundles (by decide) rfl (fun (a : D.Bundle × D.Bundle) r hr => (e_spec_MergeBundles a.1 a.2).trans (gd_use (t_spec_MergeBundles a.1 a.2) hr))
abbrev FS_spec_UnionBundle : List (Nat × EV.Sum Un) := [(15, S_spec_ReachableDevices), (52, S_spec_MergeBundles)]
open EV in
def an_spec_UnionBundle : An := (.s .n (.s .n (.s .n (.s (.jx ⟨[(3, 1), (2, 3), (3, 24)], [.nt (.c 2 0) 180 true], [], []⟩ (.s .n (.s (.l ⟨[(3, 1), (2, 3), (3, 24)], [.nat (.s 6), .nt (.c 2 0) 180 true], [], []⟩ FUEL (.s (.s .n (.s .n .n)) (.s (.s (.s (.y false (some 14) (some 15) [(0, true), (1, true), (2, true), (3, true), (4, true), (5, true), (6, true), (7, true), (8, true), (9, true), (10, false), (11, true), (12, true), (13, true), (14, false), (15, false), (16, true)]) (.s (.s .n (.s (.s .n .n) .n)) .n)) .n) .n))) .n))) (.s .n .n)))))
theorem e_spec_UnionBundle (a0 : D.World) : EV.evF Yn TI FS_spec_UnionBundle (an_spec_UnionBundle) (bodyOf Tryz.f17) 37 [.st 59] [.st 69, .bool] true [.cell 2 69, .tmp 3] (a0) = m_spec_UnionBundle a0 := by kernel_rfl
def S_spec_UnionBundle : EV.Sum Un := ⟨[.st 59], [.st 69, .bool], true, false, fun (a : D.World) => gd (a.sz ≤ 34359738368) (some (unionF a))⟩
theorem en_spec_UnionBundle (args : Array Value) (w : World) : (callFunc 17 args).run Tryz.prog w = .ok (.enter 17 args) w := by kernel_rfl
theorem s_spec_UnionBundle : EV.SumOk Tryz.prog G0 Yn 17 S_spec_UnionBundle := EV.sum_ok (an := fun _ => an_spec_UnionBundle) (EV.good_cons s_spec_ReachableDevices (EV.good_cons s_spec_MergeBundles good0)) T.mix Tryz.func17 (cd := bodyOf Tryz.f17) rfl Tryz.ntmps17 (l := [.cell 2 69, .tmp 3]) rfl en_spec_UnionBundle (by decide) rfl (fun (a : D.World) r hr => (e_spec_UnionBundle a).trans (gd_use (t_spec_UnionBundle a) hr))
abbrev FS_impl_entryBefore : List (Nat × EV.Sum Un) := []
open EV in
def an_impl_entryBefore : An := (.s .n (.s (.rj 6 ⟨[(4, 1), (5, 14)], [.dat (.s 4) (.bool)], [], []⟩ .n) .n))
theorem e_impl_entryBefore (a0 : D.Entry) (a1 : D.Entry) : EV.evF Yn TI FS_impl_entryBefore (an_impl_entryBefore) (bodyOf Tryz.f101) 24 [.st 180, .st 180] [.bool] false [.tmp 4] (a0, a1) = m_impl_entryBefore a0 a1 := by kernel_rfl
def S_impl_entryBefore : EV.Sum Un := ⟨[.st 180, .st 180], [.bool], false, false, fun (a : D.Entry × D.Entry) => some (kless a.1 a.2)⟩
theorem en_impl_entryBefore (args : Array Value) (w : World) : (callFunc 101 args).run Tryz.prog w = .ok (.enter 101 args) w := by kernel_rfl
theorem s_impl_entryBefore : EV.SumOk Tryz.prog G0 Yn 101 S_impl_entryBefore := EV.sum_ok (an := fun _ => an_impl_entryBefore) good0 T.mix Tryz.func101 (cd := bodyOf Tryz.f101) rfl Tryz.ntmps101 (l := [.tmp 4]) rfl en_impl_entryBefore (by decide) rfl (fun (a : D.Entry × D.Entry) r hr => (e_impl_entryBefore a.1 a.2).trans ((t_impl_entryBefore a.1 a.2).trans hr))
abbrev FS_impl_IsBundle : List (Nat × EV.Sum Un) := [(138, S_impl_InRange), (101, S_impl_entryBefore)]
open EV in
def an_impl_IsBundle : An := (.s .n (.s (.s .n (.s (.s .n .n) .n)) (.s (.jx ⟨[(2, 3), (4, 40)], [], [], []⟩ (.s .n (.s (.l ⟨[(2, 3), (7, 37)], [.nat (.s 12)], [], []⟩ FUEL (.s .n (.s (.s .n .n) (.s (.s (.s .n (.s (.rj 5 ⟨[(21, 27)], [.dat (.s 47) (.bool)], [], []⟩ (.r none [(0, true), (1, true), (2, false), (3, true), (4, true), (5, true), (6, true), (7, false), (8, true), (9, true), (10, true), (11, true), (12, true), (13, false), (14, true), (15, true), (16, true), (17, true), (18, true), (19, true), (20, true), (21, true), (22, true), (23, true), (24, true), (25, true), (26, true), (27, false), (28, true), (29, true), (30, true)])) (.s (.s .n .n) .n))) .n) .n)))) .n))) (.s .n .n))))
theorem e_impl_IsBundle (a0 : D.Bundle) : EV.evF Yn TI FS_impl_IsBundle (an_impl_IsBundle) (bodyOf Tryz.f99) 49 [.st 69] [.bool] false [.tmp 2] (a0) = m_impl_IsBundle a0 := by kernel_rfl
def S_impl_IsBundle : EV.Sum Un := ⟨[.st 69], [.bool], false, false, fun (a : D.Bundle) => gd (a.sz ≤ 34359738368) (some (bundleOkF a))⟩
theorem en_impl_IsBundle (args : Array Value) (w : World) : (callFunc 99 args).run Tryz.prog w = .ok (.enter 99 args) w := by kernel_rfl
theorem s_impl_IsBundle : EV.SumOk Tryz.prog G0 Yn 99 S_impl_IsBundle := EV.sum_ok (an := fun _ => an_impl_IsBundle) (EV.good_cons s_impl_InRange (EV.good_cons s_impl_entryBefore good0)) T.mix Tryz.func99 (cd := bodyOf Tryz.f99) rfl Tryz.ntmps99 (l := [.tmp 2]) rfl en_impl_IsBundle (by decide) rfl (fun (a : D.Bundle) r hr => (e_impl_IsBundle a).trans (gd_use (t_impl_IsBundle a) hr))
abbrev FS_impl_copyBundle : List (Nat × EV.Sum Un) := []
open EV in
def an_impl_copyBundle : An := (.s .n (.s .n .n))
theorem e_impl_copyBundle (a0 : D.Bundle) : EV.evF Yn TI FS_impl_copyBundle (an_impl_copyBundle) (bodyOf Tryz.f100) 8 [.st 69] [.st 69] true [.cell 2 69] (a0) = m_impl_copyBundle a0 := by kernel_rfl
def S_impl_copyBundle : EV.Sum Un := ⟨[.st 69], [.st 69], true, false, fun (a : D.Bundle) => gd (a.sz ≤ 34359738368) (some (a))⟩
theorem en_impl_copyBundle (args : Array Value) (w : World) : (callFunc 100 args).run Tryz.prog w = .ok (.enter 100 args) w := by kernel_rfl
theorem s_impl_copyBundle : EV.SumOk Tryz.prog G0 Yn 100 S_impl_copyBundle := EV.sum_ok (an := fun _ => an_impl_copyBundle) good0 T.mix Tryz.func100 (cd := bodyOf Tryz.f100) rfl Tryz.ntmps100 (l := [.cell 2 69]) rfl en_impl_copyBundle (by decide) rfl (fun (a : D.Bundle) r hr => (e_impl_copyBundle a).trans (gd_use (t_impl_copyBundle a) hr))
abbrev FS_impl_MergeBundles : List (Nat × EV.Sum Un) := [(99, S_impl_IsBundle), (100, S_impl_copyBundle), (101, S_impl_entryBefore)]
open EV in
def an_impl_MergeBundles : An := (.s .n (.s (.s (.rj 4 ⟨[(14, 5)], [.dat (.s 18) (.bool)], [], []⟩ .n) (.s (.s .n .n) .n)) (.s .n (.s .n (.s .n (.s (.j ⟨[(7, 4), (11, 118)], [.nt (.c 3 0) 180 true], [], []⟩ (.s (.l ⟨[(7, 4), (11, 118)], [.dat (.s 7) (.int .i64), .dat (.s 8) (.int .i64), .nt (.c 3 0) 180 true], [], []⟩ FUEL (.s (.s (.rj 6 ⟨[(27, 7)], [.dat (.s 33) (.bool)], [], []⟩ .n) (.s .n .n)) (.s (.s (.s (.rj 6 ⟨[(71, 1), (5, 20)], [.dat (.s 71) (.bool)], [], []⟩ (.r none [(0, true), (1, true), (2, true), (3, true), (4, true), (5, true), (6, true), (7, true), (8, true), (9, true), (10, true), (11, true), (12, true), (13, true), (14, true), (15, true), (16, true), (17, true), (18, true), (19, true), (20, true), (21, true), (22, false), (23, true), (24, true), (25, true)])) (.s (.s (.r (some 8) [(0, true), (1, true), (2, true), (3, true), (4, true), (5, true), (6, true), (7, false), (8, false), (9, false), (10, false)]) .n) (.s (.rj 6 ⟨[(109, 1), (5, 13)], [.dat (.s 109) (.bool)], [], []⟩ (.r none [(0, true), (1, true), (2, true), (3, true), (4, true), (5, true), (6, true), (7, true), (8, true), (9, true), (10, true), (11, true), (12, true), (13, true), (14, true), (15, true), (16, false), (17, true), (18, true)])) (.s (.s (.r (some 8) [(0, true), (1, true), (2, true), (3, true), (4, true), (5, true), (6, true), (7, false), (8, false), (9, false), (10, false)]) .n) (.s .n (.s .n (.s (.j ⟨[(44, 17)], [.dat (.c 5 0) (.int .i64), .dat (.c 5 1) (.int .i64), .dat (.c 5 2) (.int .i64), .dat (.c 5 3) (.bool)], [], []⟩ (.s (.rj 6 ⟨[(49, 11)], [.dat (.s 59) (.bool)], [], []⟩ .n) (.s .n .n))) (.s .n (.s .n .n))))))))) .n) .n))) .n)) (.s (.s .n (.s (.s .n .n) .n)) (.s .n .n))))))))
theorem e_impl_MergeBundles (a0 : D.Bundle) (a1 : D.Bundle) : EV.evF Yn TI FS_impl_MergeBundles (an_impl_MergeBundles) (bodyOf Tryz.f53) 146 [.st 69, .st 69] [.st 69, .bool] true [.cell 4 69, .tmp 5] (a0, a1) = m_impl_MergeBundles a0 a1 := by kernel_rfl
def S_impl_MergeBundles : EV.Sum Un := ⟨[.st 69, .st 69], [.st 69, .bool], true, false, fun (a : D.Bundle × D.Bundle) => gd (a.1.sz ≤ 34359738368 ∧ a.2.sz ≤ 34359738368) (some (mergeF a.1 a.2))⟩
theorem en_impl_MergeBundles (args : Array Value) (w : World) : (callFunc 53 args).run Tryz.prog w = .ok (.enter 53 args) w := by kernel_rfl
theorem s_impl_MergeBundles : EV.SumOk Tryz.prog G0 Yn 53 S_impl_MergeBundles := EV.sum_ok (an := fun _ => an_impl_MergeBundles) (EV.good_cons s_impl_IsBundle (EV.good_cons s_impl_copyBundle (EV.good_cons s_impl_entryBefore good0))) T.mix Tryz.func53 (cd := bodyOf Tryz.f53) rfl Tryz.ntmps53 (l := [.cell 4 69, .tmp 5]) rfl en_impl_MergeBundles (by decide) rfl (fun (a : D.Bundle × D.Bundle) r hr => (e_impl_MergeBundles a.1 a.2).trans (gd_use (t_impl_MergeBundles a.1 a.2) hr))
abbrev FS_impl_UnionBundle : List (Nat × EV.Sum Un) := [(16, S_impl_ReachableDevices), (53, S_impl_MergeBundles)]
open EV in
def an_impl_UnionBundle : An := (.s .n (.s .n (.s (.jx ⟨[(3, 1), (2, 3), (1, 23)], [.nt (.c 2 0) 180 true], [], []⟩ (.s .n (.s (.l ⟨[(3, 1), (2, 3), (4, 20)], [.nat (.s 13), .nt (.c 2 0) 180 true], [], []⟩ FUEL (.s .n (.s (.s .n .n) (.s (.s (.s .n (.s (.y false (some 11) (some 12) [(0, true), (1, true), (2, true), (3, true), (4, true), (5, true), (6, true), (7, false), (8, true), (9, true), (10, true), (11, false), (12, false), (13, true)]) (.s (.s .n (.s (.s .n .n) .n)) .n))) .n) .n)))) .n))) (.s .n .n))))
theorem e_impl_UnionBundle (a0 : D.World) : EV.evF Yn TI FS_impl_UnionBundle (an_impl_UnionBundle) (bodyOf Tryz.f18) 34 [.st 59] [.st 69, .bool] true [.cell 2 69, .tmp 3] (a0) = m_impl_UnionBundle a0 := by kernel_rfl
def S_impl_UnionBundle : EV.Sum Un := ⟨[.st 59], [.st 69, .bool], true, false, fun (a : D.World) => gd (a.sz ≤ 34359738368) (some (unionF a))⟩
theorem en_impl_UnionBundle (args : Array Value) (w : World) : (callFunc 18 args).run Tryz.prog w = .ok (.enter 18 args) w := by kernel_rfl
theorem s_impl_UnionBundle : EV.SumOk Tryz.prog G0 Yn 18 S_impl_UnionBundle := EV.sum_ok (an := fun _ => an_impl_UnionBundle) (EV.good_cons s_impl_ReachableDevices (EV.good_cons s_impl_MergeBundles good0)) T.mix Tryz.func18 (cd := bodyOf Tryz.f18) rfl Tryz.ntmps18 (l := [.cell 2 69, .tmp 3]) rfl en_impl_UnionBundle (by decide) rfl (fun (a : D.World) r hr => (e_impl_UnionBundle a).trans (gd_use (t_impl_UnionBundle a) hr))
abbrev FS_laws_markBundle : List (Nat × EV.Sum Un) := [(55, S_laws_markEntryS)]
open EV in
def an_laws_markBundle : An := (.s .n (.s .n (.s .n .n)))
theorem e_laws_markBundle (a0 : D.Bundle) (a1 : Int) : EV.evM Yn TI FS_laws_markBundle (an_laws_markBundle) (bodyOf Tryz.f20) 10 (.st 69) [.tmp 4] (a0, a1) = m_laws_markBundle a0 a1 := by kernel_rfl
def S_laws_markBundle : EV.Sum Un := ⟨[.st 69, .int .i64], [.st 69, .int .i64], false, true, fun (a : D.Bundle × Int) => gd (MkP (a.1.sz) (cv_Bundle a.1) a.2) (some (mv_Bundle a.1 a.2))⟩
theorem en_laws_markBundle (args : Array Value) (w : World) : (callFunc 20 args).run Tryz.prog w = .ok (.enter 20 args) w := by kernel_rfl
theorem s_laws_markBundle : EV.SumOk Tryz.prog G0 Yn 20 S_laws_markBundle := EV.sum_wt (an := fun _ => an_laws_markBundle) (EV.good_cons s_laws_markEntryS good0) T.mix Tryz.func20 (cd := bodyOf Tryz.f20) rfl Tryz.ntmps20 (l := [.tmp 4]) rfl en_laws_markBundle (by decide) (fun (a : D.Bundle × Int) r hr => (e_laws_markBundle a.1 a.2).trans (gd_use (t_laws_markBundle a.1 a.2) hr))
abbrev FS_laws_heldEntryS : List (Nat × EV.Sum Un) := []
open EV in
def an_laws_heldEntryS : An := (.s .n (.s (.jx ⟨[(1, 1), (2, 46)], [.dat (.s 1) (.int .i64)], [], []⟩ (.s .n (.s (.l ⟨[(1, 1), (2, 46)], [.dat (.s 1) (.int .i64), .nat (.s 5)], [], []⟩ FUEL (.s (.s .n (.s .n .n)) (.s (.s (.s (.s .n (.s (.s .n .n) .n)) (.s .n (.s (.s .n (.s (.s .n .n) .n)) (.s .n (.s (.s .n (.s (.s .n .n) .n)) (.s .n (.s (.s .n (.s (.s .n .n) .n)) .n))))))) .n) .n))) .n))) (.s .n .n)))
theorem e_laws_heldEntryS (a0 : List D.Entry) (a1 : Int) : EV.evF Yn TI FS_laws_heldEntryS (an_laws_heldEntryS) (bodyOf Tryz.f56) 51 [.sl 180, .int .i64] [.int .i64] false [.tmp 4] (a0, a1) = m_laws_heldEntryS a0 a1 := by kernel_rfl
def S_laws_heldEntryS : EV.Sum Un := ⟨[.sl 180, .int .i64], [.int .i64], false, false, fun (a : (List D.Entry) × Int) => gd (HeldP (mkL mk_Entry) (cntL cn_Entry) a.1 a.2 ∧ a.1.length ≤ 1152921504606846976) (some (a.2 + ((cntL cn_Entry a.1 : Nat) : Int)))⟩
theorem en_laws_heldEntryS (args : Array Value) (w : World) : (callFunc 56 args).run Tryz.prog w = .ok (.enter 56 args) w := by kernel_rfl
theorem s_laws_heldEntryS : EV.SumOk Tryz.prog G0 Yn 56 S_laws_heldEntryS := EV.sum_ok (an := fun _ => an_laws_heldEntryS) good0 T.mix Tryz.func56 (cd := bodyOf Tryz.f56) rfl Tryz.ntmps56 (l := [.tmp 4]) rfl en_laws_heldEntryS (by decide) rfl (fun (a : (List D.Entry) × Int) r hr => (e_laws_heldEntryS a.1 a.2).trans (gd_use (t_laws_heldEntryS a.1 a.2) hr))
abbrev FS_laws_heldBundle : List (Nat × EV.Sum Un) := [(56, S_laws_heldEntryS)]
open EV in
def an_laws_heldBundle : An := (.s .n (.s .n (.s (.s .n (.s (.s .n .n) .n)) (.s .n .n))))
theorem e_laws_heldBundle (a0 : D.Bundle) (a1 : Int) : EV.evF Yn TI FS_laws_heldBundle (an_laws_heldBundle) (bodyOf Tryz.f21) 12 [.st 69, .int .i64] [.int .i64] false [.tmp 4] (a0, a1) = m_laws_heldBundle a0 a1 := by kernel_rfl
def S_laws_heldBundle : EV.Sum Un := ⟨[.st 69, .int .i64], [.int .i64], false, false, fun (a : D.Bundle × Int) => gd (HeldP mv_Bundle cv_Bundle a.1 a.2 ∧ a.1.sz ≤ 1152921504606846976) (some (a.2 + ((cv_Bundle a.1 : Nat) : Int)))⟩
theorem en_laws_heldBundle (args : Array Value) (w : World) : (callFunc 21 args).run Tryz.prog w = .ok (.enter 21 args) w := by kernel_rfl
theorem s_laws_heldBundle : EV.SumOk Tryz.prog G0 Yn 21 S_laws_heldBundle := EV.sum_ok (an := fun _ => an_laws_heldBundle) (EV.good_cons s_laws_heldEntryS good0) T.mix Tryz.func21 (cd := bodyOf Tryz.f21) rfl Tryz.ntmps21 (l := [.tmp 4]) rfl en_laws_heldBundle (by decide) rfl (fun (a : D.Bundle × Int) r hr => (e_laws_heldBundle a.1 a.2).trans (gd_use (t_laws_heldBundle a.1 a.2) hr))
abbrev FS_laws_FnExactUnionBundle : List (Nat × EV.Sum Un) := [(6, S_laws_szWorld), (8, S_laws_toWorld), (17, S_spec_UnionBundle), (18, S_impl_UnionBundle), (19, S_laws_eqBundle), (11, S_laws_eqWorld), (12, S_laws_markWorld), (20, S_laws_markBundle), (21, S_laws_heldBundle)]
open EV in
def an_laws_FnExactUnionBundle : An := (.s .n (.s .n (.s .n (.s (.s .n (.s (.s .n .n) .n)) (.s .n (.s .n (.s .n (.s (.s (.rj 5 ⟨[(36, 5)], [.dat (.s 40) (.bool)], [], []⟩ .n) (.s (.s .n .n) .n)) (.s (.s (.r none [(0, true), (1, true), (2, false), (3, false), (4, true)]) (.s (.s .n .n) .n)) (.s .n (.s .n (.s (.s (.rj 3 ⟨[(51, 11)], [.dat (.s 61) (.bool)], [], []⟩ .n) (.s (.s .n .n) .n)) (.s .n (.s .n (.s .n (.s .n (.s (.s .n (.s (.s .n .n) .n)) (.s (.s .n (.s (.s .n .n) .n)) (.s .n (.s (.s (.rj 5 ⟨[(83, 5)], [.dat (.s 87) (.bool)], [], []⟩ .n) (.s (.s .n .n) .n)) (.s .n (.s .n (.s (.s .n (.s (.s .n .n) .n)) (.s (.s .n (.s (.s .n .n) .n)) (.s .n .n)))))))))))))))))))))))))
theorem e_laws_FnExactUnionBundle (a0 : D.World) : EV.evF Yn TI FS_laws_FnExactUnionBundle (an_laws_FnExactUnionBundle) (bodyOf Tryz.f5) 96 [.st 39] [.bool] false [.tmp 2] (a0) = m_laws_FnExactUnionBundle a0 := by kernel_rfl
def S_laws_FnExactUnionBundle : EV.Sum Un := ⟨[.st 39], [.bool], false, false, fun (a : D.World) => gd (a.ok) (some true)⟩
theorem en_laws_FnExactUnionBundle (args : Array Value) (w : World) : (callFunc 5 args).run Tryz.prog w = .ok (.enter 5 args) w := by kernel_rfl
theorem s_laws_FnExactUnionBundle : EV.SumOk Tryz.prog G0 Yn 5 S_laws_FnExactUnionBundle := EV.sum_ok (an := fun _ => an_laws_FnExactUnionBundle) (EV.good_cons s_laws_szWorld (EV.good_cons s_laws_toWorld (EV.good_cons s_spec_UnionBundle (EV.good_cons s_impl_UnionBundle (EV.good_cons s_laws_eqBundle (EV.good_cons s_laws_eqWorld (EV.good_cons s_laws_markWorld (EV.good_cons s_laws_markBundle (EV.good_cons s_laws_heldBundle good0))))))))) T.mix Tryz.func5 (cd := bodyOf Tryz.f5) rfl Tryz.ntmps5 (l := [.tmp 2]) rfl en_laws_FnExactUnionBundle (by decide) rfl (fun (a : D.World) r hr => (e_laws_FnExactUnionBundle a).trans (gd_use (t_laws_FnExactUnionBundle a) hr))
end
end Go.VK
