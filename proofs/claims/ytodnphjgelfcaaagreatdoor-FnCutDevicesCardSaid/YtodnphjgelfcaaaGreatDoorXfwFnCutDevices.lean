import Derived.Test.YtodnphjgelfcaaaGreatDoorXhwFnCutDevices
import Derived.Test.YtodnphjgelfcaaaGreatDoorRows
import Derived.Test.YtodnphjgelfcaaaGreatDoorCards
import Derived.Test.YtodnphjgelfcaaaGreatDoorTie
import Derived.Test.YtodnphjgelfcaaaGreatDoorChecked
import Derived.ProofKit
import Derived.OpenShut
import Derived.Below
import Derived.ChangeSame
import Derived.Lay
import Derived.MakeChecks
import Derived.LaidLaws
import Derived.SevenTiedAt
import Derived.Shelf.Vars
import Derived.Test.YtodnphjgelfcaaaGreatDoorXfaFnCutDevices
/-
  The law FnCutDevices, last part: for every argument, the law FnCutDevices returns true and its arguments read as before.
-/
set_option linter.unusedVariables false
set_option maxRecDepth 100000
namespace Go.Proofs.YtodnphjgelfcaaaGreatDoor.fnCutDevices
open Go.VK Go.ChangeShapes Go.WideShapes Go.ChangeAt Go.RowKit
theorem lifted2 (os : Os) (started : os.Started) (H : Type) (enc : TypeId × Value → H) : ReturnsInHanded Rows.fnCutDevicesRow.assume Tryz.pinned.checked os 3 .any (Rows.fnCutDevicesRow.pre enc Tryz.pinned.checked.prog Tryz.f3 (OpenSpec.ofChange Rows.fnCutDevicesSpec)) (Rows.fnCutDevicesSpec.post enc Tryz.pinned.checked.prog Tryz.f3 Rows.fnCutDevicesRow.apart Rows.fnCutDevicesRow.fresh Rows.fnCutDevicesRow.handsOn Rows.fnCutDevicesRow.again) := lifted os started H enc
theorem nams : Rows.fnCutDevicesRow.initsInPlace = [] ∧ Rows.fnCutDevicesRow.initsUnfollowed = false ∧ Rows.fnCutDevicesRow.initsRecurse = false ∧ Rows.fnCutDevicesRow.initsNamed = [] ∧ Rows.fnCutDevicesRow.initsPassed = [] := ⟨rfl, rfl, rfl, rfl, rfl⟩
theorem fld0 : Rows.fnCutDevicesRow.program = Tryz.pinned.name := rfl
theorem fld1 : Rows.fnCutDevicesRow.sum = Tryz.pinned.sum := rfl
theorem fld2 : Rows.fnCutDevicesRow.spec = Rows.fnCutDevicesSpec.name := rfl
theorem fld3 : Rows.fnCutDevicesRow.start = .entering := rfl
theorem fld4 : Rows.fnCutDevicesRow.outside = [] := rfl
theorem fld5 : Rows.fnCutDevicesRow.inits = [] := rfl
theorem fld6 : Rows.fnCutDevicesRow.under = none := rfl
theorem fld7 : Rows.fnCutDevicesRow.noBlocks = false := rfl
theorem fld8 : Rows.fnCutDevicesRow.leaving = false := rfl
theorem fld9 : Rows.fnCutDevicesRow.followed = none := rfl
theorem fld10 : Rows.fnCutDevicesRow.narrowed = false := rfl
theorem fld11 : Rows.fnCutDevicesRow.still = false := rfl
theorem fn3 : Tryz.pinned.checked.prog.funcs[3]? = some Tryz.f3 := Tryz.func3
theorem over : Rows.fnCutDevicesRow.holds Tryz.pinned (OpenSpec.ofChange Rows.fnCutDevicesSpec) :=
  OpenClaim.holds_of_wide 3 Tryz.f3 fld0 fld1 fld2 fld3 fld4 fld5 fld6 nams fld7 fld8 fld9 fld10 fld11 fnm fn3 closed inst wrp
    (fun os started H enc _ => lifted2 os started H enc)
theorem proved : Rows.FnCutDevicesCardSaid :=
  Claim7.holds_tied_plain_at .later [] [.data, .pinned] true (true, "1daf539f24e5e2373f9e04e0393ead0c926b20cdb234283a0f457d04d408fdb4") false over (fun _ h => by cases h) (by as_aux_lemma => kernel_rfl) (fun _ h => by cases h) fnCutDevices_row_tie rfl ⟨rfl, rfl⟩ (by as_aux_lemma => kernel_rfl) rfl
    (fun f fn hf hfn => by
      obtain rfl : f = 3 := Option.some.inj ((show Tryz.prog.funcNamed "loop.example/g00581/laws.FnCutDevices" = some 3 by as_aux_lemma => kernel_rfl).symm.trans hf) |>.symm
      obtain rfl : fn = Tryz.f3 := (Option.some.inj (Tryz.func3.symm.trans hfn)).symm
      exact ⟨by as_aux_lemma => kernel_rfl, fun j t ht => by
        rw [Tryz.params3] at ht
        have hm : t ∈ [22] := by simpa using Array.mem_of_getElem? ht
        have hall : ([22].all fun u => !Tryz.prog.wantsStandIn u) = true := by as_aux_lemma => kernel_rfl
        exact (show Tryz.prog.wantsStandIn t = false by simpa using List.all_eq_true.1 hall t hm)⟩)
    (by as_aux_lemma => kernel_rfl)
#print axioms proved
end Go.Proofs.YtodnphjgelfcaaaGreatDoor.fnCutDevices
