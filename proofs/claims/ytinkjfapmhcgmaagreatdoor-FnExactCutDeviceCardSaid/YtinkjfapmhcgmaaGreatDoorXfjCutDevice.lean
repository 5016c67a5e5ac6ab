import Derived.Test.YtinkjfapmhcgmaaGreatDoorXhjCutDevice
import Derived.Test.YtinkjfapmhcgmaaGreatDoorRows
import Derived.Test.YtinkjfapmhcgmaaGreatDoorCards
import Derived.Test.YtinkjfapmhcgmaaGreatDoorTie
import Derived.Test.YtinkjfapmhcgmaaGreatDoorChecked
import Derived.ProofKit
import Derived.OpenShut
import Derived.Below
import Derived.ChangeSame
import Derived.Lay
import Derived.MakeChecks
import Derived.LaidLaws
import Derived.SevenTiedAt
import Derived.Shelf.Vars
import Derived.Test.YtinkjfapmhcgmaaGreatDoorXfaCutDevice
/-
  The law CutDevice, last part: for every argument, the law FnExactCutDevice returns true and its arguments read as before.
-/
set_option linter.unusedVariables false
set_option maxRecDepth 100000
namespace Go.Proofs.YtinkjfapmhcgmaaGreatDoor.fnExactCutDevice
open Go.VK Go.ChangeShapes Go.WideShapes Go.ChangeAt Go.RowKit
theorem lifted2 (os : Os) (started : os.Started) (H : Type) (enc : TypeId × Value → H) : ReturnsInHanded Rows.fnExactCutDeviceRow.assume Tryz.pinned.checked os 3 .any (Rows.fnExactCutDeviceRow.pre enc Tryz.pinned.checked.prog Tryz.f3 (OpenSpec.ofChange Rows.fnExactCutDeviceSpec)) (Rows.fnExactCutDeviceSpec.post enc Tryz.pinned.checked.prog Tryz.f3 Rows.fnExactCutDeviceRow.apart Rows.fnExactCutDeviceRow.fresh Rows.fnExactCutDeviceRow.handsOn Rows.fnExactCutDeviceRow.again) := lifted os started H enc
theorem nams : Rows.fnExactCutDeviceRow.initsInPlace = [] ∧ Rows.fnExactCutDeviceRow.initsUnfollowed = false ∧ Rows.fnExactCutDeviceRow.initsRecurse = false ∧ Rows.fnExactCutDeviceRow.initsNamed = [] ∧ Rows.fnExactCutDeviceRow.initsPassed = [] := ⟨rfl, rfl, rfl, rfl, rfl⟩
theorem fld0 : Rows.fnExactCutDeviceRow.program = Tryz.pinned.name := rfl
theorem fld1 : Rows.fnExactCutDeviceRow.sum = Tryz.pinned.sum := rfl
theorem fld2 : Rows.fnExactCutDeviceRow.spec = Rows.fnExactCutDeviceSpec.name := rfl
theorem fld3 : Rows.fnExactCutDeviceRow.start = .entering := rfl
theorem fld4 : Rows.fnExactCutDeviceRow.outside = [] := rfl
theorem fld5 : Rows.fnExactCutDeviceRow.inits = [] := rfl
theorem fld6 : Rows.fnExactCutDeviceRow.under = none := rfl
theorem fld7 : Rows.fnExactCutDeviceRow.noBlocks = false := rfl
theorem fld8 : Rows.fnExactCutDeviceRow.leaving = false := rfl
theorem fld9 : Rows.fnExactCutDeviceRow.followed = none := rfl
theorem fld10 : Rows.fnExactCutDeviceRow.narrowed = false := rfl
theorem fld11 : Rows.fnExactCutDeviceRow.still = false := rfl
theorem fn3 : Tryz.pinned.checked.prog.funcs[3]? = some Tryz.f3 := Tryz.func3
theorem over : Rows.fnExactCutDeviceRow.holds Tryz.pinned (OpenSpec.ofChange Rows.fnExactCutDeviceSpec) :=
  OpenClaim.holds_of_wide 3 Tryz.f3 fld0 fld1 fld2 fld3 fld4 fld5 fld6 nams fld7 fld8 fld9 fld10 fld11 fnm fn3 closed inst wrp
    (fun os started H enc _ => lifted2 os started H enc)
theorem proved : Rows.FnExactCutDeviceCardSaid :=
  Claim7.holds_tied_plain_at .later [] [.data, .pinned] true (true, "72f0b3d5ab6a895b018f80bdf61898ca45cca83e1207a2b34f5bb96addb969eb") false over (fun _ h => by cases h) (by as_aux_lemma => kernel_rfl) (fun _ h => by cases h) fnExactCutDevice_row_tie rfl ⟨rfl, rfl⟩ (by as_aux_lemma => kernel_rfl) rfl
    (fun f fn hf hfn => by
      obtain rfl : f = 3 := Option.some.inj ((show Tryz.prog.funcNamed "loop.example/g00581/laws.FnExactCutDevice" = some 3 by as_aux_lemma => kernel_rfl).symm.trans hf) |>.symm
      obtain rfl : fn = Tryz.f3 := (Option.some.inj (Tryz.func3.symm.trans hfn)).symm
      exact ⟨by as_aux_lemma => kernel_rfl, fun j t ht => by
        rw [Tryz.params3] at ht
        have hm : t ∈ [39, 3, 3] := by simpa using Array.mem_of_getElem? ht
        have hall : ([39, 3, 3].all fun u => !Tryz.prog.wantsStandIn u) = true := by as_aux_lemma => kernel_rfl
        exact (show Tryz.prog.wantsStandIn t = false by simpa using List.all_eq_true.1 hall t hm)⟩)
    (by as_aux_lemma => kernel_rfl)
#print axioms proved
end Go.Proofs.YtinkjfapmhcgmaaGreatDoor.fnExactCutDevice
