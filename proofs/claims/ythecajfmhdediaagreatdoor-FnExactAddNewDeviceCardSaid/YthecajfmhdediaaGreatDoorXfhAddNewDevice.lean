import Derived.Test.YthecajfmhdediaaGreatDoorXhhAddNewDevice
import Derived.Test.YthecajfmhdediaaGreatDoorRows
import Derived.Test.YthecajfmhdediaaGreatDoorCards
import Derived.Test.YthecajfmhdediaaGreatDoorTie
import Derived.Test.YthecajfmhdediaaGreatDoorChecked
import Derived.ProofKit
import Derived.OpenShut
import Derived.Below
import Derived.ChangeSame
import Derived.Lay
import Derived.MakeChecks
import Derived.LaidLaws
import Derived.SevenTiedAt
import Derived.Shelf.Vars
import Derived.Test.YthecajfmhdediaaGreatDoorXfaAddNewDevice
/-
  The law AddNewDevice, last part: for every argument, the law FnExactAddNewDevice returns true and its arguments read as before.
-/
set_option linter.unusedVariables false
set_option maxRecDepth 100000
namespace Go.Proofs.YthecajfmhdediaaGreatDoor.fnExactAddNewDevice
open Go.VK Go.ChangeShapes Go.WideShapes Go.ChangeAt Go.RowKit
theorem lifted2 (os : Os) (started : os.Started) (H : Type) (enc : TypeId × Value → H) : ReturnsInHanded Rows.fnExactAddNewDeviceRow.assume Tryz.pinned.checked os 3 .any (Rows.fnExactAddNewDeviceRow.pre enc Tryz.pinned.checked.prog Tryz.f3 (OpenSpec.ofChange Rows.fnExactAddNewDeviceSpec)) (Rows.fnExactAddNewDeviceSpec.post enc Tryz.pinned.checked.prog Tryz.f3 Rows.fnExactAddNewDeviceRow.apart Rows.fnExactAddNewDeviceRow.fresh Rows.fnExactAddNewDeviceRow.handsOn Rows.fnExactAddNewDeviceRow.again) := lifted os started H enc
theorem nams : Rows.fnExactAddNewDeviceRow.initsInPlace = [] ∧ Rows.fnExactAddNewDeviceRow.initsUnfollowed = false ∧ Rows.fnExactAddNewDeviceRow.initsRecurse = false ∧ Rows.fnExactAddNewDeviceRow.initsNamed = [] ∧ Rows.fnExactAddNewDeviceRow.initsPassed = [] := ⟨rfl, rfl, rfl, rfl, rfl⟩
theorem fld0 : Rows.fnExactAddNewDeviceRow.program = Tryz.pinned.name := rfl
theorem fld1 : Rows.fnExactAddNewDeviceRow.sum = Tryz.pinned.sum := rfl
theorem fld2 : Rows.fnExactAddNewDeviceRow.spec = Rows.fnExactAddNewDeviceSpec.name := rfl
theorem fld3 : Rows.fnExactAddNewDeviceRow.start = .entering := rfl
theorem fld4 : Rows.fnExactAddNewDeviceRow.outside = [] := rfl
theorem fld5 : Rows.fnExactAddNewDeviceRow.inits = [] := rfl
theorem fld6 : Rows.fnExactAddNewDeviceRow.under = none := rfl
theorem fld7 : Rows.fnExactAddNewDeviceRow.noBlocks = false := rfl
theorem fld8 : Rows.fnExactAddNewDeviceRow.leaving = false := rfl
theorem fld9 : Rows.fnExactAddNewDeviceRow.followed = none := rfl
theorem fld10 : Rows.fnExactAddNewDeviceRow.narrowed = false := rfl
theorem fld11 : Rows.fnExactAddNewDeviceRow.still = false := rfl
theorem fn3 : Tryz.pinned.checked.prog.funcs[3]? = some Tryz.f3 := Tryz.func3
theorem over : Rows.fnExactAddNewDeviceRow.holds Tryz.pinned (OpenSpec.ofChange Rows.fnExactAddNewDeviceSpec) :=
  OpenClaim.holds_of_wide 3 Tryz.f3 fld0 fld1 fld2 fld3 fld4 fld5 fld6 nams fld7 fld8 fld9 fld10 fld11 fnm fn3 closed inst wrp
    (fun os started H enc _ => lifted2 os started H enc)
theorem proved : Rows.FnExactAddNewDeviceCardSaid :=
  Claim7.holds_tied_plain_at .later [] [.data, .pinned] true (true, "7f03aeeb431a516f2933b050ac55d957f0cae8d142573fe88bfa92040fd75293") false over (fun _ h => by cases h) (by as_aux_lemma => kernel_rfl) (fun _ h => by cases h) fnExactAddNewDevice_row_tie rfl ⟨rfl, rfl⟩ (by as_aux_lemma => kernel_rfl) rfl
    (fun f fn hf hfn => by
      obtain rfl : f = 3 := Option.some.inj ((show Tryz.prog.funcNamed "loop.example/g00581/laws.FnExactAddNewDevice" = some 3 by as_aux_lemma => kernel_rfl).symm.trans hf) |>.symm
      obtain rfl : fn = Tryz.f3 := (Option.some.inj (Tryz.func3.symm.trans hfn)).symm
      exact ⟨by as_aux_lemma => kernel_rfl, fun j t ht => by
        rw [Tryz.params3] at ht
        have hm : t ∈ [39, 3] := by simpa using Array.mem_of_getElem? ht
        have hall : ([39, 3].all fun u => !Tryz.prog.wantsStandIn u) = true := by as_aux_lemma => kernel_rfl
        exact (show Tryz.prog.wantsStandIn t = false by simpa using List.all_eq_true.1 hall t hm)⟩)
    (by as_aux_lemma => kernel_rfl)
#print axioms proved
end Go.Proofs.YthecajfmhdediaaGreatDoor.fnExactAddNewDevice
