import Derived.Test.YtkkjfhgcpofjbaaGreatDoorXhyFnAddedDevices
import Derived.Test.YtkkjfhgcpofjbaaGreatDoorRows
import Derived.Test.YtkkjfhgcpofjbaaGreatDoorCards
import Derived.Test.YtkkjfhgcpofjbaaGreatDoorTie
import Derived.Test.YtkkjfhgcpofjbaaGreatDoorChecked
import Derived.ProofKit
import Derived.OpenShut
import Derived.Below
import Derived.ChangeSame
import Derived.Lay
import Derived.MakeChecks
import Derived.LaidLaws
import Derived.SevenTiedAt
import Derived.Shelf.Vars
import Derived.Test.YtkkjfhgcpofjbaaGreatDoorXfaFnAddedDevices
/-
  The law FnAddedDevices, last part: for every argument, the law FnExactFnAddedDevices returns true and its arguments read as before.
-/
set_option linter.unusedVariables false
set_option maxRecDepth 100000
namespace Go.Proofs.YtkkjfhgcpofjbaaGreatDoor.fnAddedDevices
open Go.VK Go.ChangeShapes Go.WideShapes Go.ChangeAt Go.RowKit
theorem lifted2 (os : Os) (started : os.Started) (H : Type) (enc : TypeId × Value → H) : ReturnsInHanded Rows.fnAddedDevicesRow.assume Tryz.pinned.checked os 3 .any (Rows.fnAddedDevicesRow.pre enc Tryz.pinned.checked.prog Tryz.f3 (OpenSpec.ofChange Rows.fnAddedDevicesSpec)) (Rows.fnAddedDevicesSpec.post enc Tryz.pinned.checked.prog Tryz.f3 Rows.fnAddedDevicesRow.apart Rows.fnAddedDevicesRow.fresh Rows.fnAddedDevicesRow.handsOn Rows.fnAddedDevicesRow.again) := lifted os started H enc
theorem nams : Rows.fnAddedDevicesRow.initsInPlace = [] ∧ Rows.fnAddedDevicesRow.initsUnfollowed = false ∧ Rows.fnAddedDevicesRow.initsRecurse = false ∧ Rows.fnAddedDevicesRow.initsNamed = [] ∧ Rows.fnAddedDevicesRow.initsPassed = [] := ⟨rfl, rfl, rfl, rfl, rfl⟩
theorem fld0 : Rows.fnAddedDevicesRow.program = Tryz.pinned.name := rfl
theorem fld1 : Rows.fnAddedDevicesRow.sum = Tryz.pinned.sum := rfl
theorem fld2 : Rows.fnAddedDevicesRow.spec = Rows.fnAddedDevicesSpec.name := rfl
theorem fld3 : Rows.fnAddedDevicesRow.start = .entering := rfl
theorem fld4 : Rows.fnAddedDevicesRow.outside = [] := rfl
theorem fld5 : Rows.fnAddedDevicesRow.inits = [] := rfl
theorem fld6 : Rows.fnAddedDevicesRow.under = none := rfl
theorem fld7 : Rows.fnAddedDevicesRow.noBlocks = false := rfl
theorem fld8 : Rows.fnAddedDevicesRow.leaving = false := rfl
theorem fld9 : Rows.fnAddedDevicesRow.followed = none := rfl
theorem fld10 : Rows.fnAddedDevicesRow.narrowed = false := rfl
theorem fld11 : Rows.fnAddedDevicesRow.still = false := rfl
theorem fn3 : Tryz.pinned.checked.prog.funcs[3]? = some Tryz.f3 := Tryz.func3
theorem over : Rows.fnAddedDevicesRow.holds Tryz.pinned (OpenSpec.ofChange Rows.fnAddedDevicesSpec) :=
  OpenClaim.holds_of_wide 3 Tryz.f3 fld0 fld1 fld2 fld3 fld4 fld5 fld6 nams fld7 fld8 fld9 fld10 fld11 fnm fn3 closed inst wrp
    (fun os started H enc _ => lifted2 os started H enc)
theorem proved : Rows.FnAddedDevicesCardSaid :=
  Claim7.holds_tied_plain_at .later [] [.data, .pinned] true (true, "db7fa7742f2a012178f4c26086ce0076a2dde664b76e95521cb80b59ad133ee2") false over (fun _ h => by cases h) (by as_aux_lemma => kernel_rfl) (fun _ h => by cases h) fnAddedDevices_row_tie rfl ⟨rfl, rfl⟩ (by as_aux_lemma => kernel_rfl) rfl
    (fun f fn hf hfn => by
      obtain rfl : f = 3 := Option.some.inj ((show Tryz.prog.funcNamed "loop.example/g00581/laws.FnAddedDevices" = some 3 by as_aux_lemma => kernel_rfl).symm.trans hf) |>.symm
      obtain rfl : fn = Tryz.f3 := (Option.some.inj (Tryz.func3.symm.trans hfn)).symm
      exact ⟨by as_aux_lemma => kernel_rfl, fun j t ht => by
        rw [Tryz.params3] at ht
        have hm : t ∈ [22] := by simpa using Array.mem_of_getElem? ht
        have hall : ([22].all fun u => !Tryz.prog.wantsStandIn u) = true := by as_aux_lemma => kernel_rfl
        exact (show Tryz.prog.wantsStandIn t = false by simpa using List.all_eq_true.1 hall t hm)⟩)
    (by as_aux_lemma => kernel_rfl)
#print axioms proved
end Go.Proofs.YtkkjfhgcpofjbaaGreatDoor.fnAddedDevices
