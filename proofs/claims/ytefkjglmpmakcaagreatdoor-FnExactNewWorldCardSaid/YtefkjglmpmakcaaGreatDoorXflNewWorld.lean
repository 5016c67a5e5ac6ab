import Derived.Test.YtefkjglmpmakcaaGreatDoorXhlNewWorld
import Derived.Test.YtefkjglmpmakcaaGreatDoorRows
import Derived.Test.YtefkjglmpmakcaaGreatDoorCards
import Derived.Test.YtefkjglmpmakcaaGreatDoorTie
import Derived.Test.YtefkjglmpmakcaaGreatDoorChecked
import Derived.ProofKit
import Derived.OpenShut
import Derived.Below
import Derived.ChangeSame
import Derived.Lay
import Derived.MakeChecks
import Derived.LaidLaws
import Derived.SevenTiedAt
import Derived.Shelf.Vars
import Derived.Test.YtefkjglmpmakcaaGreatDoorXfaNewWorld
/-
  The law NewWorld, last part: for every argument, the law FnExactNewWorld returns true and its arguments read as before.
-/
set_option linter.unusedVariables false
set_option maxRecDepth 100000
namespace Go.Proofs.YtefkjglmpmakcaaGreatDoor.fnExactNewWorld
open Go.VK Go.ChangeShapes Go.WideShapes Go.ChangeAt Go.RowKit
theorem lifted2 (os : Os) (started : os.Started) (H : Type) (enc : TypeId × Value → H) : ReturnsInHanded Rows.fnExactNewWorldRow.assume Tryz.pinned.checked os 3 .any (Rows.fnExactNewWorldRow.pre enc Tryz.pinned.checked.prog Tryz.f3 (OpenSpec.ofChange Rows.fnExactNewWorldSpec)) (Rows.fnExactNewWorldSpec.post enc Tryz.pinned.checked.prog Tryz.f3 Rows.fnExactNewWorldRow.apart Rows.fnExactNewWorldRow.fresh Rows.fnExactNewWorldRow.handsOn Rows.fnExactNewWorldRow.again) := lifted os started H enc
theorem nams : Rows.fnExactNewWorldRow.initsInPlace = [] ∧ Rows.fnExactNewWorldRow.initsUnfollowed = false ∧ Rows.fnExactNewWorldRow.initsRecurse = false ∧ Rows.fnExactNewWorldRow.initsNamed = [] ∧ Rows.fnExactNewWorldRow.initsPassed = [] := ⟨rfl, rfl, rfl, rfl, rfl⟩
theorem fld0 : Rows.fnExactNewWorldRow.program = Tryz.pinned.name := rfl
theorem fld1 : Rows.fnExactNewWorldRow.sum = Tryz.pinned.sum := rfl
theorem fld2 : Rows.fnExactNewWorldRow.spec = Rows.fnExactNewWorldSpec.name := rfl
theorem fld3 : Rows.fnExactNewWorldRow.start = .entering := rfl
theorem fld4 : Rows.fnExactNewWorldRow.outside = [] := rfl
theorem fld5 : Rows.fnExactNewWorldRow.inits = [] := rfl
theorem fld6 : Rows.fnExactNewWorldRow.under = none := rfl
theorem fld7 : Rows.fnExactNewWorldRow.noBlocks = false := rfl
theorem fld8 : Rows.fnExactNewWorldRow.leaving = false := rfl
theorem fld9 : Rows.fnExactNewWorldRow.followed = none := rfl
theorem fld10 : Rows.fnExactNewWorldRow.narrowed = false := rfl
theorem fld11 : Rows.fnExactNewWorldRow.still = false := rfl
theorem fn3 : Tryz.pinned.checked.prog.funcs[3]? = some Tryz.f3 := Tryz.func3
theorem over : Rows.fnExactNewWorldRow.holds Tryz.pinned (OpenSpec.ofChange Rows.fnExactNewWorldSpec) :=
  OpenClaim.holds_of_wide 3 Tryz.f3 fld0 fld1 fld2 fld3 fld4 fld5 fld6 nams fld7 fld8 fld9 fld10 fld11 fnm fn3 closed inst wrp
    (fun os started H enc _ => lifted2 os started H enc)
theorem proved : Rows.FnExactNewWorldCardSaid :=
  Claim7.holds_tied_plain_at .later [] [.data, .pinned] true (true, "002a92ba7f9e1aac754bf480981bc34f285cf8f3573b5da424c2d841f15b2fcf") false over (fun _ h => by cases h) (by as_aux_lemma => kernel_rfl) (fun _ h => by cases h) fnExactNewWorld_row_tie rfl ⟨rfl, rfl⟩ (by as_aux_lemma => kernel_rfl) rfl
    (fun f fn hf hfn => by
      obtain rfl : f = 3 := Option.some.inj ((show Tryz.prog.funcNamed "loop.example/g00581/laws.FnExactNewWorld" = some 3 by as_aux_lemma => kernel_rfl).symm.trans hf) |>.symm
      obtain rfl : fn = Tryz.f3 := (Option.some.inj (Tryz.func3.symm.trans hfn)).symm
      exact ⟨by as_aux_lemma => kernel_rfl, fun j t ht => by
        rw [Tryz.params3] at ht
        have hm : t ∈ [3, 3, 3, 3, 3] := by simpa using Array.mem_of_getElem? ht
        have hall : ([3, 3, 3, 3, 3].all fun u => !Tryz.prog.wantsStandIn u) = true := by as_aux_lemma => kernel_rfl
        exact (show Tryz.prog.wantsStandIn t = false by simpa using List.all_eq_true.1 hall t hm)⟩)
    (by as_aux_lemma => kernel_rfl)
#print axioms proved
end Go.Proofs.YtefkjglmpmakcaaGreatDoor.fnExactNewWorld
