import Derived.Test.YtchppgifkkcfpaaGreatDoorXhcCountSuccess
import Derived.Test.YtchppgifkkcfpaaGreatDoorRows
import Derived.Test.YtchppgifkkcfpaaGreatDoorCards
import Derived.Test.YtchppgifkkcfpaaGreatDoorXftCountSuccess
import Derived.Test.YtchppgifkkcfpaaGreatDoorChecked
import Derived.ProofKit
import Derived.OpenShut
import Derived.Below
import Derived.ChangeSame
import Derived.Lay
import Derived.MakeChecks
import Derived.LaidLaws
import Derived.SevenTiedAt
import Derived.Shelf.Vars
import Derived.Test.YtchppgifkkcfpaaGreatDoorXfaCountSuccess
import Derived.Test.YtchppgifkkcfpaaGreatDoorXfgCountSuccess
/-
  The law CountSuccess, last part: for every argument, the law FnExactCountSuccess returns true and its arguments read as before.
-/
set_option linter.unusedVariables false
set_option maxRecDepth 100000
namespace Go.Proofs.YtchppgifkkcfpaaGreatDoor.fnExactCountSuccess
open Go.VK Go.ChangeShapes Go.WideShapes Go.ChangeAt Go.RowKit
theorem lifted2 (os : Os) (started : os.Started) (H : Type) (enc : TypeId × Value → H) : ReturnsInHanded Rows.fnExactCountSuccessRow.assume Tryz.pinned.checked os 3 .any (Rows.fnExactCountSuccessRow.pre enc Tryz.pinned.checked.prog Tryz.f3 (OpenSpec.ofChange Rows.fnExactCountSuccessSpec)) (Rows.fnExactCountSuccessSpec.post enc Tryz.pinned.checked.prog Tryz.f3 Rows.fnExactCountSuccessRow.apart Rows.fnExactCountSuccessRow.fresh Rows.fnExactCountSuccessRow.handsOn Rows.fnExactCountSuccessRow.again) := lifted os started H enc
theorem nams : Rows.fnExactCountSuccessRow.initsInPlace = [] ∧ Rows.fnExactCountSuccessRow.initsUnfollowed = false ∧ Rows.fnExactCountSuccessRow.initsRecurse = false ∧ Rows.fnExactCountSuccessRow.initsNamed = [] ∧ Rows.fnExactCountSuccessRow.initsPassed = [] := ⟨rfl, rfl, rfl, rfl, rfl⟩
theorem fld0 : Rows.fnExactCountSuccessRow.program = Tryz.pinned.name := rfl
theorem fld1 : Rows.fnExactCountSuccessRow.sum = Tryz.pinned.sum := rfl
theorem fld2 : Rows.fnExactCountSuccessRow.spec = Rows.fnExactCountSuccessSpec.name := rfl
theorem fld3 : Rows.fnExactCountSuccessRow.start = .entering := rfl
theorem fld4 : Rows.fnExactCountSuccessRow.outside = [] := rfl
theorem fld5 : Rows.fnExactCountSuccessRow.inits = [] := rfl
theorem fld6 : Rows.fnExactCountSuccessRow.under = none := rfl
theorem fld7 : Rows.fnExactCountSuccessRow.noBlocks = false := rfl
theorem fld8 : Rows.fnExactCountSuccessRow.leaving = false := rfl
theorem fld9 : Rows.fnExactCountSuccessRow.followed = none := rfl
theorem fld10 : Rows.fnExactCountSuccessRow.narrowed = false := rfl
theorem fld11 : Rows.fnExactCountSuccessRow.still = false := rfl
theorem fn3 : Tryz.pinned.checked.prog.funcs[3]? = some Tryz.f3 := Tryz.func3
theorem over : Rows.fnExactCountSuccessRow.holds Tryz.pinned (OpenSpec.ofChange Rows.fnExactCountSuccessSpec) :=
  OpenClaim.holds_of_wide 3 Tryz.f3 fld0 fld1 fld2 fld3 fld4 fld5 fld6 nams fld7 fld8 fld9 fld10 fld11 fnm fn3 closed inst wrp
    (fun os started H enc _ => lifted2 os started H enc)
set_option maxHeartbeats 4000000 in
theorem proved : Rows.FnExactCountSuccessCardSaid :=
  Claim7.holds_tied_plain_at .later [] [.pinned, .data, .data, .data, .data, .sentinel, .sentinel] true (true, "cc78daa8f5e3baea4c8a87d51b983d6e55358a2215bb6322994cb706e01b4bd2") true over (fun _ h => by cases h) (by as_aux_lemma => kernel_rfl) (fun _ h => by cases h) fnExactCountSuccess_row_tie rfl ⟨rfl, rfl⟩ (by as_aux_lemma => kernel_rfl) rfl
    (fun f fn hf hfn => by
      obtain rfl : f = 3 := Option.some.inj ((show Tryz.prog.funcNamed "loop.example/g00581/laws.FnExactCountSuccess" = some 3 by as_aux_lemma => kernel_rfl).symm.trans hf) |>.symm
      obtain rfl : fn = Tryz.f3 := (Option.some.inj (Tryz.func3.symm.trans hfn)).symm
      exact ⟨by as_aux_lemma => kernel_rfl, fun j t ht => by
        rw [Tryz.params3] at ht
        have hm : t ∈ [39, 40, 3] := by simpa using Array.mem_of_getElem? ht
        have hall : ([39, 40, 3].all fun u => !Tryz.prog.wantsStandIn u) = true := by as_aux_lemma => kernel_rfl
        exact (show Tryz.prog.wantsStandIn t = false by simpa using List.all_eq_true.1 hall t hm)⟩)
    tGoes
#print axioms proved
end Go.Proofs.YtchppgifkkcfpaaGreatDoor.fnExactCountSuccess
