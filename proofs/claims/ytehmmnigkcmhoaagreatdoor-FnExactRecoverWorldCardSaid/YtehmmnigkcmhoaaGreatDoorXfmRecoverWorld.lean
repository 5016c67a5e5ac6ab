import Derived.Test.YtehmmnigkcmhoaaGreatDoorXhmRecoverWorld
import Derived.Test.YtehmmnigkcmhoaaGreatDoorRows
import Derived.Test.YtehmmnigkcmhoaaGreatDoorCards
import Derived.Test.YtehmmnigkcmhoaaGreatDoorTie
import Derived.Test.YtehmmnigkcmhoaaGreatDoorChecked
import Derived.ProofKit
import Derived.OpenShut
import Derived.Below
import Derived.ChangeSame
import Derived.Lay
import Derived.MakeChecks
import Derived.LaidLaws
import Derived.SevenTiedAt
import Derived.Shelf.Vars
import Derived.Test.YtehmmnigkcmhoaaGreatDoorXfaRecoverWorld
/-
  The law RecoverWorld, last part: for every argument, the law FnExactRecoverWorld returns true and its arguments read as before.
-/
set_option linter.unusedVariables false
set_option maxRecDepth 100000
namespace Go.Proofs.YtehmmnigkcmhoaaGreatDoor.fnExactRecoverWorld
open Go.VK Go.ChangeShapes Go.WideShapes Go.ChangeAt Go.RowKit
theorem lifted2 (os : Os) (started : os.Started) (H : Type) (enc : TypeId × Value → H) : ReturnsInHanded Rows.fnExactRecoverWorldRow.assume Tryz.pinned.checked os 3 .any (Rows.fnExactRecoverWorldRow.pre enc Tryz.pinned.checked.prog Tryz.f3 (OpenSpec.ofChange Rows.fnExactRecoverWorldSpec)) (Rows.fnExactRecoverWorldSpec.post enc Tryz.pinned.checked.prog Tryz.f3 Rows.fnExactRecoverWorldRow.apart Rows.fnExactRecoverWorldRow.fresh Rows.fnExactRecoverWorldRow.handsOn Rows.fnExactRecoverWorldRow.again) := lifted os started H enc
theorem nams : Rows.fnExactRecoverWorldRow.initsInPlace = [] ∧ Rows.fnExactRecoverWorldRow.initsUnfollowed = false ∧ Rows.fnExactRecoverWorldRow.initsRecurse = false ∧ Rows.fnExactRecoverWorldRow.initsNamed = [] ∧ Rows.fnExactRecoverWorldRow.initsPassed = [] := ⟨rfl, rfl, rfl, rfl, rfl⟩
theorem fld0 : Rows.fnExactRecoverWorldRow.program = Tryz.pinned.name := rfl
theorem fld1 : Rows.fnExactRecoverWorldRow.sum = Tryz.pinned.sum := rfl
theorem fld2 : Rows.fnExactRecoverWorldRow.spec = Rows.fnExactRecoverWorldSpec.name := rfl
theorem fld3 : Rows.fnExactRecoverWorldRow.start = .entering := rfl
theorem fld4 : Rows.fnExactRecoverWorldRow.outside = [] := rfl
theorem fld5 : Rows.fnExactRecoverWorldRow.inits = [] := rfl
theorem fld6 : Rows.fnExactRecoverWorldRow.under = none := rfl
theorem fld7 : Rows.fnExactRecoverWorldRow.noBlocks = false := rfl
theorem fld8 : Rows.fnExactRecoverWorldRow.leaving = false := rfl
theorem fld9 : Rows.fnExactRecoverWorldRow.followed = none := rfl
theorem fld10 : Rows.fnExactRecoverWorldRow.narrowed = false := rfl
theorem fld11 : Rows.fnExactRecoverWorldRow.still = false := rfl
theorem fn3 : Tryz.pinned.checked.prog.funcs[3]? = some Tryz.f3 := Tryz.func3
theorem over : Rows.fnExactRecoverWorldRow.holds Tryz.pinned (OpenSpec.ofChange Rows.fnExactRecoverWorldSpec) :=
  OpenClaim.holds_of_wide 3 Tryz.f3 fld0 fld1 fld2 fld3 fld4 fld5 fld6 nams fld7 fld8 fld9 fld10 fld11 fnm fn3 closed inst wrp
    (fun os started H enc _ => lifted2 os started H enc)
theorem proved : Rows.FnExactRecoverWorldCardSaid :=
  Claim7.holds_tied_plain_at .later [] [.data, .pinned] true (true, "affdbc4b5cda2013f3fe27f88de37604e4a4e3fc2965de7943f14b439c5eeca9") false over (fun _ h => by cases h) (by as_aux_lemma => kernel_rfl) (fun _ h => by cases h) fnExactRecoverWorld_row_tie rfl ⟨rfl, rfl⟩ (by as_aux_lemma => kernel_rfl) rfl
    (fun f fn hf hfn => by
      obtain rfl : f = 3 := Option.some.inj ((show Tryz.prog.funcNamed "loop.example/g00581/laws.FnExactRecoverWorld" = some 3 by as_aux_lemma => kernel_rfl).symm.trans hf) |>.symm
      obtain rfl : fn = Tryz.f3 := (Option.some.inj (Tryz.func3.symm.trans hfn)).symm
      exact ⟨by as_aux_lemma => kernel_rfl, fun j t ht => by
        rw [Tryz.params3] at ht
        have hm : t ∈ [39, 40, 3] := by simpa using Array.mem_of_getElem? ht
        have hall : ([39, 40, 3].all fun u => !Tryz.prog.wantsStandIn u) = true := by as_aux_lemma => kernel_rfl
        exact (show Tryz.prog.wantsStandIn t = false by simpa using List.all_eq_true.1 hall t hm)⟩)
    (by as_aux_lemma => kernel_rfl)
#print axioms proved
end Go.Proofs.YtehmmnigkcmhoaaGreatDoor.fnExactRecoverWorld
