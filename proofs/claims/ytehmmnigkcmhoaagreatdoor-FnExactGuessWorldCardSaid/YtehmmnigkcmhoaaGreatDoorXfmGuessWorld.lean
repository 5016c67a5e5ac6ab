import Derived.Test.YtehmmnigkcmhoaaGreatDoorXhmGuessWorld
import Derived.Test.YtehmmnigkcmhoaaGreatDoorRows
import Derived.Test.YtehmmnigkcmhoaaGreatDoorCards
import Derived.Test.YtehmmnigkcmhoaaGreatDoorTie
import Derived.Test.YtehmmnigkcmhoaaGreatDoorChecked
import Derived.ProofKit
import Derived.OpenShut
import Derived.Below
import Derived.ChangeSame
import Derived.Lay
import Derived.MakeChecks
import Derived.LaidLaws
import Derived.SevenTiedAt
import Derived.Shelf.Vars
import Derived.Test.YtehmmnigkcmhoaaGreatDoorXfaGuessWorld
/-
  The law GuessWorld, last part: for every argument, the law FnExactGuessWorld returns true and its arguments read as before.
-/
set_option linter.unusedVariables false
set_option maxRecDepth 100000
namespace Go.Proofs.YtehmmnigkcmhoaaGreatDoor.fnExactGuessWorld
open Go.VK Go.ChangeShapes Go.WideShapes Go.ChangeAt Go.RowKit
theorem lifted2 (os : Os) (started : os.Started) (H : Type) (enc : TypeId × Value → H) : ReturnsInHanded Rows.fnExactGuessWorldRow.assume Tryz.pinned.checked os 4 .any (Rows.fnExactGuessWorldRow.pre enc Tryz.pinned.checked.prog Tryz.f4 (OpenSpec.ofChange Rows.fnExactGuessWorldSpec)) (Rows.fnExactGuessWorldSpec.post enc Tryz.pinned.checked.prog Tryz.f4 Rows.fnExactGuessWorldRow.apart Rows.fnExactGuessWorldRow.fresh Rows.fnExactGuessWorldRow.handsOn Rows.fnExactGuessWorldRow.again) := lifted os started H enc
theorem nams : Rows.fnExactGuessWorldRow.initsInPlace = [] ∧ Rows.fnExactGuessWorldRow.initsUnfollowed = false ∧ Rows.fnExactGuessWorldRow.initsRecurse = false ∧ Rows.fnExactGuessWorldRow.initsNamed = [] ∧ Rows.fnExactGuessWorldRow.initsPassed = [] := ⟨rfl, rfl, rfl, rfl, rfl⟩
theorem fld0 : Rows.fnExactGuessWorldRow.program = Tryz.pinned.name := rfl
theorem fld1 : Rows.fnExactGuessWorldRow.sum = Tryz.pinned.sum := rfl
theorem fld2 : Rows.fnExactGuessWorldRow.spec = Rows.fnExactGuessWorldSpec.name := rfl
theorem fld3 : Rows.fnExactGuessWorldRow.start = .entering := rfl
theorem fld4 : Rows.fnExactGuessWorldRow.outside = [] := rfl
theorem fld5 : Rows.fnExactGuessWorldRow.inits = [] := rfl
theorem fld6 : Rows.fnExactGuessWorldRow.under = none := rfl
theorem fld7 : Rows.fnExactGuessWorldRow.noBlocks = false := rfl
theorem fld8 : Rows.fnExactGuessWorldRow.leaving = false := rfl
theorem fld9 : Rows.fnExactGuessWorldRow.followed = none := rfl
theorem fld10 : Rows.fnExactGuessWorldRow.narrowed = false := rfl
theorem fld11 : Rows.fnExactGuessWorldRow.still = false := rfl
theorem fn3 : Tryz.pinned.checked.prog.funcs[4]? = some Tryz.f4 := Tryz.func4
theorem over : Rows.fnExactGuessWorldRow.holds Tryz.pinned (OpenSpec.ofChange Rows.fnExactGuessWorldSpec) :=
  OpenClaim.holds_of_wide 4 Tryz.f4 fld0 fld1 fld2 fld3 fld4 fld5 fld6 nams fld7 fld8 fld9 fld10 fld11 fnm fn3 closed inst wrp
    (fun os started H enc _ => lifted2 os started H enc)
theorem proved : Rows.FnExactGuessWorldCardSaid :=
  Claim7.holds_tied_plain_at .later [] [.data, .pinned] true (true, "affdbc4b5cda2013f3fe27f88de37604e4a4e3fc2965de7943f14b439c5eeca9") false over (fun _ h => by cases h) (by as_aux_lemma => kernel_rfl) (fun _ h => by cases h) fnExactGuessWorld_row_tie rfl ⟨rfl, rfl⟩ (by as_aux_lemma => kernel_rfl) rfl
    (fun f fn hf hfn => by
      obtain rfl : f = 4 := Option.some.inj ((show Tryz.prog.funcNamed "loop.example/g00581/laws.FnExactGuessWorld" = some 4 by as_aux_lemma => kernel_rfl).symm.trans hf) |>.symm
      obtain rfl : fn = Tryz.f4 := (Option.some.inj (Tryz.func4.symm.trans hfn)).symm
      exact ⟨by as_aux_lemma => kernel_rfl, fun j t ht => by
        rw [Tryz.params4] at ht
        have hm : t ∈ [39, 3] := by simpa using Array.mem_of_getElem? ht
        have hall : ([39, 3].all fun u => !Tryz.prog.wantsStandIn u) = true := by as_aux_lemma => kernel_rfl
        exact (show Tryz.prog.wantsStandIn t = false by simpa using List.all_eq_true.1 hall t hm)⟩)
    (by as_aux_lemma => kernel_rfl)
#print axioms proved
end Go.Proofs.YtehmmnigkcmhoaaGreatDoor.fnExactGuessWorld
