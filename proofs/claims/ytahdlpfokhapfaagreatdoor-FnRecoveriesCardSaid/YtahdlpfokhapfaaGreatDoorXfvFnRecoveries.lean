import Derived.Test.YtahdlpfokhapfaaGreatDoorXhvFnRecoveries
import Derived.Test.YtahdlpfokhapfaaGreatDoorRows
import Derived.Test.YtahdlpfokhapfaaGreatDoorCards
import Derived.Test.YtahdlpfokhapfaaGreatDoorTie
import Derived.Test.YtahdlpfokhapfaaGreatDoorChecked
import Derived.ProofKit
import Derived.OpenShut
import Derived.Below
import Derived.ChangeSame
import Derived.Lay
import Derived.MakeChecks
import Derived.LaidLaws
import Derived.SevenTiedAt
import Derived.Shelf.Vars
import Derived.Test.YtahdlpfokhapfaaGreatDoorXfaFnRecoveries
/-
  The law FnRecoveries, last part: for every argument, the law FnExactFnRecoveries returns true and its arguments read as before.
-/
set_option linter.unusedVariables false
set_option maxRecDepth 100000
namespace Go.Proofs.YtahdlpfokhapfaaGreatDoor.fnRecoveries
open Go.VK Go.ChangeShapes Go.WideShapes Go.ChangeAt Go.RowKit
theorem lifted2 (os : Os) (started : os.Started) (H : Type) (enc : TypeId × Value → H) : ReturnsInHanded Rows.fnRecoveriesRow.assume Tryz.pinned.checked os 3 .any (Rows.fnRecoveriesRow.pre enc Tryz.pinned.checked.prog Tryz.f3 (OpenSpec.ofChange Rows.fnRecoveriesSpec)) (Rows.fnRecoveriesSpec.post enc Tryz.pinned.checked.prog Tryz.f3 Rows.fnRecoveriesRow.apart Rows.fnRecoveriesRow.fresh Rows.fnRecoveriesRow.handsOn Rows.fnRecoveriesRow.again) := lifted os started H enc
theorem nams : Rows.fnRecoveriesRow.initsInPlace = [] ∧ Rows.fnRecoveriesRow.initsUnfollowed = false ∧ Rows.fnRecoveriesRow.initsRecurse = false ∧ Rows.fnRecoveriesRow.initsNamed = [] ∧ Rows.fnRecoveriesRow.initsPassed = [] := ⟨rfl, rfl, rfl, rfl, rfl⟩
theorem fld0 : Rows.fnRecoveriesRow.program = Tryz.pinned.name := rfl
theorem fld1 : Rows.fnRecoveriesRow.sum = Tryz.pinned.sum := rfl
theorem fld2 : Rows.fnRecoveriesRow.spec = Rows.fnRecoveriesSpec.name := rfl
theorem fld3 : Rows.fnRecoveriesRow.start = .entering := rfl
theorem fld4 : Rows.fnRecoveriesRow.outside = [] := rfl
theorem fld5 : Rows.fnRecoveriesRow.inits = [] := rfl
theorem fld6 : Rows.fnRecoveriesRow.under = none := rfl
theorem fld7 : Rows.fnRecoveriesRow.noBlocks = false := rfl
theorem fld8 : Rows.fnRecoveriesRow.leaving = false := rfl
theorem fld9 : Rows.fnRecoveriesRow.followed = none := rfl
theorem fld10 : Rows.fnRecoveriesRow.narrowed = false := rfl
theorem fld11 : Rows.fnRecoveriesRow.still = false := rfl
theorem fn3 : Tryz.pinned.checked.prog.funcs[3]? = some Tryz.f3 := Tryz.func3
theorem over : Rows.fnRecoveriesRow.holds Tryz.pinned (OpenSpec.ofChange Rows.fnRecoveriesSpec) :=
  OpenClaim.holds_of_wide 3 Tryz.f3 fld0 fld1 fld2 fld3 fld4 fld5 fld6 nams fld7 fld8 fld9 fld10 fld11 fnm fn3 closed inst wrp
    (fun os started H enc _ => lifted2 os started H enc)
theorem proved : Rows.FnRecoveriesCardSaid :=
  Claim7.holds_tied_plain_at .later [] [.data, .pinned] true (true, "b8bb4ae892372f0fba7bbea7bd03766cbeeece7a32a5152374b59c9fc533c736") false over (fun _ h => by cases h) (by as_aux_lemma => kernel_rfl) (fun _ h => by cases h) fnRecoveries_row_tie rfl ⟨rfl, rfl⟩ (by as_aux_lemma => kernel_rfl) rfl
    (fun f fn hf hfn => by
      obtain rfl : f = 3 := Option.some.inj ((show Tryz.prog.funcNamed "loop.example/g00581/laws.FnRecoveries" = some 3 by as_aux_lemma => kernel_rfl).symm.trans hf) |>.symm
      obtain rfl : fn = Tryz.f3 := (Option.some.inj (Tryz.func3.symm.trans hfn)).symm
      exact ⟨by as_aux_lemma => kernel_rfl, fun j t ht => by
        rw [Tryz.params3] at ht
        have hm : t ∈ [22] := by simpa using Array.mem_of_getElem? ht
        have hall : ([22].all fun u => !Tryz.prog.wantsStandIn u) = true := by as_aux_lemma => kernel_rfl
        exact (show Tryz.prog.wantsStandIn t = false by simpa using List.all_eq_true.1 hall t hm)⟩)
    (by as_aux_lemma => kernel_rfl)
#print axioms proved
end Go.Proofs.YtahdlpfokhapfaaGreatDoor.fnRecoveries
