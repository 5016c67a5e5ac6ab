import Derived.Test.YtahdlpfokhapfaaGreatDoorXhvFnAuditDetects
import Derived.Test.YtahdlpfokhapfaaGreatDoorRows
import Derived.Test.YtahdlpfokhapfaaGreatDoorCards
import Derived.Test.YtahdlpfokhapfaaGreatDoorTie
import Derived.Test.YtahdlpfokhapfaaGreatDoorChecked
import Derived.ProofKit
import Derived.OpenShut
import Derived.Below
import Derived.ChangeSame
import Derived.Lay
import Derived.MakeChecks
import Derived.LaidLaws
import Derived.SevenTiedAt
import Derived.Shelf.Vars
import Derived.Test.YtahdlpfokhapfaaGreatDoorXfaFnAuditDetects
/-
  The law FnAuditDetects, last part: for every argument, the law FnExactFnAuditDetects returns true and its arguments read as before.
-/
set_option linter.unusedVariables false
set_option maxRecDepth 100000
namespace Go.Proofs.YtahdlpfokhapfaaGreatDoor.fnAuditDetects
open Go.VK Go.ChangeShapes Go.WideShapes Go.ChangeAt Go.RowKit
theorem lifted2 (os : Os) (started : os.Started) (H : Type) (enc : TypeId × Value → H) : ReturnsInHanded Rows.fnAuditDetectsRow.assume Tryz.pinned.checked os 4 .any (Rows.fnAuditDetectsRow.pre enc Tryz.pinned.checked.prog Tryz.f4 (OpenSpec.ofChange Rows.fnAuditDetectsSpec)) (Rows.fnAuditDetectsSpec.post enc Tryz.pinned.checked.prog Tryz.f4 Rows.fnAuditDetectsRow.apart Rows.fnAuditDetectsRow.fresh Rows.fnAuditDetectsRow.handsOn Rows.fnAuditDetectsRow.again) := lifted os started H enc
theorem nams : Rows.fnAuditDetectsRow.initsInPlace = [] ∧ Rows.fnAuditDetectsRow.initsUnfollowed = false ∧ Rows.fnAuditDetectsRow.initsRecurse = false ∧ Rows.fnAuditDetectsRow.initsNamed = [] ∧ Rows.fnAuditDetectsRow.initsPassed = [] := ⟨rfl, rfl, rfl, rfl, rfl⟩
theorem fld0 : Rows.fnAuditDetectsRow.program = Tryz.pinned.name := rfl
theorem fld1 : Rows.fnAuditDetectsRow.sum = Tryz.pinned.sum := rfl
theorem fld2 : Rows.fnAuditDetectsRow.spec = Rows.fnAuditDetectsSpec.name := rfl
theorem fld3 : Rows.fnAuditDetectsRow.start = .entering := rfl
theorem fld4 : Rows.fnAuditDetectsRow.outside = [] := rfl
theorem fld5 : Rows.fnAuditDetectsRow.inits = [] := rfl
theorem fld6 : Rows.fnAuditDetectsRow.under = none := rfl
theorem fld7 : Rows.fnAuditDetectsRow.noBlocks = false := rfl
theorem fld8 : Rows.fnAuditDetectsRow.leaving = false := rfl
theorem fld9 : Rows.fnAuditDetectsRow.followed = none := rfl
theorem fld10 : Rows.fnAuditDetectsRow.narrowed = false := rfl
theorem fld11 : Rows.fnAuditDetectsRow.still = false := rfl
theorem fn3 : Tryz.pinned.checked.prog.funcs[4]? = some Tryz.f4 := Tryz.func4
theorem over : Rows.fnAuditDetectsRow.holds Tryz.pinned (OpenSpec.ofChange Rows.fnAuditDetectsSpec) :=
  OpenClaim.holds_of_wide 4 Tryz.f4 fld0 fld1 fld2 fld3 fld4 fld5 fld6 nams fld7 fld8 fld9 fld10 fld11 fnm fn3 closed inst wrp
    (fun os started H enc _ => lifted2 os started H enc)
theorem proved : Rows.FnAuditDetectsCardSaid :=
  Claim7.holds_tied_plain_at .later [] [.data, .pinned] true (true, "b8bb4ae892372f0fba7bbea7bd03766cbeeece7a32a5152374b59c9fc533c736") false over (fun _ h => by cases h) (by as_aux_lemma => kernel_rfl) (fun _ h => by cases h) fnAuditDetects_row_tie rfl ⟨rfl, rfl⟩ (by as_aux_lemma => kernel_rfl) rfl
    (fun f fn hf hfn => by
      obtain rfl : f = 4 := Option.some.inj ((show Tryz.prog.funcNamed "loop.example/g00581/laws.FnAuditDetects" = some 4 by as_aux_lemma => kernel_rfl).symm.trans hf) |>.symm
      obtain rfl : fn = Tryz.f4 := (Option.some.inj (Tryz.func4.symm.trans hfn)).symm
      exact ⟨by as_aux_lemma => kernel_rfl, fun j t ht => by
        rw [Tryz.params4] at ht
        have hm : t ∈ [22] := by simpa using Array.mem_of_getElem? ht
        have hall : ([22].all fun u => !Tryz.prog.wantsStandIn u) = true := by as_aux_lemma => kernel_rfl
        exact (show Tryz.prog.wantsStandIn t = false by simpa using List.all_eq_true.1 hall t hm)⟩)
    (by as_aux_lemma => kernel_rfl)
#print axioms proved
end Go.Proofs.YtahdlpfokhapfaaGreatDoor.fnAuditDetects
