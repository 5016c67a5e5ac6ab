import Derived.Test.YtmnliljalhgmiaaGreatDoorXhuFnAudited
import Derived.Test.YtmnliljalhgmiaaGreatDoorRows
import Derived.Test.YtmnliljalhgmiaaGreatDoorCards
import Derived.Test.YtmnliljalhgmiaaGreatDoorTie
import Derived.Test.YtmnliljalhgmiaaGreatDoorChecked
import Derived.ProofKit
import Derived.OpenShut
import Derived.Below
import Derived.ChangeSame
import Derived.Lay
import Derived.MakeChecks
import Derived.LaidLaws
import Derived.SevenTiedAt
import Derived.Shelf.Vars
import Derived.Test.YtmnliljalhgmiaaGreatDoorXfaFnAudited
/-
  The law FnAudited, last part: for every argument, the law FnExactFnAudited returns true and its arguments read as before.
-/
set_option linter.unusedVariables false
set_option maxRecDepth 100000
namespace Go.Proofs.YtmnliljalhgmiaaGreatDoor.fnAudited
open Go.VK Go.ChangeShapes Go.WideShapes Go.ChangeAt Go.RowKit
theorem lifted2 (os : Os) (started : os.Started) (H : Type) (enc : TypeId × Value → H) : ReturnsInHanded Rows.fnAuditedRow.assume Tryz.pinned.checked os 4 .any (Rows.fnAuditedRow.pre enc Tryz.pinned.checked.prog Tryz.f4 (OpenSpec.ofChange Rows.fnAuditedSpec)) (Rows.fnAuditedSpec.post enc Tryz.pinned.checked.prog Tryz.f4 Rows.fnAuditedRow.apart Rows.fnAuditedRow.fresh Rows.fnAuditedRow.handsOn Rows.fnAuditedRow.again) := lifted os started H enc
theorem nams : Rows.fnAuditedRow.initsInPlace = [] ∧ Rows.fnAuditedRow.initsUnfollowed = false ∧ Rows.fnAuditedRow.initsRecurse = false ∧ Rows.fnAuditedRow.initsNamed = [] ∧ Rows.fnAuditedRow.initsPassed = [] := ⟨rfl, rfl, rfl, rfl, rfl⟩
theorem fld0 : Rows.fnAuditedRow.program = Tryz.pinned.name := rfl
theorem fld1 : Rows.fnAuditedRow.sum = Tryz.pinned.sum := rfl
theorem fld2 : Rows.fnAuditedRow.spec = Rows.fnAuditedSpec.name := rfl
theorem fld3 : Rows.fnAuditedRow.start = .entering := rfl
theorem fld4 : Rows.fnAuditedRow.outside = [] := rfl
theorem fld5 : Rows.fnAuditedRow.inits = [] := rfl
theorem fld6 : Rows.fnAuditedRow.under = none := rfl
theorem fld7 : Rows.fnAuditedRow.noBlocks = false := rfl
theorem fld8 : Rows.fnAuditedRow.leaving = false := rfl
theorem fld9 : Rows.fnAuditedRow.followed = none := rfl
theorem fld10 : Rows.fnAuditedRow.narrowed = false := rfl
theorem fld11 : Rows.fnAuditedRow.still = false := rfl
theorem fn3 : Tryz.pinned.checked.prog.funcs[4]? = some Tryz.f4 := Tryz.func4
theorem over : Rows.fnAuditedRow.holds Tryz.pinned (OpenSpec.ofChange Rows.fnAuditedSpec) :=
  OpenClaim.holds_of_wide 4 Tryz.f4 fld0 fld1 fld2 fld3 fld4 fld5 fld6 nams fld7 fld8 fld9 fld10 fld11 fnm fn3 closed inst wrp
    (fun os started H enc _ => lifted2 os started H enc)
theorem proved : Rows.FnAuditedCardSaid :=
  Claim7.holds_tied_plain_at .later [] [.data, .data, .data, .data, .sentinel, .sentinel, .pinned] true (true, "77a76fa0c700569f51dd60dd672b0e9dc12612ffa1ccb6cb68f87adcbca7bb75") true over (fun _ h => by cases h) (by as_aux_lemma => kernel_rfl) (fun _ h => by cases h) fnAudited_row_tie rfl ⟨rfl, rfl⟩ (by as_aux_lemma => kernel_rfl) rfl
    (fun f fn hf hfn => by
      obtain rfl : f = 4 := Option.some.inj ((show Tryz.prog.funcNamed "loop.example/g00581/laws.FnAudited" = some 4 by as_aux_lemma => kernel_rfl).symm.trans hf) |>.symm
      obtain rfl : fn = Tryz.f4 := (Option.some.inj (Tryz.func4.symm.trans hfn)).symm
      exact ⟨by as_aux_lemma => kernel_rfl, fun j t ht => by
        rw [Tryz.params4] at ht
        have hm : t ∈ [22] := by simpa using Array.mem_of_getElem? ht
        have hall : ([22].all fun u => !Tryz.prog.wantsStandIn u) = true := by as_aux_lemma => kernel_rfl
        exact (show Tryz.prog.wantsStandIn t = false by simpa using List.all_eq_true.1 hall t hm)⟩)
    (by as_aux_lemma => kernel_rfl)
#print axioms proved
end Go.Proofs.YtmnliljalhgmiaaGreatDoor.fnAudited
