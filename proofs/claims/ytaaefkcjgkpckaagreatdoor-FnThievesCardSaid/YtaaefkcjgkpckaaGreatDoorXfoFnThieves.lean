import Derived.Test.YtaaefkcjgkpckaaGreatDoorXhoFnThieves
import Derived.Test.YtaaefkcjgkpckaaGreatDoorRows
import Derived.Test.YtaaefkcjgkpckaaGreatDoorCards
import Derived.Test.YtaaefkcjgkpckaaGreatDoorTie
import Derived.Test.YtaaefkcjgkpckaaGreatDoorChecked
import Derived.ProofKit
import Derived.OpenShut
import Derived.Below
import Derived.ChangeSame
import Derived.Lay
import Derived.MakeChecks
import Derived.LaidLaws
import Derived.SevenTiedAt
import Derived.Shelf.Vars
import Derived.Test.YtaaefkcjgkpckaaGreatDoorXfaFnThieves
/-
  The law FnThieves, last part: for every argument, the law FnExactFnThieves returns true and its arguments read as before.
-/
set_option linter.unusedVariables false
set_option maxRecDepth 100000
namespace Go.Proofs.YtaaefkcjgkpckaaGreatDoor.fnThieves
open Go.VK Go.ChangeShapes Go.WideShapes Go.ChangeAt Go.RowKit
theorem lifted2 (os : Os) (started : os.Started) (H : Type) (enc : TypeId × Value → H) : ReturnsInHanded Rows.fnThievesRow.assume Tryz.pinned.checked os 5 .any (Rows.fnThievesRow.pre enc Tryz.pinned.checked.prog Tryz.f5 (OpenSpec.ofChange Rows.fnThievesSpec)) (Rows.fnThievesSpec.post enc Tryz.pinned.checked.prog Tryz.f5 Rows.fnThievesRow.apart Rows.fnThievesRow.fresh Rows.fnThievesRow.handsOn Rows.fnThievesRow.again) := lifted os started H enc
theorem nams : Rows.fnThievesRow.initsInPlace = [] ∧ Rows.fnThievesRow.initsUnfollowed = false ∧ Rows.fnThievesRow.initsRecurse = false ∧ Rows.fnThievesRow.initsNamed = [] ∧ Rows.fnThievesRow.initsPassed = [] := ⟨rfl, rfl, rfl, rfl, rfl⟩
theorem fld0 : Rows.fnThievesRow.program = Tryz.pinned.name := rfl
theorem fld1 : Rows.fnThievesRow.sum = Tryz.pinned.sum := rfl
theorem fld2 : Rows.fnThievesRow.spec = Rows.fnThievesSpec.name := rfl
theorem fld3 : Rows.fnThievesRow.start = .entering := rfl
theorem fld4 : Rows.fnThievesRow.outside = [] := rfl
theorem fld5 : Rows.fnThievesRow.inits = [] := rfl
theorem fld6 : Rows.fnThievesRow.under = none := rfl
theorem fld7 : Rows.fnThievesRow.noBlocks = false := rfl
theorem fld8 : Rows.fnThievesRow.leaving = false := rfl
theorem fld9 : Rows.fnThievesRow.followed = none := rfl
theorem fld10 : Rows.fnThievesRow.narrowed = false := rfl
theorem fld11 : Rows.fnThievesRow.still = false := rfl
theorem fn3 : Tryz.pinned.checked.prog.funcs[5]? = some Tryz.f5 := Tryz.func5
theorem over : Rows.fnThievesRow.holds Tryz.pinned (OpenSpec.ofChange Rows.fnThievesSpec) :=
  OpenClaim.holds_of_wide 5 Tryz.f5 fld0 fld1 fld2 fld3 fld4 fld5 fld6 nams fld7 fld8 fld9 fld10 fld11 fnm fn3 closed inst wrp
    (fun os started H enc _ => lifted2 os started H enc)
theorem proved : Rows.FnThievesCardSaid :=
  Claim7.holds_tied_plain_at .later [] [.data, .data, .data, .data, .sentinel, .sentinel, .pinned] true (true, "7229c991c6a4c80cc651af29dcef5daac8117a5ea3f8192ace99f6df4f54e170") true over (fun _ h => by cases h) (by as_aux_lemma => kernel_rfl) (fun _ h => by cases h) fnThieves_row_tie rfl ⟨rfl, rfl⟩ (by as_aux_lemma => kernel_rfl) rfl
    (fun f fn hf hfn => by
      obtain rfl : f = 5 := Option.some.inj ((show Tryz.prog.funcNamed "loop.example/g00581/laws.FnThieves" = some 5 by as_aux_lemma => kernel_rfl).symm.trans hf) |>.symm
      obtain rfl : fn = Tryz.f5 := (Option.some.inj (Tryz.func5.symm.trans hfn)).symm
      exact ⟨by as_aux_lemma => kernel_rfl, fun j t ht => by
        rw [Tryz.params5] at ht
        have hm : t ∈ [22] := by simpa using Array.mem_of_getElem? ht
        have hall : ([22].all fun u => !Tryz.prog.wantsStandIn u) = true := by as_aux_lemma => kernel_rfl
        exact (show Tryz.prog.wantsStandIn t = false by simpa using List.all_eq_true.1 hall t hm)⟩)
    (by as_aux_lemma => kernel_rfl)
#print axioms proved
end Go.Proofs.YtaaefkcjgkpckaaGreatDoor.fnThieves
