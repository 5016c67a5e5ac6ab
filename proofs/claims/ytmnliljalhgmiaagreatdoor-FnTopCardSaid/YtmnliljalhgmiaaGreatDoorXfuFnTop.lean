import Derived.Test.YtmnliljalhgmiaaGreatDoorXhuFnTop
import Derived.Test.YtmnliljalhgmiaaGreatDoorRows
import Derived.Test.YtmnliljalhgmiaaGreatDoorCards
import Derived.Test.YtmnliljalhgmiaaGreatDoorTie
import Derived.Test.YtmnliljalhgmiaaGreatDoorChecked
import Derived.ProofKit
import Derived.OpenShut
import Derived.Below
import Derived.ChangeSame
import Derived.Lay
import Derived.MakeChecks
import Derived.LaidLaws
import Derived.SevenTiedAt
import Derived.Shelf.Vars
import Derived.Test.YtmnliljalhgmiaaGreatDoorXfaFnTop
/-
  The law FnTop, last part: for every argument, the law FnExactFnTop returns true and its arguments read as before.
-/
set_option linter.unusedVariables false
set_option maxRecDepth 100000
namespace Go.Proofs.YtmnliljalhgmiaaGreatDoor.fnTop
open Go.VK Go.ChangeShapes Go.WideShapes Go.ChangeAt Go.RowKit
theorem lifted2 (os : Os) (started : os.Started) (H : Type) (enc : TypeId × Value → H) : ReturnsInHanded Rows.fnTopRow.assume Tryz.pinned.checked os 3 .any (Rows.fnTopRow.pre enc Tryz.pinned.checked.prog Tryz.f3 (OpenSpec.ofChange Rows.fnTopSpec)) (Rows.fnTopSpec.post enc Tryz.pinned.checked.prog Tryz.f3 Rows.fnTopRow.apart Rows.fnTopRow.fresh Rows.fnTopRow.handsOn Rows.fnTopRow.again) := lifted os started H enc
theorem nams : Rows.fnTopRow.initsInPlace = [] ∧ Rows.fnTopRow.initsUnfollowed = false ∧ Rows.fnTopRow.initsRecurse = false ∧ Rows.fnTopRow.initsNamed = [] ∧ Rows.fnTopRow.initsPassed = [] := ⟨rfl, rfl, rfl, rfl, rfl⟩
theorem fld0 : Rows.fnTopRow.program = Tryz.pinned.name := rfl
theorem fld1 : Rows.fnTopRow.sum = Tryz.pinned.sum := rfl
theorem fld2 : Rows.fnTopRow.spec = Rows.fnTopSpec.name := rfl
theorem fld3 : Rows.fnTopRow.start = .entering := rfl
theorem fld4 : Rows.fnTopRow.outside = [] := rfl
theorem fld5 : Rows.fnTopRow.inits = [] := rfl
theorem fld6 : Rows.fnTopRow.under = none := rfl
theorem fld7 : Rows.fnTopRow.noBlocks = false := rfl
theorem fld8 : Rows.fnTopRow.leaving = false := rfl
theorem fld9 : Rows.fnTopRow.followed = none := rfl
theorem fld10 : Rows.fnTopRow.narrowed = false := rfl
theorem fld11 : Rows.fnTopRow.still = false := rfl
theorem fn3 : Tryz.pinned.checked.prog.funcs[3]? = some Tryz.f3 := Tryz.func3
theorem over : Rows.fnTopRow.holds Tryz.pinned (OpenSpec.ofChange Rows.fnTopSpec) :=
  OpenClaim.holds_of_wide 3 Tryz.f3 fld0 fld1 fld2 fld3 fld4 fld5 fld6 nams fld7 fld8 fld9 fld10 fld11 fnm fn3 closed inst wrp
    (fun os started H enc _ => lifted2 os started H enc)
theorem proved : Rows.FnTopCardSaid :=
  Claim7.holds_tied_plain_at .later [] [.data, .data, .data, .data, .sentinel, .sentinel, .pinned] true (true, "77a76fa0c700569f51dd60dd672b0e9dc12612ffa1ccb6cb68f87adcbca7bb75") true over (fun _ h => by cases h) (by as_aux_lemma => kernel_rfl) (fun _ h => by cases h) fnTop_row_tie rfl ⟨rfl, rfl⟩ (by as_aux_lemma => kernel_rfl) rfl
    (fun f fn hf hfn => by
      obtain rfl : f = 3 := Option.some.inj ((show Tryz.prog.funcNamed "loop.example/g00581/laws.FnTop" = some 3 by as_aux_lemma => kernel_rfl).symm.trans hf) |>.symm
      obtain rfl : fn = Tryz.f3 := (Option.some.inj (Tryz.func3.symm.trans hfn)).symm
      exact ⟨by as_aux_lemma => kernel_rfl, fun j t ht => by
        rw [Tryz.params3] at ht
        have hm : t ∈ [22] := by simpa using Array.mem_of_getElem? ht
        have hall : ([22].all fun u => !Tryz.prog.wantsStandIn u) = true := by as_aux_lemma => kernel_rfl
        exact (show Tryz.prog.wantsStandIn t = false by simpa using List.all_eq_true.1 hall t hm)⟩)
    (by as_aux_lemma => kernel_rfl)
#print axioms proved
end Go.Proofs.YtmnliljalhgmiaaGreatDoor.fnTop
