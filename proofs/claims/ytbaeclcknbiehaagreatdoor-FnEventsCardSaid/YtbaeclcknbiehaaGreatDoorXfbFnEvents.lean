import Derived.Test.YtbaeclcknbiehaaGreatDoorXhbFnEvents
import Derived.Test.YtbaeclcknbiehaaGreatDoorRows
import Derived.Test.YtbaeclcknbiehaaGreatDoorCards
import Derived.Test.YtbaeclcknbiehaaGreatDoorTie
import Derived.Test.YtbaeclcknbiehaaGreatDoorChecked
import Derived.ProofKit
import Derived.OpenShut
import Derived.Below
import Derived.ChangeSame
import Derived.Lay
import Derived.MakeChecks
import Derived.LaidLaws
import Derived.SevenTiedAt
import Derived.Shelf.Vars
import Derived.Test.YtbaeclcknbiehaaGreatDoorXfaFnEvents
import Derived.Test.YtbaeclcknbiehaaGreatDoorXfgFnEvents
/-
  The law FnEvents, last part: for every argument, the law FnExactFnEvents returns true and its arguments read as before.
-/
set_option linter.unusedVariables false
set_option maxRecDepth 100000
namespace Go.Proofs.YtbaeclcknbiehaaGreatDoor.fnEvents
open Go.VK Go.ChangeShapes Go.WideShapes Go.ChangeAt Go.RowKit
theorem lifted2 (os : Os) (started : os.Started) (H : Type) (enc : TypeId × Value → H) : ReturnsInHanded Rows.fnEventsRow.assume Tryz.pinned.checked os 3 .any (Rows.fnEventsRow.pre enc Tryz.pinned.checked.prog Tryz.f3 (OpenSpec.ofChange Rows.fnEventsSpec)) (Rows.fnEventsSpec.post enc Tryz.pinned.checked.prog Tryz.f3 Rows.fnEventsRow.apart Rows.fnEventsRow.fresh Rows.fnEventsRow.handsOn Rows.fnEventsRow.again) := lifted os started H enc
theorem nams : Rows.fnEventsRow.initsInPlace = [] ∧ Rows.fnEventsRow.initsUnfollowed = false ∧ Rows.fnEventsRow.initsRecurse = false ∧ Rows.fnEventsRow.initsNamed = [] ∧ Rows.fnEventsRow.initsPassed = [] := ⟨rfl, rfl, rfl, rfl, rfl⟩
theorem fld0 : Rows.fnEventsRow.program = Tryz.pinned.name := rfl
theorem fld1 : Rows.fnEventsRow.sum = Tryz.pinned.sum := rfl
theorem fld2 : Rows.fnEventsRow.spec = Rows.fnEventsSpec.name := rfl
theorem fld3 : Rows.fnEventsRow.start = .entering := rfl
theorem fld4 : Rows.fnEventsRow.outside = [] := rfl
theorem fld5 : Rows.fnEventsRow.inits = [] := rfl
theorem fld6 : Rows.fnEventsRow.under = none := rfl
theorem fld7 : Rows.fnEventsRow.noBlocks = false := rfl
theorem fld8 : Rows.fnEventsRow.leaving = false := rfl
theorem fld9 : Rows.fnEventsRow.followed = none := rfl
theorem fld10 : Rows.fnEventsRow.narrowed = false := rfl
theorem fld11 : Rows.fnEventsRow.still = false := rfl
theorem fn3 : Tryz.pinned.checked.prog.funcs[3]? = some Tryz.f3 := Tryz.func3
theorem over : Rows.fnEventsRow.holds Tryz.pinned (OpenSpec.ofChange Rows.fnEventsSpec) :=
  OpenClaim.holds_of_wide 3 Tryz.f3 fld0 fld1 fld2 fld3 fld4 fld5 fld6 nams fld7 fld8 fld9 fld10 fld11 fnm fn3 closed inst wrp
    (fun os started H enc _ => lifted2 os started H enc)
theorem proved : Rows.FnEventsCardSaid :=
  Claim7.holds_tied_plain_at .later [] [.data, .data, .data, .data, .sentinel, .sentinel, .pinned] true (true, "03b7661e0212a02c9ef39cb2c1bd01a49918f2694468b57ae33dded1ed06934c") true over (fun _ h => by cases h) (by as_aux_lemma => kernel_rfl) (fun _ h => by cases h) fnEvents_row_tie rfl ⟨rfl, rfl⟩ (by as_aux_lemma => kernel_rfl) rfl
    (fun f fn hf hfn => by
      obtain rfl : f = 3 := Option.some.inj ((show Tryz.prog.funcNamed "loop.example/g00581/laws.FnEvents" = some 3 by as_aux_lemma => kernel_rfl).symm.trans hf) |>.symm
      obtain rfl : fn = Tryz.f3 := (Option.some.inj (Tryz.func3.symm.trans hfn)).symm
      exact ⟨by as_aux_lemma => kernel_rfl, fun j t ht => by
        rw [Tryz.params3] at ht
        have hm : t ∈ [22] := by simpa using Array.mem_of_getElem? ht
        have hall : ([22].all fun u => !Tryz.prog.wantsStandIn u) = true := by as_aux_lemma => kernel_rfl
        exact (show Tryz.prog.wantsStandIn t = false by simpa using List.all_eq_true.1 hall t hm)⟩)
    tGoes
#print axioms proved
end Go.Proofs.YtbaeclcknbiehaaGreatDoor.fnEvents
