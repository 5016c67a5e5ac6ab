import Derived.Test.YtajiimgjfnnjlaaGreatDoorXhkUsableLogins
import Derived.Test.YtajiimgjfnnjlaaGreatDoorRows
import Derived.Test.YtajiimgjfnnjlaaGreatDoorCards
import Derived.Test.YtajiimgjfnnjlaaGreatDoorTie
import Derived.Test.YtajiimgjfnnjlaaGreatDoorChecked
import Derived.ProofKit
import Derived.OpenShut
import Derived.Below
import Derived.ChangeSame
import Derived.Lay
import Derived.MakeChecks
import Derived.LaidLaws
import Derived.SevenTiedAt
import Derived.Shelf.Vars
import Derived.Test.YtajiimgjfnnjlaaGreatDoorXfaUsableLogins
/-
  The law UsableLogins, last part: for every argument, the law FnExactUsableLogins returns true and its arguments read as before.
-/
set_option linter.unusedVariables false
set_option maxRecDepth 100000
namespace Go.Proofs.YtajiimgjfnnjlaaGreatDoor.fnExactUsableLogins
open Go.VK Go.ChangeShapes Go.WideShapes Go.ChangeAt Go.RowKit
theorem lifted2 (os : Os) (started : os.Started) (H : Type) (enc : TypeId × Value → H) : ReturnsInHanded Rows.fnExactUsableLoginsRow.assume Tryz.pinned.checked os 3 .any (Rows.fnExactUsableLoginsRow.pre enc Tryz.pinned.checked.prog Tryz.f3 (OpenSpec.ofChange Rows.fnExactUsableLoginsSpec)) (Rows.fnExactUsableLoginsSpec.post enc Tryz.pinned.checked.prog Tryz.f3 Rows.fnExactUsableLoginsRow.apart Rows.fnExactUsableLoginsRow.fresh Rows.fnExactUsableLoginsRow.handsOn Rows.fnExactUsableLoginsRow.again) := lifted os started H enc
theorem nams : Rows.fnExactUsableLoginsRow.initsInPlace = [] ∧ Rows.fnExactUsableLoginsRow.initsUnfollowed = false ∧ Rows.fnExactUsableLoginsRow.initsRecurse = false ∧ Rows.fnExactUsableLoginsRow.initsNamed = [] ∧ Rows.fnExactUsableLoginsRow.initsPassed = [] := ⟨rfl, rfl, rfl, rfl, rfl⟩
theorem fld0 : Rows.fnExactUsableLoginsRow.program = Tryz.pinned.name := rfl
theorem fld1 : Rows.fnExactUsableLoginsRow.sum = Tryz.pinned.sum := rfl
theorem fld2 : Rows.fnExactUsableLoginsRow.spec = Rows.fnExactUsableLoginsSpec.name := rfl
theorem fld3 : Rows.fnExactUsableLoginsRow.start = .entering := rfl
theorem fld4 : Rows.fnExactUsableLoginsRow.outside = [] := rfl
theorem fld5 : Rows.fnExactUsableLoginsRow.inits = [] := rfl
theorem fld6 : Rows.fnExactUsableLoginsRow.under = none := rfl
theorem fld7 : Rows.fnExactUsableLoginsRow.noBlocks = false := rfl
theorem fld8 : Rows.fnExactUsableLoginsRow.leaving = false := rfl
theorem fld9 : Rows.fnExactUsableLoginsRow.followed = none := rfl
theorem fld10 : Rows.fnExactUsableLoginsRow.narrowed = false := rfl
theorem fld11 : Rows.fnExactUsableLoginsRow.still = false := rfl
theorem fn3 : Tryz.pinned.checked.prog.funcs[3]? = some Tryz.f3 := Tryz.func3
theorem over : Rows.fnExactUsableLoginsRow.holds Tryz.pinned (OpenSpec.ofChange Rows.fnExactUsableLoginsSpec) :=
  OpenClaim.holds_of_wide 3 Tryz.f3 fld0 fld1 fld2 fld3 fld4 fld5 fld6 nams fld7 fld8 fld9 fld10 fld11 fnm fn3 closed inst wrp
    (fun os started H enc _ => lifted2 os started H enc)
theorem proved : Rows.FnExactUsableLoginsCardSaid :=
  Claim7.holds_tied_plain_at .later [] [.data, .data, .data, .data, .sentinel, .sentinel, .pinned] true (true, "fd74dba14164f47246ec72443a0a4f356427cc45661142bdd92aa8f1607bc185") true over (fun _ h => by cases h) (by as_aux_lemma => kernel_rfl) (fun _ h => by cases h) fnExactUsableLogins_row_tie rfl ⟨rfl, rfl⟩ (by as_aux_lemma => kernel_rfl) rfl
    (fun f fn hf hfn => by
      obtain rfl : f = 3 := Option.some.inj ((show Tryz.prog.funcNamed "loop.example/g00581/laws.FnExactUsableLogins" = some 3 by as_aux_lemma => kernel_rfl).symm.trans hf) |>.symm
      obtain rfl : fn = Tryz.f3 := (Option.some.inj (Tryz.func3.symm.trans hfn)).symm
      exact ⟨by as_aux_lemma => kernel_rfl, fun j t ht => by
        rw [Tryz.params3] at ht
        have hm : t ∈ [39, 3] := by simpa using Array.mem_of_getElem? ht
        have hall : ([39, 3].all fun u => !Tryz.prog.wantsStandIn u) = true := by as_aux_lemma => kernel_rfl
        exact (show Tryz.prog.wantsStandIn t = false by simpa using List.all_eq_true.1 hall t hm)⟩)
    (by as_aux_lemma => kernel_rfl)
#print axioms proved
end Go.Proofs.YtajiimgjfnnjlaaGreatDoor.fnExactUsableLogins
