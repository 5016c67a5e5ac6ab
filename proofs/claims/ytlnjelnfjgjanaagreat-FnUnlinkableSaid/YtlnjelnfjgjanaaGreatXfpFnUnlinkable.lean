import Derived.Test.YtlnjelnfjgjanaaGreatXhpFnUnlinkable
import Derived.Test.YtlnjelnfjgjanaaGreatRows
import Derived.Test.YtlnjelnfjgjanaaGreatChecked
import Derived.ProofKit
import Derived.OpenShut
import Derived.Below
import Derived.ChangeSame
import Derived.Lay
import Derived.MakeChecks
import Derived.LaidLaws
/-
  WHAT IS PROVED: for every argument, the law FnUnlinkable returns true and its arguments read as before.
  The walks: over the value kit (VK.. texts); this text joins them to the given row.
-/
set_option linter.unusedVariables false
set_option maxRecDepth 100000
namespace Go.Proofs.YtlnjelnfjgjanaaGreat.fnUnlinkable
open Go.VK Go.ChangeShapes Go.WideShapes Go.ChangeAt Go.RowKit
theorem own : ownKnob Tryz.prog.godebug = none := by kernel_rfl
theorem laidOut : laidOutB Tryz.prog = true := by kernel_rfl
set_option maxHeartbeats 4000000 in
theorem lifted (os : Os) (started : os.Started) (H : Type) (enc : TypeId × Value → H) :
    ReturnsInHanded {} Tryz.checked os 3 .any (Rows.fnUnlinkableSpec.pre6 enc Tryz.prog Tryz.f3 Rows.fnUnlinkableRow.domain false)
      (Rows.fnUnlinkableSpec.post enc Tryz.prog Tryz.f3 false true false false) := by
  refine returnsInHanded_of_change (C := Tryz.checked) own started (by kernel_rfl) Tryz.func3
    (ChangeSpec.witness6 (enc := enc) (C := Tryz.checked) false ⟨#[], #[.slice none 0 0], []⟩ 8 (by kernel_rfl) (by kernel_rfl) (by kernel_rfl) (by kernel_rfl)) ?_
  intro W base args ds gs before hval0 hW hcnd _
  have hval : ∀ (j : Nat) t v, Tryz.f3.params[j]? = some t → args[j]? = some v → Value.okWide Tryz.prog W .any base t v := hval0
  have hW' := hW
  obtain ⟨p, q, hA0, hV, rfl, _, _⟩ := hW
  have hA : DataW.TrodAll enc Tryz.prog W 0 (fun _ => true) true Tryz.f3.params.toList args.toList ds p := hA0
  rw [Tryz.params3] at hA hval
  obtain ⟨v0, vs0, d0, ds0, p0, q0, hargs, rfl, rfl, h0, r0⟩ := trodAll_cons hA
  obtain ⟨rfl, rfl, rfl⟩ := trodAll_nil r0
  obtain rfl : args = #[v0] := by cases args; simp_all
  obtain ⟨rfl, rfl⟩ := trodVars_none hV
  obtain ⟨x0, hx0⟩ := aVj T.aDB Tryz.underlying22 (hval 0 22 v0 rfl rfl) h0
  have hlt : ∀ y ∈ p0 ++ [], y.block < W.heap.size := fun y hy => by simpa using hW'.lt y (by simpa using hy)
  have hT : G0.G W := by
    trivial
  refine ((Nj x0).2 W (fun _ => False) [v0] hT (fun _ h => h.elim) ⟨rfl, fun i v U h1 h2 => ?_⟩).mono fun e W' ⟨v, r, he, hr, hrd, hb⟩ => ?_
  · match i with
    | 0 => simp at h1 h2; subst h1; subst h2; exact hx0
    | i + 1 => simp at h1
  subst he
  subst hr
  obtain rfl := hrd.aAV
  exact ⟨_, rfl, _, _, _, [], p0 ++ [], [], hW', trodAll_mk1 (shut_bool Tryz.underlying4 _), (trodAll_cons_mk (Below.trod laidOut (by kernel_rfl) (of_decide_eq_true (by kernel_rfl)) h0 hb (fun y hy => hlt y (by simp [hy]))) trodAll_mk0), rfl, hb.frame _, fun h => by cases h⟩
theorem over : Rows.fnUnlinkableRow.holds Tryz.pinned (OpenSpec.ofChange Rows.fnUnlinkableSpec) :=
  OpenClaim.holds_of_wide 3 Tryz.f3 rfl rfl rfl rfl rfl rfl rfl ⟨rfl, rfl, rfl, rfl, rfl⟩ rfl rfl rfl rfl rfl (by kernel_rfl) Tryz.func3 (by kernel_rfl)
    (of_decide_eq_true (by kernel_rfl)) (by unfold Func.isWrapper; first | (rw [if_pos (by decide +kernel)]; kernel_rfl) | (rw [if_neg (by decide +kernel)]; exact ⟨rfl, rfl⟩))
    (fun os started H enc _ => lifted os started H enc)
theorem proved : Rows.FnUnlinkableSaid := over
#print axioms proved
end Go.Proofs.YtlnjelnfjgjanaaGreat.fnUnlinkable
