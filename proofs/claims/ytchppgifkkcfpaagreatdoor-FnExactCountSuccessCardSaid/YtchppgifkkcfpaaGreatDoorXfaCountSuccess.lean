import Derived.Test.YtchppgifkkcfpaaGreatDoorXhcCountSuccess
import Derived.Test.YtchppgifkkcfpaaGreatDoorRows
import Derived.Test.YtchppgifkkcfpaaGreatDoorCards
import Derived.Test.YtchppgifkkcfpaaGreatDoorXftCountSuccess
import Derived.Test.YtchppgifkkcfpaaGreatDoorChecked
import Derived.ProofKit
import Derived.OpenShut
import Derived.Below
import Derived.ChangeSame
import Derived.Lay
import Derived.MakeChecks
import Derived.LaidLaws
import Derived.SevenTiedAt
import Derived.Shelf.Vars
/-
  WHAT IS PROVED: for every argument, the law FnExactCountSuccess returns true and its arguments read as before.
  The walks: over the value kit (VK.. texts); this text joins them to the given row and its tied card.
-/
set_option linter.unusedVariables false
set_option maxRecDepth 100000
namespace Go.Proofs.YtchppgifkkcfpaaGreatDoor.fnExactCountSuccess
open Go.VK Go.ChangeShapes Go.WideShapes Go.ChangeAt Go.RowKit
theorem own : ownKnob Tryz.prog.godebug = none := by kernel_rfl
theorem laidOut : laidOutB Tryz.prog = true := by kernel_rfl
set_option maxHeartbeats 4000000 in
theorem lifted (os : Os) (started : os.Started) (H : Type) (enc : TypeId × Value → H) :
    ReturnsInHanded {} Tryz.checked os 3 .any (fun w args => (Rows.fnExactCountSuccessSpec.pre enc Tryz.prog Tryz.f3 [] false w args ∧ laidMetH Tryz.prog Rows.fnExactCountSuccessRow.laid w) ∧ sizedMet enc Tryz.prog Tryz.f3 (OpenSpec.ofChange Rows.fnExactCountSuccessSpec) false w args)
      (Rows.fnExactCountSuccessSpec.post enc Tryz.prog Tryz.f3 false true false false) := by
  refine Go.VK.aBS (C := Tryz.checked) (X := fun w _ => laidMetH Tryz.prog Rows.fnExactCountSuccessRow.laid w) (fun _ _ _ hh h => h.of_heap hh) own started (by kernel_rfl) Tryz.func3
    (ChangeSpec.witness_shaped (enc := enc) (C := Tryz.checked) (os := os) (X := fun w _ => laidMetH Tryz.prog Rows.fnExactCountSuccessRow.laid w) false (World.laidAll Tryz.prog os Rows.fnExactCountSuccessRow.laid) #[.agg #[.int .i64 0, .int .i64 0, .slice none 0 0, .slice none 0 0, .slice none 0 0, .int .i64 0, .slice none 0 0, .slice none 0 0, .slice none 0 0, .int .i64 0, .int .i64 0, .int .i64 0, .int .i64 0, .slice none 0 0, .int .i64 0, .slice none 0 0], .slice none 0 0, .int .i64 0] 8 (World.laidAll_os _ _ _)
      (World.shaped_of_ZipB (by kernel_rfl) (by kernel_rfl)) (by kernel_rfl) (by kernel_rfl) (by kernel_rfl)
      (by rw [MakeChecks.laidMetH_plain _ _ _ (by kernel_rfl)]; exact laidMet_laidAll _ (by kernel_rfl) (by kernel_rfl))) ?_
  intro W base args ds gs before hval0 hW hL hsh
  have hval : ∀ (j : Nat) t v, Tryz.f3.params[j]? = some t → args[j]? = some v → Value.okWide Tryz.prog W .any base t v := hval0
  have hW' := hW
  obtain ⟨p, q, hA0, hV, rfl, _, _⟩ := hW
  have hA : DataW.TrodAll enc Tryz.prog W 0 (fun _ => true) true Tryz.f3.params.toList args.toList ds p := hA0
  rw [Tryz.params3] at hA hval
  obtain ⟨v0, vs0, d0, ds0, p0, q0, hargs, rfl, rfl, h0, r0⟩ := trodAll_cons hA
  obtain ⟨v1, vs1, d1, ds1, p1, q1, rfl, rfl, rfl, h1, r1⟩ := trodAll_cons r0
  obtain ⟨v2, vs2, d2, ds2, p2, q2, rfl, rfl, rfl, h2, r2⟩ := trodAll_cons r1
  obtain ⟨rfl, rfl, rfl⟩ := trodAll_nil r2
  obtain rfl : args = #[v0, v1, v2] := by cases args; simp_all
  obtain ⟨rfl, rfl⟩ := trodVars_none hV
  obtain ⟨x0, hx0⟩ := bOo T.hd39 Tryz.underlying39 (hval 0 39 v0 rfl rfl) h0
  obtain ⟨x1, hx1⟩ := bSy T.aDX Tryz.underlying40 (hval 1 40 v1 rfl rfl) h1
  obtain ⟨x2, hx2⟩ := bYb Tryz.underlying3 (hval 2 3 v2 rfl rfl) h2
  have hlt : ∀ y ∈ p0 ++ (p1 ++ (p2 ++ [])), y.block < W.heap.size := fun y hy => by simpa using hW'.lt y (by simpa using hy)
  have hT : G0.G W := by
    exact Go.Proofs.cell_of_shapedOpen_int (g := 0) (t := 3) (zero := #[.int .i64 0]) hsh (of_decide_eq_true (by kernel_rfl)) (by kernel_rfl) rfl (by kernel_rfl) (by kernel_rfl) Tryz.underlying3
  refine ((Er x0 x1 x2).2 W (fun _ => False) [v0, v1, v2] hT (fun _ h => h.elim) ⟨rfl, fun i v U h1 h2 => ?_⟩).mono fun e W' ⟨v, r, he, hr, hrd, hb⟩ => ?_
  · match i with
    | 0 => simp at h1 h2; subst h1; subst h2; exact hx0
    | 1 => simp at h1 h2; subst h1; subst h2; exact hx1
    | 2 => simp at h1 h2; subst h1; subst h2; exact hx2
    | i + 3 => simp at h1
  subst he
  subst hr
  obtain rfl := hrd.aAU
  exact ⟨_, rfl, _, _, _, [], p0 ++ (p1 ++ (p2 ++ [])), [], hW', trodAll_mk1 (shut_bool Tryz.underlying4 _), (trodAll_cons_mk (Below.trod laidOut (by kernel_rfl) (of_decide_eq_true (by kernel_rfl)) h0 hb (fun y hy => hlt y (by simp [hy]))) (trodAll_cons_mk (Below.trod laidOut (by kernel_rfl) (of_decide_eq_true (by kernel_rfl)) h1 hb (fun y hy => hlt y (by simp [hy]))) (trodAll_cons_mk (Below.trod laidOut (by kernel_rfl) (of_decide_eq_true (by kernel_rfl)) h2 hb (fun y hy => hlt y (by simp [hy]))) trodAll_mk0))), rfl, hb.frame _, fun h => by cases h⟩
end Go.Proofs.YtchppgifkkcfpaaGreatDoor.fnExactCountSuccess
