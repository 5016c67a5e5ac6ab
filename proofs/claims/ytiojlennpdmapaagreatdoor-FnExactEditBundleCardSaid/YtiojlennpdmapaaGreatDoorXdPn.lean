import Derived.Test.YtiojlennpdmapaaGreatDoorXdPm
import Derived.Test.YtiojlennpdmapaaGreatDoorXdQ
/-
  Printed by wip/tools (own work of this part): models of functions, walks over the value kit, and proofs.
-/
set_option linter.unusedVariables false
set_option linter.unusedSimpArgs false
set_option maxRecDepth 100000
set_option maxHeartbeats 4000000
namespace Go.VK
open Go.RowKit Go.Proofs
noncomputable section
open EV (itr)
theorem t_laws_FnExactEditBundle (w : D.World) (d : Int) (n : ByteArray) (k : Int) (rm : Bool) (h : w.ok) : m_laws_FnExactEditBundle w d n k rm = some true := by
  unfold m_laws_FnExactEditBundle
  obtain ⟨e0, ⟨hs, e⟩ | e⟩ := szW h
  · by_cases hn : n.size ≤ 1048576
    · have hg := edit_sz w d n k rm
      rw [show decide ((n.size : Int) > 1048576) = false from decide_eq_false (by omega), cond_false]
      simp only [e0, bd_s, e, lawGo hs, gd_t hs, gd_t (show w.sz ≤ 34359738300 ∧ n.size ≤ 34359738300 by omega)]
      generalize editF w d n k rm = g at hg ⊢
      have hg : g.fst.sz ≤ 68719476736 := by omega
      have hw : w.sz ≤ 68719476736 := by omega
      simp only [gd_eqz hg, gd_eqz hw, bd_s, Bool.not_true, cond_false, not_self, gdMkW hw, gdMkW hg, mvW0 hw, mvW_eta, heldW hg, cntW0, mvW2 hg, bne_self_eq_false]
    · rw [show decide ((n.size : Int) > 1048576) = true from decide_eq_true (by omega)]; rfl
  · simp only [e0, bd_s, e]; cases decide ((n.size : Int) > 1048576) <;> rfl
end
end Go.VK
