import Derived.Test.YtiojlennpdmapaaGreatDoorXdPg
import Derived.Test.YtiojlennpdmapaaGreatDoorXdQ
/-
  Printed by wip/tools (own work of this part): models of functions, walks over the value kit, and proofs.
-/
set_option linter.unusedVariables false
set_option linter.unusedSimpArgs false
set_option maxRecDepth 100000
set_option maxHeartbeats 4000000
namespace Go.VK
open Go.RowKit Go.Proofs
noncomputable section
open EV (itr)
theorem roll_at (h : D.KeeperHost) (b : Int) (hz : h.Saved.length ≤ 34359738368) (h0 : 0 ≤ b ∧ b < (h.Saved.length : Int)) : atq h.Saved (IntKind.i64.wrap (IntKind.i64.wrap ((h.Saved.length : Int) - 1) - b)) = some (h.Saved.getD (h.Saved.length - 1 - b.toNat) default) := by
  rw [wrap64_id (n := (h.Saved.length : Int) - 1) (by omega) (by omega), wrap64_id (by omega) (by omega), atq_getD (by omega) (by omega)]
  congr 2; omega
theorem t_spec_RollBackHost (h : D.KeeperHost) (b : Int) (hz : h.sz ≤ 34359738368) : m_spec_RollBackHost h b = some (rollHostF h b) := by
  have hq := hz
  simp only [D.KeeperHost.sz] at hq
  unfold m_spec_RollBackHost rollHostF
  rw [gd_t hz, bd_s, inR_neg hq]
  cases e : (decide (b < 0) || decide (b ≥ (h.Saved.length : Int))) with
  | true => rfl
  | false => rw [roll_at h b hq (out_no e)]; rfl
theorem if_or {c d : Bool} : (bif c then some true else some d) = some (c || d) := by cases c <;> rfl
theorem t_impl_RollBackHost (h : D.KeeperHost) (b : Int) (hz : h.sz ≤ 34359738368) : m_impl_RollBackHost h b = some (rollHostF h b) := by
  have hq := hz
  simp only [D.KeeperHost.sz] at hq
  unfold m_impl_RollBackHost rollHostF
  rw [gd_t hz, bd_s, if_or, bd_s]
  cases e : (decide (b < 0) || decide (b ≥ (h.Saved.length : Int))) with
  | true => rfl
  | false => rw [roll_at h b hq (out_no e)]; rfl
theorem roll_no {h : D.KeeperHost} {b : Int} (e : (rollHostF h b).2 = false) : rollHostF h b = (h, false) := by
  unfold rollHostF at e ⊢
  cases q : (decide (b < 0) || decide (b ≥ (h.Saved.length : Int))) with
  | true => rfl
  | false => rw [q] at e; cases e
theorem set_same {α : Type} [Inhabited α] {l : List α} {i : Nat} (h : i < l.length) : l.set i (l.getD i default) = l := by
  rw [List.getD, List.getElem?_eq_getElem h]; simp
theorem t_spec_RollBackWorld (w : D.World) (i b : Int) (h : w.sz ≤ 34359738368) : m_spec_RollBackWorld w i b = some (rollWorldF w i b) := by
  have hz := h
  simp only [D.World.sz] at hz
  unfold m_spec_RollBackWorld rollWorldF
  rw [gd_t h, bd_s, gd_t h, bd_s, inR_neg (by omega), if_or, bd_s]
  cases e : (!worldOkF w || (decide (i < 0) || decide (i ≥ (w.Hosts.length : Int)))) with
  | true => rfl
  | false =>
    have e2 := out_no (Bool.or_eq_false_iff.1 e).2
    have hi : i.toNat < w.Hosts.length := by omega
    have hs := le_sumI (f := D.KeeperHost.sz) hi
    have hg : w.Hosts.getD i.toNat default = w.Hosts[i.toNat] := by simp [List.getD, List.getElem?_eq_getElem hi]
    rw [cond_false, cond_false, atq_getD e2.1 e2.2, bd_s, hg, gd_t (by omega), bd_s, bd_s]
    cases hr : (rollHostF w.Hosts[i.toNat] b).2 with
    | true => rfl
    | false =>
      rw [roll_no hr, cond_false, ← hg, set_same hi]
theorem t_impl_RollBackWorld (w : D.World) (i b : Int) (h : w.sz ≤ 34359738368) : m_impl_RollBackWorld w i b = some (rollWorldF w i b) := by
  have hz := h
  simp only [D.World.sz] at hz
  unfold m_impl_RollBackWorld rollWorldF
  rw [gd_t h, bd_s, gd_t h, bd_s, if_or, if_or, bd_s]
  cases e : (!worldOkF w || (decide (i < 0) || decide (i ≥ (w.Hosts.length : Int)))) with
  | true => rfl
  | false =>
    have e2 := out_no (Bool.or_eq_false_iff.1 e).2
    have hi : i.toNat < w.Hosts.length := by omega
    have hs := le_sumI (f := D.KeeperHost.sz) hi
    have hg : w.Hosts.getD i.toNat default = w.Hosts[i.toNat] := by simp [List.getD, List.getElem?_eq_getElem hi]
    rw [cond_false, cond_false, atq_getD e2.1 e2.2, bd_s, hg, gd_t (by omega), bd_s, bd_s]
    cases hr : (rollHostF w.Hosts[i.toNat] b).2 <;> rfl

end
end Go.VK
