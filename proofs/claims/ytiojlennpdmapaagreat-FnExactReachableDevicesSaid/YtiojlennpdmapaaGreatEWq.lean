/-
  THE EVALUATOR's KIT: what the memory says of the data it holds (lengths within a machine's bounds), and a contract without premise.
-/
import Derived.Test.YtiojlennpdmapaaGreatEWp
set_option linter.unusedVariables false
namespace Go.VK
/-- Each of the cells reads in w. -/
def RdA (w : World) (X : Nat → Prop) : List V → Prop
  | [] => True
  | c :: cs => (∃ v, Rd w X [] v c) ∧ RdA w X cs
section
variable {w : World} {X : Nat → Prop}
theorem RdA.of : ∀ {cs : List V}, (∀ (i : Nat) (c : V), cs[i]? = some c → ∃ v, Rd w X [] v c) → RdA w X cs
  | [], _ => trivial
  | c :: cs, h => ⟨h 0 c rfl, RdA.of fun i d hd => h (i + 1) d (by simpa using hd)⟩
theorem RdA.ofL {vs : List Value} {Us : List V} (h : RdL w X vs Us) : RdA w X Us := RdA.of fun i c hc => by
  have hi : i < vs.length := by
    rw [h.1]
    exact (List.getElem?_eq_some_iff.1 hc).1
  exact ⟨vs[i], h.2 i vs[i] c (List.getElem?_eq_getElem hi) hc⟩
theorem RdA.agg {cs : List V} (h : ∃ v, Rd w X [] v (.agg cs)) : RdA w X cs := by
  obtain ⟨v, h⟩ := h
  obtain ⟨vs, rfl, hs, hr⟩ := Rd.agg_inv h
  exact RdA.of fun i c hc => by
    have hi : i < vs.size := by
      rw [hs]
      exact (List.getElem?_eq_some_iff.1 hc).1
    exact ⟨vs[i], hr i vs[i] c (Array.getElem?_eq_getElem hi) hc⟩
theorem okS_of {s : ByteArray} (h : ∃ v, Rd w X [] v (.str s)) : okS s := by
  obtain ⟨v, h⟩ := h
  exact (Rd.str_inv h).2
theorem okL_of {α : Type} {k : Nat} {enc : α → List V} {l : List α} {p : α → Prop} (h : ∃ v, Rd w X [] v (.slice k (l.map enc))) (hp : ∀ y, RdA w X (enc y) → p y) : okL p l := by
  obtain ⟨v, h⟩ := h
  refine ⟨?_, fun y hy => hp y ?_⟩
  · obtain ⟨A, c, rfl, h1, h2⟩ := h.slice_len
    rw [List.length_map] at h1
    exact Nat.le_trans h1 h2
  · obtain ⟨i, hi, rfl⟩ := List.mem_iff_getElem.1 hy
    generalize he : l.map enc = es at h
    cases h with
    | slice0 h => simp at he; subst he; simp at hi
    | slice hn hpos hc hm hX hb hk hcell hrd =>
      exact RdA.of fun j d hd => ⟨_, hrd i j (enc l[i]) d (by rw [← he, List.getElem?_map, List.getElem?_eq_getElem hi]; rfl) hd⟩
end
/-- A contract under what the memory says anyway. -/
theorem spec_of {P : Program} {g : GI} {f : FuncId} {Us : List V} {R : V → Prop} {p : Prop} (he : ∀ args w, (callFunc f args).run P w = .ok (.enter f args) w) (h : p → Spec P g f Us R) (hp : ∀ w X, RdA w X Us → p) : Spec P g f Us R :=
  ⟨he, fun w X vs hg hX hR => (h (hp w X (RdA.ofL hR))).2 w X vs hg hX hR⟩
end Go.VK
