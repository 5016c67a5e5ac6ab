/-
  THE VALUE KIT, twelfth part: what Mod, Hash, KeyedHash and their like compute. Plain definitions and theorems.
-/
import Derived.Test.YtiojlennpdmapaaGreatVKm
set_option linter.unusedVariables false
namespace Go.VK
open Go.RowKit

/-- The remainder that is not negative; 0 where q is out of 1 .. 10^12. -/
def modI (p q : Int) : Int := if 1 ≤ q ∧ q ≤ 1000000000000 then p % q else 0
theorem modI_0 {p q : Int} (h : ¬ (1 ≤ q ∧ q ≤ 1000000000000)) : modI p q = 0 := if_neg h
theorem tmod_split {p q : Int} (h : 1 ≤ q) : -q < p.tmod q ∧ p.tmod q < q ∧ p % q = (p.tmod q) % q := by
  have h1 : p.tmod q + q * p.tdiv q = p := Int.tmod_add_mul_tdiv p q
  refine ⟨?_, ?_, ?_⟩
  · have := Int.lt_tmod_of_pos p (show 0 < q by omega); exact this
  · exact Int.tmod_lt_of_pos p (by omega)
  · conv => lhs; rw [← h1]
    exact Int.add_mul_emod_self_left _ _ _
theorem modI_n {p q : Int} (h : 1 ≤ q ∧ q ≤ 1000000000000) (ht : p.tmod q < 0) : modI p q = p.tmod q + q := by
  obtain ⟨h1, h2, h3⟩ := tmod_split (p := p) h.1
  rw [modI, if_pos h, h3, ← Int.add_emod_right, Int.emod_eq_of_lt (by omega) (by omega)]
theorem modI_p {p q : Int} (h : 1 ≤ q ∧ q ≤ 1000000000000) (ht : ¬ p.tmod q < 0) : modI p q = p.tmod q := by
  obtain ⟨h1, h2, h3⟩ := tmod_split (p := p) h.1
  rw [modI, if_pos h, h3, Int.emod_eq_of_lt (by omega) (by omega)]
theorem modI_s {p q : Int} (h : 1 ≤ q ∧ q ≤ 1000000000000) : (IntKind.i64.wrap (p.tmod q + q)).tmod q = modI p q := by
  obtain ⟨h1, h2, h3⟩ := tmod_split (p := p) h.1
  rw [wrap64_id (by omega) (by omega), Int.tmod_eq_emod_of_nonneg (by omega), Int.add_emod_right, modI, if_pos h, h3]
theorem modI_range {p q : Int} (h : 1 ≤ q ∧ q ≤ 1000000000000) : 0 ≤ modI p q ∧ modI p q < q := by
  rw [modI, if_pos h]; exact ⟨Int.emod_nonneg _ (by omega), Int.emod_lt_of_pos _ (by omega)⟩

def hstep (h v : Int) : Int := (IntKind.i64.wrap (IntKind.i64.wrap (IntKind.i64.wrap (h * 1000003) + modI v 2147483647) + 13)).tmod 2147483647
def hashI (l : List Int) : Int := l.foldl hstep 11
def keyedI (k : Int) (l : List Int) : Int := hashI ([k] ++ [l, [k]].flatten)
end Go.VK
