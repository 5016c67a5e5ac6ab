/-
  THE VALUE KIT, ninth part: decimal numerals as Go's strconv and the reference write them; joined strings. Plain theorems.
-/
import Derived.Test.YtiojlennpdmapaaGreatVKh
import Derived.Lib.ItoaLen
import Derived.Sort.Grow
set_option linter.unusedVariables false
set_option linter.unusedSimpArgs false
namespace Go.VK
open Go.RowKit

theorem wrap64_id {n : Int} (h0 : -9223372036854775808 ≤ n) (h1 : n ≤ 9223372036854775807) : IntKind.i64.wrap n = n := by rw [IntKind.wrap_i64]; omega
/-- a ≤ n ≤ b. -/
def inR (n a b : Int) : Bool := decide (a ≤ n) && decide (n ≤ b)
end Go.VK
