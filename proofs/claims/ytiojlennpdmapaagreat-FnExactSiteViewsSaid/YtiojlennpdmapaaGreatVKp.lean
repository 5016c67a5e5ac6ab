/-
  THE VALUE KIT, twelfth part: what Mod, Hash, KeyedHash and their like compute. Plain definitions and theorems.
-/
import Derived.Test.YtiojlennpdmapaaGreatVKm
set_option linter.unusedVariables false
namespace Go.VK
open Go.RowKit

end Go.VK
