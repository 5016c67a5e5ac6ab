/-
  THE VALUE KIT, eleventh part: joined strings, appended rows. Plain theorems.
-/
import Derived.Test.YtiojlennpdmapaaGreatVKi
import Derived.Test.YtiojlennpdmapaaGreatVKj
import Derived.Lib.Join
set_option linter.unusedVariables false
namespace Go.VK
open Go.RowKit

end Go.VK
