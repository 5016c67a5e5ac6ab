/-
  THE VALUE KIT, eighth part: encoders, sums, prefixes. Plain definitions and theorems.
-/
import Derived.Test.YtiojlennpdmapaaGreatVKg
import Derived.Test.YtiojlennpdmapaaGreatVKl
import Derived.Lib.LaidTab
import Derived.BarOnce
import Derived.Lib.ItoaMem
set_option linter.unusedVariables false
namespace Go.VK
open Go.RowKit

def iV (n : Int) : List V := [.int .i64 n]
def bV (b : Bool) : List V := [.bool b]
def sV (s : ByteArray) : List V := [.str s]
def y8 (n : Int) : List V := [.int .u8 n]
section
variable {P : Program} {g : GI} {E : Env P g} {s : S}
end

end Go.VK
