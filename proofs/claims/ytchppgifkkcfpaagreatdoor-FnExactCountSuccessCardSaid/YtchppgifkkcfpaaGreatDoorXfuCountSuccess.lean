import Derived.Test.YtchppgifkkcfpaaGreatDoorRows
import Derived.LaidByTextLater
import Derived.SevenTiedAt
import Derived.KernelRfl
/-
  The law CountSuccess: the listed variables are laid by the program's text: the list, and that the function that lays them names them in order.
-/
namespace Go.Proofs.YtchppgifkkcfpaaGreatDoor
open Go
set_option maxRecDepth 100000
def oL : List (String × DataW Unit) := [("unicode/utf8.acceptRanges", Rows.laid_unicode_utf8_acceptRanges), ("internal/strconv.uint64pow10", Rows.laid_internal_strconv_uint64pow10), ("math/bits.deBruijn32tab", Rows.laid_math_bits_deBruijn32tab), ("math/bits.deBruijn64tab", Rows.laid_math_bits_deBruijn64tab), ("strconv.ErrSyntax", Rows.laid_strconv_ErrSyntax), ("strconv.ErrRange", Rows.laid_strconv_ErrRange)]
theorem oT6 : varsNamedLaterB Tryz.prog (varsId Tryz.prog) oL = true := by kernel_rfl
end Go.Proofs.YtchppgifkkcfpaaGreatDoor
