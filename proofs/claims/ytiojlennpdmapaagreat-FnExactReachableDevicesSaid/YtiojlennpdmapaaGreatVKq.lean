/-
  THE VALUE KIT, thirteenth part: what the printed models go by: elements by number, slicing, min and max. Theorems over any program.
-/
import Derived.Test.YtiojlennpdmapaaGreatVKp
import Derived.Lib.ConvBytes
import Derived.Laws.AppendOwn
import Derived.Laws.StructEq
set_option linter.unusedVariables false
namespace Go.VK
open Go.RowKit

def GTriv : GI where
  G _ := True
  st _ _ _ _ := trivial
variable {P : Program} {g : GI} {E : Env P g} {s : S}

/-! ### min, max -/
theorem mn2 {x y : Operand} {k : IntKind} {a b : Int} {ats : Array TypeId} (hx : Ev E s x (.int k a)) (hy : Ev E s y (.int k b)) : MOp E s (.call { callee := .builtin .min, args := #[x, y], argTypes := ats }) (.int k (if b < a then b else a)) := fun β c w rl op ho => by
  have h1 := (hx β c w rl).int_inv
  have h2 := (hy β c w rl).int_inv
  refine ⟨.int k (if b < a then b else a), fun w' _ => by simp [execOp, ho, resolve, invoke, builtin, h1.1, h2.1, Builtin.min_, Builtin.min2], ?_⟩
  split
  · exact .int h2.2.1 h2.2.2
  · exact .int h1.2.1 h1.2.2
theorem mx2 {x y : Operand} {k : IntKind} {a b : Int} {ats : Array TypeId} (hx : Ev E s x (.int k a)) (hy : Ev E s y (.int k b)) : MOp E s (.call { callee := .builtin .max, args := #[x, y], argTypes := ats }) (.int k (if b > a then b else a)) := fun β c w rl op ho => by
  have h1 := (hx β c w rl).int_inv
  have h2 := (hy β c w rl).int_inv
  refine ⟨.int k (if b > a then b else a), fun w' _ => by simp [execOp, ho, resolve, invoke, builtin, h1.1, h2.1, Builtin.max_, Builtin.max2], ?_⟩
  split
  · exact .int h2.2.1 h2.2.2
  · exact .int h1.2.1 h1.2.2

/-! ### A string's bytes -/
def bytesI (z : ByteArray) : List Int := z.data.toList.map fun b => (b.toNat : Int)
/-! ### Comparing structs -/
def V.val : V → Value
  | .int k n => .int k n
  | .bool b => .bool b
  | .str z => .string z
  | _ => undef
theorem part_one {t off : Nat} {xs : Array Value} {a : Value} {w : World} (h1 : oneB P t = true) (ha : xs[off]? = some a) : (part t xs off).run P w = .ok a w := by
  have h2 := (oneB_isAgg (w := w) h1).1
  simp [part, h2, ha]
/-! ### Reading the walk's own rows -/
/-! ### A part of a slice -/
end Go.VK
