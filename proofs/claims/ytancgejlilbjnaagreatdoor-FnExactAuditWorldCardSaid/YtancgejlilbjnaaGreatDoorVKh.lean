/-
  THE VALUE KIT, eighth part: encoders, sums, prefixes. Plain definitions and theorems.
-/
import Derived.Test.YtancgejlilbjnaaGreatDoorVKg
import Derived.Test.YtancgejlilbjnaaGreatDoorVKl
import Derived.Lib.LaidTab
import Derived.BarOnce
import Derived.Lib.ItoaMem
set_option linter.unusedVariables false
namespace Go.VK
open Go.RowKit

def iV (n : Int) : List V := [.int .i64 n]
def bV (b : Bool) : List V := [.bool b]
def sV (s : ByteArray) : List V := [.str s]
def y8 (n : Int) : List V := [.int .u8 n]
/-- The first i of l, and zeros behind. -/
def pref {α : Type} (f : α → List V) (l : List α) (z : List V) (i : Nat) : List (List V) := (l.take i).map f ++ List.replicate (l.length - i) z
theorem pref_0 {α : Type} (f : α → List V) (l : List α) (z : List V) : pref f l z 0 = List.replicate l.length z := by simp [pref]
theorem pref_len {α : Type} {f : α → List V} {l : List α} {z : List V} {i : Nat} (h : i ≤ l.length) : (pref f l z i).length = l.length := by
  simp [pref]; omega
theorem pref_full {α : Type} {f : α → List V} {l : List α} {z : List V} : pref f l z l.length = l.map f := by simp [pref]
theorem pref_set {α : Type} {f : α → List V} {l : List α} {z : List V} {i : Nat} (h : i < l.length) : (pref f l z i).set i (f l[i]) = pref f l z (i + 1) := by
  apply List.ext_getElem?
  intro j
  simp only [pref, List.getElem?_set, List.length_append, List.length_map, List.length_take, List.length_replicate]
  by_cases hj : i = j
  · subst hj
    rw [if_pos rfl, if_pos (by omega), List.getElem?_append_left (by simp; omega)]
    simp [h]
  · rw [if_neg hj]
    by_cases h1 : j < i
    · rw [List.getElem?_append_left (by simp; omega), List.getElem?_append_left (by simp; omega)]
      simp [h1, show j < i + 1 by omega]
    · rw [List.getElem?_append_right (by simp; omega), List.getElem?_append_right (by simp; omega)]
      simp only [List.length_map, List.length_take, List.getElem?_replicate]
      by_cases h2 : j < l.length
      · rw [if_pos (by omega), if_pos (by omega)]
      · rw [if_neg (by omega), if_neg (by omega)]
theorem sum_mem {α : Type} (f : α → Nat) : ∀ (l : List α) (x : α), x ∈ l → f x ≤ (l.map f).sum
  | y :: l, x, h => by
    rcases List.mem_cons.1 h with rfl | h
    · simp
    · have := sum_mem f l x h; simp; omega
theorem take_sum {α : Type} (f : α → Nat) (l : List α) (i : Nat) (h : i < l.length) : ((l.take (i + 1)).map f).sum = ((l.take i).map f).sum + f l[i] := by
  rw [List.take_succ_eq_append_getElem h, List.map_append, List.sum_append]; simp

section
variable {P : Program} {g : GI} {E : Env P g} {s : S}
theorem stoA {x y : Operand} {i T t k j off : Nat} {es : List (List V)} {cs : List V} {o' : List Ob} (hoff : off = j * k) (hj : j < es.length) (hsz : aggB P t k = true) (hk : cs.length = k) (h1 : allOne cs = true) (hp : (V.agg cs).plain = true)
    (hi : At s.o i (.row T k es)) (hup : UpO s.o i (.row T k (es.set j cs)) o') (hx : Ev E s x (.oel i off)) (hy : Ev E s y (.agg cs)) : SOp E s (.store t x y) none ⟨s.t, o'⟩ false :=
  sto (U := .agg cs) hoff hj hk hsz h1 hp hi hup hx hy
theorem stoO {x y : Operand} {i T t j off : Nat} {es : List (List V)} {U : V} {o' : List Ob} (hoff : off = j * 1) (hj : j < es.length) (hsz : oneB P t = true) (hU : U.parts = [U]) (h1 : allOne U.parts = true) (hp : U.plain = true)
    (hi : At s.o i (.row T 1 es)) (hup : UpO s.o i (.row T 1 (es.set j [U])) o') (hx : Ev E s x (.oel i off)) (hy : Ev E s y U) : SOp E s (.store t x y) none ⟨s.t, o'⟩ false := by
  refine sto (U := U) hoff hj (by rw [hU]; rfl) ?_ h1 hp hi (by rw [hU]; exact hup) hx hy
  cases U with
  | agg cs => rw [hU] at h1; simp [allOne, V.one] at h1
  | _ => exact hsz
end

end Go.VK
