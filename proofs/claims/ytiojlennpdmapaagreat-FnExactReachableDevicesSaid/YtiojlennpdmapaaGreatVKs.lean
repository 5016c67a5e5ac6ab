/-
  THE VALUE KIT, fifteenth part: plain laws of the models' words: loops over lists by recursion on the list. No program in sight; no condition.
-/
import Derived.Test.YtiojlennpdmapaaGreatVKr
import Derived.Lib.Split
set_option linter.unusedVariables false
set_option linter.unusedSimpArgs false
namespace Go.VK
section
variable {α β σ τ : Type}
@[simp] theorem bd_s {a : α} {f : α → Option β} : bd (some a) f = f a := rfl
@[simp] theorem bd_n {f : α → Option β} : bd none f = none := rfl
@[simp] theorem nx_l {a : α} {f : β → Option α} : nx (some (.inl a)) f = some a := rfl
@[simp] theorem nx_r {b : β} {f : β → Option α} : nx (some (.inr b)) f = f b := rfl
@[simp] theorem nx_n {f : β → Option α} : nx none f = none := rfl
theorem gd_t {c : Prop} [Decidable c] {x : Option α} (h : c) : gd c x = x := if_pos h
@[simp] theorem gd_T {x : Option α} : gd True x = x := rfl
theorem bd_bif {b : Bool} {x y : Option α} {f : α → Option β} : bd (bif b then x else y) f = bif b then bd x f else bd y f := by cases b <;> rfl
@[simp] theorem bd_bb {b : Bool} {x y : α} {f : α → Option β} : bd (bif b then some x else some y) f = f (bif b then x else y) := by cases b <;> rfl
@[simp] theorem bif_and {a b : Bool} : (bif a then b else false) = (a && b) := by cases a <;> rfl
@[simp] theorem bif_or {a b : Bool} : (bif a then true else b) = (a || b) := by cases a <;> rfl
@[simp] theorem bif_some {a : Bool} {x y : α} : (bif a then some x else some y) = some (bif a then x else y) := by cases a <;> rfl
theorem bd_id {x : Option α} : bd x (fun a => some a) = x := by cases x <;> rfl
theorem atq_nat {l : List α} {i : Nat} (h : i < l.length) : atq l (i : Int) = some l[i] := by
  unfold atq; rw [if_pos (Int.natCast_nonneg _), Int.toNat_natCast, List.getElem?_eq_getElem h]
theorem atq_int {l : List α} {i : Int} (h0 : 0 ≤ i) (h : i.toNat < l.length) : atq l i = some l[i.toNat] := by
  unfold atq; rw [if_pos h0, List.getElem?_eq_getElem h]

theorem foldl_filter {p : α → Bool} : ∀ {l : List α} {s : List α}, l.foldl (fun s x => bif p x then s ++ [x] else s) s = s ++ l.filter p
  | [], s => by simp
  | x :: xs, s => by
    simp only [List.foldl_cons, List.filter_cons]
    cases p x <;> simp [foldl_filter]
end
/-! ### Many slots at once whose contents are given up -/
theorem VLs.x2 {ρ : List Nat} {so : List Ob} {u0 u1 : V} {xs ys : List V} (h : VLs ρ so xs ys) : VLs ρ so (u0 :: u1 :: xs) (.any :: .any :: ys) := .c .a (.c .a h)
end Go.VK
