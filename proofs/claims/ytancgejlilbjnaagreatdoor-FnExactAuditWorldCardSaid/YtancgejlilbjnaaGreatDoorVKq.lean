/-
  THE VALUE KIT, thirteenth part: what the printed models go by: elements by number, slicing, min and max. Theorems over any program.
-/
import Derived.Test.YtancgejlilbjnaaGreatDoorVKp
import Derived.Lib.ConvBytes
import Derived.Laws.AppendOwn
import Derived.Laws.StructEq
set_option linter.unusedVariables false
namespace Go.VK
open Go.RowKit

variable {P : Program} {g : GI} {E : Env P g} {s : S}

/-! ### min, max -/
theorem mn2 {x y : Operand} {k : IntKind} {a b : Int} {ats : Array TypeId} (hx : Ev E s x (.int k a)) (hy : Ev E s y (.int k b)) : MOp E s (.call { callee := .builtin .min, args := #[x, y], argTypes := ats }) (.int k (if b < a then b else a)) := fun β c w rl op ho => by
  have h1 := (hx β c w rl).int_inv
  have h2 := (hy β c w rl).int_inv
  refine ⟨.int k (if b < a then b else a), fun w' _ => by simp [execOp, ho, resolve, invoke, builtin, h1.1, h2.1, Builtin.min_, Builtin.min2], ?_⟩
  split
  · exact .int h2.2.1 h2.2.2
  · exact .int h1.2.1 h1.2.2
/-! ### A string's bytes -/
def bytesI (z : ByteArray) : List Int := z.data.toList.map fun b => (b.toNat : Int)
/-! ### Comparing structs -/
def V.val : V → Value
  | .int k n => .int k n
  | .bool b => .bool b
  | .str z => .string z
  | _ => undef
theorem part_one {t off : Nat} {xs : Array Value} {a : Value} {w : World} (h1 : oneB P t = true) (ha : xs[off]? = some a) : (part t xs off).run P w = .ok a w := by
  have h2 := (oneB_isAgg (w := w) h1).1
  simp [part, h2, ha]
/-! ### Reading the walk's own rows -/
theorem ldo1 {x : Operand} {t i T k j q off : Nat} {es : List (List V)} {e : List V} {U : V} (ht : oneB P t = true) (hi : At s.o i (.row T k es)) (hoff : off = j * k + q) (he : es[j]? = some e) (hq : e[q]? = some U) (h : Ev E s x (.oel i off)) : MOp E s (.load t x) U := fun β a w r o ho => by
  obtain ⟨tr, b, k1, k2, k3⟩ := (h β a w r).oel_inv
  obtain ⟨cap, cur, c1, c2, c3, c4, c5, c6, c7, c8⟩ := own_facts r hi k1 k2
  obtain ⟨v, h1, h2, h3⟩ := c8 j q e U he hq
  refine ⟨v, fun w' hw => ?_, h3.conv (Nat.le_refl _) (fun _ _ h => h) (fun _ _ _ h => h) (fun _ _ h => by simp at h)⟩
  have hc : w.cell? ⟨b, off, none⟩ = some v := by rw [cell_of_row w b off cur T (0, 0) c2, hoff]; exact h1
  have := hw.cell hc
  simp [execOp, ho, k3, Instr.loadAt, Instr.sureAddr, loadVar_one ht this]
/-! ### A part of a slice -/
theorem slh {x y : Operand} {t e k b : Nat} {es : List (List V)} {kk : IntKind} {n : Int} (ht : slB P t e k b = true) (h0 : 0 ≤ n) (hn : n.toNat ≤ es.length) (hx : Ev E s x (.slice k es)) (hy : Ev E s y (.int kk n)) :
    MOp E s (.slice t x none (some y) none) (.slice k (es.take n.toNat)) := fun β a w rl op ho => by
  obtain ⟨hu, ii, z, hii, hz, hik, hib, hzk, hk0⟩ := slB_spec ht
  have h2 := (hy β a w rl).int_inv.1
  have hv := hx β a w rl
  generalize hval : a.eval x = v at hv
  have hrun : ∀ (A : Option Addr) (l c : Nat), v = .slice A l c → n.toNat ≤ c → ∀ w', (execOp a.eval op).run P w' = .ok (.value (.slice A n.toNat c)) w' := by
    rintro A l c rfl hc w'
    have e1 : (0 ≤ n ∧ n ≤ (c : Int)) := ⟨h0, by omega⟩
    have e2 : (A.map fun q : Addr => q.add 0) = A := by cases A with
      | none => rfl
      | some q => exact congrArg some (Addr.add_zero' q)
    simp [execOp, ho, hval, h2, Instr.sliceAt, Instr.slice, run_underlying hu, Instr.sliceBounds, Instr.sliceBound, asIntOf, e1, sizeOf, typeInfo, hii]
    exact fun _ => e2
  cases hv with
  | @slice0 _ A c _ h =>
    have : n.toNat = 0 := by simpa using hn
    refine ⟨_, fun w' _ => hrun A 0 c rfl (by omega) w', ?_⟩
    rw [this]; simpa using Rd.slice0 h
  | @slice _ A l c _ _ val hl hpos hc hm hXa hb hk hce hrd =>
    refine ⟨_, fun w' _ => hrun _ l c rfl (by omega) w', ?_⟩
    cases hnn : n.toNat with
    | zero => simpa using Rd.slice0 hm
    | succ q =>
      have hget : ∀ (i : Nat) (e' : List V), (es.take (q + 1))[i]? = some e' → es[i]? = some e' := by
        intro i e' h
        rw [List.getElem?_take] at h
        split at h
        · exact h
        · simp at h
      exact .slice (val := val) (by rw [List.length_take]; omega) (by rw [List.length_take]; omega) (by omega) hm hXa hb (fun e' he => hk e' (List.mem_of_mem_take he)) (fun i j e' d h1 h3 => hce i j e' d (hget i e' h1) h3) (fun i j e' d h1 h3 => hrd i j e' d (hget i e' h1) h3)
theorem slm {α : Type} {x y : Operand} {t e k b : Nat} {l : List α} {f : α → List V} {kk : IntKind} {n : Int} (ht : slB P t e k b = true) (h0 : 0 ≤ n) (hn : n.toNat ≤ (l.map f).length) (hx : Ev E s x (.slice k (l.map f))) (hy : Ev E s y (.int kk n)) :
    MOp E s (.slice t x none (some y) none) (.slice k ((l.take n.toNat).map f)) := by
  have := slh ht h0 hn hx hy
  rwa [← List.map_take] at this
end Go.VK
