/-
  THE VALUE KIT, second part: the operations that only compute or read. Theorems over any program; the conditions stand in each.
-/
import Derived.Test.YtiojlennpdmapaaGreatVKa
import Derived.Laws.Concat
import Derived.Laws.Strings2
import Derived.Laws.Small
import Derived.Laws.Slices
import Derived.IntWalk
set_option linter.unusedVariables false
namespace Go.VK
open Go.RowKit
variable {P : Program} {g : GI}

theorem Rd.int_inv {w : World} {X : Nat → Prop} {β : List Tr} {v : Value} {k : IntKind} {n : Int} (h : Rd w X β v (.int k n)) : v = .int k n ∧ k.min ≤ n ∧ n ≤ k.max := by
  cases h with | int h1 h2 => exact ⟨rfl, h1, h2⟩
theorem Rd.bool_inv {w : World} {X : Nat → Prop} {β : List Tr} {v : Value} {b : Bool} (h : Rd w X β v (.bool b)) : v = .bool b := by cases h; rfl
theorem Rd.str_inv {w : World} {X : Nat → Prop} {β : List Tr} {v : Value} {s : ByteArray} (h : Rd w X β v (.str s)) : v = .string s ∧ s.size ≤ maxLen := by
  cases h with | str h => exact ⟨rfl, h⟩
theorem Rd.nil_inv {w : World} {X : Nat → Prop} {β : List Tr} {v : Value} (h : Rd w X β v .nil) : v = .slice none 0 0 := by cases h; rfl
theorem Rd.agg_inv {w : World} {X : Nat → Prop} {β : List Tr} {v : Value} {cs : List V} (h : Rd w X β v (.agg cs)) :
    ∃ vs : Array Value, v = .agg vs ∧ vs.size = cs.length ∧ ∀ (i : Nat) (v : Value) (c : V), vs[i]? = some v → cs[i]? = some c → Rd w X β v c := by
  cases h with | agg hl h => exact ⟨_, rfl, hl, h⟩
theorem Rd.tup_inv {w : World} {X : Nat → Prop} {β : List Tr} {v : Value} {cs : List V} (h : Rd w X β v (.tup cs)) :
    ∃ vs : Array Value, v = .tuple vs ∧ vs.size = cs.length ∧ ∀ (i : Nat) (v : Value) (c : V), vs[i]? = some v → cs[i]? = some c → Rd w X β v c := by
  cases h with | tup hl h => exact ⟨_, rfl, hl, h⟩
theorem Rd.slice_len {w : World} {X : Nat → Prop} {β : List Tr} {v : Value} {k : Nat} {es : List (List V)} (h : Rd w X β v (.slice k es)) : ∃ A c, v = .slice A es.length c ∧ es.length ≤ c ∧ c ≤ maxLen := by
  cases h with
  | slice0 h => exact ⟨_, _, rfl, Nat.zero_le _, h⟩
  | slice hn _ hc hm => subst hn; exact ⟨_, _, rfl, hc, hm⟩
theorem Rd.box_inv {w : World} {X : Nat → Prop} {β : List Tr} {v : Value} {i off : Nat} (h : Rd w X β v (.box i off)) : ∃ t b, β[i]? = some t ∧ t.b = some b ∧ v = .pointer (some ⟨b, off, none⟩) := by
  cases h with | box h hb => exact ⟨_, _, h, hb, rfl⟩
theorem Rd.oel_inv {w : World} {X : Nat → Prop} {β : List Tr} {v : Value} {i off : Nat} (h : Rd w X β v (.oel i off)) : ∃ t b, β[i]? = some t ∧ t.b = some b ∧ v = .pointer (some ⟨b, off, none⟩) := by
  cases h with | oel h hb => exact ⟨_, _, h, hb, rfl⟩
theorem Rd.own_inv {w : World} {X : Nat → Prop} {β : List Tr} {v : Value} {i : Nat} (h : Rd w X β v (.own i)) : ∃ t, β[i]? = some t ∧ v = t.val := by
  cases h with | own h => exact ⟨_, h, rfl⟩

/-- An operation that computes or reads: one value, whatever comes to be besides. -/
def MOp (E : Env P g) (s : S) (op : Op) (U : V) : Prop :=
  ∀ (β : List Tr) (a : Act) (w : World), RelB E s β a w → ∀ o : Oper, o.op = op → ∃ v, (∀ w', Ext w w' → (execOp a.eval o).run P w' = .ok (.value v) w') ∧ Rd w (E.X β) β v U

section
variable {E : Env P g} {s : S}

theorem wrap_range (k : IntKind) (n : Int) : k.min ≤ k.wrap n ∧ k.wrap n ≤ k.max := by
  cases k <;> simp [IntKind.wrap, IntKind.min, IntKind.max, IntKind.bits, IntKind.signed] <;> omega

theorem add {x y : Operand} {k : IntKind} {m n : Int} {t u : TypeId} (hx : Ev E s x (.int k m)) (hy : Ev E s y (.int k n)) : MOp E s (.binOp .add t x y u) (.int k (k.wrap (m + n))) := fun β a w r o ho =>
  ⟨_, fun w' _ => by simp [execOp, ho, (hx β a w r).int_inv.1, (hy β a w r).int_inv.1, eqGuard_at_int, binOp_add, Op.intArith], .int (wrap_range _ _).1 (wrap_range _ _).2⟩
theorem sub {x y : Operand} {k : IntKind} {m n : Int} {t u : TypeId} (hx : Ev E s x (.int k m)) (hy : Ev E s y (.int k n)) : MOp E s (.binOp .sub t x y u) (.int k (k.wrap (m - n))) := fun β a w r o ho =>
  ⟨_, fun w' _ => by simp [execOp, ho, (hx β a w r).int_inv.1, (hy β a w r).int_inv.1, eqGuard_at_int, binOp_sub, Op.intArith], .int (wrap_range _ _).1 (wrap_range _ _).2⟩
theorem mul {x y : Operand} {k : IntKind} {m n : Int} {t u : TypeId} (hx : Ev E s x (.int k m)) (hy : Ev E s y (.int k n)) : MOp E s (.binOp .mul t x y u) (.int k (k.wrap (m * n))) := fun β a w r o ho =>
  ⟨_, fun w' _ => by simp [execOp, ho, (hx β a w r).int_inv.1, (hy β a w r).int_inv.1, eqGuard_at_int, binOp_mul, Op.intArith], .int (wrap_range _ _).1 (wrap_range _ _).2⟩
theorem lss {x y : Operand} {k : IntKind} {m n : Int} {t u : TypeId} (hx : Ev E s x (.int k m)) (hy : Ev E s y (.int k n)) : MOp E s (.binOp .lss t x y u) (.bool (decide (m < n))) := fun β a w r o ho =>
  ⟨_, fun w' _ => by simp [execOp, ho, (hx β a w r).int_inv.1, (hy β a w r).int_inv.1, eqGuard_at_int, binOp_lss], .bool⟩
theorem leq {x y : Operand} {k : IntKind} {m n : Int} {t u : TypeId} (hx : Ev E s x (.int k m)) (hy : Ev E s y (.int k n)) : MOp E s (.binOp .leq t x y u) (.bool (decide (m ≤ n))) := fun β a w r o ho =>
  ⟨_, fun w' _ => by simp [execOp, ho, (hx β a w r).int_inv.1, (hy β a w r).int_inv.1, eqGuard_at_int, binOp_leq], .bool⟩
theorem gtr {x y : Operand} {k : IntKind} {m n : Int} {t u : TypeId} (hx : Ev E s x (.int k m)) (hy : Ev E s y (.int k n)) : MOp E s (.binOp .gtr t x y u) (.bool (decide (m > n))) := fun β a w r o ho =>
  ⟨_, fun w' _ => by simp [execOp, ho, (hx β a w r).int_inv.1, (hy β a w r).int_inv.1, eqGuard_at_int, binOp_gtr], .bool⟩
theorem geq {x y : Operand} {k : IntKind} {m n : Int} {t u : TypeId} (hx : Ev E s x (.int k m)) (hy : Ev E s y (.int k n)) : MOp E s (.binOp .geq t x y u) (.bool (decide (m ≥ n))) := fun β a w r o ho =>
  ⟨_, fun w' _ => by simp [execOp, ho, (hx β a w r).int_inv.1, (hy β a w r).int_inv.1, eqGuard_at_int, binOp_geq], .bool⟩
theorem eql {x y : Operand} {k : IntKind} {m n : Int} {t u : TypeId} (hx : Ev E s x (.int k m)) (hy : Ev E s y (.int k n)) : MOp E s (.binOp .eql t x y u) (.bool (m == n)) := fun β a w r o ho =>
  ⟨_, fun w' _ => by simp [execOp, ho, (hx β a w r).int_inv.1, (hy β a w r).int_inv.1, eqGuard_at_int, binOp_eql], .bool⟩
theorem neq {x y : Operand} {k : IntKind} {m n : Int} {t u : TypeId} (hx : Ev E s x (.int k m)) (hy : Ev E s y (.int k n)) : MOp E s (.binOp .neq t x y u) (.bool (m != n)) := fun β a w r o ho =>
  ⟨_, fun w' _ => by simp [execOp, ho, (hx β a w r).int_inv.1, (hy β a w r).int_inv.1, eqGuard_at_int, binOp_neq], .bool⟩
theorem quo {x y : Operand} {k : IntKind} {m n : Int} {t u : TypeId} (hn : n ≠ 0) (hx : Ev E s x (.int k m)) (hy : Ev E s y (.int k n)) : MOp E s (.binOp .quo t x y u) (.int k (k.wrap (m.tdiv n))) := fun β a w r o ho =>
  ⟨_, fun w' _ => by simp [execOp, ho, (hx β a w r).int_inv.1, (hy β a w r).int_inv.1, eqGuard_at_int, binOp_quo, Op.intDiv, hn], .int (wrap_range _ _).1 (wrap_range _ _).2⟩
theorem tmod_range (k : IntKind) (m n : Int) (h1 : k.min ≤ m) (h2 : m ≤ k.max) : k.min ≤ m.tmod n ∧ m.tmod n ≤ k.max := by
  have h0 : k.min ≤ 0 := by cases k <;> decide
  have h3 : 0 ≤ k.max := by cases k <;> decide
  have hlt : (m.tmod n).natAbs ≤ m.natAbs := by rw [Int.natAbs_tmod]; exact Nat.mod_le _ _
  have hs : 0 ≤ m → 0 ≤ m.tmod n := fun h => Int.tmod_nonneg _ h
  have hs' : m ≤ 0 → m.tmod n ≤ 0 := fun h => by
    have h4 : 0 ≤ (-m).tmod n := Int.tmod_nonneg _ (by omega)
    rw [Int.neg_tmod] at h4
    omega
  rcases Int.le_total 0 m with h | h
  · have := hs h; omega
  · have := hs' h; omega
theorem rem {x y : Operand} {k : IntKind} {m n : Int} {t u : TypeId} (hn : n ≠ 0) (hx : Ev E s x (.int k m)) (hy : Ev E s y (.int k n)) : MOp E s (.binOp .rem t x y u) (.int k (m.tmod n)) := fun β a w r o ho =>
  have hm := (hx β a w r).int_inv
  ⟨_, fun w' _ => by simp [execOp, ho, (hx β a w r).int_inv.1, (hy β a w r).int_inv.1, eqGuard_at_int, binOp_rem, Op.intDiv, hn], .int (tmod_range _ _ _ hm.2.1 hm.2.2).1 (tmod_range _ _ _ hm.2.1 hm.2.2).2⟩
theorem cnv {x : Operand} {k j : IntKind} {n : Int} {t u : TypeId} (ht : (P.underlying t).isSome = true) (hu : P.underlying u = some (.int j)) (hx : Ev E s x (.int k n)) : MOp E s (.convert t u x) (.int j (j.wrap n)) := fun β a w r o ho =>
  ⟨_, fun w' _ => by
    obtain ⟨d, hd⟩ := Option.isSome_iff_exists.1 ht
    simp [execOp, ho, (hx β a w r).int_inv.1, convert, run_underlying hu, run_underlying hd, Conv.intToInt], .int (wrap_range _ _).1 (wrap_range _ _).2⟩
theorem not_ {x : Operand} {b : Bool} {t : TypeId} (hx : Ev E s x (.bool b)) : MOp E s (.unOp .not t x) (.bool (!b)) := fun β a w r o ho =>
  ⟨_, fun w' _ => by simp [execOp, ho, (hx β a w r).bool_inv, Op.unary], .bool⟩
theorem neg_ {x : Operand} {k : IntKind} {n : Int} {t : TypeId} (hx : Ev E s x (.int k n)) : MOp E s (.unOp .neg t x) (.int k (k.wrap (0 - n))) := fun β a w r o ho =>
  ⟨_, fun w' _ => by simp [execOp, ho, (hx β a w r).int_inv.1, Op.unary, Op.intArith], .int (wrap_range _ _).1 (wrap_range _ _).2⟩
theorem sadd {x y : Operand} {m n : ByteArray} {t u : TypeId} (hs : m.size + n.size ≤ 9223372036854775807) (hx : Ev E s x (.str m)) (hy : Ev E s y (.str n)) : MOp E s (.binOp .add t x y u) (.str (m ++ n)) := fun β a w r o ho =>
  ⟨_, fun w' _ => by simp [execOp, ho, (hx β a w r).str_inv.1, (hy β a w r).str_inv.1, eqGuard_at_string, binOp_string_add, run_string_add_sum _ _ _ hs], .str (by simp [ByteArray.size_append]; unfold maxLen; omega)⟩
theorem seq_ {x y : Operand} {m n : ByteArray} {t u : TypeId} (hx : Ev E s x (.str m)) (hy : Ev E s y (.str n)) : MOp E s (.binOp .eql t x y u) (.bool (m.toList == n.toList)) := fun β a w r o ho =>
  ⟨_, fun w' _ => by simp [execOp, ho, (hx β a w r).str_inv.1, (hy β a w r).str_inv.1, eqGuard_at_string, binOp_string_eql], .bool⟩
theorem sne {x y : Operand} {m n : ByteArray} {t u : TypeId} (hx : Ev E s x (.str m)) (hy : Ev E s y (.str n)) : MOp E s (.binOp .neq t x y u) (.bool (!(m.toList == n.toList))) := fun β a w r o ho =>
  ⟨_, fun w' _ => by simp [execOp, ho, (hx β a w r).str_inv.1, (hy β a w r).str_inv.1, eqGuard_at_string, binOp_string_neq], .bool⟩
theorem beq_ {x y : Operand} {m n : Bool} {t u : TypeId} (ht : P.underlying t = some .bool) (hx : Ev E s x (.bool m)) (hy : Ev E s y (.bool n)) : MOp E s (.binOp .eql t x y u) (.bool (m == n)) := fun β a w r o ho =>
  ⟨_, fun w' _ => by simp [execOp, ho, (hx β a w r).bool_inv, (hy β a w r).bool_inv, eqGuard_at_bool, run_eql_bool _ _ _ _ ht], .bool⟩
theorem bne_ {x y : Operand} {m n : Bool} {t u : TypeId} (ht : P.underlying t = some .bool) (hx : Ev E s x (.bool m)) (hy : Ev E s y (.bool n)) : MOp E s (.binOp .neq t x y u) (.bool (!(m == n))) := fun β a w r o ho =>
  ⟨_, fun w' _ => by simp [execOp, ho, (hx β a w r).bool_inv, (hy β a w r).bool_inv, eqGuard_at_bool, run_neq_bool _ _ _ _ ht], .bool⟩
end
end Go.VK
