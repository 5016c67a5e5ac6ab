/-
  THE VALUE KIT, fourteenth part: walks that go by a model in Option: a test that fails and a loop that runs out of fuel give 'none', and a walk is asked of only where the model gives 'some'. Theorems over any program; the conditions stand in each.
-/
import Derived.Test.YtancgejlilbjnaaGreatDoorVKq
set_option linter.unusedVariables false
set_option linter.unusedSimpArgs false
namespace Go.VK
open Go.RowKit

/-! ### The models' words -/
section
variable {α β σ τ : Type}
def gd (c : Prop) [Decidable c] (x : Option α) : Option α := if c then x else none
def bd (x : Option α) (f : α → Option β) : Option β := match x with | none => none | some a => f a
def nx (x : Option (α ⊕ β)) (f : β → Option α) : Option α := match x with | none => none | some (.inl a) => some a | some (.inr b) => f b
def nk (q : α ⊕ β) (f : β → Option α) (o : α) : Prop := match q with | .inl a => a = o | .inr b => f b = some o
def atq (l : List α) (i : Int) : Option α := if 0 ≤ i then l[i.toNat]? else none
/-- How long a slice may grow here: 2^36. -/
def apOk (a b : List α) : Prop := a.length + b.length ≤ 68719476736
instance (a b : List α) : Decidable (apOk a b) := inferInstanceAs (Decidable (_ ≤ _))
theorem fuel_ex : ∃ n : Nat, 2 ^ 70 ≤ n := ⟨_, Nat.le_refl _⟩
/-- The loops' fuel: more than any loop of ours takes. -/
noncomputable def FUEL : Nat := Classical.choose fuel_ex
theorem FUEL_le : 1180591620717411303424 ≤ FUEL := Classical.choose_spec fuel_ex

theorem gd_some {c : Prop} [Decidable c] {x : Option α} {r : α} (h : gd c x = some r) : c ∧ x = some r := by
  unfold gd at h; split at h
  · exact ⟨‹_›, h⟩
  · cases h
theorem bd_some {x : Option α} {f : α → Option β} {r : β} (h : bd x f = some r) : ∃ a, x = some a ∧ f a = some r := by
  cases x with
  | none => cases h
  | some a => exact ⟨a, rfl, h⟩
theorem nx_some {x : Option (α ⊕ β)} {f : β → Option α} {o : α} (h : nx x f = some o) : ∃ q, x = some q ∧ nk q f o := by
  match x, h with
  | some (.inl a), h => exact ⟨_, rfl, Option.some.inj h⟩
  | some (.inr b), h => exact ⟨_, rfl, h⟩
theorem ct {b : Bool} {x y : α} {r : α} (hb : b = true) (h : (bif b then x else y) = r) : x = r := by subst hb; exact h
theorem cf {b : Bool} {x y : α} {r : α} (hb : b = false) (h : (bif b then x else y) = r) : y = r := by subst hb; exact h
theorem inl1 {q : α ⊕ β} {f : β → Option α} {o a : α} (h : some (Sum.inl a) = some q) (hq : nk q f o) : a = o := by cases h; exact hq
theorem inl2 {q : α ⊕ β} {f : β → Option α} {o a : α} (h : Sum.inl a = q) (hq : nk q f o) : a = o := by cases h; exact hq
theorem inr1 {q : α ⊕ β} {f : β → Option α} {o : α} {b : β} (h : some (Sum.inr b) = some q) (hq : nk q f o) : f b = some o := by cases h; exact hq
theorem b1 {q : β} {f : β → Option α} {o : α} {b : β} (h : some b = some q) (hq : f q = some o) : f b = some o := by cases h; exact hq
theorem sj {a b : α} (h : some a = some b) : a = b := Option.some.inj h
theorem atq_some {l : List α} {i : Int} {x : α} (h : atq l i = some x) : 0 ≤ i ∧ l[i.toNat]? = some x := by
  unfold atq at h; split at h
  · exact ⟨‹_›, h⟩
  · cases h
theorem atq_lt {l : List α} {i : Int} {x : α} (h : atq l i = some x) : i.toNat < l.length := (List.getElem?_eq_some_iff.1 (atq_some h).2).1
end

variable {P : Program} {g : GI} {E : Env P g} {s : S}
variable {N : S → Prop} {X : Nat → S → Prop} {R : S → Prop}

/-! ### Ways that meet -/
section
variable {σ τ : Type} {o : τ}
theorem jmb {x : Code} {m : Option σ} {f : σ → Option τ} (hm : bd m f = some o) (I : σ → S) (h1 : ∀ q, m = some q → f q = some o → CW E x (fun p => ∃ t, f t = some o ∧ Le E p (I t)) X R s) (h2 : ∀ t, f t = some o → N (I t)) : CW E x N X R s := by
  obtain ⟨q, a, b⟩ := bd_some hm
  exact fun Q hN hX hR => h1 q a b Q (fun s' ⟨t, c, d⟩ a w r => hN _ (h2 t c) a w (d a w r)) hX hR
theorem jmx {x : Code} {m : Option (τ ⊕ σ)} {f : σ → Option τ} (hm : nx m f = some o) (I : σ → S) (h1 : ∀ q, m = some q → nk q f o → CW E x (fun p => ∃ t, f t = some o ∧ Le E p (I t)) X R s) (h2 : ∀ t, f t = some o → N (I t)) : CW E x N X R s := by
  obtain ⟨q, a, b⟩ := nx_some hm
  exact fun Q hN hX hR => h1 q a b Q (fun s' ⟨t, c, d⟩ a w r => hN _ (h2 t c) a w (d a w r)) hX hR
theorem rjb {ops : Array Oper} {l : List Oper} {F : S → Prop} {m : Option σ} {f : σ → Option τ} (hm : bd m f = some o) (I : σ → S) (h1 : ∀ q, m = some q → f q = some o → RF E ops l (fun p => ∃ t, f t = some o ∧ Le E p (I t)) s) (h2 : ∀ t, f t = some o → F (I t)) : RF E ops l F s := by
  obtain ⟨q, a, b⟩ := bd_some hm
  exact fun Q hQ => h1 q a b Q (fun s' a w ⟨t, c, d⟩ r => hQ _ a w (h2 t c) (d a w r))
theorem rob {a0 : Option Nat} {ops : Array Oper} {l : List (Nat × Bool)} {F : S → Prop} {m : Option σ} {f : σ → Option τ} (hm : bd m f = some o) (I : σ → S) (h1 : ∀ q, m = some q → f q = some o → RO E ops a0 l (fun p => ∃ t, f t = some o ∧ Le E p (I t)) s) (h2 : ∀ t, f t = some o → F (I t)) : RO E ops a0 l F s := by
  obtain ⟨q, a, b⟩ := bd_some hm
  exact fun hs Q hQ => h1 q a b hs Q (fun s' a w ⟨t, c, d⟩ r => hQ _ a w (h2 t c) (d a w r))
/-- A loop by its model: what the model does in one round less fuel, the code does. -/
theorem lpf {c : Code} {m : Nat → σ → Option τ} {n : Nat} {x0 : σ} (hm : m n x0 = some o) (I : σ → S) (hz : ∀ x, m 0 x = none) (hs : Le E s (I x0)) (hb : ∀ n x, m (n + 1) x = some o → CW E c (fun s' => ∃ t, m n t = some o ∧ Le E s' (I t)) X R (I x)) : CW E (.loop c) N X R s := by
  refine lp (σ := Nat × σ) (fun p => I p.2) (fun p => m p.1 p.2 = some o) (fun p => p.1) (n, x0) hm hs ?_
  rintro ⟨n, x⟩ hx
  cases n with
  | zero => exact absurd (hz x ▸ hx) (by simp)
  | succ n => exact fun Q hN hX hR => hb n x hx Q (fun s' ⟨t, h1, h2⟩ => hN s' ⟨(n, t), h1, Nat.lt_succ_self _, h2⟩) hX hR
end

/-! ### The nil slice as a datum -/
mutual
inductive Nz : V → V → Prop
  | r {U : V} : Nz U U
  | n {k : Nat} : Nz .nil (.slice k [])
  | a {cs ds : List V} (h : NzL cs ds) : Nz (.agg cs) (.agg ds)
inductive NzL : List V → List V → Prop
  | n : NzL [] []
  | c {x y : V} {xs ys : List V} (h : Nz x y) (hr : NzL xs ys) : NzL (x :: xs) (y :: ys)
end
mutual
theorem Nz.rd {w : World} {Y : Nat → Prop} {β : List Tr} : ∀ {U U' : V}, Nz U U' → ∀ {v : Value}, Rd w Y β v U → Rd w Y β v U'
  | _, _, .r, _, h => h
  | _, _, .n, _, h => by rw [h.nil_inv]; exact .slice0 (Nat.zero_le _)
  | _, _, .a hl, _, h => by
    obtain ⟨vs, rfl, h2, h3⟩ := h.agg_inv
    have hh := NzL.rd (w := w) (Y := Y) (β := β) hl
    exact .agg (h2.trans hh.1) (fun i v d h5 h6 => hh.2 i v d h6 (fun c hc => h3 i v c h5 hc))
theorem NzL.rd {w : World} {Y : Nat → Prop} {β : List Tr} : ∀ {cs ds : List V}, NzL cs ds → cs.length = ds.length ∧ ∀ (i : Nat) (v : Value) (d : V), ds[i]? = some d → (∀ c, cs[i]? = some c → Rd w Y β v c) → Rd w Y β v d
  | _, _, .n => ⟨rfl, by simp⟩
  | _, _, .c h hr => by
    have ih := NzL.rd (w := w) (Y := Y) (β := β) hr
    refine ⟨by simp [ih.1], fun i v d h5 h6 => ?_⟩
    cases i with
    | zero => simp at h5; subst h5; exact h.rd (h6 _ rfl)
    | succ i => exact ih.2 i v d (by simpa using h5) (fun c hc => h6 c (by simpa using hc))
end
/-! ### Elements by the model's names -/
section
variable {α : Type} {l : List α} {f : α → List V} {c : α} {m : Int}
theorem ixq {x y : Operand} {t e k b : Nat} {kk : IntKind} (hm : atq l m = some c) (ht : slB P t e k b = true) (hx : Ev E s x (.slice k (l.map f))) (hy : Ev E s y (.int kk m)) : MOp E s (.indexAddr t x y) (.elem (f c)) :=
  ixm ht (atq_some hm).1 (atq_some hm).2 hx hy
theorem oixq {x y : Operand} {t e k bts i : Nat} {kk : IntKind} (hm : atq l m = some c) (ht : slB P t e k bts = true) (hi : At s.o i (.row e k (l.map f))) (hx : Ev E s x (.own i)) (hy : Ev E s y (.int kk m)) : MOp E s (.indexAddr t x y) (.oel i (m.toNat * k)) :=
  oix ht hi (atq_some hm).1 (by rw [List.length_map]; exact atq_lt hm) hx hy
theorem ldm1 {x : Operand} {t i T k off : Nat} {U : V} (q : Nat) (hm : atq l m = some c) (ht : oneB P t = true) (hi : At s.o i (.row T k (l.map f))) (hoff : off = m.toNat * k + q) (hq : At (f c) q U) (h : Ev E s x (.oel i off)) : MOp E s (.load t x) U :=
  ldo1 (j := m.toNat) ht hi hoff (by rw [List.getElem?_map, (atq_some hm).2]; rfl) hq.get h
/-! ### Rows by the model's names -/
theorem apm {l2 : List α} {sx x : Operand} {i t T k bts d : Nat} {t0 t' : List V} {o' : List Ob} (n : Nat) (hg : apOk l l2) (hb : Nat.ble bts 2048 = true) (hf : ∀ x, allOne (f x) = true) (ht : slB P t T k bts = true) (hsx : sx = .tmp n) (hn : At s.t n (.own i)) (hd0 : Upd s.t n .any t0) (hi : At s.o i (.row T k (l.map f))) (hx : Ev E s x (.slice k (l2.map f)))
    (hup : UpO s.o i (.row T k ((l ++ l2).map f)) o') (hnr : (nrs i t0 && nro i s.o) = true) (hu : Upd t0 d (.own i) t') :
    SOp E s (.call { callee := .builtin .append, args := #[sx, x], argTypes := #[t, t] }) (some d) ⟨t', o'⟩ false := by
  have hb' : bts ≤ 2048 := Nat.le_of_ble_eq_true hb
  unfold apOk at hg
  refine ap n ht hsx hn hd0 hi hx (oneM hf) ?_ ?_ (by rw [← List.map_append]; exact hup) hnr hu
  · simp only [List.length_map]
    calc (l.length + l2.length) * bts ≤ 68719476736 * 2048 := Nat.mul_le_mul hg hb'
      _ = 140737488355328 := by decide
  · simp only [List.length_map, maxLen]; omega
theorem bsm {t e k bts n d : Nat} {xs : List (Nat × Operand)} {es : List (List V)} {t' : List V} (l : List α) (f : α → List V) (ht : slB P t e k bts = true) (hn : es.length = n) (h24 : decide (n * k ≤ 16777216) = true) (hb : BL E s k 0 xs es) (he : es = l.map f) (hu : Upd s.t d (.slice k (l.map f)) t') :
    SOp E s (.buildSlice t n xs.toArray) (some d) ⟨t', s.o⟩ true := bs ht hn h24 hb (by rw [he]; exact hu)
theorem bom {t e k bts n d m : Nat} {xs : List (Nat × Operand)} {es : List (List V)} {t' : List V} {o' : List Ob} (l : List α) (f : α → List V) (ht : slB P t e k bts = true) (hn : es.length = n) (h24 : decide (n * k ≤ 16777216) = true) (hb : BL E s k 0 xs es) (he : es = l.map f) (hs : Sn s.o (.row e k (l.map f)) m o') (hu : Upd s.t d (.own m) t') :
    SOp E s (.buildSlice t n xs.toArray) (some d) ⟨t', o'⟩ true := bo ht hn h24 hb (by rw [he]; exact hs) hu
/-- What may be made: its length. -/
def mkOk (n : Int) : Prop := 0 ≤ n ∧ n ≤ 68719476736
instance (n : Int) : Decidable (mkOk n) := inferInstanceAs (Decidable (_ ∧ _))
/-! ### Parts of slices -/
def hiOk (l : List α) (n : Int) : Prop := 0 ≤ n ∧ n.toNat ≤ l.length
instance (l : List α) (n : Int) : Decidable (hiOk l n) := inferInstanceAs (Decidable (_ ∧ _))
theorem Rd.sub {w : World} {Y : Nat → Prop} {β : List Tr} {A : Option Addr} {n c k a b : Nat} {es : List (List V)} (hr : Rd w Y β (.slice A n c) (.slice k es)) (hab : a ≤ b) (hb : b ≤ es.length) :
    Rd w Y β (.slice (if c = a then A else A.map fun q => q.add (a * k)) (b - a) (c - a)) (.slice k ((es.take b).drop a)) := by
  have hlen : ((es.take b).drop a).length = b - a := by simp; omega
  rcases Nat.eq_zero_or_pos (b - a) with h0 | h0
  · have : (es.take b).drop a = [] := List.eq_nil_of_length_eq_zero (by omega)
    rw [this, h0]
    obtain ⟨A', c', h1, h2, h3⟩ := hr.slice_len
    injection h1 with h1 h4 h5
    exact .slice0 (by omega)
  · cases hr with
    | slice0 => simp at hb; omega
    | @slice _ ad _ _ _ _ val hn hpos hc hm hX hblk hk hcell hrd =>
      rw [if_neg (by omega)]
      have hget : ∀ (i : Nat) (e : List V), ((es.take b).drop a)[i]? = some e → es[a + i]? = some e := by
        intro i e h
        rw [List.getElem?_drop, List.getElem?_take] at h
        split at h
        · exact h
        · cases h
      refine .slice (val := fun i j => val (a + i) j) hlen.symm (by omega) (by omega) (by omega) (by rw [add_block]; exact hX) (by rw [add_block]; exact hblk) (fun e he => hk e (List.mem_of_mem_take (List.mem_of_mem_drop he))) (fun i j e d h1 h2 => ?_) (fun i j e d h1 h2 => hrd _ j e d (hget i e h1) h2)
      rw [add_add', show a * k + (i * k + j) = (a + i) * k + j by rw [Nat.add_mul]; omega]
      exact hcell _ j e d (hget i e h1) h2
theorem slq1 {x y : Operand} {t e k b : Nat} {kk : IntKind} {n : Int} (hg : hiOk l n) (ht : slB P t e k b = true) (hx : Ev E s x (.slice k (l.map f))) (hy : Ev E s y (.int kk n)) : MOp E s (.slice t x none (some y) none) (.slice k ((l.take n.toNat).map f)) :=
  slm ht hg.1 (by rw [List.length_map]; exact hg.2) hx hy
theorem slq2 {x y : Operand} {t e k b : Nat} {kk : IntKind} {n : Int} (hg : hiOk l n) (ht : slB P t e k b = true) (hx : Ev E s x (.slice k (l.map f))) (hy : Ev E s y (.int kk n)) : MOp E s (.slice t x (some y) none none) (.slice k ((l.drop n.toNat).map f)) := fun β a w rl op ho => by
  obtain ⟨hu, ii, z, hii, hz, hik, hib, hzk, hk0⟩ := slB_spec ht
  have h2 := (hy β a w rl).int_inv.1
  have hv := hx β a w rl
  obtain ⟨A, c, h3, h4, h5⟩ := hv.slice_len
  rw [h3] at hv
  have hs := hv.sub (a := n.toNat) (b := l.length) hg.2 (by rw [List.length_map]; exact Nat.le_refl _)
  rw [show (l.map f).take l.length = l.map f from by rw [← List.length_map (f := f), List.take_length], ← List.map_drop] at hs
  refine ⟨_, fun w' _ => ?_, hs⟩
  have e1 : (0 ≤ n ∧ n ≤ (l.length : Int)) := ⟨hg.1, by have := hg.2; have := hg.1; omega⟩
  simp [execOp, ho, h3, h2, Instr.sliceAt, Instr.slice, run_underlying hu, Instr.sliceBounds, Instr.sliceBound, asIntOf, e1, sizeOf, typeInfo, hii, hik]
/-! ### Bits -/
def andI (k : IntKind) (x y : Int) : Int := k.wrap ((BitVec.ofInt k.bits x &&& BitVec.ofInt k.bits y).toNat : Nat)
def orI (k : IntKind) (x y : Int) : Int := k.wrap ((BitVec.ofInt k.bits x ||| BitVec.ofInt k.bits y).toNat : Nat)
def shlI (k : IntKind) (x y : Int) : Int := k.wrap (x * 2 ^ (min y.toNat k.bits))
def shrI (k : IntKind) (x y : Int) : Int := x.fdiv (2 ^ (min y.toNat k.bits))
theorem bitand {x y : Operand} {k : IntKind} {m n : Int} {t u : TypeId} (hx : Ev E s x (.int k m)) (hy : Ev E s y (.int k n)) : MOp E s (.binOp .and t x y u) (.int k (andI k m n)) := fun β a w r o ho =>
  ⟨_, fun w' _ => by simp [execOp, ho, (hx β a w r).int_inv.1, (hy β a w r).int_inv.1, eqGuard_at_int, binOp_and, Op.intBits, andI], .int (wrap_range _ _).1 (wrap_range _ _).2⟩
theorem bitor {x y : Operand} {k : IntKind} {m n : Int} {t u : TypeId} (hx : Ev E s x (.int k m)) (hy : Ev E s y (.int k n)) : MOp E s (.binOp .or t x y u) (.int k (orI k m n)) := fun β a w r o ho =>
  ⟨_, fun w' _ => by simp [execOp, ho, (hx β a w r).int_inv.1, (hy β a w r).int_inv.1, eqGuard_at_int, binOp_or, Op.intBits, orI], .int (wrap_range _ _).1 (wrap_range _ _).2⟩
theorem shl_ {x y : Operand} {k j : IntKind} {m n : Int} {t u : TypeId} (h0 : 0 ≤ n) (hx : Ev E s x (.int k m)) (hy : Ev E s y (.int j n)) : MOp E s (.binOp .shl t x y u) (.int k (shlI k m n)) := fun β a w r o ho =>
  ⟨_, fun w' _ => by simp [execOp, ho, (hx β a w r).int_inv.1, (hy β a w r).int_inv.1, eqGuard_at_int, binOp_shl, Op.shift, shlI, show ¬ n < 0 by omega], .int (wrap_range _ _).1 (wrap_range _ _).2⟩
theorem shr_ {x y : Operand} {k j : IntKind} {m n : Int} {t u : TypeId} (h0 : 0 ≤ n) (hx : Ev E s x (.int k m)) (hy : Ev E s y (.int j n)) : MOp E s (.binOp .shr t x y u) (.int k (shrI k m n)) := fun β a w r o ho =>
  have hm := (hx β a w r).int_inv
  have hd : (0 : Int) < 2 ^ (min n.toNat k.bits) := Int.pow_pos (by decide)
  have hk0 : k.min ≤ 0 := by cases k <;> decide
  have hk1 : 0 ≤ k.max := by cases k <;> decide
  ⟨.int k (shrI k m n), fun w' _ => by simp [execOp, ho, (hx β a w r).int_inv.1, (hy β a w r).int_inv.1, eqGuard_at_int, binOp_shr, Op.shift, shrI, show ¬ n < 0 by omega], by
    unfold shrI
    rw [Int.fdiv_eq_ediv_of_nonneg _ (Int.le_of_lt hd)]
    refine .int ?_ ?_
    · rcases Int.le_total 0 m with h | h
      · exact Int.le_trans hk0 (Int.ediv_nonneg h (Int.le_of_lt hd))
      · refine Int.le_trans hm.2.1 ?_
        rw [Int.le_ediv_iff_mul_le hd]
        have h1 : (1 : Int) ≤ 2 ^ (min n.toNat k.bits) := hd
        have := Int.mul_le_mul_of_nonpos_left h h1
        simpa using this
    · rcases Int.le_total 0 m with h | h
      · exact Int.le_trans (Int.ediv_le_self _ h) hm.2.2
      · refine Int.le_trans ?_ hk1
        exact Int.ediv_le_of_le_mul hd (by simpa using h)⟩

/-! ### Struct literals -/
theorem parts_rd' {w : World} {Y : Nat → Prop} {β : List Tr} {v : Value} {U : V} (h : Rd w Y β v U) (h1 : allOne U.parts = true) : v.cells.size = U.parts.length ∧ ∀ (j : Nat) (u : Value) (c : V), v.cells[j]? = some u → U.parts[j]? = some c → Rd w Y β u c := by
  by_cases hA : ∃ cs, U = .agg cs
  · obtain ⟨cs, rfl⟩ := hA
    obtain ⟨vs, rfl, k2, k3⟩ := h.agg_inv
    exact ⟨k2, fun j u c h5 h6 => k3 j u c h5 h6⟩
  · have hU : U.parts = [U] := by cases U <;> first | rfl | exact absurd ⟨_, rfl⟩ hA
    rw [hU] at h1 ⊢
    have ho : U.one = true := by simpa [allOne] using h1
    rw [one_cells (h.one ho)]
    refine ⟨rfl, fun j u c h5 h6 => ?_⟩
    cases j with
    | zero => simp at h5 h6; subst h5; subst h6; exact h
    | succ j => simp at h5
inductive BP (E : Env P g) (s : S) (pls : List (Nat × Nat)) : List (Nat × Operand) → List V → List V → Prop
  | n {cs : List V} : BP E s pls [] cs cs
  | c {i : Nat} {x : Operand} {U : V} {xs : List (Nat × Operand)} {cs cs1 ds : List V} {off sz : Nat} (h : Ev E s x U) (hpl : At pls i (off, sz)) (hsz : U.parts.length = sz) (h1 : allOne U.parts = true) (hsp : Sp cs off U.parts cs1) (hr : BP E s pls xs cs1 ds) : BP E s pls ((i, x) :: xs) cs ds
theorem BP.spec {pls : List (Nat × Nat)} {xs : List (Nat × Operand)} {cs ds : List V} (h : BP E s pls xs cs ds) {β : List Tr} {a : Act} {w : World} (r : RelB E s β a w) :
    ∀ cells : Array Value, cells.size = cs.length → (∀ (j : Nat) (v : Value) (c : V), cells[j]? = some v → cs[j]? = some c → Rd w (E.X β) β v c) →
    ∃ res, Instr.fill (fun i => pls.toArray[i]?) cells (xs.map fun (i, x) => (i, a.eval x)) = some res ∧ res.size = ds.length ∧ ∀ (j : Nat) (v : Value) (c : V), res[j]? = some v → ds[j]? = some c → Rd w (E.X β) β v c := by
  induction h with
  | n => exact fun cells h1 h2 => ⟨cells, rfl, h1, h2⟩
  | @c i x U xs cs cs1 ds off sz h hpl hsz h1 hsp hr ih =>
    intro cells hs hrd
    have hp := parts_rd' (h β a w r) h1
    obtain ⟨p1, p2, p3⟩ := hsp.spec
    have hf := fold_get off (a.eval x).cells.toList 0 cells (by simp [hp.1]; omega)
    obtain ⟨res, r1, r2, r3⟩ := ih ((((a.eval x).cells.toList.zipIdx 0).foldl (fun cs (cc, j) => cs.setIfInBounds (off + j) cc) cells)) (by rw [hf.1, hs, p2]) (fun j v cc h5 h6 => by
      rw [hf.2] at h5
      rw [p3] at h6
      simp only [Nat.add_zero, Array.length_toList, hp.1] at h5
      split at h5
      · rename_i hj; rw [if_pos hj] at h6; exact hp.2 _ v cc (by simpa using h5) h6
      · rename_i hj; rw [if_neg hj] at h6; exact hrd j v cc h5 h6)
    refine ⟨res, ?_, r2, r3⟩
    simp only [List.map_cons, Instr.fill]
    have hg : pls.toArray[i]? = some (off, sz) := by simpa using hpl.get
    rw [hg]
    simp only
    rw [if_neg (by simp [hp.1, hsz, hs]; omega)]
    rw [← Array.foldl_toList, Array.toList_zipIdx]
    exact r1
def plcL (P : Program) : List Field → Option (List (Nat × Nat))
  | [] => some []
  | f :: fs => match P.info? f.type, plcL P fs with | some i, some l => some ((f.offset, i.size) :: l) | _, _ => none
def plcOf (P : Program) (t : TypeId) : Option (List (Nat × Nat)) := match P.underlying t with | some (.struct fs) => plcL P fs.toList | _ => none
theorem plcL_run {w : World} : ∀ {fs : List Field} {l : List (Nat × Nat)}, plcL P fs = some l → (fs.mapM fun f => (Prod.mk f.offset <$> sizeOf f.type : Sem (Nat × Nat))).run P w = .ok l w
  | [], l, h => by simp [plcL] at h; subst h; rfl
  | f :: fs, l, h => by
    simp only [plcL] at h
    cases hi : P.info? f.type with
    | none => simp [hi] at h
    | some i =>
      cases hl : plcL P fs with
      | none => simp [hi, hl] at h
      | some l' =>
        simp [hi, hl] at h
        subst h
        have ih := plcL_run (w := w) hl
        simp only [List.mapM_cons, Sem.run_bind]
        have e : (sizeOf f.type).run P w = .ok i.size w := by simp [sizeOf, typeInfo, hi]
        simp only [Sem.run_map, e, Result.andThen_ok, Sem.run_pure, ih]
theorem bld {t : TypeId} {xs : List (Nat × Operand)} {pls : List (Nat × Nat)} {zs ds : List V} (hz : zerosOf P t = some zs) (hp : plcOf P t = some pls) (hb : BP E s pls xs zs ds) : MOp E s (.build t xs.toArray) (.agg ds) := fun β a w r o ho => by
  obtain ⟨i, z, hi, hz', hzs⟩ := zerosOf_spec hz
  have hzr := zVs_rd (w := w) (X := E.X β) (β := β) hzs
  obtain ⟨res, r1, r2, r3⟩ := hb.spec r z.cells (by simpa using hzr.1) (fun j v c h5 h6 => (hzr.2 j v c (by simpa using h5) h6).1)
  refine ⟨.agg res, fun w' _ => ?_, .agg r2 r3⟩
  unfold plcOf at hp
  cases hu : P.underlying t with
  | none => simp [hu] at hp
  | some d =>
    cases d <;> simp [hu] at hp
    rename_i fs
    have hm := plcL_run (w := w') hp
    have hm' : (fs.mapM fun f => (Prod.mk f.offset <$> sizeOf f.type : Sem (Nat × Nat))).run P w' = .ok pls.toArray w' := by
      rw [← Array.toArray_toList (xs := fs), List.mapM_toArray]
      simp only [Sem.run_map, hm, Result.andThen_ok]
      try rfl
    have e1 : ((xs.toArray.map fun (x : Nat × Operand) => (x.1, a.eval x.2))).toList = xs.map fun (i, x) => (i, a.eval x) := by simp
    simp [execOp, ho, Instr.build, zeroValue, typeInfo, hi, hz', run_underlying hu, hm']
    have r1' : Instr.fill (fun i => pls[i]?) z.cells (xs.map fun x => (x.1, a.eval x.2)) = some res := by simpa using r1
    simp [r1']

/-! ### Fields of struct values -/
def fltB (P : Program) (t f ft off : Nat) : Bool := match P.underlying t with | some (.struct fs) => (match fs[f]? with | some fd => fd.type == ft && fd.offset == off | none => false) | _ => false
theorem fld_run {t f ft off : Nat} {w : World} {vs : Array Value} (h : fltB P t f ft off = true) : (Instr.field t (.agg vs) f).run P w = (part ft vs off).run P w := by
  unfold fltB at h
  cases hu : P.underlying t with
  | none => simp [hu] at h
  | some d =>
    cases d <;> simp [hu] at h
    rename_i fs
    cases hf : fs[f]? with
    | none => simp [hf] at h
    | some fd =>
      simp [hf] at h
      obtain ⟨rfl, rfl⟩ := h
      simp [Instr.field, run_underlying hu, hf, asAgg]
theorem fld1 {x : Operand} {t f ft off : Nat} {cs : List V} {U : V} (hf : fltB P t f ft off = true) (ht : oneB P ft = true) (hc : At cs off U) (hx : Ev E s x (.agg cs)) : MOp E s (.field t x f) U := fun β a w r o ho => by
  obtain ⟨vs, h1, h2, h3⟩ := (hx β a w r).agg_inv
  have hlt : off < vs.size := by rw [h2]; exact (List.getElem?_eq_some_iff.1 hc.get).1
  refine ⟨vs[off], fun w' _ => ?_, h3 off _ U (Array.getElem?_eq_getElem hlt) hc.get⟩
  simp [execOp, ho, h1, fld_run hf, part_one (w := w') ht (Array.getElem?_eq_getElem hlt)]
/-! ### Guarded steps; strings -/
theorem str_at {z : ByteArray} {n : Nat} {c : Int} (h : (bytesI z)[n]? = some c) : ∃ b, z[n]? = some b ∧ c = (b.toNat : Int) := by
  unfold bytesI at h
  rw [List.getElem?_map] at h
  obtain ⟨b, hb, rfl⟩ := Option.map_eq_some_iff.1 h
  refine ⟨b, ?_, rfl⟩
  obtain ⟨hlt, hb⟩ := List.getElem?_eq_some_iff.1 hb
  have hlt' : n < z.size := by rw [Array.length_toList] at hlt; exact hlt
  rw [getElem?_pos z n hlt']
  rw [← hb]; rfl
theorem sidx {x y : Operand} {t : TypeId} {z : ByteArray} {kk : IntKind} {m c : Int} (hm : atq (bytesI z) m = some c) (ht : P.underlying t = some .string) (hx : Ev E s x (.str z)) (hy : Ev E s y (.int kk m)) : MOp E s (.index t x y) (.int .u8 c) := fun β a w r o ho => by
  obtain ⟨h0, h1⟩ := atq_some hm
  obtain ⟨b, hb, rfl⟩ := str_at h1
  have hlt := b.toNat_lt
  refine ⟨_, fun w' _ => ?_, .int (Int.natCast_nonneg _) (show ((b.toNat : Nat) : Int) ≤ 255 by omega)⟩
  simp [execOp, ho, (hx β a w r).str_inv.1, (hy β a w r).int_inv.1, Instr.index, asIntOf, run_underlying ht, h0, hb]
def subOk (z : ByteArray) (l h : Int) : Prop := 0 ≤ l ∧ l ≤ h ∧ h ≤ (z.size : Int)
instance (z : ByteArray) (l h : Int) : Decidable (subOk z l h) := inferInstanceAs (Decidable (_ ∧ _))
theorem ext_size (z : ByteArray) (l h : Nat) : (z.extract l h).size ≤ z.size := by
  rw [ByteArray.size_extract]; omega
theorem ssl3 {x y q : Operand} {t : TypeId} {z : ByteArray} {kk jj : IntKind} {m n : Int} (hm : subOk z m n) (ht : P.underlying t = some .string) (hx : Ev E s x (.str z)) (hy : Ev E s y (.int kk m)) (hq : Ev E s q (.int jj n)) : MOp E s (.slice t x (some y) (some q) none) (.str (z.extract m.toNat n.toNat)) := fun β a w r o ho => by
  obtain ⟨h0, h1, h2⟩ := hm
  obtain ⟨g1, g2⟩ := (hx β a w r).str_inv
  refine ⟨_, fun w' _ => ?_, .str (Nat.le_trans (ext_size z m.toNat n.toNat) g2)⟩
  have e1 : (0 ≤ n ∧ n ≤ (z.size : Int)) := ⟨by omega, h2⟩
  have e2 : (0 ≤ m ∧ m ≤ ((n.toNat : Nat) : Int)) := ⟨h0, by omega⟩
  simp [execOp, ho, g1, (hy β a w r).int_inv.1, (hq β a w r).int_inv.1, Instr.sliceAt, Instr.slice, run_underlying ht, Instr.sliceBounds, Instr.sliceBound, asIntOf, e1, e2]
  try (intro hh; exfalso; omega)
theorem okg {a0 : Option Nat} {ops : List Oper} {ord : List (Nat × Bool)} {F : S → Prop} {i ty j dj : Nat} {d : Option Nat} {oj : Oper} {b : Bool} {op : Op} {pos : String} {af : Array Edge} {s' : S} (hi : At ops i ⟨d, op, ty, pos, af, some (j, b)⟩) (hj : At ops j oj) (hd : oj.dst = some dj) (hv : At s.t dj (.bool b))
    (h : SOp E s op d s' true) (hr : RO E ops.toArray a0 ord F s') : RO E ops.toArray a0 ((i, false) :: ord) F s := fun hs Q hQ listed hc a w ⟨β, r⟩ => by
  obtain ⟨v, w', β', h1, h2, h3⟩ := h β a w r ⟨d, op, ty, pos, af, some (j, b)⟩ rfl rfl
  obtain ⟨hD, hc⟩ := hc
  simp only [chk, Bool.and_eq_true, beq_iff_eq] at hc
  have hD' := hD.set (i := i) (by rw [hc.1.1]; simp)
  refine wpAnyG_all hc.1.1 (by simp) (fun i' hi' => ?_)
  simp at hi'; subst hi'
  have hg : ops.toArray[i']? = some ⟨d, op, ty, pos, af, some (j, b)⟩ := by simpa using hi.get
  refine wpOp_step hg fun K hK => ?_
  rw [if_pos (by simp [Region.wanted, yielded_of r hj hd hv])]
  refine wpo h1 (hK _ _ ⟨fun _ => h3 rfl, ?_⟩)
  exact wpAnyG_mono (fun x hx => Ext.trans (h3 rfl) hx) _ _ _ _ (hr hs Q hQ _ ⟨hD', hc.2⟩ _ _ ⟨β', h2⟩)

/-! ### Regions in which several steps may come up -/
section
variable {F : S → Prop}
variable {a0 : Option Nat}
def RX (E : Env P g) (ops : Array Oper) (a0 : Option Nat) (n : Nat) (listed : Array Bool) (F : S → Prop) (s : S) : Prop :=
  Region.noSelect ops = true → Dn .any ops listed → ∀ Q : Exit → Act → World → Prop, (∀ s' a w, F s' → Rel E s' a w → Q .normal a w) → ∀ a w, Rel E s a w → wpAnyG P .any ops a0 (NoPanic Q) (Ext w) n listed a w
def SI (E : Env P g) (ops : Array Oper) (a0 : Option Nat) (n : Nat) (listed : Array Bool) (F : S → Prop) (s : S) (i : Nat) : Prop :=
  Region.noSelect ops = true → Dn .any ops (listed.setIfInBounds i true) → ∀ Q : Exit → Act → World → Prop, (∀ s' a w, F s' → Rel E s' a w → Q .normal a w) → ∀ a w, Rel E s a w → wpOp P ops (NoPanic Q) i (fun a' w' => (nyet a0 (listed.setIfInBounds i true) = true → Ext w w') ∧ wpAnyG P .any ops a0 (NoPanic Q) (Ext w) n (listed.setIfInBounds i true) a' w') a w
theorem xe {ops : Array Oper} {n : Nat} {listed : Array Bool} (hr : Region.ready .any ops listed = []) (h : F s) : RX E ops a0 n listed F s := fun _ _ Q hQ a w r => wpAnyG_done (P := P) (a0 := a0) (S := Ext w) (Q := NoPanic Q) hr (hQ s a w h r) n
theorem xm {ops : List Oper} {n i d ty : Nat} {op : Op} {pos : String} {af : Array Edge} {U : V} {t' : List V} {listed : Array Bool} (hi : At ops i ⟨some d, op, ty, pos, af, none⟩)
    (hc : (Region.free .any ops.toArray listed i && (Region.ready .any ops.toArray listed).contains i && (match a0 with | none => true | some b => b != i && reqM .any ops.toArray b i)) = true) (h : MOp E s op U) (hu : Upd s.t d U t') (hr : RX E ops.toArray a0 n (listed.setIfInBounds i true) F ⟨t', s.o⟩) : RX E ops.toArray a0 (n + 1) listed F s := fun hs hD Q hQ a w ⟨β, r⟩ => by
  obtain ⟨v, h1, h2⟩ := h β a w r ⟨some d, op, ty, pos, af, none⟩ rfl
  simp only [Bool.and_eq_true] at hc
  have hD' := hD.set (i := i) (by simpa using hc.1.2)
  refine wpAnyG_take (i := i) (oi := ⟨some d, op, ty, pos, af, none⟩) (v := v) (by simpa using hi.get) hs hc.1.1 hc.1.2 hc.2 hD (fun _ _ _ h => h) (.inl ⟨by simp [Region.wanted], h1⟩) (Ext.refl w) ?_
  exact hr hs hD' Q hQ _ _ ⟨β, r.put h2 hu⟩
theorem SK {ops : List Oper} {n i ty : Nat} {d : Option Nat} {op : Op} {pos : String} {af : Array Edge} {s' : S} {listed : Array Bool} (hi : At ops i ⟨d, op, ty, pos, af, none⟩) (h : SOp E s op d s' true) (hr : RX E ops.toArray a0 n (listed.setIfInBounds i true) F s') : SI E ops.toArray a0 n listed F s i := fun hs hD Q hQ a w ⟨β, r⟩ => by
  obtain ⟨v, w', β', h1, h2, h3⟩ := h β a w r ⟨d, op, ty, pos, af, none⟩ rfl rfl
  have hg : ops.toArray[i]? = some ⟨d, op, ty, pos, af, none⟩ := by simpa using hi.get
  refine wpOp_step hg fun K hK => ?_
  rw [if_pos (by simp [Region.wanted])]
  refine wpo h1 (hK _ _ ⟨fun _ => h3 rfl, ?_⟩)
  exact wpAnyG_mono (fun x hx => Ext.trans (h3 rfl) hx) _ _ _ _ (hr hs hD Q hQ _ _ ⟨β', h2⟩)
theorem SC {ops : List Oper} {n i d ty : Nat} {op : Op} {pos : String} {af : Array Edge} {r0 : V} {t' : List V} {listed : Array Bool} (hi : At ops i ⟨some d, op, ty, pos, af, none⟩) (h : COp E s op (fun r => r = r0)) (hu : Upd s.t d r0 t') (hr : RX E ops.toArray a0 n (listed.setIfInBounds i true) F ⟨t', s.o⟩) : SI E ops.toArray a0 n listed F s i := fun hs hD Q hQ a w ⟨β, r⟩ => by
  obtain ⟨f, args, h1, h2⟩ := h β a w r ⟨some d, op, ty, pos, af, none⟩ rfl
  have hg : ops.toArray[i]? = some ⟨some d, op, ty, pos, af, none⟩ := by simpa using hi.get
  refine wpOp_step hg fun K hK => ?_
  rw [if_pos (by simp [Region.wanted])]
  refine wpc h1 (R' := fun v w' => Rd w' (E.X β) β v r0 ∧ Ext w w') (h2.mono ?_) ?_
  · rintro e w' ⟨v, r', e1, rfl, e3, e4⟩; exact ⟨v, e1, e3, e4⟩
  · rintro v w' ⟨h3, h4⟩
    refine hK _ _ ⟨fun _ => h4, ?_⟩
    exact wpAnyG_mono (fun x hx => Ext.trans h4 hx) _ _ _ _ (hr hs hD Q hQ _ _ ⟨β, (r.extend h4).put h3 hu⟩)
/-- The step that may turn the walk's own memory. -/
theorem SA {ops : List Oper} {ord : List Nat} {i ty : Nat} {d : Option Nat} {op : Op} {pos : String} {af : Array Edge} {s' : S} {b : Bool} {listed : Array Bool} (hi : At ops i ⟨d, op, ty, pos, af, none⟩) (h : SOp E s op d s' b) (hz : (!nyet (some i) (listed.setIfInBounds i true) && chz ops.toArray ord (listed.setIfInBounds i true)) = true) (hr : RZ E ops.toArray ord F s') : SI E ops.toArray (some i) ord.length listed F s i := fun hs hD Q hQ a w ⟨β, r⟩ => by
  obtain ⟨v, w', β', h1, h2, h3⟩ := h β a w r ⟨d, op, ty, pos, af, none⟩ rfl rfl
  simp only [Bool.and_eq_true, Bool.not_eq_true'] at hz
  have hg : ops.toArray[i]? = some ⟨d, op, ty, pos, af, none⟩ := by simpa using hi.get
  refine wpOp_step hg fun K hK => ?_
  rw [if_pos (by simp [Region.wanted])]
  refine wpo h1 (hK _ _ ⟨fun hy => (by rw [hz.1] at hy; cases hy), ?_⟩)
  exact wpAnyG_of_any _ _ _ _ hz.1 (hr Q hQ _ hz.2 _ _ ⟨β', h2⟩)
theorem xa1 {ops : Array Oper} {n i : Nat} {listed : Array Bool} (hr : Region.ready .any ops listed = [i]) (h : SI E ops a0 n listed F s i) : RX E ops a0 (n + 1) listed F s := fun hs hD Q hQ a w r =>
  wpAnyG_all hr (by simp) fun j hj => by simp at hj; subst hj; exact h hs (hD.set (by rw [hr]; simp)) Q hQ a w r
theorem xa2 {ops : Array Oper} {n i j : Nat} {listed : Array Bool} (hr : Region.ready .any ops listed = [i, j]) (h1 : SI E ops a0 n listed F s i) (h2 : SI E ops a0 n listed F s j) : RX E ops a0 (n + 1) listed F s := fun hs hD Q hQ a w r =>
  wpAnyG_all hr (by simp) fun k hk => by
    simp at hk
    rcases hk with rfl | rfl
    · exact h1 hs (hD.set (by rw [hr]; simp)) Q hQ a w r
    · exact h2 hs (hD.set (by rw [hr]; simp)) Q hQ a w r
theorem xj {ops : Array Oper} {n : Nat} {listed : Array Bool} (I : S) (h1 : RX E ops a0 n listed (fun p => Le E p I) s) (h2 : F I) : RX E ops a0 n listed F s := fun hs hD Q hQ => h1 hs hD Q (fun s' a w hl r => hQ I a w h2 (hl a w r))
theorem rdx {id : Nat} {l : List Oper} (a0 : Option Nat) (hm : P.follows .mixedOrders = true) (hn : Region.noSelect l.toArray = true) (h : RX E l.toArray a0 l.length (Array.replicate l.length false) N s) : CW E (.region id l.toArray true) N X R s := fun Q hN hX hR a w ⟨β, r⟩ => by
  refine wp_region_noPanic (wp_region_any hm (wpAny_of_G (a0 := a0) (S := Ext w.drew) _ _ _ _ ?_))
  have := h hn (fun j oj hj hl => (by
    have hlt := (Array.getElem?_eq_some_iff.1 hj).1
    rw [List.size_toArray] at hlt
    rw [Array.getD_eq_getD_getElem?, Array.getElem?_replicate, if_pos hlt] at hl
    cases hl)) Q (fun s' a w h' r' => hN s' h' a w r') a w.drew ⟨β, r.extend (Ext.drew w)⟩
  simpa using this
theorem sdx {id : Nat} {l : List Oper} {y : Code} (a0 : Option Nat) (hm : P.follows .mixedOrders = true) (hn : Region.noSelect l.toArray = true) (h : RX E l.toArray a0 l.length (Array.replicate l.length false) (fun s' => CW E y N X R s') s) : CW E (.seq (.region id l.toArray true) y) N X R s := sq (rdx a0 hm hn h)
end
theorem lenom {x : Operand} {t e k b i T k' : Nat} (ht : slB P t e k b = true) (hi : At s.o i (.row T k' (l.map f))) (hx : Ev E s x (.own i)) : MOp E s (.call { callee := .builtin .len, args := #[x], argTypes := #[t] }) (.int .i64 (l.length : Int)) := by
  have := leno ht hi hx
  rwa [List.length_map] at this
end
end Go.VK
