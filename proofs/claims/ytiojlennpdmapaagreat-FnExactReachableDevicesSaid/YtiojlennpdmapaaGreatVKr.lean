/-
  THE VALUE KIT, fourteenth part: walks that go by a model in Option: a test that fails and a loop that runs out of fuel give 'none', and a walk is asked of only where the model gives 'some'. Theorems over any program; the conditions stand in each.
-/
import Derived.Test.YtiojlennpdmapaaGreatVKq
set_option linter.unusedVariables false
set_option linter.unusedSimpArgs false
namespace Go.VK
open Go.RowKit

/-! ### The models' words -/
section
variable {α β σ τ : Type}
def gd (c : Prop) [Decidable c] (x : Option α) : Option α := if c then x else none
def bd (x : Option α) (f : α → Option β) : Option β := match x with | none => none | some a => f a
def nx (x : Option (α ⊕ β)) (f : β → Option α) : Option α := match x with | none => none | some (.inl a) => some a | some (.inr b) => f b
def nk (q : α ⊕ β) (f : β → Option α) (o : α) : Prop := match q with | .inl a => a = o | .inr b => f b = some o
def atq (l : List α) (i : Int) : Option α := if 0 ≤ i then l[i.toNat]? else none
/-- How long a slice may grow here: 2^36. -/
def apOk (a b : List α) : Prop := a.length + b.length ≤ 68719476736
instance (a b : List α) : Decidable (apOk a b) := inferInstanceAs (Decidable (_ ≤ _))
theorem fuel_ex : ∃ n : Nat, 2 ^ 70 ≤ n := ⟨_, Nat.le_refl _⟩
/-- The loops' fuel: more than any loop of ours takes. -/
noncomputable def FUEL : Nat := Classical.choose fuel_ex
theorem FUEL_le : 1180591620717411303424 ≤ FUEL := Classical.choose_spec fuel_ex

theorem gd_some {c : Prop} [Decidable c] {x : Option α} {r : α} (h : gd c x = some r) : c ∧ x = some r := by
  unfold gd at h; split at h
  · exact ⟨‹_›, h⟩
  · cases h
theorem bd_some {x : Option α} {f : α → Option β} {r : β} (h : bd x f = some r) : ∃ a, x = some a ∧ f a = some r := by
  cases x with
  | none => cases h
  | some a => exact ⟨a, rfl, h⟩
theorem nx_some {x : Option (α ⊕ β)} {f : β → Option α} {o : α} (h : nx x f = some o) : ∃ q, x = some q ∧ nk q f o := by
  match x, h with
  | some (.inl a), h => exact ⟨_, rfl, Option.some.inj h⟩
  | some (.inr b), h => exact ⟨_, rfl, h⟩
theorem b1 {q : β} {f : β → Option α} {o : α} {b : β} (h : some b = some q) (hq : f q = some o) : f b = some o := by cases h; exact hq
theorem atq_some {l : List α} {i : Int} {x : α} (h : atq l i = some x) : 0 ≤ i ∧ l[i.toNat]? = some x := by
  unfold atq at h; split at h
  · exact ⟨‹_›, h⟩
  · cases h
end

variable {P : Program} {g : GI} {E : Env P g} {s : S}
variable {N : S → Prop} {X : Nat → S → Prop} {R : S → Prop}

/-! ### Ways that meet -/
section
variable {σ τ : Type} {o : τ}
end

/-! ### The nil slice as a datum -/
mutual
inductive Nz : V → V → Prop
  | r {U : V} : Nz U U
  | n {k : Nat} : Nz .nil (.slice k [])
  | a {cs ds : List V} (h : NzL cs ds) : Nz (.agg cs) (.agg ds)
inductive NzL : List V → List V → Prop
  | n : NzL [] []
  | c {x y : V} {xs ys : List V} (h : Nz x y) (hr : NzL xs ys) : NzL (x :: xs) (y :: ys)
end
mutual
theorem Nz.rd {w : World} {Y : Nat → Prop} {β : List Tr} : ∀ {U U' : V}, Nz U U' → ∀ {v : Value}, Rd w Y β v U → Rd w Y β v U'
  | _, _, .r, _, h => h
  | _, _, .n, _, h => by rw [h.nil_inv]; exact .slice0 (Nat.zero_le _)
  | _, _, .a hl, _, h => by
    obtain ⟨vs, rfl, h2, h3⟩ := h.agg_inv
    have hh := NzL.rd (w := w) (Y := Y) (β := β) hl
    exact .agg (h2.trans hh.1) (fun i v d h5 h6 => hh.2 i v d h6 (fun c hc => h3 i v c h5 hc))
theorem NzL.rd {w : World} {Y : Nat → Prop} {β : List Tr} : ∀ {cs ds : List V}, NzL cs ds → cs.length = ds.length ∧ ∀ (i : Nat) (v : Value) (d : V), ds[i]? = some d → (∀ c, cs[i]? = some c → Rd w Y β v c) → Rd w Y β v d
  | _, _, .n => ⟨rfl, by simp⟩
  | _, _, .c h hr => by
    have ih := NzL.rd (w := w) (Y := Y) (β := β) hr
    refine ⟨by simp [ih.1], fun i v d h5 h6 => ?_⟩
    cases i with
    | zero => simp at h5; subst h5; exact h.rd (h6 _ rfl)
    | succ i => exact ih.2 i v d (by simpa using h5) (fun c hc => h6 c (by simpa using hc))
end
/-! ### Elements by the model's names -/
section
variable {α : Type} {l : List α} {f : α → List V} {c : α} {m : Int}
theorem ixq {x y : Operand} {t e k b : Nat} {kk : IntKind} (hm : atq l m = some c) (ht : slB P t e k b = true) (hx : Ev E s x (.slice k (l.map f))) (hy : Ev E s y (.int kk m)) : MOp E s (.indexAddr t x y) (.elem (f c)) :=
  ixm ht (atq_some hm).1 (atq_some hm).2 hx hy
/-! ### Rows by the model's names -/
/-- What may be made: its length. -/
def mkOk (n : Int) : Prop := 0 ≤ n ∧ n ≤ 68719476736
instance (n : Int) : Decidable (mkOk n) := inferInstanceAs (Decidable (_ ∧ _))
/-! ### Parts of slices -/
def hiOk (l : List α) (n : Int) : Prop := 0 ≤ n ∧ n.toNat ≤ l.length
instance (l : List α) (n : Int) : Decidable (hiOk l n) := inferInstanceAs (Decidable (_ ∧ _))
theorem Rd.sub {w : World} {Y : Nat → Prop} {β : List Tr} {A : Option Addr} {n c k a b : Nat} {es : List (List V)} (hr : Rd w Y β (.slice A n c) (.slice k es)) (hab : a ≤ b) (hb : b ≤ es.length) :
    Rd w Y β (.slice (if c = a then A else A.map fun q => q.add (a * k)) (b - a) (c - a)) (.slice k ((es.take b).drop a)) := by
  have hlen : ((es.take b).drop a).length = b - a := by simp; omega
  rcases Nat.eq_zero_or_pos (b - a) with h0 | h0
  · have : (es.take b).drop a = [] := List.eq_nil_of_length_eq_zero (by omega)
    rw [this, h0]
    obtain ⟨A', c', h1, h2, h3⟩ := hr.slice_len
    injection h1 with h1 h4 h5
    exact .slice0 (by omega)
  · cases hr with
    | slice0 => simp at hb; omega
    | @slice _ ad _ _ _ _ val hn hpos hc hm hX hblk hk hcell hrd =>
      rw [if_neg (by omega)]
      have hget : ∀ (i : Nat) (e : List V), ((es.take b).drop a)[i]? = some e → es[a + i]? = some e := by
        intro i e h
        rw [List.getElem?_drop, List.getElem?_take] at h
        split at h
        · exact h
        · cases h
      refine .slice (val := fun i j => val (a + i) j) hlen.symm (by omega) (by omega) (by omega) (by rw [add_block]; exact hX) (by rw [add_block]; exact hblk) (fun e he => hk e (List.mem_of_mem_take (List.mem_of_mem_drop he))) (fun i j e d h1 h2 => ?_) (fun i j e d h1 h2 => hrd _ j e d (hget i e h1) h2)
      rw [add_add', show a * k + (i * k + j) = (a + i) * k + j by rw [Nat.add_mul]; omega]
      exact hcell _ j e d (hget i e h1) h2
/-! ### Bits -/
def andI (k : IntKind) (x y : Int) : Int := k.wrap ((BitVec.ofInt k.bits x &&& BitVec.ofInt k.bits y).toNat : Nat)
def orI (k : IntKind) (x y : Int) : Int := k.wrap ((BitVec.ofInt k.bits x ||| BitVec.ofInt k.bits y).toNat : Nat)
def xorI (k : IntKind) (x y : Int) : Int := k.wrap ((BitVec.ofInt k.bits x ^^^ BitVec.ofInt k.bits y).toNat : Nat)
def shlI (k : IntKind) (x y : Int) : Int := k.wrap (x * 2 ^ (min y.toNat k.bits))
def shrI (k : IntKind) (x y : Int) : Int := x.fdiv (2 ^ (min y.toNat k.bits))
theorem bitand {x y : Operand} {k : IntKind} {m n : Int} {t u : TypeId} (hx : Ev E s x (.int k m)) (hy : Ev E s y (.int k n)) : MOp E s (.binOp .and t x y u) (.int k (andI k m n)) := fun β a w r o ho =>
  ⟨_, fun w' _ => by simp [execOp, ho, (hx β a w r).int_inv.1, (hy β a w r).int_inv.1, eqGuard_at_int, binOp_and, Op.intBits, andI], .int (wrap_range _ _).1 (wrap_range _ _).2⟩
theorem bitor {x y : Operand} {k : IntKind} {m n : Int} {t u : TypeId} (hx : Ev E s x (.int k m)) (hy : Ev E s y (.int k n)) : MOp E s (.binOp .or t x y u) (.int k (orI k m n)) := fun β a w r o ho =>
  ⟨_, fun w' _ => by simp [execOp, ho, (hx β a w r).int_inv.1, (hy β a w r).int_inv.1, eqGuard_at_int, binOp_or, Op.intBits, orI], .int (wrap_range _ _).1 (wrap_range _ _).2⟩
theorem bitxor {x y : Operand} {k : IntKind} {m n : Int} {t u : TypeId} (hx : Ev E s x (.int k m)) (hy : Ev E s y (.int k n)) : MOp E s (.binOp .xor t x y u) (.int k (xorI k m n)) := fun β a w r o ho =>
  ⟨_, fun w' _ => by simp [execOp, ho, (hx β a w r).int_inv.1, (hy β a w r).int_inv.1, eqGuard_at_int, binOp_xor, Op.intBits, xorI], .int (wrap_range _ _).1 (wrap_range _ _).2⟩
theorem shl_ {x y : Operand} {k j : IntKind} {m n : Int} {t u : TypeId} (h0 : 0 ≤ n) (hx : Ev E s x (.int k m)) (hy : Ev E s y (.int j n)) : MOp E s (.binOp .shl t x y u) (.int k (shlI k m n)) := fun β a w r o ho =>
  ⟨_, fun w' _ => by simp [execOp, ho, (hx β a w r).int_inv.1, (hy β a w r).int_inv.1, eqGuard_at_int, binOp_shl, Op.shift, shlI, show ¬ n < 0 by omega], .int (wrap_range _ _).1 (wrap_range _ _).2⟩
theorem shr_ {x y : Operand} {k j : IntKind} {m n : Int} {t u : TypeId} (h0 : 0 ≤ n) (hx : Ev E s x (.int k m)) (hy : Ev E s y (.int j n)) : MOp E s (.binOp .shr t x y u) (.int k (shrI k m n)) := fun β a w r o ho =>
  have hm := (hx β a w r).int_inv
  have hd : (0 : Int) < 2 ^ (min n.toNat k.bits) := Int.pow_pos (by decide)
  have hk0 : k.min ≤ 0 := by cases k <;> decide
  have hk1 : 0 ≤ k.max := by cases k <;> decide
  ⟨.int k (shrI k m n), fun w' _ => by simp [execOp, ho, (hx β a w r).int_inv.1, (hy β a w r).int_inv.1, eqGuard_at_int, binOp_shr, Op.shift, shrI, show ¬ n < 0 by omega], by
    unfold shrI
    rw [Int.fdiv_eq_ediv_of_nonneg _ (Int.le_of_lt hd)]
    refine .int ?_ ?_
    · rcases Int.le_total 0 m with h | h
      · exact Int.le_trans hk0 (Int.ediv_nonneg h (Int.le_of_lt hd))
      · refine Int.le_trans hm.2.1 ?_
        rw [Int.le_ediv_iff_mul_le hd]
        have h1 : (1 : Int) ≤ 2 ^ (min n.toNat k.bits) := hd
        have := Int.mul_le_mul_of_nonpos_left h h1
        simpa using this
    · rcases Int.le_total 0 m with h | h
      · exact Int.le_trans (Int.ediv_le_self _ h) hm.2.2
      · refine Int.le_trans ?_ hk1
        exact Int.ediv_le_of_le_mul hd (by simpa using h)⟩

/-! ### Struct literals -/
theorem parts_rd' {w : World} {Y : Nat → Prop} {β : List Tr} {v : Value} {U : V} (h : Rd w Y β v U) (h1 : allOne U.parts = true) : v.cells.size = U.parts.length ∧ ∀ (j : Nat) (u : Value) (c : V), v.cells[j]? = some u → U.parts[j]? = some c → Rd w Y β u c := by
  by_cases hA : ∃ cs, U = .agg cs
  · obtain ⟨cs, rfl⟩ := hA
    obtain ⟨vs, rfl, k2, k3⟩ := h.agg_inv
    exact ⟨k2, fun j u c h5 h6 => k3 j u c h5 h6⟩
  · have hU : U.parts = [U] := by cases U <;> first | rfl | exact absurd ⟨_, rfl⟩ hA
    rw [hU] at h1 ⊢
    have ho : U.one = true := by simpa [allOne] using h1
    rw [one_cells (h.one ho)]
    refine ⟨rfl, fun j u c h5 h6 => ?_⟩
    cases j with
    | zero => simp at h5 h6; subst h5; subst h6; exact h
    | succ j => simp at h5
inductive BP (E : Env P g) (s : S) (pls : List (Nat × Nat)) : List (Nat × Operand) → List V → List V → Prop
  | n {cs : List V} : BP E s pls [] cs cs
  | c {i : Nat} {x : Operand} {U : V} {xs : List (Nat × Operand)} {cs cs1 ds : List V} {off sz : Nat} (h : Ev E s x U) (hpl : At pls i (off, sz)) (hsz : U.parts.length = sz) (h1 : allOne U.parts = true) (hsp : Sp cs off U.parts cs1) (hr : BP E s pls xs cs1 ds) : BP E s pls ((i, x) :: xs) cs ds
theorem BP.spec {pls : List (Nat × Nat)} {xs : List (Nat × Operand)} {cs ds : List V} (h : BP E s pls xs cs ds) {β : List Tr} {a : Act} {w : World} (r : RelB E s β a w) :
    ∀ cells : Array Value, cells.size = cs.length → (∀ (j : Nat) (v : Value) (c : V), cells[j]? = some v → cs[j]? = some c → Rd w (E.X β) β v c) →
    ∃ res, Instr.fill (fun i => pls.toArray[i]?) cells (xs.map fun (i, x) => (i, a.eval x)) = some res ∧ res.size = ds.length ∧ ∀ (j : Nat) (v : Value) (c : V), res[j]? = some v → ds[j]? = some c → Rd w (E.X β) β v c := by
  induction h with
  | n => exact fun cells h1 h2 => ⟨cells, rfl, h1, h2⟩
  | @c i x U xs cs cs1 ds off sz h hpl hsz h1 hsp hr ih =>
    intro cells hs hrd
    have hp := parts_rd' (h β a w r) h1
    obtain ⟨p1, p2, p3⟩ := hsp.spec
    have hf := fold_get off (a.eval x).cells.toList 0 cells (by simp [hp.1]; omega)
    obtain ⟨res, r1, r2, r3⟩ := ih ((((a.eval x).cells.toList.zipIdx 0).foldl (fun cs (cc, j) => cs.setIfInBounds (off + j) cc) cells)) (by rw [hf.1, hs, p2]) (fun j v cc h5 h6 => by
      rw [hf.2] at h5
      rw [p3] at h6
      simp only [Nat.add_zero, Array.length_toList, hp.1] at h5
      split at h5
      · rename_i hj; rw [if_pos hj] at h6; exact hp.2 _ v cc (by simpa using h5) h6
      · rename_i hj; rw [if_neg hj] at h6; exact hrd j v cc h5 h6)
    refine ⟨res, ?_, r2, r3⟩
    simp only [List.map_cons, Instr.fill]
    have hg : pls.toArray[i]? = some (off, sz) := by simpa using hpl.get
    rw [hg]
    simp only
    rw [if_neg (by simp [hp.1, hsz, hs]; omega)]
    rw [← Array.foldl_toList, Array.toList_zipIdx]
    exact r1
def plcL (P : Program) : List Field → Option (List (Nat × Nat))
  | [] => some []
  | f :: fs => match P.info? f.type, plcL P fs with | some i, some l => some ((f.offset, i.size) :: l) | _, _ => none
def plcOf (P : Program) (t : TypeId) : Option (List (Nat × Nat)) := match P.underlying t with | some (.struct fs) => plcL P fs.toList | _ => none
theorem plcL_run {w : World} : ∀ {fs : List Field} {l : List (Nat × Nat)}, plcL P fs = some l → (fs.mapM fun f => (Prod.mk f.offset <$> sizeOf f.type : Sem (Nat × Nat))).run P w = .ok l w
  | [], l, h => by simp [plcL] at h; subst h; rfl
  | f :: fs, l, h => by
    simp only [plcL] at h
    cases hi : P.info? f.type with
    | none => simp [hi] at h
    | some i =>
      cases hl : plcL P fs with
      | none => simp [hi, hl] at h
      | some l' =>
        simp [hi, hl] at h
        subst h
        have ih := plcL_run (w := w) hl
        simp only [List.mapM_cons, Sem.run_bind]
        have e : (sizeOf f.type).run P w = .ok i.size w := by simp [sizeOf, typeInfo, hi]
        simp only [Sem.run_map, e, Result.andThen_ok, Sem.run_pure, ih]
theorem bld {t : TypeId} {xs : List (Nat × Operand)} {pls : List (Nat × Nat)} {zs ds : List V} (hz : zerosOf P t = some zs) (hp : plcOf P t = some pls) (hb : BP E s pls xs zs ds) : MOp E s (.build t xs.toArray) (.agg ds) := fun β a w r o ho => by
  obtain ⟨i, z, hi, hz', hzs⟩ := zerosOf_spec hz
  have hzr := zVs_rd (w := w) (X := E.X β) (β := β) hzs
  obtain ⟨res, r1, r2, r3⟩ := hb.spec r z.cells (by simpa using hzr.1) (fun j v c h5 h6 => (hzr.2 j v c (by simpa using h5) h6).1)
  refine ⟨.agg res, fun w' _ => ?_, .agg r2 r3⟩
  unfold plcOf at hp
  cases hu : P.underlying t with
  | none => simp [hu] at hp
  | some d =>
    cases d <;> simp [hu] at hp
    rename_i fs
    have hm := plcL_run (w := w') hp
    have hm' : (fs.mapM fun f => (Prod.mk f.offset <$> sizeOf f.type : Sem (Nat × Nat))).run P w' = .ok pls.toArray w' := by
      rw [← Array.toArray_toList (xs := fs), List.mapM_toArray]
      simp only [Sem.run_map, hm, Result.andThen_ok]
      try rfl
    have e1 : ((xs.toArray.map fun (x : Nat × Operand) => (x.1, a.eval x.2))).toList = xs.map fun (i, x) => (i, a.eval x) := by simp
    simp [execOp, ho, Instr.build, zeroValue, typeInfo, hi, hz', run_underlying hu, hm']
    have r1' : Instr.fill (fun i => pls[i]?) z.cells (xs.map fun x => (x.1, a.eval x.2)) = some res := by simpa using r1
    simp [r1']

/-! ### Fields of struct values -/
def fltB (P : Program) (t f ft off : Nat) : Bool := match P.underlying t with | some (.struct fs) => (match fs[f]? with | some fd => fd.type == ft && fd.offset == off | none => false) | _ => false
theorem fld_run {t f ft off : Nat} {w : World} {vs : Array Value} (h : fltB P t f ft off = true) : (Instr.field t (.agg vs) f).run P w = (part ft vs off).run P w := by
  unfold fltB at h
  cases hu : P.underlying t with
  | none => simp [hu] at h
  | some d =>
    cases d <;> simp [hu] at h
    rename_i fs
    cases hf : fs[f]? with
    | none => simp [hf] at h
    | some fd =>
      simp [hf] at h
      obtain ⟨rfl, rfl⟩ := h
      simp [Instr.field, run_underlying hu, hf, asAgg]
/-! ### Guarded steps; strings -/
theorem str_at {z : ByteArray} {n : Nat} {c : Int} (h : (bytesI z)[n]? = some c) : ∃ b, z[n]? = some b ∧ c = (b.toNat : Int) := by
  unfold bytesI at h
  rw [List.getElem?_map] at h
  obtain ⟨b, hb, rfl⟩ := Option.map_eq_some_iff.1 h
  refine ⟨b, ?_, rfl⟩
  obtain ⟨hlt, hb⟩ := List.getElem?_eq_some_iff.1 hb
  have hlt' : n < z.size := by rw [Array.length_toList] at hlt; exact hlt
  rw [getElem?_pos z n hlt']
  rw [← hb]; rfl
theorem sidx {x y : Operand} {t : TypeId} {z : ByteArray} {kk : IntKind} {m c : Int} (hm : atq (bytesI z) m = some c) (ht : P.underlying t = some .string) (hx : Ev E s x (.str z)) (hy : Ev E s y (.int kk m)) : MOp E s (.index t x y) (.int .u8 c) := fun β a w r o ho => by
  obtain ⟨h0, h1⟩ := atq_some hm
  obtain ⟨b, hb, rfl⟩ := str_at h1
  have hlt := b.toNat_lt
  refine ⟨_, fun w' _ => ?_, .int (Int.natCast_nonneg _) (show ((b.toNat : Nat) : Int) ≤ 255 by omega)⟩
  simp [execOp, ho, (hx β a w r).str_inv.1, (hy β a w r).int_inv.1, Instr.index, asIntOf, run_underlying ht, h0, hb]
def subOk (z : ByteArray) (l h : Int) : Prop := 0 ≤ l ∧ l ≤ h ∧ h ≤ (z.size : Int)
instance (z : ByteArray) (l h : Int) : Decidable (subOk z l h) := inferInstanceAs (Decidable (_ ∧ _))
theorem ext_size (z : ByteArray) (l h : Nat) : (z.extract l h).size ≤ z.size := by
  rw [ByteArray.size_extract]; omega
theorem ssl3 {x y q : Operand} {t : TypeId} {z : ByteArray} {kk jj : IntKind} {m n : Int} (hm : subOk z m n) (ht : P.underlying t = some .string) (hx : Ev E s x (.str z)) (hy : Ev E s y (.int kk m)) (hq : Ev E s q (.int jj n)) : MOp E s (.slice t x (some y) (some q) none) (.str (z.extract m.toNat n.toNat)) := fun β a w r o ho => by
  obtain ⟨h0, h1, h2⟩ := hm
  obtain ⟨g1, g2⟩ := (hx β a w r).str_inv
  refine ⟨_, fun w' _ => ?_, .str (Nat.le_trans (ext_size z m.toNat n.toNat) g2)⟩
  have e1 : (0 ≤ n ∧ n ≤ (z.size : Int)) := ⟨by omega, h2⟩
  have e2 : (0 ≤ m ∧ m ≤ ((n.toNat : Nat) : Int)) := ⟨h0, by omega⟩
  simp [execOp, ho, g1, (hy β a w r).int_inv.1, (hq β a w r).int_inv.1, Instr.sliceAt, Instr.slice, run_underlying ht, Instr.sliceBounds, Instr.sliceBound, asIntOf, e1, e2]
  try (intro hh; exfalso; omega)
theorem ssl1 {x q : Operand} {t : TypeId} {z : ByteArray} {jj : IntKind} {n : Int} (hm : subOk z 0 n) (ht : P.underlying t = some .string) (hx : Ev E s x (.str z)) (hq : Ev E s q (.int jj n)) : MOp E s (.slice t x none (some q) none) (.str (z.extract 0 n.toNat)) := fun β a w r o ho => by
  obtain ⟨h0, h1, h2⟩ := hm
  obtain ⟨g1, g2⟩ := (hx β a w r).str_inv
  refine ⟨_, fun w' _ => ?_, .str (Nat.le_trans (ext_size z 0 n.toNat) g2)⟩
  have e1 : (0 ≤ n ∧ n ≤ (z.size : Int)) := ⟨by omega, h2⟩
  simp [execOp, ho, g1, (hq β a w r).int_inv.1, Instr.sliceAt, Instr.slice, run_underlying ht, Instr.sliceBounds, Instr.sliceBound, asIntOf, e1]
theorem ssl2 {x y : Operand} {t : TypeId} {z : ByteArray} {kk : IntKind} {m : Int} (hm : subOk z m z.size) (ht : P.underlying t = some .string) (hx : Ev E s x (.str z)) (hy : Ev E s y (.int kk m)) : MOp E s (.slice t x (some y) none none) (.str (z.extract m.toNat z.size)) := fun β a w r o ho => by
  obtain ⟨h0, h1, h2⟩ := hm
  obtain ⟨g1, g2⟩ := (hx β a w r).str_inv
  refine ⟨_, fun w' _ => ?_, .str (Nat.le_trans (ext_size z m.toNat z.size) g2)⟩
  have e2 : (0 ≤ m ∧ m ≤ (z.size : Int)) := ⟨h0, h1⟩
  simp [execOp, ho, g1, (hy β a w r).int_inv.1, Instr.sliceAt, Instr.slice, run_underlying ht, Instr.sliceBounds, Instr.sliceBound, asIntOf, e2]

/-! ### Regions in which several steps may come up -/
section
variable {F : S → Prop}
variable {a0 : Option Nat}
end
end
end Go.VK
