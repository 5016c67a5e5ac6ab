/-
  THE VALUE KIT, third part: operations that read memory. Theorems over any program; the conditions stand in each.
-/
import Derived.Test.YtiojlennpdmapaaGreatVKb
set_option linter.unusedVariables false
namespace Go.VK
open Go.RowKit
variable {P : Program} {g : GI}

/-- A struct's or an array's type of n cells. -/
def aggB (P : Program) (t : TypeId) (n : Nat) : Bool :=
  (match P.underlying t with | some (.struct _) => true | some (.array _ _) => true | _ => false) && (match P.info? t with | some i => i.size == n | none => false)
/-- A type of one cell that is neither. -/
def oneB (P : Program) (t : TypeId) : Bool :=
  (match P.underlying t with | some (.struct _) => false | some (.array _ _) => false | some _ => true | none => false) && (match P.info? t with | some i => i.size == 1 | none => false)
def fldB (P : Program) (t f off : Nat) : Bool :=
  match P.underlying t with
  | some (.struct fs) => (match fs[f]? with | some fd => fd.offset == off && (match P.info? fd.type with | some i => i.size != 0 | none => false) | none => false)
  | _ => false
/-- A slice's type: its elements' type, of k cells (k is not 0) and so many bytes. -/
def slB (P : Program) (t e k bytes : Nat) : Bool :=
  (match P.underlying t with | some (.slice e') => e' == e | _ => false) && (match P.info? e with | some i => i.size == k && i.bytes == bytes && k != 0 && (match i.zero with | some z => z.cells.size == k | none => false) | none => false)

section
variable {w : World}
theorem aggB_isAgg {t n : Nat} (h : aggB P t n = true) : (isAgg t).run P w = .ok true w ∧ (sizeOf t).run P w = .ok n w := by
  simp only [aggB, Bool.and_eq_true] at h
  obtain ⟨h1, h2⟩ := h
  constructor
  · cases hu : P.underlying t with
    | none => simp [hu] at h1
    | some d => cases d <;> simp [hu] at h1 <;> simp [isAgg, run_underlying hu]
  · cases hi : P.info? t with
    | none => simp [hi] at h2
    | some i => simp [hi] at h2; simp [sizeOf, typeInfo, hi, h2]
theorem oneB_isAgg {t : Nat} (h : oneB P t = true) : (isAgg t).run P w = .ok false w ∧ (sizeOf t).run P w = .ok 1 w := by
  simp only [oneB, Bool.and_eq_true] at h
  obtain ⟨h1, h2⟩ := h
  constructor
  · cases hu : P.underlying t with
    | none => simp [hu] at h1
    | some d => cases d <;> simp [hu] at h1 <;> simp [isAgg, run_underlying hu]
  · cases hi : P.info? t with
    | none => simp [hi] at h2
    | some i => simp [hi] at h2; simp [sizeOf, typeInfo, hi, h2]
theorem fldB_run {t f off : Nat} (h : fldB P t f off = true) (a : Addr) : (Instr.fieldAt t (.pointer (some a)) f).run P w = .ok (.pointer (some (a.add off))) w := by
  unfold fldB at h
  cases hu : P.underlying t with
  | none => simp [hu] at h
  | some d =>
    cases d <;> simp [hu] at h
    rename_i fs
    cases hf : fs[f]? with
    | none => simp [hf] at h
    | some fd =>
      simp [hf] at h
      obtain ⟨h1, h2⟩ := h
      cases hi : P.info? fd.type with
      | none => simp [hi] at h2
      | some i =>
        simp [hi] at h2
        simp [Instr.fieldAt, run_underlying hu, hf, Instr.sureAddr, fieldPlace, sizeOf, typeInfo, hi, h2, h1]
theorem slB_spec {t e k bytes : Nat} (h : slB P t e k bytes = true) : P.underlying t = some (.slice e) ∧ ∃ i z, P.info? e = some i ∧ i.zero = some z ∧ i.size = k ∧ i.bytes = bytes ∧ z.cells.size = k ∧ 0 < k := by
  simp only [slB, Bool.and_eq_true] at h
  obtain ⟨h1, h2⟩ := h
  constructor
  · cases hu : P.underlying t with
    | none => simp [hu] at h1
    | some d => cases d <;> simp [hu] at h1; simp [h1]
  · cases hi : P.info? e with
    | none => simp [hi] at h2
    | some i =>
      simp [hi] at h2
      obtain ⟨⟨⟨a1, a2⟩, a3⟩, a4⟩ := h2
      cases hz : i.zero with
      | none => simp [hz] at a4
      | some z => simp [hz] at a4; exact ⟨i, z, rfl, hz, a1, a2, a4, by omega⟩

theorem loadVar_one {t : Nat} (h : oneB P t = true) {a : Addr} {v : Value} (hc : w.cell? a = some v) : (loadVar t a).run P w = .ok v w := by
  simp [loadVar, (oneB_isAgg (w := w) h).1, hc]
theorem loadVar_agg {t : Nat} {vs : List Value} (h : aggB P t vs.length = true) {a : Addr} (hc : ∀ (j : Nat) (v : Value), vs[j]? = some v → w.cell? (a.add j) = some v) : (loadVar t a).run P w = .ok (.agg vs.toArray) w := by
  simp [loadVar, (aggB_isAgg (w := w) h).1, (aggB_isAgg (w := w) h).2, run_loadCells_list w a vs hc]
end

/-! ### Parts of lists, by relations that a term shows -/
inductive Dr : List V → Nat → List V → Prop
  | z {l : List V} : Dr l 0 l
  | s {x : V} {l l' : List V} {n : Nat} (h : Dr l n l') : Dr (x :: l) (n + 1) l'
theorem Dr.get {l l' : List V} {n : Nat} (h : Dr l n l') (j : Nat) : l'[j]? = l[n + j]? := by
  induction h with
  | z => simp
  | s _ ih => rw [ih]; rw [Nat.add_right_comm, List.getElem?_cons_succ]
inductive Tk : List V → Nat → List V → Prop
  | z {l : List V} : Tk l 0 []
  | s {x : V} {l l' : List V} {n : Nat} (h : Tk l n l') : Tk (x :: l) (n + 1) (x :: l')
theorem Tk.len {l l' : List V} {n : Nat} (h : Tk l n l') : l'.length = n := by induction h <;> simp_all
theorem Tk.get {l l' : List V} {n : Nat} (h : Tk l n l') : ∀ (j : Nat) (d : V), l'[j]? = some d → l[j]? = some d := by
  induction h with
  | z => simp
  | s _ ih => intro j d hd; cases j with
    | zero => simpa using hd
    | succ j => simpa using ih j d (by simpa using hd)

section
variable {E : Env P g} {s : S}

theorem add_flat (b o n : Nat) : (⟨b, o, none⟩ : Addr).add n = ⟨b, o + n, none⟩ := by unfold Addr.add; split <;> simp_all

/-- The cells of a box. -/
theorem box_cells {β : List Tr} {a : Act} {w : World} (r : RelB E s β a w) {i T : Nat} {cs : List V} (hi : At s.o i (.box T cs)) {t : Tr} {b : Nat} (hb : β[i]? = some t) (htb : t.b = some b) :
    ∃ vs : List Value, w.heap[b]? = some (.cells vs.toArray T (0, 0)) ∧ vs.length = cs.length ∧ ∀ (i : Nat) (v : Value) (c : V), vs[i]? = some v → cs[i]? = some c → Rd w (E.X β) β v c := by
  obtain ⟨b', vs, h1, h2, h3, h4⟩ := r.objs i t _ hb hi.get
  rw [htb] at h1
  injection h1 with h1
  subst h1
  exact ⟨vs, h2, h3, h4⟩

theorem add_add' (a : Addr) (m n : Nat) : (a.add m).add n = a.add (m + n) := by
  unfold Addr.add; by_cases h1 : m = 0 <;> by_cases h2 : n = 0 <;> simp [h1, h2, Nat.add_assoc]
theorem add_block (a : Addr) (n : Nat) : (a.add n).block = a.block := by unfold Addr.add; split <;> rfl
theorem ix {x y : Operand} {t e k b : Nat} {es : List (List V)} {kk : IntKind} {m : Int} {c : List V} (ht : slB P t e k b = true) (h0 : 0 ≤ m) (hm : es[m.toNat]? = some c)
    (hx : Ev E s x (.slice k es)) (hy : Ev E s y (.int kk m)) : MOp E s (.indexAddr t x y) (.elem c) := fun β a w rl op ho => by
  obtain ⟨hu, i, z, hi, hz, hik, hib, hzk, hk0⟩ := slB_spec ht
  have h1 := hx β a w rl
  have h2 := (hy β a w rl).int_inv.1
  have hlt := (List.getElem?_eq_some_iff.1 hm).1
  cases hv : a.eval x with
  | slice A n cc =>
    rw [hv] at h1
    cases h1 with
    | slice0 => simp at hlt
    | @slice _ ad _ _ _ _ val hn hpos hc hmx hX hb hk hcell hrd =>
      refine ⟨.pointer (some (ad.add (m.toNat * k))), fun w' _ => ?_, ?_⟩
      · have hmn : m < n := by omega
        simp [execOp, ho, hv, h2, Instr.indexAt, asIntOf, run_underlying hu, sizeOf, typeInfo, hi, hik, h0, hmn]
      · refine .elem (val := fun j => val m.toNat j) (by rw [add_block]; exact hX) (by rw [add_block]; exact hb) (fun j d hj => ?_) (fun j d hj => hrd _ j _ d hm hj)
        rw [add_add']; exact hcell _ j _ d hm hj
  | _ => rw [hv] at h1; cases h1
/-- The same at a list of things that are laid out alike. -/
theorem ixm {α : Type} {x y : Operand} {t e k b : Nat} {l : List α} {f : α → List V} {kk : IntKind} {m : Int} {c : α} (ht : slB P t e k b = true) (h0 : 0 ≤ m) (hm : l[m.toNat]? = some c)
    (hx : Ev E s x (.slice k (l.map f))) (hy : Ev E s y (.int kk m)) : MOp E s (.indexAddr t x y) (.elem (f c)) :=
  ix ht h0 (by rw [List.getElem?_map, hm]; rfl) hx hy

theorem len_run {w : World} {t : Nat} {a : Act} {x : Operand} {A : Option Addr} {n c : Nat} {e : Nat} (hu : P.underlying t = some (.slice e)) (hv : a.eval x = .slice A n c) {o : Oper}
    (ho : o.op = .call { callee := .builtin .len, args := #[x], argTypes := #[t] }) : (execOp a.eval o).run P w = .ok (.value (.int .i64 n)) w := by
  simp [execOp, ho, resolve, invoke, builtin, hv, Builtin.len_, run_underlying hu, goInt]
theorem lens {x : Operand} {t e k b k' : Nat} {es : List (List V)} (ht : slB P t e k b = true) (hx : Ev E s x (.slice k' es)) : MOp E s (.call { callee := .builtin .len, args := #[x], argTypes := #[t] }) (.int .i64 (es.length : Int)) := fun β a w rl op ho => by
  obtain ⟨A, c, h1, h2, h3⟩ := (hx β a w rl).slice_len
  refine ⟨_, fun w' _ => len_run (slB_spec ht).1 h1 ho, .int ?_ ?_⟩
  · simp [IntKind.min, IntKind.signed, IntKind.bits]
  · unfold maxLen at h3; simp [IntKind.max, IntKind.signed, IntKind.bits]; omega
theorem lenm {α : Type} {x : Operand} {t e k b k' : Nat} {l : List α} {f : α → List V} (ht : slB P t e k b = true) (hx : Ev E s x (.slice k' (l.map f))) : MOp E s (.call { callee := .builtin .len, args := #[x], argTypes := #[t] }) (.int .i64 (l.length : Int)) := by
  have := lens ht hx
  rwa [List.length_map] at this
theorem lenn {x : Operand} {t e k b : Nat} (ht : slB P t e k b = true) (hx : Ev E s x .nil) : MOp E s (.call { callee := .builtin .len, args := #[x], argTypes := #[t] }) (.int .i64 0) := fun β a w rl op ho =>
  ⟨_, fun w' _ => len_run (slB_spec ht).1 (hx β a w rl).nil_inv ho, .int (by decide) (by decide)⟩
theorem lenS {x : Operand} {t : Nat} {m : ByteArray} (ht : P.underlying t = some .string) (hx : Ev E s x (.str m)) : MOp E s (.call { callee := .builtin .len, args := #[x], argTypes := #[t] }) (.int .i64 (m.size : Int)) := fun β a w rl op ho => by
  obtain ⟨h1, h2⟩ := (hx β a w rl).str_inv
  refine ⟨_, fun w' _ => by simp [execOp, ho, resolve, invoke, builtin, h1, Builtin.len_, run_underlying ht, goInt], .int ?_ ?_⟩
  · simp [IntKind.min, IntKind.signed, IntKind.bits]
  · unfold maxLen at h2; simp [IntKind.max, IntKind.signed, IntKind.bits]; omega
end
end Go.VK
