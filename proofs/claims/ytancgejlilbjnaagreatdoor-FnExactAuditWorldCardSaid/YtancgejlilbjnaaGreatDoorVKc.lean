/-
  THE VALUE KIT, third part: operations that read memory. Theorems over any program; the conditions stand in each.
-/
import Derived.Test.YtancgejlilbjnaaGreatDoorVKb
set_option linter.unusedVariables false
namespace Go.VK
open Go.RowKit
variable {P : Program} {g : GI}

/-- A struct's or an array's type of n cells. -/
def aggB (P : Program) (t : TypeId) (n : Nat) : Bool :=
  (match P.underlying t with | some (.struct _) => true | some (.array _ _) => true | _ => false) && (match P.info? t with | some i => i.size == n | none => false)
/-- A type of one cell that is neither. -/
def oneB (P : Program) (t : TypeId) : Bool :=
  (match P.underlying t with | some (.struct _) => false | some (.array _ _) => false | some _ => true | none => false) && (match P.info? t with | some i => i.size == 1 | none => false)
def fldB (P : Program) (t f off : Nat) : Bool :=
  match P.underlying t with
  | some (.struct fs) => (match fs[f]? with | some fd => fd.offset == off && (match P.info? fd.type with | some i => i.size != 0 | none => false) | none => false)
  | _ => false
/-- A slice's type: its elements' type, of k cells (k is not 0) and so many bytes. -/
def slB (P : Program) (t e k bytes : Nat) : Bool :=
  (match P.underlying t with | some (.slice e') => e' == e | _ => false) && (match P.info? e with | some i => i.size == k && i.bytes == bytes && k != 0 && (match i.zero with | some z => z.cells.size == k | none => false) | none => false)

section
variable {w : World}
theorem aggB_isAgg {t n : Nat} (h : aggB P t n = true) : (isAgg t).run P w = .ok true w ∧ (sizeOf t).run P w = .ok n w := by
  simp only [aggB, Bool.and_eq_true] at h
  obtain ⟨h1, h2⟩ := h
  constructor
  · cases hu : P.underlying t with
    | none => simp [hu] at h1
    | some d => cases d <;> simp [hu] at h1 <;> simp [isAgg, run_underlying hu]
  · cases hi : P.info? t with
    | none => simp [hi] at h2
    | some i => simp [hi] at h2; simp [sizeOf, typeInfo, hi, h2]
theorem oneB_isAgg {t : Nat} (h : oneB P t = true) : (isAgg t).run P w = .ok false w ∧ (sizeOf t).run P w = .ok 1 w := by
  simp only [oneB, Bool.and_eq_true] at h
  obtain ⟨h1, h2⟩ := h
  constructor
  · cases hu : P.underlying t with
    | none => simp [hu] at h1
    | some d => cases d <;> simp [hu] at h1 <;> simp [isAgg, run_underlying hu]
  · cases hi : P.info? t with
    | none => simp [hi] at h2
    | some i => simp [hi] at h2; simp [sizeOf, typeInfo, hi, h2]
theorem fldB_run {t f off : Nat} (h : fldB P t f off = true) (a : Addr) : (Instr.fieldAt t (.pointer (some a)) f).run P w = .ok (.pointer (some (a.add off))) w := by
  unfold fldB at h
  cases hu : P.underlying t with
  | none => simp [hu] at h
  | some d =>
    cases d <;> simp [hu] at h
    rename_i fs
    cases hf : fs[f]? with
    | none => simp [hf] at h
    | some fd =>
      simp [hf] at h
      obtain ⟨h1, h2⟩ := h
      cases hi : P.info? fd.type with
      | none => simp [hi] at h2
      | some i =>
        simp [hi] at h2
        simp [Instr.fieldAt, run_underlying hu, hf, Instr.sureAddr, fieldPlace, sizeOf, typeInfo, hi, h2, h1]
theorem slB_spec {t e k bytes : Nat} (h : slB P t e k bytes = true) : P.underlying t = some (.slice e) ∧ ∃ i z, P.info? e = some i ∧ i.zero = some z ∧ i.size = k ∧ i.bytes = bytes ∧ z.cells.size = k ∧ 0 < k := by
  simp only [slB, Bool.and_eq_true] at h
  obtain ⟨h1, h2⟩ := h
  constructor
  · cases hu : P.underlying t with
    | none => simp [hu] at h1
    | some d => cases d <;> simp [hu] at h1; simp [h1]
  · cases hi : P.info? e with
    | none => simp [hi] at h2
    | some i =>
      simp [hi] at h2
      obtain ⟨⟨⟨a1, a2⟩, a3⟩, a4⟩ := h2
      cases hz : i.zero with
      | none => simp [hz] at a4
      | some z => simp [hz] at a4; exact ⟨i, z, rfl, hz, a1, a2, a4, by omega⟩

theorem loadVar_one {t : Nat} (h : oneB P t = true) {a : Addr} {v : Value} (hc : w.cell? a = some v) : (loadVar t a).run P w = .ok v w := by
  simp [loadVar, (oneB_isAgg (w := w) h).1, hc]
theorem loadVar_agg {t : Nat} {vs : List Value} (h : aggB P t vs.length = true) {a : Addr} (hc : ∀ (j : Nat) (v : Value), vs[j]? = some v → w.cell? (a.add j) = some v) : (loadVar t a).run P w = .ok (.agg vs.toArray) w := by
  simp [loadVar, (aggB_isAgg (w := w) h).1, (aggB_isAgg (w := w) h).2, run_loadCells_list w a vs hc]
end

/-! ### Parts of lists, by relations that a term shows -/
inductive Dr : List V → Nat → List V → Prop
  | z {l : List V} : Dr l 0 l
  | s {x : V} {l l' : List V} {n : Nat} (h : Dr l n l') : Dr (x :: l) (n + 1) l'
theorem Dr.get {l l' : List V} {n : Nat} (h : Dr l n l') (j : Nat) : l'[j]? = l[n + j]? := by
  induction h with
  | z => simp
  | s _ ih => rw [ih]; rw [Nat.add_right_comm, List.getElem?_cons_succ]
inductive Tk : List V → Nat → List V → Prop
  | z {l : List V} : Tk l 0 []
  | s {x : V} {l l' : List V} {n : Nat} (h : Tk l n l') : Tk (x :: l) (n + 1) (x :: l')
theorem Tk.len {l l' : List V} {n : Nat} (h : Tk l n l') : l'.length = n := by induction h <;> simp_all
theorem Tk.get {l l' : List V} {n : Nat} (h : Tk l n l') : ∀ (j : Nat) (d : V), l'[j]? = some d → l[j]? = some d := by
  induction h with
  | z => simp
  | s _ ih => intro j d hd; cases j with
    | zero => simpa using hd
    | succ j => simpa using ih j d (by simpa using hd)

section
variable {E : Env P g} {s : S}

theorem add_flat (b o n : Nat) : (⟨b, o, none⟩ : Addr).add n = ⟨b, o + n, none⟩ := by unfold Addr.add; split <;> simp_all

/-- The cells of a box. -/
theorem box_cells {β : List Tr} {a : Act} {w : World} (r : RelB E s β a w) {i T : Nat} {cs : List V} (hi : At s.o i (.box T cs)) {t : Tr} {b : Nat} (hb : β[i]? = some t) (htb : t.b = some b) :
    ∃ vs : List Value, w.heap[b]? = some (.cells vs.toArray T (0, 0)) ∧ vs.length = cs.length ∧ ∀ (i : Nat) (v : Value) (c : V), vs[i]? = some v → cs[i]? = some c → Rd w (E.X β) β v c := by
  obtain ⟨b', vs, h1, h2, h3, h4⟩ := r.objs i t _ hb hi.get
  rw [htb] at h1
  injection h1 with h1
  subst h1
  exact ⟨vs, h2, h3, h4⟩

theorem fab {x : Operand} {i off t f o : Nat} (r : Nat) (hr : off + o = r) (hf : fldB P t f o = true) (h : Ev E s x (.box i off)) : MOp E s (.fieldAddr t x f) (.box i r) := fun β a w rl op ho => by
  obtain ⟨tr, b, h1, h2, h3⟩ := (h β a w rl).box_inv
  refine ⟨.pointer (some ⟨b, r, none⟩), fun w' _ => ?_, .box h1 h2⟩
  simp [execOp, ho, h3, fldB_run hf, add_flat, hr]
theorem add_add' (a : Addr) (m n : Nat) : (a.add m).add n = a.add (m + n) := by
  unfold Addr.add; by_cases h1 : m = 0 <;> by_cases h2 : n = 0 <;> simp [h1, h2, Nat.add_assoc]
theorem add_block (a : Addr) (n : Nat) : (a.add n).block = a.block := by unfold Addr.add; split <;> rfl
theorem fae {x : Operand} {cs cs' : List V} {t f o : Nat} (hf : fldB P t f o = true) (hd : Dr cs o cs') (h : Ev E s x (.elem cs)) : MOp E s (.fieldAddr t x f) (.elem cs') := fun β a w rl op ho => by
  have h0 := h β a w rl
  cases hv : a.eval x with
  | pointer p =>
    rw [hv] at h0
    cases h0 with
    | @elem _ ad _ val hX hb hcell hrd =>
      refine ⟨.pointer (some (ad.add o)), fun w' _ => by simp [execOp, ho, hv, fldB_run hf], ?_⟩
      refine .elem (val := fun j => val (o + j)) (by rw [add_block]; exact hX) (by rw [add_block]; exact hb) (fun j d hj => ?_) (fun j d hj => ?_)
      · rw [add_add']; exact hcell _ d (by rw [← hd.get]; exact hj)
      · exact hrd _ d (by rw [← hd.get]; exact hj)
  | _ => rw [hv] at h0; cases h0

theorem ldb {x : Operand} {i off T t : Nat} {cs : List V} {U : V} (ht : oneB P t = true) (hi : At s.o i (.box T cs)) (hc : At cs off U) (h : Ev E s x (.box i off)) : MOp E s (.load t x) U := fun β a w rl op ho => by
  obtain ⟨tr, b, h1, h2, h3⟩ := (h β a w rl).box_inv
  obtain ⟨vs, k1, k2, k3⟩ := box_cells rl hi h1 h2
  have hlt : off < vs.length := by rw [k2]; exact (List.getElem?_eq_some_iff.1 hc.get).1
  refine ⟨vs[off], fun w' he => ?_, k3 off _ U (List.getElem?_eq_getElem hlt) hc.get⟩
  have hcell : w'.cell? ⟨b, off, none⟩ = some vs[off] := by rw [cell_of_row w' b off _ T (0, 0) (he.heap k1)]; simp
  simp [execOp, ho, h3, Instr.loadAt, Instr.sureAddr, loadVar_one ht hcell]
theorem lab {x : Operand} {i off T t n : Nat} {cs ds es : List V} (ht : aggB P t n = true) (hi : At s.o i (.box T cs)) (hd : Dr cs off ds) (hk : Tk ds n es) (h : Ev E s x (.box i off)) : MOp E s (.load t x) (.agg es) := fun β a w rl op ho => by
  obtain ⟨tr, b, h1, h2, h3⟩ := (h β a w rl).box_inv
  obtain ⟨vs, k1, k2, k3⟩ := box_cells rl hi h1 h2
  have hget : ∀ (j : Nat) (d : V), es[j]? = some d → cs[off + j]? = some d := fun j d hj => by rw [← hd.get]; exact hk.get j d hj
  have hl : off + n ≤ vs.length ∨ n = 0 := by
    rcases Nat.eq_zero_or_pos n with h0 | h0
    · exact .inr h0
    · have hn := hk.len
      have : es[n - 1]? = some es[n - 1] := List.getElem?_eq_getElem (by omega)
      have := (List.getElem?_eq_some_iff.1 (hget _ _ this)).1
      omega
  have hvl : ((vs.drop off).take n).length = n := by
    rw [List.length_take, List.length_drop]
    omega
  have hvg : ∀ (j : Nat) (v : Value), ((vs.drop off).take n)[j]? = some v → vs[off + j]? = some v := fun j v hj => by
    rw [List.getElem?_take] at hj
    split at hj
    · rwa [List.getElem?_drop] at hj
    · cases hj
  refine ⟨.agg ((vs.drop off).take n).toArray, fun w' he => ?_, .agg (by rw [List.size_toArray, hvl, hk.len]) (fun j v d hj hd' => k3 (off + j) v d (hvg j v (by simpa using hj)) (hget j d hd'))⟩
  have := loadVar_agg (P := P) (w := w') (t := t) (vs := (vs.drop off).take n) (by rw [hvl]; exact ht) (a := ⟨b, off, none⟩) (fun j v hj => by
    rw [add_flat, cell_of_row w' b _ _ T (0, 0) (he.heap k1)]
    simpa using hvg j v hj)
  simp only [execOp, ho, h3, Instr.loadAt, Instr.sureAddr, Sem.run_bind, Sem.run_pure, Result.andThen_ok, this]
theorem lde {x : Operand} {t : Nat} {U : V} {cs : List V} (ht : oneB P t = true) (hc : At cs 0 U) (h : Ev E s x (.elem cs)) : MOp E s (.load t x) U := fun β a w rl op ho => by
  have h0 := h β a w rl
  cases hv : a.eval x with
  | pointer p =>
    rw [hv] at h0
    cases h0 with
    | @elem _ ad _ val hX hb hcell hrd =>
      refine ⟨val 0, fun w' he => ?_, (hrd 0 U hc.get).conv (Nat.le_refl _) (fun _ _ h => h) (fun _ _ _ h => h) (fun _ _ h => by simp at h)⟩
      have := he.cell (hcell 0 U hc.get)
      rw [show ad.add 0 = ad from by simp [Addr.add]] at this
      simp [execOp, ho, hv, Instr.loadAt, Instr.sureAddr, loadVar_one ht this]
  | _ => rw [hv] at h0; cases h0
theorem lae {x : Operand} {t n : Nat} {cs es : List V} (ht : aggB P t n = true) (hk : Tk cs n es) (h : Ev E s x (.elem cs)) : MOp E s (.load t x) (.agg es) := fun β a w rl op ho => by
  have h0 := h β a w rl
  cases hv : a.eval x with
  | pointer p =>
    rw [hv] at h0
    cases h0 with
    | @elem _ ad _ val hX hb hcell hrd =>
      have hlen : ((List.range n).map val).length = n := by simp
      have hin : ∀ j, j < n → ∃ d, cs[j]? = some d := fun j hj => by
        have : es[j]? = some (es[j]'(by rw [hk.len]; exact hj)) := List.getElem?_eq_getElem _
        exact ⟨_, hk.get j _ this⟩
      refine ⟨.agg ((List.range n).map val).toArray, fun w' he => ?_, .agg (by rw [List.size_toArray, hlen, hk.len]) (fun j v d hj hd' => ?_)⟩
      · have := loadVar_agg (P := P) (w := w') (t := t) (vs := (List.range n).map val) (by rw [hlen]; exact ht) (a := ad) (fun j v hj => by
          have hjn : j < n := by have := (List.getElem?_eq_some_iff.1 hj).1; simpa using this
          obtain ⟨d, hd⟩ := hin j hjn
          have h1 := he.cell (hcell j d hd)
          rw [h1]
          simp [List.getElem?_map, List.getElem?_range hjn] at hj
          rw [hj])
        simp only [execOp, ho, hv, Instr.loadAt, Instr.sureAddr, Sem.run_bind, Sem.run_pure, Result.andThen_ok, this]
      · have hjn : j < n := by have := (List.getElem?_eq_some_iff.1 hd').1; rw [hk.len] at this; exact this
        have hv' : v = val j := by
          simp [List.getElem?_map, List.getElem?_range hjn] at hj
          exact hj.symm
        rw [hv']
        exact (hrd j d (hk.get j d hd')).conv (Nat.le_refl _) (fun _ _ h => h) (fun _ _ _ h => h) (fun _ _ h => by simp at h)
  | _ => rw [hv] at h0; cases h0

theorem ix {x y : Operand} {t e k b : Nat} {es : List (List V)} {kk : IntKind} {m : Int} {c : List V} (ht : slB P t e k b = true) (h0 : 0 ≤ m) (hm : es[m.toNat]? = some c)
    (hx : Ev E s x (.slice k es)) (hy : Ev E s y (.int kk m)) : MOp E s (.indexAddr t x y) (.elem c) := fun β a w rl op ho => by
  obtain ⟨hu, i, z, hi, hz, hik, hib, hzk, hk0⟩ := slB_spec ht
  have h1 := hx β a w rl
  have h2 := (hy β a w rl).int_inv.1
  have hlt := (List.getElem?_eq_some_iff.1 hm).1
  cases hv : a.eval x with
  | slice A n cc =>
    rw [hv] at h1
    cases h1 with
    | slice0 => simp at hlt
    | @slice _ ad _ _ _ _ val hn hpos hc hmx hX hb hk hcell hrd =>
      refine ⟨.pointer (some (ad.add (m.toNat * k))), fun w' _ => ?_, ?_⟩
      · have hmn : m < n := by omega
        simp [execOp, ho, hv, h2, Instr.indexAt, asIntOf, run_underlying hu, sizeOf, typeInfo, hi, hik, h0, hmn]
      · refine .elem (val := fun j => val m.toNat j) (by rw [add_block]; exact hX) (by rw [add_block]; exact hb) (fun j d hj => ?_) (fun j d hj => hrd _ j _ d hm hj)
        rw [add_add']; exact hcell _ j _ d hm hj
  | _ => rw [hv] at h1; cases h1
/-- The same at a list of things that are laid out alike. -/
theorem ixm {α : Type} {x y : Operand} {t e k b : Nat} {l : List α} {f : α → List V} {kk : IntKind} {m : Int} {c : α} (ht : slB P t e k b = true) (h0 : 0 ≤ m) (hm : l[m.toNat]? = some c)
    (hx : Ev E s x (.slice k (l.map f))) (hy : Ev E s y (.int kk m)) : MOp E s (.indexAddr t x y) (.elem (f c)) :=
  ix ht h0 (by rw [List.getElem?_map, hm]; rfl) hx hy

theorem len_run {w : World} {t : Nat} {a : Act} {x : Operand} {A : Option Addr} {n c : Nat} {e : Nat} (hu : P.underlying t = some (.slice e)) (hv : a.eval x = .slice A n c) {o : Oper}
    (ho : o.op = .call { callee := .builtin .len, args := #[x], argTypes := #[t] }) : (execOp a.eval o).run P w = .ok (.value (.int .i64 n)) w := by
  simp [execOp, ho, resolve, invoke, builtin, hv, Builtin.len_, run_underlying hu, goInt]
theorem lens {x : Operand} {t e k b k' : Nat} {es : List (List V)} (ht : slB P t e k b = true) (hx : Ev E s x (.slice k' es)) : MOp E s (.call { callee := .builtin .len, args := #[x], argTypes := #[t] }) (.int .i64 (es.length : Int)) := fun β a w rl op ho => by
  obtain ⟨A, c, h1, h2, h3⟩ := (hx β a w rl).slice_len
  refine ⟨_, fun w' _ => len_run (slB_spec ht).1 h1 ho, .int ?_ ?_⟩
  · simp [IntKind.min, IntKind.signed, IntKind.bits]
  · unfold maxLen at h3; simp [IntKind.max, IntKind.signed, IntKind.bits]; omega
theorem lenm {α : Type} {x : Operand} {t e k b k' : Nat} {l : List α} {f : α → List V} (ht : slB P t e k b = true) (hx : Ev E s x (.slice k' (l.map f))) : MOp E s (.call { callee := .builtin .len, args := #[x], argTypes := #[t] }) (.int .i64 (l.length : Int)) := by
  have := lens ht hx
  rwa [List.length_map] at this
theorem leno {x : Operand} {t e k b i T k' : Nat} {es : List (List V)} (ht : slB P t e k b = true) (hi : At s.o i (.row T k' es)) (hx : Ev E s x (.own i)) : MOp E s (.call { callee := .builtin .len, args := #[x], argTypes := #[t] }) (.int .i64 (es.length : Int)) := fun β a w rl op ho => by
  obtain ⟨tr, h1, h2⟩ := (hx β a w rl).own_inv
  obtain ⟨_, _, xs, h3, _⟩ := rl.objs i tr _ h1 hi.get
  have h4 : ∃ A c, tr.val = .slice A es.length c ∧ es.length ≤ maxLen := by
    rcases h3.2 with ⟨h4, h5⟩ | ⟨gg, cap, cur, h4, _, _, h5, h6, _⟩
    · exact ⟨_, _, by rw [h4, h5], by rw [h5]; exact Nat.zero_le _⟩
    · exact ⟨_, _, h4, Nat.le_trans h5 h6⟩
  obtain ⟨A, c, h4, h5⟩ := h4
  refine ⟨_, fun w' _ => len_run (slB_spec ht).1 (h2.trans h4) ho, .int ?_ ?_⟩
  · simp [IntKind.min, IntKind.signed, IntKind.bits]
  · unfold maxLen at h5; simp [IntKind.max, IntKind.signed, IntKind.bits]; omega
theorem lenS {x : Operand} {t : Nat} {m : ByteArray} (ht : P.underlying t = some .string) (hx : Ev E s x (.str m)) : MOp E s (.call { callee := .builtin .len, args := #[x], argTypes := #[t] }) (.int .i64 (m.size : Int)) := fun β a w rl op ho => by
  obtain ⟨h1, h2⟩ := (hx β a w rl).str_inv
  refine ⟨_, fun w' _ => by simp [execOp, ho, resolve, invoke, builtin, h1, Builtin.len_, run_underlying ht, goInt], .int ?_ ?_⟩
  · simp [IntKind.min, IntKind.signed, IntKind.bits]
  · unfold maxLen at h2; simp [IntKind.max, IntKind.signed, IntKind.bits]; omega
theorem ext_ {x : Operand} {i : Nat} {us : List V} {U : V} (hi : At us i U) (hx : Ev E s x (.tup us)) : MOp E s (.extract x i) U := fun β a w rl op ho => by
  obtain ⟨vs, h1, h2, h3⟩ := (hx β a w rl).tup_inv
  have hlt : i < vs.size := by rw [h2]; exact (List.getElem?_eq_some_iff.1 hi.get).1
  refine ⟨vs[i], fun w' _ => ?_, h3 i _ U (Array.getElem?_eq_getElem hlt) hi.get⟩
  simp [execOp, ho, h1, Instr.extract, Array.getElem?_eq_getElem hlt]
end
end Go.VK
