/-
  THE EVALUATOR's KIT, sixth part: the operations that only compute or read, by the value kit's rules. Plain theorems over any program; the conditions stand in each.
-/
import Derived.Test.YtiojlennpdmapaaGreatEVe
set_option linter.unusedVariables false
set_option linter.unusedSimpArgs false
namespace Go.EV
open Go.RowKit Go.VK

/-! ### The table of types -/
def kzB : Value → Kz → Bool
  | .int k n, .int k' => decide (k = k') && decide (n = 0) && decide (k.min ≤ 0) && decide (0 ≤ k.max)
  | .bool b, .bool => !b
  | .string s, .str => Nat.beq s.data.size 0
  | .slice none 0 0, .nil => true
  | _, _ => false
def kzsB : List Value → List Kz → Bool
  | [], [] => true
  | v :: vs, z :: zs => kzB v z && kzsB vs zs
  | _, _ => false
def fsB (P : Program) (t : Nat) : Nat → List (Nat × Nat × Nat) → Bool
  | _, [] => true
  | f, (off, ft, n) :: l => (fldB P t f off && fltB P t f ft off && (match P.info? ft with | some j => j.size == n | none => false)) && fsB P t (f + 1) l
def plcB : List (Nat × Nat) → List (Nat × Nat × Nat) → Bool
  | [], [] => true
  | (a, b) :: l, (off, _, n) :: l' => Nat.beq a off && Nat.beq b n && plcB l l'
  | _, _ => false
def tiB (P : Program) (t : Nat) (i : TInfo) : Bool :=
  (match i.u with
  | .int k => (match P.underlying t with | some (.int k') => decide (k' = k) | _ => false) && oneB P t && Nat.beq i.k 1
  | .bool => (match P.underlying t with | some .bool => true | _ => false) && oneB P t && Nat.beq i.k 1
  | .str => (match P.underlying t with | some .string => true | _ => false) && oneB P t && Nat.beq i.k 1
  | .sl e ek eb => slB P t e ek eb && oneB P t && Nat.beq i.k 1
  | .st fs => aggB P t i.k && fsB P t 0 fs && (match plcOf P t with | some l => plcB l fs | none => false)) &&
  (match P.info? t with | some j => (match j.zero with | some z => kzsB z.cells.toList i.z | none => false) | none => false)
def tiOk (P : Program) (TI : List (Nat × TInfo)) : Bool := TI.all fun x => tiB P x.1 x.2

section
variable {P : Program} {TI : List (Nat × TInfo)}
theorem tiOk_at (h : tiOk P TI = true) {t : Nat} {i : TInfo} (hf : fnd TI t = some i) : tiB P t i = true := by
  have := List.all_eq_true.1 h _ (fnd_mem hf); exact this
theorem ti_int {t : Nat} {i : TInfo} {k : IntKind} (h : tiB P t i = true) (hu : i.u = .int k) : P.underlying t = some (.int k) ∧ oneB P t = true ∧ i.k = 1 := by
  simp only [tiB, hu, Bool.and_eq_true] at h
  obtain ⟨⟨⟨h1, h2⟩, h3⟩, _⟩ := h
  refine ⟨?_, h2, Nat.eq_of_beq_eq_true h3⟩
  cases hp : P.underlying t with
  | none => simp [hp] at h1
  | some d => cases d <;> simp [hp] at h1; subst h1; rfl
theorem ti_bool {t : Nat} {i : TInfo} (h : tiB P t i = true) (hu : i.u = .bool) : P.underlying t = some .bool ∧ oneB P t = true ∧ i.k = 1 := by
  simp only [tiB, hu, Bool.and_eq_true] at h
  obtain ⟨⟨⟨h1, h2⟩, h3⟩, _⟩ := h
  refine ⟨?_, h2, Nat.eq_of_beq_eq_true h3⟩
  cases hp : P.underlying t with
  | none => simp [hp] at h1
  | some d => cases d <;> simp [hp] at h1; rfl
theorem ti_str {t : Nat} {i : TInfo} (h : tiB P t i = true) (hu : i.u = .str) : P.underlying t = some .string ∧ oneB P t = true ∧ i.k = 1 := by
  simp only [tiB, hu, Bool.and_eq_true] at h
  obtain ⟨⟨⟨h1, h2⟩, h3⟩, _⟩ := h
  refine ⟨?_, h2, Nat.eq_of_beq_eq_true h3⟩
  cases hp : P.underlying t with
  | none => simp [hp] at h1
  | some d => cases d <;> simp [hp] at h1; rfl
theorem ti_sl {t : Nat} {i : TInfo} {e ek eb : Nat} (h : tiB P t i = true) (hu : i.u = .sl e ek eb) : slB P t e ek eb = true ∧ oneB P t = true ∧ i.k = 1 := by
  simp only [tiB, hu, Bool.and_eq_true] at h
  exact ⟨h.1.1.1, h.1.1.2, Nat.eq_of_beq_eq_true h.1.2⟩
theorem ti_st {t : Nat} {i : TInfo} {fs : List (Nat × Nat × Nat)} (h : tiB P t i = true) (hu : i.u = .st fs) : aggB P t i.k = true ∧ fsB P t 0 fs = true ∧ ∃ l, plcOf P t = some l ∧ plcB l fs = true := by
  simp only [tiB, hu, Bool.and_eq_true] at h
  refine ⟨h.1.1.1, h.1.1.2, ?_⟩
  cases hp : plcOf P t with
  | none => simp [hp] at h
  | some l => simp only [hp] at h; exact ⟨l, rfl, h.1.2⟩
theorem ti_zero {t : Nat} {i : TInfo} (h : tiB P t i = true) : ∃ j z, P.info? t = some j ∧ j.zero = some z ∧ kzsB z.cells.toList i.z = true := by
  simp only [tiB, Bool.and_eq_true] at h
  have h := h.2
  cases hj : P.info? t with
  | none => simp [hj] at h
  | some j =>
    cases hz : j.zero with
    | none => simp [hj, hz] at h
    | some z => simp only [hj, hz] at h; exact ⟨j, z, rfl, hz, h⟩
theorem fsB_at {t : Nat} : ∀ {fs : List (Nat × Nat × Nat)} {f n off ft k : Nat}, fsB P t f fs = true → fs[n]? = some (off, ft, k) → fldB P t (f + n) off = true ∧ fltB P t (f + n) ft off = true ∧ ∃ j, P.info? ft = some j ∧ j.size = k
  | [], f, n, off, ft, k, h, hn => by simp at hn
  | (a, b, c) :: fs, f, 0, off, ft, k, h, hn => by
    simp at hn
    obtain ⟨rfl, rfl, rfl⟩ := hn
    simp only [fsB, Bool.and_eq_true] at h
    refine ⟨h.1.1.1, h.1.1.2, ?_⟩
    cases hj : P.info? b with
    | none => simp [hj] at h
    | some j => simp [hj] at h; exact ⟨j, rfl, h.1.2⟩
  | (a, b, c) :: fs, f, n + 1, off, ft, k, h, hn => by
    simp only [fsB, Bool.and_eq_true] at h
    have := fsB_at (f := f + 1) (n := n) h.2 (by simpa using hn)
    rw [show f + (n + 1) = f + 1 + n by omega]; exact this
end

/-! ### The way to the value kit's rules -/
variable {U : Uni} {Y : Lay U} {TI : List (Nat × TInfo)} {P : Program} {g : GI} {E : Env g}
noncomputable def lv (m : Mm U) (fr : Bool) (x : Lf U) : V := match x with
  | .nil => .nil
  | x => bif fr && !freeL x then .any else match rdl m x with
    | some y => y.toV
    | none => .any
noncomputable def vw (m : Mm U) (fr : Bool) : Sv U → V
  | .l x => lv m fr x
  | .a cs => .agg (cs.map (lv m fr))
  | .t _ => .any
section
variable {C : Cod U} {s : St U} {a : Act} {w w' : World} {β β' : List Tr}
theorem lv_mean (H : Hp C E s.m β w) {v : Value} {x : Lf U} (hm : x.mean C w (E.X β) β s.m v) (fr : Bool) {Z : Nat → Prop} (hZ : ∀ b, Z b → fr = true ∧ E.X β b) : Rd w Z [] v (lv s.m fr x) := by
  have go : Rd w Z [] v (bif fr && !freeL x then .any else match rdl s.m x with | some y => y.toV | none => .any) := by
    cases fr with
    | false =>
      simp only [Bool.false_and, cond_false]
      cases hr : rdl s.m x with
      | none => exact .any
      | some y => exact (rdl_mean H hm hr (fun b hb => (hZ b hb).2) (.inr fun _ _ b _ _ hb => by cases (hZ b hb).1)).2
    | true =>
      cases hf : freeL x with
      | false => exact .any
      | true =>
        simp only [Bool.not_true, Bool.and_false, cond_false]
        cases hr : rdl s.m x with
        | none => exact .any
        | some y => exact (rdl_mean H hm hr (fun b hb => (hZ b hb).2) (.inl hf)).2
  cases x with
  | nil => obtain rfl := hm; exact .nil
  | _ => exact go
/-- The moment, seen by the value kit: fr: what may lie in the run's own memory is not seen, marks are kept. -/
noncomputable def Zf (E : Env g) (β : List Tr) (fr : Bool) (b : Nat) : Prop := fr = true ∧ E.X β b
noncomputable def brE (H : Hp C E s.m β w) (fr : Bool) : VK.Env P g := ⟨Zf E β fr, w, fun b hb => H.X_lt b hb.2, H.gw⟩
noncomputable def brS (s : St U) (fr : Bool) : VK.S := ⟨s.t.map (vw s.m fr), []⟩
theorem br (r : Rel C E s a w β) (fr : Bool) : RelB (brE (P := P) r.hp fr) (brS s fr) [] a w where
  ext := Ext.refl w
  defers := r.defers
  tsz := by simp [brS, r.tsz]
  tmps := fun n W hW => by
    simp only [brS, List.getElem?_map] at hW
    cases hx : s.t[n]? with
    | none => simp [hx] at hW
    | some x =>
      simp only [hx, Option.map_some, Option.some.injEq] at hW
      subst hW
      have hm := r.tm n x hx
      have hZ : ∀ b, (brE (P := P) r.hp fr).X [] b → fr = true ∧ E.X β b := fun b hb => by
        rcases hb with hb | ⟨t, ht, _⟩
        · exact hb
        · simp at ht
      cases x with
      | l y => exact lv_mean r.hp hm fr hZ
      | t xs => exact .any
      | a cs =>
        obtain ⟨vs, h1, h2, h3⟩ := hm
        rw [h1]
        refine .agg (by simp [h2]) (fun i v c k1 k2 => ?_)
        rw [List.getElem?_map] at k2
        cases hc : cs[i]? with
        | none => simp [hc] at k2
        | some c' =>
          simp only [hc, Option.map_some, Option.some.injEq] at k2
          subst k2
          exact lv_mean r.hp (h3 i v c' (by simpa using k1) hc) fr hZ
  blen := rfl
  new := by simp
  dist := by simp
  objs := by simp [brS]
theorem conSv_ev {E' : VK.Env P g} {S : VK.S} {v : Value} {m : Mm U} {fr : Bool} : VK.Ev E' S (.const v) (vw m fr (conSv v)) := by
  have any : ∀ v, VK.Ev E' S (.const v) .any := fun v _ _ _ _ => .any
  unfold conSv
  split
  · rename_i k n
    cases h : inR64 k n with
    | false => cases fr <;> exact any _
    | true =>
      simp only [cond_true, vw, lv, freeL, Bool.not_true, Bool.and_false, cond_false, rdl, Lf.toV]
      refine .i ?_
      simp only [inR64, Bool.and_eq_true, decide_eq_true_eq] at h
      simpa using h
  · simp only [vw, lv, freeL, Bool.not_true, Bool.and_false, cond_false, rdl, Lf.toV]; exact .b
  · rename_i z
    cases h : Nat.ble (len z.data.toList) 1000 with
    | false => cases fr <;> exact any _
    | true =>
      simp only [cond_true, vw, lv, freeL, Bool.not_true, Bool.and_false, cond_false, rdl, Lf.toV]
      refine .s ?_
      have := Nat.le_of_ble_eq_true h
      rw [len_eq, Array.length_toList] at this
      exact decide_eq_true (show z.size ≤ 1000 from this)
  · exact .n
  · cases fr <;> exact any _
theorem opr_ev {E' : VK.Env P g} {fr : Bool} {x : Operand} : VK.Ev E' (brS s fr) x (vw s.m fr (opr s x)) := by
  have any : ∀ x, VK.Ev E' (brS s fr) x .any := fun x _ _ _ _ => .any
  cases x with
  | tmp n =>
    simp only [opr, nth_eq]
    cases h : s.t[n]? with
    | none => cases fr <;> exact any _
    | some y => exact .t (at_of (by simp [brS, h]))
  | const v => exact conSv_ev
  | _ => cases fr <;> exact any _
theorem conSv_mean {X : Nat → Prop} {m : Mm U} {v : Value} : (conSv v : Sv U).mean C w X β m v := by
  unfold conSv
  split
  · rename_i k n
    cases h : inR64 k n with
    | false => trivial
    | true =>
      simp only [inR64, Bool.and_eq_true, decide_eq_true_eq] at h
      exact ⟨rfl, h⟩
  · rfl
  · rename_i z
    cases h : Nat.ble (len z.data.toList) 1000 with
    | false => trivial
    | true =>
      have := Nat.le_of_ble_eq_true h
      rw [len_eq, Array.length_toList] at this
      refine ⟨rfl, ?_⟩
      have h2 : z.size ≤ 1000 := this
      unfold maxLen; omega
  · rfl
  · trivial
theorem opr_mean (r : Rel C E s a w β) {x : Operand} : (opr s x).mean C w (E.X β) β s.m (a.eval x) := by
  cases x with
  | tmp n =>
    simp only [opr, nth_eq]
    cases h : s.t[n]? with
    | none => trivial
    | some y => exact r.tm n y h
  | const v => exact conSv_mean
  | _ => trivial
theorem opd_mean (r : Rel C E s a w β) {x : Operand} : (opd s x).mean C w (E.X β) β s.m (a.eval x) := by
  have := opr_mean r (x := x)
  unfold opd
  cases h : opr s x with
  | l y => rw [h] at this; exact rsv_mean this
  | _ => rw [h] at this; exact this
/-- A leaf that is an int, a bool or a string. -/
def flatL : Lf U → Bool
  | .int .. => true
  | .bool _ => true
  | .str _ => true
  | _ => false
theorem opd_flat {x : Operand} {y : Lf U} (h : opd s x = .l y) (hy : flatL y = true) (fr : Bool) : vw s.m fr (opr s x) = y.toV := by
  unfold opd at h
  cases ho : opr s x with
  | l z =>
    simp only [ho, Sv.l.injEq] at h
    simp only [vw]
    cases z with
    | nat a =>
      simp only [rsv, nth_eq] at h
      cases hn : s.m.ns[a]? with
      | none => simp only [hn] at h; subst h; cases hy
      | some p => simp only [hn] at h; subst h; simp [lv, freeL, rdl, nth_eq, hn]
    | lt a n =>
      simp only [rsv, nth_eq] at h
      cases hn : s.m.ns[a]? with
      | none => simp only [hn] at h; subst h; cases hy
      | some p => simp only [hn] at h; subst h; simp [lv, freeL, rdl, nth_eq, hn]
    | int k n => simp only [rsv] at h; subst h; simp [lv, freeL, rdl]
    | bool b => simp only [rsv] at h; subst h; simp [lv, freeL, rdl]
    | str b => simp only [rsv] at h; subst h; simp [lv, freeL, rdl]
    | _ => simp only [rsv] at h; subst h; cases hy
  | _ => simp only [ho] at h; cases h
theorem ev_flat {E' : VK.Env P g} {x : Operand} {y : Lf U} (h : opd s x = .l y) (hy : flatL y = true) (fr : Bool) : VK.Ev E' (brS s fr) x y.toV := by
  rw [← opd_flat h hy fr]; exact opr_ev
theorem ev_int {E' : VK.Env P g} {x : Operand} {k : IntKind} {n : Int} (h : opd s x = .l (.int k n)) (fr : Bool := false) : VK.Ev E' (brS s fr) x (.int k n) := ev_flat h rfl fr
theorem ev_bool {E' : VK.Env P g} {x : Operand} {b : Bool} (h : opd s x = .l (.bool b)) (fr : Bool := false) : VK.Ev E' (brS s fr) x (.bool b) := ev_flat h rfl fr
theorem ev_str {E' : VK.Env P g} {x : Operand} {z : ByteArray} (h : opd s x = .l (.str z)) (fr : Bool := false) : VK.Ev E' (brS s fr) x (.str z) := ev_flat h rfl fr
/-- A slice that can be read. -/
theorem ev_sl {E' : VK.Env P g} {x : Operand} {p : Lf U} {τ : Nat} {l : List (U.El τ)} (h : opd s x = .l p) (hr : rdl s.m p = some (.sl τ l)) : VK.Ev E' (brS s false) x (.slice (U.K τ) (l.map (U.enc τ))) := by
  have hv : vw s.m false (opr s x) = .slice (U.K τ) (l.map (U.enc τ)) := by
    unfold opd at h
    cases ho : opr s x with
    | l z =>
      simp only [ho, Sv.l.injEq] at h
      simp only [vw]
      have : rdl s.m z = some (.sl τ l) ∧ z ≠ .nil := by
        cases z with
        | nat a =>
          simp only [rsv, nth_eq] at h
          cases hn : s.m.ns[a]? with
          | none => simp only [hn] at h; subst h; cases hr
          | some q => simp only [hn] at h; subst h; cases hr
        | lt a n =>
          simp only [rsv, nth_eq] at h
          cases hn : s.m.ns[a]? with
          | none => simp only [hn] at h; subst h; cases hr
          | some q => simp only [hn] at h; subst h; cases hr
        | nil => simp only [rsv] at h; subst h; cases hr
        | _ => simp only [rsv] at h; subst h; exact ⟨hr, by simp⟩
      cases z with
      | nil => exact absurd rfl this.2
      | _ => simp only [lv, Bool.false_and, cond_false, this.1, Lf.toV]
    | _ => simp only [ho] at h; cases h
  rw [← hv]; exact opr_ev
/-- A plain slice, with its marks. -/
theorem ev_pl {E' : VK.Env P g} {x : Operand} {τ : Nat} {l : List (U.El τ)} (h : opd s x = .l (.sl τ l)) (fr : Bool := true) : VK.Ev E' (brS s fr) x (.slice (U.K τ) (l.map (U.enc τ))) := by
  have hv : vw s.m fr (opr s x) = .slice (U.K τ) (l.map (U.enc τ)) := by
    unfold opd at h
    cases ho : opr s x with
    | l z =>
      simp only [ho, Sv.l.injEq] at h
      simp only [vw]
      cases z with
      | nat a => simp only [rsv, nth_eq] at h; cases hn : s.m.ns[a]? <;> simp [hn] at h
      | lt a n => simp only [rsv, nth_eq] at h; cases hn : s.m.ns[a]? <;> simp [hn] at h
      | sl τ' l' => simp only [rsv] at h; rw [h]; simp [lv, freeL, rdl, Lf.toV]
      | _ => simp only [rsv] at h; cases h
    | _ => simp only [ho] at h; cases h
  rw [← hv]; exact opr_ev
/-- What an operation that computes or reads does. -/
def MO (P : Program) (C : Cod U) (E : Env g) (s : St U) (a : Act) (w : World) (β : List Tr) (op : Op) (x : Sv U) : Prop :=
  ∀ o : Oper, o.op = op → ∃ v, (∀ w', Ext w w' → (execOp a.eval o).run P w' = .ok (.value v) w') ∧ x.mean C w (E.X β) β s.m v
theorem mo_of (r : Rel C E s a w β) (fr : Bool) {op : Op} {W : V} {x : Sv U} (h : ∀ E' : VK.Env P g, MOp E' (brS s fr) op W) (hx : ∀ v, Rd w (Zf E β fr) [] v W → x.mean C w (E.X β) β s.m v) : MO P C E s a w β op x := fun o ho => by
  obtain ⟨v, h1, h2⟩ := h _ [] a w (br (P := P) r fr) o ho
  refine ⟨v, h1, hx v (h2.conv (Nat.le_refl _) (fun b _ hb => .inl hb) (fun _ _ _ h => h) (fun _ _ h => h))⟩
theorem m_int {k : IntKind} {n : Int} {X : Nat → Prop} {Z : Nat → Prop} {m : Mm U} {v : Value} (h : Rd w Z [] v (.int k n)) : (Sv.l (.int k n) : Sv U).mean C w X β m v := h.int_inv
theorem m_bool {b : Bool} {X : Nat → Prop} {Z : Nat → Prop} {m : Mm U} {v : Value} (h : Rd w Z [] v (.bool b)) : (Sv.l (.bool b) : Sv U).mean C w X β m v := h.bool_inv
theorem m_str {z : ByteArray} {X : Nat → Prop} {Z : Nat → Prop} {m : Mm U} {v : Value} (h : Rd w Z [] v (.str z)) : (Sv.l (.str z) : Sv U).mean C w X β m v := h.str_inv
end
end Go.EV
