/-
  THE VALUE KIT, fourth part: operations that make or write memory. Theorems over any program; the conditions stand in each.
-/
import Derived.Test.YtiojlennpdmapaaGreatVKc
import Derived.Maps.AppendAt
set_option linter.unusedVariables false
namespace Go.VK
open Go.RowKit
variable {P : Program} {g : GI}

/-- A datum of one cell. -/
def V.one : V → Bool
  | .agg _ | .tup _ | .any | .und => false
  | _ => true
def allOne : List V → Bool
  | [] => true
  | c :: cs => c.one && allOne cs
theorem allOne_get {cs : List V} (h : allOne cs = true) : ∀ (i : Nat) (c : V), cs[i]? = some c → c.one = true := by
  induction cs with
  | nil => intro i c hc; simp at hc
  | cons x xs ih =>
    simp only [allOne, Bool.and_eq_true] at h
    intro i c hc
    cases i with
    | zero => simp at hc; rw [← hc]; exact h.1
    | succ i => exact ih h.2 i c (by simpa using hc)
theorem Rd.one {w : World} {X : Nat → Prop} {β : List Tr} {v : Value} {U : V} (h : Rd w X β v U) (h1 : U.one = true) : v.oneCell' = true := by
  cases h <;> first | rfl | (simp [V.one] at h1)
theorem one_cells {v : Value} (h : v.oneCell' = true) : v.cells = #[v] := by cases v <;> simp_all [Value.oneCell', Value.cells]

/-- A step that makes or writes memory: what it leaves is the state s'; if 'e', nothing that was there has turned. -/
def SOp (E : Env P g) (s : S) (op : Op) (d : Option Nat) (s' : S) (e : Bool) : Prop :=
  ∀ (β : List Tr) (a : Act) (w : World), RelB E s β a w → ∀ o : Oper, o.op = op → o.dst = d → ∃ v w' β',
    ((execOp a.eval o).run P w = .ok (.value v) w' ∨ ((execOp a.eval o).run P w = .ok .skip w' ∧ v = undef)) ∧ RelB E s' β' (a.put d v) w' ∧ (e = true → Ext w w')

inductive Sn : List Ob → Ob → Nat → List Ob → Prop
  | z {x : Ob} : Sn [] x 0 [x]
  | s {x y : Ob} {l l' : List Ob} {n : Nat} (h : Sn l x n l') : Sn (y :: l) x (n + 1) (y :: l')
theorem Sn.eq {l l' : List Ob} {x : Ob} {n : Nat} (h : Sn l x n l') : l' = l ++ [x] ∧ n = l.length := by
  induction h with
  | z => simp
  | s _ ih => simp [ih.1, ih.2]
inductive UpO : List Ob → Nat → Ob → List Ob → Prop
  | z {x y : Ob} {l : List Ob} : UpO (x :: l) 0 y (y :: l)
  | s {x y : Ob} {l l' : List Ob} {n : Nat} (h : UpO l n y l') : UpO (x :: l) (n + 1) y (x :: l')
theorem UpO.eq {l l' : List Ob} {n : Nat} {y : Ob} (h : UpO l n y l') : l' = l.set n y ∧ n < l.length := by
  induction h with
  | z => simp
  | s _ ih => simp [ih.1, ih.2]

section
variable {E : Env P g} {s : S}

theorem Ob.ok.conv {w w' : World} {X X' : Nat → Prop} {β β' : List Tr} {t : Tr} {o : Ob} (h : o.ok w X β t) (hsz : w.heap.size ≤ w'.heap.size)
    (hX : ∀ b, b < w.heap.size → X' b → X b) (hcell : ∀ (p : Addr) (u : Value), ¬ X p.block → w.cell? p = some u → w'.cell? p = some u)
    (hβ : ∀ (i : Nat) (t : Tr), β[i]? = some t → β'[i]? = some t) (hh : ∀ b, t.b = some b → w'.heap[b]? = w.heap[b]?) : o.ok w' X' β' t := by
  cases o with
  | box T cs =>
    obtain ⟨b, vs, h1, h2, h3, h4⟩ := h
    exact ⟨b, vs, h1, by rw [hh b h1]; exact h2, h3, fun i v c h5 h6 => (h4 i v c h5 h6).conv hsz hX hcell hβ⟩
  | row T k es =>
    obtain ⟨h1, h2, xs, h3, h4⟩ := h
    refine ⟨h1, h2, xs, ?_, fun i j e d k1 k2 => let ⟨v, k3, k4, k5⟩ := h4 i j e d k1 k2; ⟨v, k3, k4, k5.conv hsz hX hcell (fun _ _ h => h)⟩⟩
    obtain ⟨a1, a2⟩ := h3
    refine ⟨a1, a2.imp id ?_⟩
    rintro ⟨gg, cap, cur, c1, c2, c3, c4⟩
    refine ⟨gg, cap, cur, c1, c2, ?_, c4⟩
    rw [hh gg ?_]
    · exact c3
    · cases hb : t.b with
      | none => simp [Tr.val, hb] at c1
      | some b => simp [Tr.val, hb] at c1; rw [c1.1]

/-- A new object of the walk's own. -/
theorem RelB.new_ob {β : List Tr} {a : Act} {w w' : World} (r : RelB E s β a w) {t : Tr} {x : Ob} {n : Nat} {o' : List Ob} (hs : Sn s.o x n o') (he : Ext w w')
    (hb : ∀ b, t.b = some b → w.heap.size ≤ b ∧ b < w'.heap.size) (hok : x.ok w' (E.X (β ++ [t])) (β ++ [t]) t) : RelB E ⟨s.t, o'⟩ (β ++ [t]) a w' ∧ (β ++ [t])[n]? = some t := by
  have hX : ∀ b, b < w.heap.size → E.X (β ++ [t]) b → E.X β b := by
    rintro b hlt (h | ⟨u, hu, hub⟩)
    · exact .inl h
    · rcases List.mem_append.1 hu with hu | hu
      · exact .inr ⟨u, hu, hub⟩
      · simp at hu; subst hu; have := (hb b hub).1; omega
  have hβ : ∀ (i : Nat) (u : Tr), β[i]? = some u → (β ++ [t])[i]? = some u := fun i u h => by
    rw [List.getElem?_append_left (List.getElem?_eq_some_iff.1 h).1]; exact h
  have hget : ∀ (i : Nat) (u : Tr), (β ++ [t])[i]? = some u → β[i]? = some u ∨ (i = β.length ∧ u = t) := fun i u h => by
    by_cases hi : i < β.length
    · rw [List.getElem?_append_left hi] at h; exact .inl h
    · have hlt := (List.getElem?_eq_some_iff.1 h).1
      simp at hlt
      have : i = β.length := by omega
      subst this
      simp at h
      exact .inr ⟨rfl, h.symm⟩
  obtain ⟨e1, e2⟩ := hs.eq
  refine ⟨{ ext := r.ext.trans he, defers := r.defers, tsz := r.tsz, tmps := fun n U h => (r.tmps n U h).conv he.size hX (fun _ _ _ hc => he.cell hc) hβ, blen := by rw [e1]; simp [r.blen], new := ?_, dist := ?_, objs := ?_ }, by rw [e2, ← r.blen]; simp⟩
  · intro i u b hi hub
    rcases hget i u hi with h | ⟨_, rfl⟩
    · have := r.new i u b h hub; exact ⟨this.1, Nat.lt_of_lt_of_le this.2 he.size⟩
    · have := hb b hub; exact ⟨Nat.le_trans r.ext.size this.1, this.2⟩
  · intro i j u v b hij hi hj hub hvb
    rcases hget i u hi with h | ⟨h1, rfl⟩ <;> rcases hget j v hj with k | ⟨k1, rfl⟩
    · exact r.dist i j u v b hij h k hub hvb
    · have := (r.new i u b h hub).2; have := (hb b hvb).1; omega
    · have := (r.new j v b k hvb).2; have := (hb b hub).1; omega
    · omega
  · intro i u o hi ho
    simp only [e1] at ho
    rcases hget i u hi with h | ⟨h1, rfl⟩
    · have hil : i < s.o.length := by rw [← r.blen]; exact (List.getElem?_eq_some_iff.1 h).1
      rw [List.getElem?_append_left hil] at ho
      exact (r.objs i u o h ho).conv he.size hX (fun _ _ _ hc => he.cell hc) hβ (fun b hb' => he.block b (r.new i u b h hb').2)
    · have hol : s.o.length = β.length := r.blen.symm
      rw [h1, ← hol] at ho
      simp at ho
      rw [← ho]
      exact hok

/-- The zero value's cells, read. -/
def zV : Value → Option V
  | .int k n => if k.min ≤ n && n ≤ k.max then some (.int k n) else none
  | .bool b => some (.bool b)
  | .string s => if s.size ≤ 1000 then some (.str s) else none
  | .slice none 0 0 => some .nil
  | _ => none
def zVs : List Value → Option (List V)
  | [] => some []
  | v :: vs => match zV v, zVs vs with | some c, some cs => some (c :: cs) | _, _ => none
def zerosOf (P : Program) (t : TypeId) : Option (List V) := match P.info? t with | some i => (match i.zero with | some z => zVs z.cells.toList | none => none) | none => none
theorem zV_rd {w : World} {X : Nat → Prop} {β : List Tr} {v : Value} {c : V} (h : zV v = some c) : Rd w X β v c ∧ c.one = true := by
  cases v <;> simp [zV] at h
  case int k n => obtain ⟨h1, h2⟩ := h; subst h2; exact ⟨.int h1.1 h1.2, rfl⟩
  case bool b => subst h; exact ⟨.bool, rfl⟩
  case string s => obtain ⟨h1, h2⟩ := h; subst h2; exact ⟨.str (by unfold maxLen; omega), rfl⟩
  case slice A n c => cases A <;> cases n <;> cases c <;> simp at h; subst h; exact ⟨.nil, rfl⟩
theorem zVs_rd {w : World} {X : Nat → Prop} {β : List Tr} : ∀ {vs : List Value} {cs : List V}, zVs vs = some cs → vs.length = cs.length ∧ ∀ (i : Nat) (v : Value) (c : V), vs[i]? = some v → cs[i]? = some c → Rd w X β v c ∧ c.one = true
  | [], cs, h => by simp [zVs] at h; subst h; simp
  | v :: vs, cs, h => by
    simp only [zVs] at h
    cases h1 : zV v with
    | none => simp [h1] at h
    | some c =>
      cases h2 : zVs vs with
      | none => simp [h1, h2] at h
      | some ds =>
        simp [h1, h2] at h
        subst h
        have ih := zVs_rd (w := w) (X := X) (β := β) h2
        refine ⟨by simp [ih.1], fun i v' c' h5 h6 => ?_⟩
        cases i with
        | zero => simp at h5 h6; subst h5; subst h6; exact zV_rd h1
        | succ i => exact ih.2 i v' c' (by simpa using h5) (by simpa using h6)
theorem zerosOf_spec {t : Nat} {cs : List V} (h : zerosOf P t = some cs) : ∃ i z, P.info? t = some i ∧ i.zero = some z ∧ zVs z.cells.toList = some cs := by
  unfold zerosOf at h
  cases hi : P.info? t with
  | none => simp [hi] at h
  | some i =>
    cases hz : i.zero with
    | none => simp [hi, hz] at h
    | some z => exact ⟨i, z, rfl, hz, by simpa [hi, hz] using h⟩

theorem al {T d n : Nat} {cs : List V} {t' : List V} {o' : List Ob} (hz : zerosOf P T = some cs) (hn : Sn s.o (.box T cs) n o') (hu : Upd s.t d (.box n 0) t') : SOp E s (.alloc T) (some d) ⟨t', o'⟩ true := fun β a w r o ho hd => by
  obtain ⟨i, z, hi, hz, hzs⟩ := zerosOf_spec hz
  have he : Ext w (w.alloc (.cells z.cells T)) := Ext.alloc _ _
  obtain ⟨r1, r2⟩ := r.new_ob (t := ⟨some w.heap.size, 0, 0⟩) hn he (fun b hb => by injection hb with hb; subst hb; simp) (by
    refine ⟨w.heap.size, z.cells.toList, rfl, by simpa using heap_alloc_new w _, (zVs_rd (w := w) (X := E.X β) (β := β) hzs).1, fun i v c h5 h6 => (zVs_rd hzs).2 i v c h5 h6 |>.1⟩)
  refine ⟨.pointer (some ⟨w.heap.size, 0, none⟩), _, _, .inl ?_, r1.put (.box r2 rfl) hu, fun _ => he⟩
  simp [execOp, ho, Instr.alloc, zeroValue, typeInfo, hi, hz, newVar, newRow]

/-- A list put over a part of a list. -/
inductive Sp : List V → Nat → List V → List V → Prop
  | n {l : List V} : Sp l 0 [] l
  | z {x y : V} {l vs l' : List V} (h : Sp l 0 vs l') : Sp (x :: l) 0 (y :: vs) (y :: l')
  | s {x : V} {l vs l' : List V} {n : Nat} (h : Sp l n vs l') : Sp (x :: l) (n + 1) vs (x :: l')
theorem Sp.spec {l vs l' : List V} {n : Nat} (h : Sp l n vs l') : n + vs.length ≤ l.length ∧ l'.length = l.length ∧ ∀ (j : Nat), l'[j]? = if n ≤ j ∧ j < n + vs.length then vs[j - n]? else l[j]? := by
  induction h with
  | n => simp
  | @z x y l vs l' _ ih =>
    refine ⟨by simp at ih ⊢; omega, by simp [ih.2.1], fun j => ?_⟩
    cases j with
    | zero => simp
    | succ j => simp [ih.2.2 j]
  | @s x l vs l' n _ ih =>
    refine ⟨by simp; omega, by simp [ih.2.1], fun j => ?_⟩
    cases j with
    | zero => simp
    | succ j =>
      simp only [List.getElem?_cons_succ, ih.2.2 j, Nat.add_le_add_iff_right, Nat.add_sub_add_right]
      congr 1
      rw [eq_iff_iff]
      omega

theorem setRow_facts (w : World) (b : Nat) (cs : Array Value) : (w.setRow b cs).heap.size = w.heap.size ∧ (w.setRow b cs).os = w.os ∧ (w.setRow b cs).tape = w.tape ∧ (w.setRow b cs).output = w.output ∧ ∀ k, k ≠ b → (w.setRow b cs).heap[k]? = w.heap[k]? := by
  refine ⟨size_setRow _ _ _, rfl, rfl, rfl, fun k hk => ?_⟩
  simp only [World.setRow, Array.getElem?_modify]
  rw [if_neg (Ne.symm hk)]

theorem store_run {w : World} {T t b off : Nat} {vs cur : List Value} {v : Value} (hv : v.cells = vs.toArray) (hsz : (sizeOf t).run P w = .ok vs.length w) (hg : w.heap[b]? = some (.cells cur.toArray T (0, 0))) (hl : off + vs.length ≤ cur.length)
    (h1 : ∀ v ∈ vs, v.oneCell' = true) : (storeVar t ⟨b, off, none⟩ v).run P w = .ok () (w.setRow b (cur.take off ++ vs ++ cur.drop (off + vs.length)).toArray) := by
  have := run_storeCells_at P b off T vs 0 cur.toArray w hg (by simpa using hl) h1
  simp only [Nat.add_zero] at this
  simp [storeVar, hsz, hv, this]

theorem splice_get {α : Type} (cur vs : List α) (off j : Nat) (hl : off + vs.length ≤ cur.length) : (cur.take off ++ vs ++ cur.drop (off + vs.length))[j]? = if off ≤ j ∧ j < off + vs.length then vs[j - off]? else cur[j]? := by
  by_cases h1 : j < off
  · rw [List.append_assoc, List.getElem?_append_left (by rw [List.length_take]; omega), List.getElem?_take, if_pos h1, if_neg (by omega)]
  · rw [List.append_assoc, List.getElem?_append_right (by rw [List.length_take]; omega), List.length_take, show min off cur.length = off by omega]
    by_cases h2 : j < off + vs.length
    · rw [List.getElem?_append_left (by omega), if_pos ⟨by omega, h2⟩]
    · rw [List.getElem?_append_right (by omega), List.getElem?_drop, if_neg (by omega)]
      congr 1
      omega

end
end Go.VK
