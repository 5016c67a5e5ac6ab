/-
  THE VALUE KIT, seventh part: literals, make, append, stores into the walk's own slices; calls that are handed such slices. Theorems over any program; the conditions stand in each.
-/
import Derived.Test.YtiojlennpdmapaaGreatVKf
import Derived.Laws.BytesString
set_option linter.unusedVariables false
namespace Go.VK
open Go.RowKit
variable {P : Program} {g : GI} {E : Env P g} {s : S}

/-! ### Slice literals -/
theorem fold_get (off : Nat) : ∀ (l : List Value) (j0 : Nat) (cs : Array Value), off + j0 + l.length ≤ cs.size →
    ((l.zipIdx j0).foldl (fun cs (c, j) => cs.setIfInBounds (off + j) c) cs).size = cs.size ∧
    ∀ m, ((l.zipIdx j0).foldl (fun cs (c, j) => cs.setIfInBounds (off + j) c) cs)[m]? = if off + j0 ≤ m ∧ m < off + j0 + l.length then l[m - (off + j0)]? else cs[m]?
  | [], j0, cs, _ => by simp; intro m; intro h1 h2; omega
  | v :: l, j0, cs, h => by
    simp only [List.length_cons] at h
    have ih := fold_get off l (j0 + 1) (cs.setIfInBounds (off + j0) v) (by simp; omega)
    simp only [List.zipIdx_cons, List.foldl_cons]
    refine ⟨by rw [ih.1]; simp, fun m => ?_⟩
    rw [ih.2 m]
    by_cases h1 : off + j0 = m
    · subst h1
      rw [if_neg (by omega), if_pos (by simp)]
      simp [Array.getElem?_setIfInBounds]; omega
    · rw [Array.getElem?_setIfInBounds_ne h1]
      by_cases h2 : off + j0 ≤ m ∧ m < off + j0 + (l.length + 1)
      · rw [if_pos (by omega), if_pos (by simpa using h2), show m - (off + j0) = (m - (off + (j0 + 1))) + 1 by omega, List.getElem?_cons_succ]
      · rw [if_neg (by omega), if_neg (by simpa using h2)]

theorem fill_spec (k : Nat) : ∀ (vs : List Value) (i : Nat) (cs : Array Value), (∀ v ∈ vs, v.cells.size = k) → (i + vs.length) * k ≤ cs.size →
    ∃ res, Instr.fill (fun i => some (i * k, k)) cs (vs.zipIdx i |>.map fun (v, j) => (j, v)) = some res ∧ res.size = cs.size ∧ (∀ m, m < i * k → res[m]? = cs[m]?) ∧
      ∀ (a j : Nat) (v : Value), vs[a]? = some v → j < k → res[(i + a) * k + j]? = v.cells[j]?
  | [], i, cs, _, _ => ⟨cs, rfl, rfl, fun _ _ => rfl, by simp⟩
  | v :: vs, i, cs, h, hl => by
    have hv := h v (by simp)
    simp only [List.length_cons] at hl
    have h1 : i * k + k ≤ cs.size := by
      have : (i + 1) * k ≤ (i + (vs.length + 1)) * k := Nat.mul_le_mul_right _ (by omega)
      rw [Nat.add_mul] at this; omega
    have hf := fold_get (i * k) v.cells.toList 0 cs (by simpa [hv] using h1)
    obtain ⟨res, r1, r2, r3, r4⟩ := fill_spec k vs (i + 1) (((v.cells.toList.zipIdx 0).foldl (fun cs (c, j) => cs.setIfInBounds (i * k + j) c) cs)) (fun v hv => h v (by simp [hv]))
      (by rw [hf.1]; rwa [show i + 1 + vs.length = i + (vs.length + 1) by omega])
    refine ⟨res, ?_, by rw [r2, hf.1], fun m hm => ?_, fun a j v' ha hj => ?_⟩
    · simp only [List.zipIdx_cons, List.map_cons, Instr.fill, hv]
      rw [if_neg (by simp; omega)]
      rw [← Array.foldl_toList, Array.toList_zipIdx]
      exact r1
    · rw [r3 m (by rw [Nat.add_mul]; omega), hf.2 m, if_neg (by omega)]
    · cases a with
      | zero =>
        simp at ha; subst ha
        simp only [Nat.add_zero]
        rw [r3 _ (by rw [Nat.add_mul]; omega), hf.2, if_pos (by simp [hv]; omega)]
        simp
      | succ a =>
        have := r4 a j v' (by simpa using ha) hj
        rwa [show i + 1 + a = i + (a + 1) by omega] at this

/-- The cells of a part. -/
def V.parts : V → List V
  | .agg cs => cs
  | U => [U]
inductive BL (E : Env P g) (s : S) (k : Nat) : Nat → List (Nat × Operand) → List (List V) → Prop
  | n {i : Nat} : BL E s k i [] []
  | c {i : Nat} {x : Operand} {U : V} {xs : List (Nat × Operand)} {es : List (List V)} (h : Ev E s x U) (hk : U.parts.length = k) (h1 : allOne U.parts = true) (hp : U.plain = true) (hr : BL E s k (i + 1) xs es) : BL E s k i ((i, x) :: xs) (U.parts :: es)

theorem parts_rd {w : World} {X : Nat → Prop} {β : List Tr} {v : Value} {U : V} (h : Rd w X β v U) (h1 : allOne U.parts = true) (hp : U.plain = true) : v.cells.size = U.parts.length ∧ ∀ (j : Nat) (u : Value) (c : V), v.cells[j]? = some u → U.parts[j]? = some c → Rd w X [] u c ∧ u.oneCell' = true := by
  by_cases hA : ∃ cs, U = .agg cs
  · obtain ⟨cs, rfl⟩ := hA
    obtain ⟨vs, rfl, k2, k3⟩ := h.agg_inv
    exact ⟨k2, fun j u c h5 h6 => ⟨(k3 j u c h5 h6).unmark (V.allPlain_get (cs := cs) (by simpa [V.plain] using hp) j c h6), (k3 j u c h5 h6).one (allOne_get h1 j c h6)⟩⟩
  · have hU : U.parts = [U] := by cases U <;> first | rfl | exact absurd ⟨_, rfl⟩ hA
    rw [hU] at h1 ⊢
    have ho : U.one = true := by simpa [allOne] using h1
    rw [one_cells (h.one ho)]
    refine ⟨rfl, fun j u c h5 h6 => ?_⟩
    cases j with
    | zero => simp at h5 h6; subst h5; subst h6; exact ⟨h.unmark hp, h.one ho⟩
    | succ j => simp at h5

theorem BL.spec {k i : Nat} {xs : List (Nat × Operand)} {es : List (List V)} (h : BL E s k i xs es) {β : List Tr} {a : Act} {w : World} (r : RelB E s β a w) :
    ∃ vs : List Value, (xs.map fun (i, x) => (i, a.eval x)) = (vs.zipIdx i |>.map fun (v, j) => (j, v)) ∧ vs.length = es.length ∧ (∀ v ∈ vs, v.cells.size = k) ∧ (∀ e ∈ es, e.length = k) ∧
      ∀ (a j : Nat) (v : Value) (e : List V), vs[a]? = some v → es[a]? = some e → ∀ (u : Value) (c : V), v.cells[j]? = some u → e[j]? = some c → Rd w (E.X β) [] u c ∧ u.oneCell' = true := by
  induction h with
  | n => exact ⟨[], rfl, rfl, by simp, by simp, by simp⟩
  | @c i x U xs es h hk h1 hp hr ih =>
    obtain ⟨vs, e1, e2, e3, e4, e5⟩ := ih
    have hpr := parts_rd (h β a w r) h1 hp
    refine ⟨a.eval x :: vs, by simp [List.zipIdx_cons, e1], by simp [e2], fun v hv => ?_, fun e he => ?_, fun b j v e hb he u c => ?_⟩
    · rcases List.mem_cons.1 hv with rfl | hv
      · rw [hpr.1, hk]
      · exact e3 v hv
    · rcases List.mem_cons.1 he with rfl | he
      · exact hk
      · exact e4 e he
    · cases b with
      | zero => simp at hb he; subst hb; subst he; exact hpr.2 j u c
      | succ b => exact e5 b j v e (by simpa using hb) (by simpa using he) u c

theorem build_run {t e k bts n : Nat} {xs : List (Nat × Operand)} {es : List (List V)} (ht : slB P t e k bts = true) (hn : es.length = n) (h24 : decide (n * k ≤ 16777216) = true) (hb : BL E s k 0 xs es) {β : List Tr} {a : Act} {w : World} (r : RelB E s β a w) {o : Oper} (ho : o.op = .buildSlice t n xs.toArray) :
    ∃ cells : Array Value, (execOp a.eval o).run P w = .ok (.value (.slice (some ⟨w.heap.size, 0, none⟩) n n)) (w.alloc (.cells cells e)) ∧ cells.size = n * k ∧ (∀ e ∈ es, e.length = k) ∧
      ∀ (i j : Nat) (e : List V) (d : V), es[i]? = some e → e[j]? = some d → ∃ v, cells[i * k + j]? = some v ∧ v.oneCell' = true ∧ Rd w (E.X β) [] v d := by
  obtain ⟨hu, i, z, hi, hz, hik, hib, hzk, hk0⟩ := slB_spec ht
  obtain ⟨vs, e1, e2, e3, e4, e5⟩ := hb.spec r
  have hz0 : ∃ zc : Array Value, (if n * k = 0 then (pure #[] : Sem (Array Value)) else do pure (← zeroValue e).cells).run P w = .ok zc w := by
    by_cases h : n * k = 0
    · exact ⟨#[], by simp [h]⟩
    · exact ⟨z.cells, by simp [h, zeroValue, typeInfo, hi, hz]⟩
  obtain ⟨zc, hzc⟩ := hz0
  obtain ⟨res, r1, r2, r3, r4⟩ := fill_spec k vs 0 ((Array.range (n * k)).map (zc[· % zc.size]!)) e3 (by simp [e2, hn])
  have h24' := of_decide_eq_true h24
  refine ⟨res, ?_, by rw [r2]; simp, e4, fun i j e d h1 h2 => ?_⟩
  · have hp : ((xs.toArray.map fun (i, x) => (i, a.eval x)) : Array (Nat × Value)).toList = ((vs.zipIdx 0).map fun (v, j) => (j, v)) := by
      rw [← e1]; simp
    simp only [execOp, ho, Instr.buildSlice, Sem.run_bind, run_underlying hu, Result.andThen_ok]
    have hs : (sizeOf e).run P w = .ok k w := by simp [sizeOf, typeInfo, hi, hik]
    simp only [hs, Result.andThen_ok]
    rw [if_neg (by omega)]
    by_cases h : n * k = 0
    · have hzc' : zc = #[] := by simp [h] at hzc; exact hzc
      subst hzc'
      simp only [h, if_true, Sem.run_bind, Sem.run_pure, Result.andThen_ok] 
      rw [h] at r1
      simp only [hp, r1, newRow, Sem.run_bind, run_newObj, Sem.run_pure, Result.andThen_ok]
      rfl
    · simp only [h, if_false, Sem.run_bind, Sem.run_pure] at hzc ⊢
      have hzc' : ((zeroValue e).run P w).andThen (fun a w' => Result.ok a.cells w') = .ok zc w := hzc
      have hz2 : (zeroValue e).run P w = .ok z w := by simp [zeroValue, typeInfo, hi, hz]
      rw [hz2] at hzc'
      simp only [Result.andThen_ok, Result.ok.injEq, and_true] at hzc'
      simp only [hz2, Result.andThen_ok, hzc', hp, r1, newRow, Sem.run_bind, run_newObj, Sem.run_pure]
      rfl
  · have hlt : i < vs.length := by rw [e2]; exact (List.getElem?_eq_some_iff.1 h1).1
    have hv : vs[i]? = some vs[i] := List.getElem?_eq_getElem hlt
    have hjk : j < k := by rw [← e4 e (List.mem_of_getElem? h1)]; exact (List.getElem?_eq_some_iff.1 h2).1
    have hc := e3 vs[i] (List.mem_of_getElem? hv)
    have hcell : (vs[i]).cells[j]? = some ((vs[i]).cells[j]'(by rw [hc]; exact hjk)) := Array.getElem?_eq_getElem _
    obtain ⟨k1, k2⟩ := e5 i j vs[i] e hv h1 _ d hcell h2
    refine ⟨_, ?_, k2, k1⟩
    have := r4 i j vs[i] hv hjk
    rw [Nat.zero_add] at this
    rw [this, hcell]

/-- A slice literal that is not written from here on. -/
theorem bs {t e k bts n d : Nat} {xs : List (Nat × Operand)} {es : List (List V)} {t' : List V} (ht : slB P t e k bts = true) (hn : es.length = n) (h24 : decide (n * k ≤ 16777216) = true) (hb : BL E s k 0 xs es) (hu : Upd s.t d (.slice k es) t') :
    SOp E s (.buildSlice t n xs.toArray) (some d) ⟨t', s.o⟩ true := fun β a w r o ho hd => by
  obtain ⟨cells, h1, h2, h3, h4⟩ := build_run ht hn h24 hb r ho
  have he : Ext w (w.alloc (.cells cells e)) := Ext.alloc _ _
  have h24' := of_decide_eq_true h24
  have hk0 := (slB_spec ht).2
  refine ⟨_, _, β, .inl h1, (r.extend he).put ?_ hu, fun _ => he⟩
  have hnm : n ≤ maxLen := by
    obtain ⟨_, _, _, _, _, _, _, hk0⟩ := hk0
    have : n * 1 ≤ n * k := Nat.mul_le_mul_left _ hk0
    unfold maxLen; omega
  cases es with
  | nil => simp at hn; subst hn; exact .slice0 (by unfold maxLen; omega)
  | cons e0 es' =>
    refine .slice (val := fun i j => cells.getD (i * k + j) undef) hn.symm (by simp) (Nat.le_refl _) hnm (fun hx => by have := X_lt r _ hx; simp at this) (by simp) h3 (fun i j e d k1 k2 => ?_) (fun i j e d k1 k2 => ?_)
    · obtain ⟨v, k3, _, _⟩ := h4 i j e d k1 k2
      rw [add_flat, Nat.zero_add, World.cell?_alloc_new, k3]
      simp [Array.getD_eq_getD_getElem?, k3]
    · obtain ⟨v, k3, _, k5⟩ := h4 i j e d k1 k2
      simp only [Array.getD_eq_getD_getElem?, k3, Option.getD_some]
      exact k5.ext he

/-! ### make -/
/-! ### The walk's own slice, place by place -/
/-! ### append -/
/-- What is appended: its cells. -/
theorem src_cells {w : World} {X : Nat → Prop} {β : List Tr} {v : Value} {k : Nat} {news : List (List V)} (h : Rd w X β v (.slice k news)) (hone : ∀ e ∈ news, allOne e = true) :
    ∃ (A : Option Addr) (c : Nat) (xs : List Value), v = .slice A news.length c ∧ xs.length = news.length * k ∧ (news = [] ∨ ∃ a, A = some a ∧ ∀ j u, xs[j]? = some u → w.cell? (a.add j) = some u) ∧ (∀ u ∈ xs, u.oneCell' = true) ∧ (∀ e ∈ news, e.length = k) ∧
      ∀ (i j : Nat) (e : List V) (d : V), news[i]? = some e → e[j]? = some d → ∃ u, xs[i * k + j]? = some u ∧ Rd w X [] u d := by
  cases h with
  | slice0 => exact ⟨_, _, [], rfl, by simp, .inl rfl, by simp, by simp, by simp⟩
  | @slice _ a n c _ _ val hn hpos hc hm hX hb hk hcell hrd =>
    subst hn
    have key : ∀ q, q < news.length * k → ∃ (e : List V) (d : V), news[q / k]? = some e ∧ e[q % k]? = some d ∧ q / k * k + q % k = q := fun q hq => by
      have hk0 : 0 < k := by
        rcases Nat.eq_zero_or_pos k with h | h
        · subst h; simp at hq
        · exact h
      have h1 : q / k < news.length := Nat.div_lt_of_lt_mul (by rwa [Nat.mul_comm])
      have h2 : q % k < (news[q / k]).length := by rw [hk _ (List.getElem_mem h1)]; exact Nat.mod_lt _ hk0
      exact ⟨_, _, List.getElem?_eq_getElem h1, List.getElem?_eq_getElem h2, by rw [Nat.mul_comm]; exact Nat.div_add_mod q k⟩
    refine ⟨some a, c, (List.range (news.length * k)).map (fun q => val (q / k) (q % k)), rfl, by simp, .inr ⟨a, rfl, fun q u hu => ?_⟩, fun u hu => ?_, hk, fun i j e d h1 h2 => ?_⟩
    · have hq : q < news.length * k := by have := (List.getElem?_eq_some_iff.1 hu).1; simpa using this
      obtain ⟨e, d, k1, k2, k3⟩ := key q hq
      have := hcell _ _ e d k1 k2
      rw [k3] at this
      simp [List.getElem?_map, List.getElem?_range hq] at hu
      rw [this, hu]
    · obtain ⟨q, hq⟩ := List.mem_iff_getElem?.1 hu
      have hql : q < news.length * k := by have := (List.getElem?_eq_some_iff.1 hq).1; simpa using this
      obtain ⟨e, d, k1, k2, k3⟩ := key q hql
      simp [List.getElem?_map, List.getElem?_range hql] at hq
      rw [← hq]
      exact (hrd _ _ e d k1 k2).one (allOne_get (hone e (List.mem_of_getElem? k1)) _ d k2)
    · have hj : j < k := by rw [← hk e (List.mem_of_getElem? h1)]; exact (List.getElem?_eq_some_iff.1 h2).1
      have hi : i < news.length := (List.getElem?_eq_some_iff.1 h1).1
      have hq : i * k + j < news.length * k := by
        have : (i + 1) * k ≤ news.length * k := Nat.mul_le_mul_right _ hi
        rw [Nat.add_mul] at this; omega
      refine ⟨val i j, ?_, hrd i j e d h1 h2⟩
      have hk0 : 0 < k := by omega
      rw [List.getElem?_map, List.getElem?_range hq, Option.map_some]
      rw [show (i * k + j) / k = i by rw [Nat.mul_comm, Nat.mul_add_div hk0, Nat.div_eq_of_lt hj, Nat.add_zero], show (i * k + j) % k = j by rw [Nat.mul_comm, Nat.mul_add_mod, Nat.mod_eq_of_lt hj]]

theorem append_run {w : World} {t ty e k bts : Nat} (ht : slB P t e k bts = true) {v : Value} {n : Nat} {xs : List Value} (hown : w.ownsRow 0 e k v n xs) {A : Option Addr} {m c : Nat} {news : List Value} (hl : news.length = m * k)
    (hsrc : m = 0 ∨ ∃ a, A = some a ∧ ∀ j u, news[j]? = some u → w.cell? (a.add j) = some u) (h1 : ∀ u ∈ news, u.oneCell' = true) (hm : n + m ≤ maxLen) (hb : (n + m) * bts ≤ 140737488355328) :
    ∃ v' w', (Builtin.append_ #[t, t] ty #[v, .slice A m c]).run P w = .ok v' w' ∧ w'.ownsRow 0 e k v' (n + m) (xs ++ news) ∧ w.grownBy w' v.ownBlock ∧ (v'.ownBlock = v.ownBlock ∨ v'.ownBlock = some w.heap.size) := by
  obtain ⟨hu, i, z, hi, hz, hik, hib, hzk, hk0⟩ := slB_spec ht
  cases A with
  | some a =>
    have hc : ∀ j u, news[j]? = some u → w.cell? (a.add j) = some u := by
      rcases hsrc with h0 | ⟨a', h2, h3⟩
      · subst h0
        have : news = [] := List.eq_nil_of_length_eq_zero (by simpa using hl)
        subst this; simp
      · injection h2 with h2; subst h2; exact h3
    obtain ⟨v', w', h2, h3, h4, _, h6⟩ := run_append_own_at (P := P) w 0 t ty e i z k bts hu hi hz hik hib hzk hk0 v n xs hown a m c news hl hc h1 hm hb (Nat.zero_le _)
    exact ⟨v', w', h2, h3, h4, h6⟩
  | none =>
    have h0 : m = 0 := by
      rcases hsrc with h0 | ⟨a', h2, _⟩
      · exact h0
      · cases h2
    subst h0
    have hn : news = [] := List.eq_nil_of_length_eq_zero (by simpa using hl)
    subst hn
    refine ⟨v, w, ?_, by simpa using hown, ⟨rfl, rfl, rfl, Nat.le_refl _, fun _ _ _ => rfl⟩, .inl rfl⟩
    rcases hown.2 with ⟨rfl, rfl⟩ | ⟨gg, cap, cur, rfl, _, _, hnc, _⟩
    · simp [Builtin.append_, run_underlying hu, sizeOf, typeInfo, hi, Builtin.lenOf, Builtin.firstCells]
    · simp [Builtin.append_, run_underlying hu, sizeOf, typeInfo, hi, Builtin.lenOf, Builtin.firstCells, hnc, storeCells]

/-- The nil slice becomes a row of the walk's own. -/
theorem no {ops : Array Oper} {l : List Oper} {F : S → Prop} {n T k m : Nat} {t' : List V} {o' : List Ob} (hk : decide (0 < k) = true) (hv : At s.t n .nil) (hs : Sn s.o (.row T k []) m o') (hu : Upd s.t n (.own m) t') (h : RF E ops l F ⟨t', o'⟩) : RF E ops l F s := fun Q hQ a w ⟨β, r⟩ => by
  have h0 := (r.tmps n _ hv.get).nil_inv
  obtain ⟨r1, r2⟩ := r.new_ob (t := ⟨none, 0, 0⟩) hs (Ext.refl w) (fun b hb => by cases hb) ⟨of_decide_eq_true hk, by simp, [], World.ownsRow_nil w 0 T k, by simp⟩
  have hn : n < a.tmps.size := by rw [r.tsz]; exact (List.getElem?_eq_some_iff.1 hv.get).1
  have hp := r1.put (v := a.tmps.getD n undef) (by rw [h0]; exact .own (t := ⟨none, 0, 0⟩) r2) hu
  have ha : a.put (some n) (a.tmps.getD n undef) = a := by
    unfold Act.put
    simp only
    congr 1
    rw [Array.getD_eq_getD_getElem?, Array.getElem?_eq_getElem hn]
    apply Array.ext'
    rw [Array.toList_setIfInBounds, ← Array.getElem_toList hn, Option.getD_some, List.set_getElem_self]
  rw [ha] at hp
  exact h Q hQ a w ⟨_, hp⟩

/-! ### Calls that are handed the walk's own slices, and hand back none -/
mutual
def V.flat : V → Bool
  | .int .. | .bool _ | .str _ => true
  | .tup cs => flats cs
  | .agg cs => flats cs
  | _ => false
def flats : List V → Bool
  | [] => true
  | c :: cs => V.flat c && flats cs
end
theorem flats_get {cs : List V} (h : flats cs = true) : ∀ (j : Nat) (c : V), cs[j]? = some c → V.flat c = true := by
  induction cs with
  | nil => intro j c hc; simp at hc
  | cons x xs ih =>
    simp only [flats, Bool.and_eq_true] at h
    intro j c hc
    cases j with
    | zero => simp at hc; rw [← hc]; exact h.1
    | succ j => exact ih h.2 j c (by simpa using hc)
theorem Rd.flat {w w' : World} {X X' : Nat → Prop} {β : List Tr} {v : Value} {U : V} (h : Rd w X β v U) : U.flat = true → ∀ {β' : List Tr}, Rd w' X' β' v U := by
  induction h with
  | int h1 h2 => exact fun _ _ => .int h1 h2
  | bool => exact fun _ _ => .bool
  | str h => exact fun _ _ => .str h
  | agg hl _ ih => exact fun hp β' => .agg hl (fun i v c h1 h2 => ih i v c h1 h2 (flats_get (by simpa [V.flat] using hp) i c h2))
  | tup hl _ ih => exact fun hp β' => .tup hl (fun i v c h1 h2 => ih i v c h1 h2 (flats_get (by simpa [V.flat] using hp) i c h2))
  | _ => intro hp; simp [V.flat] at hp

inductive EvM (E : Env P g) (s : S) : List Operand → List V → Prop
  | n : EvM E s [] []
  | c {x : Operand} {U U' : V} {xs : List Operand} {Us : List V} (h : Ev E s x U) (hp : Cv s U U') (hr : EvM E s xs Us) : EvM E s (x :: xs) (U' :: Us)
theorem EvM.rd {xs : List Operand} {Us : List V} (h : EvM E s xs Us) {β : List Tr} {a : Act} {w : World} (r : RelB E s β a w) : RdL w E.X0 (xs.map a.eval) Us := by
  induction h with
  | n => exact ⟨rfl, by simp⟩
  | @c x U U' xs Us h hp hr ih =>
    refine ⟨by simp [ih.1], fun i v W h1 h2 => ?_⟩
    cases i with
    | zero => simp at h1 h2; subst h1; subst h2; exact hp.rd r (h β a w r)
    | succ i => exact ih.2 i v W (by simpa using h1) (by simpa using h2)
/-! ### Small facts for the walks -/
/-! ### Bytes as a string -/
theorem b2s {x : Operand} {t e u : Nat} {ns : List Int} (ht : P.underlying t = some (.slice e)) (he : P.underlying e = some (.int .u8)) (hu : P.underlying u = some .string) (hl : ns.length ≤ maxLen)
    (hx : Ev E s x (.slice 1 (ns.map fun n => [V.int .u8 n]))) : MOp E s (.convert t u x) (.str (ns.foldl (fun r n => r.push (UInt8.ofNat n.toNat)) ByteArray.empty)) := fun β a w r o ho => by
  have h0 := hx β a w r
  have hsz : ∀ (ns : List Int) (s : ByteArray), (ns.foldl (fun r n => r.push (UInt8.ofNat n.toNat)) s).size = s.size + ns.length := by
    intro ns
    induction ns with
    | nil => simp
    | cons n ns ih => intro s; simp only [List.foldl_cons, ih, ByteArray.size_push, List.length_cons]; omega
  refine ⟨_, fun w' hw => ?_, .str (by rw [hsz]; simpa using hl)⟩
  cases hv : a.eval x with
  | slice A n c =>
    rw [hv] at h0
    cases ns with
    | nil =>
      have : n = 0 := by
        obtain ⟨A', c', h1, _, _⟩ := h0.slice_len
        simp at h1; exact h1.2.1
      subst this
      cases A with
      | none => simp [execOp, ho, hv, run_convert_bytes_string w' t u e _ _ _ ht he hu, Conv.bytesToString]
      | some ad =>
        have := run_bytesToString (P := P) w' ad 0 c [] (by simp [loadCells, loadCellsFrom])
        simp only [List.foldl_nil] at this
        simp [execOp, ho, hv, run_convert_bytes_string w' t u e _ _ _ ht he hu, this]
    | cons n0 ns' =>
      generalize hns : n0 :: ns' = ns at *
      generalize hes : (ns.map fun n => [V.int .u8 n]) = es at h0
      cases h0 with
      | slice0 => subst hns; simp at hes
      | @slice _ ad _ _ _ _ val hn hpos hc hm hX hb hk hcell hrd =>
        subst hes
        have hcells : (loadCells ad n).run P w' = .ok (ns.map (Value.int .u8)).toArray w' := by
          have hlen : (ns.map (Value.int .u8)).length = n := by rw [hn]; simp
          rw [← hlen]
          refine run_loadCells_list w' ad _ (fun j v hj => ?_)
          have hjl : j < ns.length := by have := (List.getElem?_eq_some_iff.1 hj).1; simpa using this
          have h1 : (ns.map fun n => [V.int .u8 n])[j]? = some [V.int .u8 ns[j]] := by simp [List.getElem?_map, List.getElem?_eq_getElem hjl]
          have h2 := hcell j 0 _ _ h1 rfl
          have h3 := (hrd j 0 _ _ h1 rfl).int_inv.1
          rw [Nat.mul_one, Nat.add_zero] at h2
          rw [hw.cell h2, h3]
          simp [List.getElem?_map, List.getElem?_eq_getElem hjl] at hj
          rw [hj]
        have := run_bytesToString (P := P) w' ad n c ns hcells
        simp [execOp, ho, hv, run_convert_bytes_string w' t u e _ _ _ ht he hu, this]
  | _ => rw [hv] at h0; cases ns <;> cases h0
end Go.VK
