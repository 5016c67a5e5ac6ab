/-
  THE VALUE KIT, seventh part: literals, make, append, stores into the walk's own slices; calls that are handed such slices. Theorems over any program; the conditions stand in each.
-/
import Derived.Test.YtancgejlilbjnaaGreatDoorVKf
import Derived.Laws.BytesString
set_option linter.unusedVariables false
namespace Go.VK
open Go.RowKit
variable {P : Program} {g : GI} {E : Env P g} {s : S}

/-! ### Slice literals -/
theorem fold_get (off : Nat) : ∀ (l : List Value) (j0 : Nat) (cs : Array Value), off + j0 + l.length ≤ cs.size →
    ((l.zipIdx j0).foldl (fun cs (c, j) => cs.setIfInBounds (off + j) c) cs).size = cs.size ∧
    ∀ m, ((l.zipIdx j0).foldl (fun cs (c, j) => cs.setIfInBounds (off + j) c) cs)[m]? = if off + j0 ≤ m ∧ m < off + j0 + l.length then l[m - (off + j0)]? else cs[m]?
  | [], j0, cs, _ => by simp; intro m; intro h1 h2; omega
  | v :: l, j0, cs, h => by
    simp only [List.length_cons] at h
    have ih := fold_get off l (j0 + 1) (cs.setIfInBounds (off + j0) v) (by simp; omega)
    simp only [List.zipIdx_cons, List.foldl_cons]
    refine ⟨by rw [ih.1]; simp, fun m => ?_⟩
    rw [ih.2 m]
    by_cases h1 : off + j0 = m
    · subst h1
      rw [if_neg (by omega), if_pos (by simp)]
      simp [Array.getElem?_setIfInBounds]; omega
    · rw [Array.getElem?_setIfInBounds_ne h1]
      by_cases h2 : off + j0 ≤ m ∧ m < off + j0 + (l.length + 1)
      · rw [if_pos (by omega), if_pos (by simpa using h2), show m - (off + j0) = (m - (off + (j0 + 1))) + 1 by omega, List.getElem?_cons_succ]
      · rw [if_neg (by omega), if_neg (by simpa using h2)]

theorem fill_spec (k : Nat) : ∀ (vs : List Value) (i : Nat) (cs : Array Value), (∀ v ∈ vs, v.cells.size = k) → (i + vs.length) * k ≤ cs.size →
    ∃ res, Instr.fill (fun i => some (i * k, k)) cs (vs.zipIdx i |>.map fun (v, j) => (j, v)) = some res ∧ res.size = cs.size ∧ (∀ m, m < i * k → res[m]? = cs[m]?) ∧
      ∀ (a j : Nat) (v : Value), vs[a]? = some v → j < k → res[(i + a) * k + j]? = v.cells[j]?
  | [], i, cs, _, _ => ⟨cs, rfl, rfl, fun _ _ => rfl, by simp⟩
  | v :: vs, i, cs, h, hl => by
    have hv := h v (by simp)
    simp only [List.length_cons] at hl
    have h1 : i * k + k ≤ cs.size := by
      have : (i + 1) * k ≤ (i + (vs.length + 1)) * k := Nat.mul_le_mul_right _ (by omega)
      rw [Nat.add_mul] at this; omega
    have hf := fold_get (i * k) v.cells.toList 0 cs (by simpa [hv] using h1)
    obtain ⟨res, r1, r2, r3, r4⟩ := fill_spec k vs (i + 1) (((v.cells.toList.zipIdx 0).foldl (fun cs (c, j) => cs.setIfInBounds (i * k + j) c) cs)) (fun v hv => h v (by simp [hv]))
      (by rw [hf.1]; rwa [show i + 1 + vs.length = i + (vs.length + 1) by omega])
    refine ⟨res, ?_, by rw [r2, hf.1], fun m hm => ?_, fun a j v' ha hj => ?_⟩
    · simp only [List.zipIdx_cons, List.map_cons, Instr.fill, hv]
      rw [if_neg (by simp; omega)]
      rw [← Array.foldl_toList, Array.toList_zipIdx]
      exact r1
    · rw [r3 m (by rw [Nat.add_mul]; omega), hf.2 m, if_neg (by omega)]
    · cases a with
      | zero =>
        simp at ha; subst ha
        simp only [Nat.add_zero]
        rw [r3 _ (by rw [Nat.add_mul]; omega), hf.2, if_pos (by simp [hv]; omega)]
        simp
      | succ a =>
        have := r4 a j v' (by simpa using ha) hj
        rwa [show i + 1 + a = i + (a + 1) by omega] at this

/-- The cells of a part. -/
def V.parts : V → List V
  | .agg cs => cs
  | U => [U]
inductive BL (E : Env P g) (s : S) (k : Nat) : Nat → List (Nat × Operand) → List (List V) → Prop
  | n {i : Nat} : BL E s k i [] []
  | c {i : Nat} {x : Operand} {U : V} {xs : List (Nat × Operand)} {es : List (List V)} (h : Ev E s x U) (hk : U.parts.length = k) (h1 : allOne U.parts = true) (hp : U.plain = true) (hr : BL E s k (i + 1) xs es) : BL E s k i ((i, x) :: xs) (U.parts :: es)

theorem parts_rd {w : World} {X : Nat → Prop} {β : List Tr} {v : Value} {U : V} (h : Rd w X β v U) (h1 : allOne U.parts = true) (hp : U.plain = true) : v.cells.size = U.parts.length ∧ ∀ (j : Nat) (u : Value) (c : V), v.cells[j]? = some u → U.parts[j]? = some c → Rd w X [] u c ∧ u.oneCell' = true := by
  by_cases hA : ∃ cs, U = .agg cs
  · obtain ⟨cs, rfl⟩ := hA
    obtain ⟨vs, rfl, k2, k3⟩ := h.agg_inv
    exact ⟨k2, fun j u c h5 h6 => ⟨(k3 j u c h5 h6).unmark (V.allPlain_get (cs := cs) (by simpa [V.plain] using hp) j c h6), (k3 j u c h5 h6).one (allOne_get h1 j c h6)⟩⟩
  · have hU : U.parts = [U] := by cases U <;> first | rfl | exact absurd ⟨_, rfl⟩ hA
    rw [hU] at h1 ⊢
    have ho : U.one = true := by simpa [allOne] using h1
    rw [one_cells (h.one ho)]
    refine ⟨rfl, fun j u c h5 h6 => ?_⟩
    cases j with
    | zero => simp at h5 h6; subst h5; subst h6; exact ⟨h.unmark hp, h.one ho⟩
    | succ j => simp at h5

theorem BL.spec {k i : Nat} {xs : List (Nat × Operand)} {es : List (List V)} (h : BL E s k i xs es) {β : List Tr} {a : Act} {w : World} (r : RelB E s β a w) :
    ∃ vs : List Value, (xs.map fun (i, x) => (i, a.eval x)) = (vs.zipIdx i |>.map fun (v, j) => (j, v)) ∧ vs.length = es.length ∧ (∀ v ∈ vs, v.cells.size = k) ∧ (∀ e ∈ es, e.length = k) ∧
      ∀ (a j : Nat) (v : Value) (e : List V), vs[a]? = some v → es[a]? = some e → ∀ (u : Value) (c : V), v.cells[j]? = some u → e[j]? = some c → Rd w (E.X β) [] u c ∧ u.oneCell' = true := by
  induction h with
  | n => exact ⟨[], rfl, rfl, by simp, by simp, by simp⟩
  | @c i x U xs es h hk h1 hp hr ih =>
    obtain ⟨vs, e1, e2, e3, e4, e5⟩ := ih
    have hpr := parts_rd (h β a w r) h1 hp
    refine ⟨a.eval x :: vs, by simp [List.zipIdx_cons, e1], by simp [e2], fun v hv => ?_, fun e he => ?_, fun b j v e hb he u c => ?_⟩
    · rcases List.mem_cons.1 hv with rfl | hv
      · rw [hpr.1, hk]
      · exact e3 v hv
    · rcases List.mem_cons.1 he with rfl | he
      · exact hk
      · exact e4 e he
    · cases b with
      | zero => simp at hb he; subst hb; subst he; exact hpr.2 j u c
      | succ b => exact e5 b j v e (by simpa using hb) (by simpa using he) u c

theorem build_run {t e k bts n : Nat} {xs : List (Nat × Operand)} {es : List (List V)} (ht : slB P t e k bts = true) (hn : es.length = n) (h24 : decide (n * k ≤ 16777216) = true) (hb : BL E s k 0 xs es) {β : List Tr} {a : Act} {w : World} (r : RelB E s β a w) {o : Oper} (ho : o.op = .buildSlice t n xs.toArray) :
    ∃ cells : Array Value, (execOp a.eval o).run P w = .ok (.value (.slice (some ⟨w.heap.size, 0, none⟩) n n)) (w.alloc (.cells cells e)) ∧ cells.size = n * k ∧ (∀ e ∈ es, e.length = k) ∧
      ∀ (i j : Nat) (e : List V) (d : V), es[i]? = some e → e[j]? = some d → ∃ v, cells[i * k + j]? = some v ∧ v.oneCell' = true ∧ Rd w (E.X β) [] v d := by
  obtain ⟨hu, i, z, hi, hz, hik, hib, hzk, hk0⟩ := slB_spec ht
  obtain ⟨vs, e1, e2, e3, e4, e5⟩ := hb.spec r
  have hz0 : ∃ zc : Array Value, (if n * k = 0 then (pure #[] : Sem (Array Value)) else do pure (← zeroValue e).cells).run P w = .ok zc w := by
    by_cases h : n * k = 0
    · exact ⟨#[], by simp [h]⟩
    · exact ⟨z.cells, by simp [h, zeroValue, typeInfo, hi, hz]⟩
  obtain ⟨zc, hzc⟩ := hz0
  obtain ⟨res, r1, r2, r3, r4⟩ := fill_spec k vs 0 ((Array.range (n * k)).map (zc[· % zc.size]!)) e3 (by simp [e2, hn])
  have h24' := of_decide_eq_true h24
  refine ⟨res, ?_, by rw [r2]; simp, e4, fun i j e d h1 h2 => ?_⟩
  · have hp : ((xs.toArray.map fun (i, x) => (i, a.eval x)) : Array (Nat × Value)).toList = ((vs.zipIdx 0).map fun (v, j) => (j, v)) := by
      rw [← e1]; simp
    simp only [execOp, ho, Instr.buildSlice, Sem.run_bind, run_underlying hu, Result.andThen_ok]
    have hs : (sizeOf e).run P w = .ok k w := by simp [sizeOf, typeInfo, hi, hik]
    simp only [hs, Result.andThen_ok]
    rw [if_neg (by omega)]
    by_cases h : n * k = 0
    · have hzc' : zc = #[] := by simp [h] at hzc; exact hzc
      subst hzc'
      simp only [h, if_true, Sem.run_bind, Sem.run_pure, Result.andThen_ok] 
      rw [h] at r1
      simp only [hp, r1, newRow, Sem.run_bind, run_newObj, Sem.run_pure, Result.andThen_ok]
      rfl
    · simp only [h, if_false, Sem.run_bind, Sem.run_pure] at hzc ⊢
      have hzc' : ((zeroValue e).run P w).andThen (fun a w' => Result.ok a.cells w') = .ok zc w := hzc
      have hz2 : (zeroValue e).run P w = .ok z w := by simp [zeroValue, typeInfo, hi, hz]
      rw [hz2] at hzc'
      simp only [Result.andThen_ok, Result.ok.injEq, and_true] at hzc'
      simp only [hz2, Result.andThen_ok, hzc', hp, r1, newRow, Sem.run_bind, run_newObj, Sem.run_pure]
      rfl
  · have hlt : i < vs.length := by rw [e2]; exact (List.getElem?_eq_some_iff.1 h1).1
    have hv : vs[i]? = some vs[i] := List.getElem?_eq_getElem hlt
    have hjk : j < k := by rw [← e4 e (List.mem_of_getElem? h1)]; exact (List.getElem?_eq_some_iff.1 h2).1
    have hc := e3 vs[i] (List.mem_of_getElem? hv)
    have hcell : (vs[i]).cells[j]? = some ((vs[i]).cells[j]'(by rw [hc]; exact hjk)) := Array.getElem?_eq_getElem _
    obtain ⟨k1, k2⟩ := e5 i j vs[i] e hv h1 _ d hcell h2
    refine ⟨_, ?_, k2, k1⟩
    have := r4 i j vs[i] hv hjk
    rw [Nat.zero_add] at this
    rw [this, hcell]

/-- A slice literal that is not written from here on. -/
theorem bs {t e k bts n d : Nat} {xs : List (Nat × Operand)} {es : List (List V)} {t' : List V} (ht : slB P t e k bts = true) (hn : es.length = n) (h24 : decide (n * k ≤ 16777216) = true) (hb : BL E s k 0 xs es) (hu : Upd s.t d (.slice k es) t') :
    SOp E s (.buildSlice t n xs.toArray) (some d) ⟨t', s.o⟩ true := fun β a w r o ho hd => by
  obtain ⟨cells, h1, h2, h3, h4⟩ := build_run ht hn h24 hb r ho
  have he : Ext w (w.alloc (.cells cells e)) := Ext.alloc _ _
  have h24' := of_decide_eq_true h24
  have hk0 := (slB_spec ht).2
  refine ⟨_, _, β, .inl h1, (r.extend he).put ?_ hu, fun _ => he⟩
  have hnm : n ≤ maxLen := by
    obtain ⟨_, _, _, _, _, _, _, hk0⟩ := hk0
    have : n * 1 ≤ n * k := Nat.mul_le_mul_left _ hk0
    unfold maxLen; omega
  cases es with
  | nil => simp at hn; subst hn; exact .slice0 (by unfold maxLen; omega)
  | cons e0 es' =>
    refine .slice (val := fun i j => cells.getD (i * k + j) undef) hn.symm (by simp) (Nat.le_refl _) hnm (fun hx => by have := X_lt r _ hx; simp at this) (by simp) h3 (fun i j e d k1 k2 => ?_) (fun i j e d k1 k2 => ?_)
    · obtain ⟨v, k3, _, _⟩ := h4 i j e d k1 k2
      rw [add_flat, Nat.zero_add, World.cell?_alloc_new, k3]
      simp [Array.getD_eq_getD_getElem?, k3]
    · obtain ⟨v, k3, _, k5⟩ := h4 i j e d k1 k2
      simp only [Array.getD_eq_getD_getElem?, k3, Option.getD_some]
      exact k5.ext he

theorem own_row_ok {w : World} {X : Nat → Prop} {β : List Tr} {T k n : Nat} {es : List (List V)} {cells : Array Value} (hk : 0 < k) (hn : es.length = n) (hm : n ≤ maxLen) (h2 : cells.size = n * k) (h3 : ∀ e ∈ es, e.length = k)
    (h4 : ∀ (i j : Nat) (e : List V) (d : V), es[i]? = some e → e[j]? = some d → ∃ v, cells[i * k + j]? = some v ∧ v.oneCell' = true ∧ Rd (w.alloc (.cells cells T)) X [] v d) :
    Ob.ok (w.alloc (.cells cells T)) X β ⟨some w.heap.size, n, n⟩ (.row T k es) := by
  refine ⟨hk, h3, cells.toList, ?_, fun i j e d k1 k2 => ?_⟩
  · rw [hn]; exact World.ownsRow_lit w cells n (Nat.zero_le _) hm h2
  · obtain ⟨v, k3, k4, k5⟩ := h4 i j e d k1 k2
    exact ⟨v, by simpa using k3, k4, k5⟩

/-- A slice literal of the walk's own. -/
theorem bo {t e k bts n d m : Nat} {xs : List (Nat × Operand)} {es : List (List V)} {t' : List V} {o' : List Ob} (ht : slB P t e k bts = true) (hn : es.length = n) (h24 : decide (n * k ≤ 16777216) = true) (hb : BL E s k 0 xs es) (hs : Sn s.o (.row e k es) m o') (hu : Upd s.t d (.own m) t') :
    SOp E s (.buildSlice t n xs.toArray) (some d) ⟨t', o'⟩ true := fun β a w r o ho hd => by
  obtain ⟨cells, h1, h2, h3, h4⟩ := build_run ht hn h24 hb r ho
  have he : Ext w (w.alloc (.cells cells e)) := Ext.alloc _ _
  have h24' := of_decide_eq_true h24
  obtain ⟨_, _, _, _, _, _, _, _, hk0⟩ := slB_spec ht
  have hnm : n ≤ maxLen := by
    have : n * 1 ≤ n * k := Nat.mul_le_mul_left _ hk0
    unfold maxLen; omega
  obtain ⟨r1, r2⟩ := r.new_ob (t := ⟨some w.heap.size, n, n⟩) hs he (fun b hb => by injection hb with hb; subst hb; simp) (by
    refine own_row_ok hk0 hn hnm h2 h3 (fun i j e d k1 k2 => ?_)
    obtain ⟨v, k3, k4, k5⟩ := h4 i j e d k1 k2
    refine ⟨v, k3, k4, k5.conv he.size ?_ (fun _ _ _ hc => he.cell hc) (fun _ _ h => by simp at h)⟩
    rintro b hlt (h | ⟨u, hu, hub⟩)
    · exact .inl h
    · rcases List.mem_append.1 hu with hu | hu
      · exact .inr ⟨u, hu, hub⟩
      · simp at hu; subst hu; injection hub with hub; omega)
  exact ⟨_, _, _, .inl h1, r1.put (.own (t := ⟨some w.heap.size, n, n⟩) r2) hu, fun _ => he⟩

/-! ### make -/
theorem mk_ {t e k bts d m N : Nat} {x y : Operand} {zs : List V} {t' : List V} {o' : List Ob} (ht : slB P t e k bts = true) (hz : zerosOf P e = some zs) (hN : N * bts ≤ 281474976710656) (hM : N ≤ 9223372036854775807)
    (hs : Sn s.o (.row e k (List.replicate N zs)) m o') (hu : Upd s.t d (.own m) t') (hx : Ev E s x (.int .i64 (N : Int))) (hy : Ev E s y (.int .i64 (N : Int))) :
    SOp E s (.makeSlice t x y) (some d) ⟨t', o'⟩ true := fun β a w r o ho hd => by
  obtain ⟨hu', i, z, hi, hz', hik, hib, hzk, hk0⟩ := slB_spec ht
  obtain ⟨i', z', hi', hz'', hzv⟩ := zerosOf_spec hz
  rw [hi] at hi'; injection hi' with hi'; subst hi'
  rw [hz'] at hz''; injection hz'' with hz''; subst hz''
  have hb : (i.bytes : Int) * (N : Int) ≤ 281474976710656 := by
    have h : ((i.bytes * N : Nat) : Int) ≤ 281474976710656 := by rw [hib, Nat.mul_comm]; omega
    rwa [Int.natCast_mul] at h
  have hrun := run_make (P := P) w t e i z hu' hi hz' .i64 .i64 N N (by omega) (by omega) hb (by omega)
  simp only [Int.toNat_natCast, hik] at hrun
  have he : Ext w (w.alloc (.cells (madeCells z.cells (N * k)) e)) := Ext.alloc _ _
  have hzr := zVs_rd (w := w.alloc (.cells (madeCells z.cells (N * k)) e)) (X := fun b => E.X (β ++ [⟨some w.heap.size, N, N⟩]) b) (β := []) hzv
  have hzl : zs.length = k := by rw [← hzr.1]; simpa using hzk
  obtain ⟨r1, r2⟩ := r.new_ob (t := ⟨some w.heap.size, N, N⟩) hs he (fun b hb => by injection hb with hb; subst hb; simp) (by
    refine own_row_ok hk0 (by simp) (by unfold maxLen; omega) (size_madeCells _ _) (fun e he => by rw [List.mem_replicate] at he; rw [he.2]; exact hzl) (fun i' j e' d' k1 k2 => ?_)
    rw [List.getElem?_replicate] at k1
    split at k1
    · rename_i hlt
      injection k1 with k1
      subst k1
      have hj : j < k := by rw [← hzl]; exact (List.getElem?_eq_some_iff.1 k2).1
      have hidx : i' * k + j < N * k := by
        have : (i' + 1) * k ≤ N * k := Nat.mul_le_mul_right _ (by omega)
        rw [Nat.add_mul] at this; omega
      have hzj : z.cells.toList[j]? = some (z.cells[j]'(by rw [hzk]; exact hj)) := by simp [Array.getElem?_eq_getElem (show j < z.cells.size by rw [hzk]; exact hj)]
      refine ⟨z.cells[j]'(by rw [hzk]; exact hj), ?_, ?_, (hzr.2 j _ _ hzj k2).1⟩
      · simp only [madeCells, Array.getElem?_map, Array.getElem?_range, if_pos hidx, Option.map_some, hzk]
        rw [show (i' * k + j) % k = j by rw [Nat.mul_comm, Nat.mul_add_mod]; exact Nat.mod_eq_of_lt hj]
        rw [getElem!_pos z.cells j (by rw [hzk]; exact hj)]
      · exact ((hzr.2 j _ _ hzj k2).1).one (hzr.2 j _ _ hzj k2).2
    · cases k1)
  refine ⟨_, _, _, .inl ?_, r1.put (.own (t := ⟨some w.heap.size, N, N⟩) r2) hu, fun _ => he⟩
  simp only [execOp, ho, (hx β a w r).int_inv.1, (hy β a w r).int_inv.1, Sem.run_bind, hrun, Result.andThen_ok, Sem.run_pure]
  rfl

/-! ### The walk's own slice, place by place -/
theorem oix {x y : Operand} {t e k bts i : Nat} {es : List (List V)} {kk : IntKind} {m : Int} (ht : slB P t e k bts = true) (hi : At s.o i (.row e k es)) (h0 : 0 ≤ m) (hm : m.toNat < es.length)
    (hx : Ev E s x (.own i)) (hy : Ev E s y (.int kk m)) : MOp E s (.indexAddr t x y) (.oel i (m.toNat * k)) := fun β a w r o ho => by
  obtain ⟨hu, ii, z, hii, hz, hik, hib, hzk, hk0⟩ := slB_spec ht
  obtain ⟨tr, h1, h2⟩ := (hx β a w r).own_inv
  have h3 := (hy β a w r).int_inv.1
  obtain ⟨_, _, xs, h5, _⟩ := r.objs i tr _ h1 hi.get
  rcases h5.2 with ⟨h6, h7⟩ | ⟨gg, cap, cur, h6, _, h7, h8, _⟩
  · omega
  · have htb : tr.b = some gg := by
      cases hb' : tr.b with
      | none => simp [Tr.val, hb'] at h6
      | some b => simp [Tr.val, hb'] at h6; rw [h6.1]
    have hmn : m < es.length := by omega
    refine ⟨.pointer (some ⟨gg, m.toNat * k, none⟩), fun w' _ => ?_, .oel h1 htb⟩
    have hv : a.eval x = .slice (some ⟨gg, 0, none⟩) es.length cap := by rw [h2, h6]
    simp [execOp, ho, hv, h3, Instr.indexAt, asIntOf, run_underlying hu, sizeOf, typeInfo, hii, hik, h0, hmn, add_flat]

theorem own_facts {β : List Tr} {a : Act} {w : World} (r : RelB E s β a w) {i T k : Nat} {es : List (List V)} (hi : At s.o i (.row T k es)) {t : Tr} {b : Nat} (hb : β[i]? = some t) (htb : t.b = some b) :
    ∃ (cap : Nat) (cur : Array Value), t = ⟨some b, es.length, cap⟩ ∧ w.heap[b]? = some (.cells cur T (0, 0)) ∧ es.length ≤ cap ∧ cap ≤ maxLen ∧ cur.size = cap * k ∧ 0 < k ∧ (∀ e ∈ es, e.length = k) ∧
      ∀ (i j : Nat) (e : List V) (d : V), es[i]? = some e → e[j]? = some d → ∃ v, cur[i * k + j]? = some v ∧ v.oneCell' = true ∧ Rd w (E.X β) [] v d := by
  obtain ⟨h1, h2, xs, h5, h6⟩ := r.objs i t _ hb hi.get
  rcases h5.2 with ⟨h7, _⟩ | ⟨gg, cap, cur, h7, _, h8, h9, h10, h11, h12⟩
  · simp [Tr.val, htb] at h7
  · simp [Tr.val, htb] at h7
    obtain ⟨rfl, h7, h7'⟩ := h7
    obtain ⟨tb, tn, tc⟩ := t
    simp only at htb h7 h7'
    subst htb; subst h7; subst h7'
    refine ⟨tc, cur, rfl, h8, h9, h10, h11, h1, h2, fun i j e d k1 k2 => ?_⟩
    obtain ⟨v, k3, k4, k5⟩ := h6 i j e d k1 k2
    refine ⟨v, ?_, k4, k5⟩
    rw [← h12, List.getElem?_take] at k3
    split at k3
    · simpa using k3
    · cases k3

/-- A whole element is stored. -/
theorem sto {x y : Operand} {i T t k j off : Nat} {es : List (List V)} {U : V} {o' : List Ob} (hoff : off = j * k) (hj : j < es.length) (hk : U.parts.length = k) (hsz : (match U with | .agg _ => aggB P t k | _ => oneB P t) = true) (h1 : allOne U.parts = true) (hp : U.plain = true)
    (hi : At s.o i (.row T k es)) (hup : UpO s.o i (.row T k (es.set j U.parts)) o') (hx : Ev E s x (.oel i off)) (hy : Ev E s y U) : SOp E s (.store t x y) none ⟨s.t, o'⟩ false := fun β a w r o ho hd => by
  obtain ⟨tr, b, k1, k2, k3⟩ := (hx β a w r).oel_inv
  obtain ⟨cap, cur, c1, c2, c3, c4, c5, c6, c7, c8⟩ := own_facts r hi k1 k2
  have hpr := parts_rd (hy β a w r) h1 hp
  have hsize : (sizeOf t).run P w = .ok k w := by
    by_cases hA : ∃ cs, U = .agg cs
    · obtain ⟨cs, rfl⟩ := hA; exact (aggB_isAgg hsz).2
    · have hU : U.parts = [U] := by cases U <;> first | rfl | exact absurd ⟨_, rfl⟩ hA
      rw [hU] at hk; simp at hk; subst hk
      have : oneB P t = true := by cases U <;> first | exact hsz | exact absurd ⟨_, rfl⟩ hA
      exact (oneB_isAgg this).2
  have hjk : (j + 1) * k ≤ cap * k := Nat.mul_le_mul_right _ (by omega)
  rw [Nat.add_mul, Nat.one_mul] at hjk
  have hvs : (a.eval y).cells.toList.length = k := by simpa using hpr.1.trans hk
  have hl : off + (a.eval y).cells.toList.length ≤ cur.toList.length := by rw [hvs, Array.length_toList, c5, hoff]; exact hjk
  refine ⟨undef, w.setRow b (cur.toList.take off ++ (a.eval y).cells.toList ++ cur.toList.drop (off + (a.eval y).cells.toList.length)).toArray, β, .inr ⟨?_, rfl⟩, ?_, fun h => by cases h⟩
  · have hone : ∀ v ∈ (a.eval y).cells.toList, v.oneCell' = true := fun v hv => by
      obtain ⟨q, hq⟩ := List.mem_iff_getElem?.1 hv
      have hlt : q < U.parts.length := by rw [hk, ← hvs]; exact (List.getElem?_eq_some_iff.1 hq).1
      exact (hpr.2 q v _ (by simpa using hq) (List.getElem?_eq_getElem hlt)).2
    have := store_run (P := P) (w := w) (T := T) (t := t) (b := b) (off := off) (vs := (a.eval y).cells.toList) (cur := cur.toList) (v := a.eval y) (by simp) (by rw [hvs]; exact hsize) (by simpa using c2) hl hone
    simp only [execOp, ho, k3, Instr.storeAt, Instr.sureAddr, Sem.run_bind, Sem.run_pure, Result.andThen_ok, this]
  · obtain ⟨f1, f2, f3, f4, f5⟩ := setRow_facts w b (cur.toList.take off ++ (a.eval y).cells.toList ++ cur.toList.drop (off + (a.eval y).cells.toList.length)).toArray
    refine r.up_ob k1 hup (by rw [f1]; exact Nat.le_refl _) (fun kk _ hkk => f5 kk (fun e => hkk (by rw [k2, e]))) f2 f3 f4 (fun hrd => ?_)
    refine ⟨c6, fun e he => ?_, (cur.toList.take off ++ (a.eval y).cells.toList ++ cur.toList.drop (off + (a.eval y).cells.toList.length)).take (es.length * k), ?_, fun i' j' e d h5 h6 => ?_⟩
    · rcases List.mem_or_eq_of_mem_set he with he | he
      · exact c7 e he
      · rw [he]; exact hk
    · rw [List.length_set]
      have hcl : (cur.toList.take off ++ (a.eval y).cells.toList ++ cur.toList.drop (off + (a.eval y).cells.toList.length)).length = cap * k := by
        simp only [List.length_append, List.length_take, List.length_drop, hvs, Array.length_toList, c5]; omega
      have hck : es.length * k ≤ cap * k := Nat.mul_le_mul_right _ c3
      refine ⟨by rw [List.length_take, hcl]; omega, .inr ⟨b, cap, _, by rw [c1]; rfl, Nat.zero_le _, setRow_heap _ _ _ _ _ _ c2, c3, c4, by simpa using hcl, by simp⟩⟩
    · have hi' : i' < es.length := by have := (List.getElem?_eq_some_iff.1 h5).1; simpa using this
      have hj' : j' < k := by
        have he : e ∈ es.set j U.parts := List.mem_of_getElem? h5
        have : e.length = k := by
          rcases List.mem_or_eq_of_mem_set he with he | he
          · exact c7 e he
          · rw [he]; exact hk
        rw [← this]; exact (List.getElem?_eq_some_iff.1 h6).1
      have hidx : i' * k + j' < es.length * k := by
        have : (i' + 1) * k ≤ es.length * k := Nat.mul_le_mul_right _ hi'
        rw [Nat.add_mul] at this; omega
      have hsp := splice_get cur.toList (a.eval y).cells.toList off (i' * k + j') hl
      rw [List.getElem?_take, if_pos hidx, hsp]
      by_cases hij : i' = j
      · subst hij
        rw [List.getElem?_set_self hi'] at h5
        injection h5 with h5
        subst h5
        rw [if_pos ⟨by omega, by rw [hvs]; omega⟩, show i' * k + j' - off = j' by omega]
        have hjc : j' < (a.eval y).cells.size := by rw [hpr.1, hk]; exact hj'
        have hc : (a.eval y).cells[j']? = some ((a.eval y).cells[j']'hjc) := Array.getElem?_eq_getElem hjc
        exact ⟨_, by rw [Array.getElem?_toList]; exact hc, (hpr.2 j' _ d hc h6).2, hrd _ _ _ (hpr.2 j' _ d hc h6).1⟩
      · rw [List.getElem?_set_ne (Ne.symm hij)] at h5
        have hne : ¬ (off ≤ i' * k + j' ∧ i' * k + j' < off + (a.eval y).cells.toList.length) := by
          rw [hvs]
          rintro ⟨q1, q2⟩
          rw [hoff] at q1 q2
          rcases Nat.lt_or_gt_of_ne hij with hlt | hgt
          · have : (i' + 1) * k ≤ j * k := Nat.mul_le_mul_right _ hlt
            rw [Nat.add_mul] at this; omega
          · have : (j + 1) * k ≤ i' * k := Nat.mul_le_mul_right _ hgt
            rw [Nat.add_mul] at this; omega
        rw [if_neg hne]
        obtain ⟨v, k3', k4', k5'⟩ := c8 i' j' e d h5 h6
        exact ⟨v, by simpa using k3', k4', hrd _ _ _ k5'⟩

/-! ### append -/
mutual
/-- The datum names object i nowhere. -/
def V.nr (i : Nat) : V → Bool
  | .box j _ => !Nat.beq j i
  | .own j => !Nat.beq j i
  | .oel j _ => !Nat.beq j i
  | .agg cs => nrs i cs
  | .tup cs => nrs i cs
  | _ => true
def nrs (i : Nat) : List V → Bool
  | [] => true
  | c :: cs => V.nr i c && nrs i cs
end
theorem nrs_get {i : Nat} {cs : List V} (h : nrs i cs = true) : ∀ (j : Nat) (c : V), cs[j]? = some c → V.nr i c = true := by
  induction cs with
  | nil => intro j c hc; simp at hc
  | cons x xs ih =>
    simp only [nrs, Bool.and_eq_true] at h
    intro j c hc
    cases j with
    | zero => simp at hc; rw [← hc]; exact h.1
    | succ j => exact ih h.2 j c (by simpa using hc)
def nro (i : Nat) : List Ob → Bool
  | [] => true
  | .box _ cs :: os => nrs i cs && nro i os
  | .row .. :: os => nro i os
theorem nro_get {i : Nat} {os : List Ob} (h : nro i os = true) : ∀ (j : Nat) (T : Nat) (cs : List V), os[j]? = some (.box T cs) → nrs i cs = true := by
  induction os with
  | nil => intro j T cs hc; simp at hc
  | cons x xs ih =>
    intro j T cs hc
    cases x with
    | box T' cs' =>
      simp only [nro, Bool.and_eq_true] at h
      cases j with
      | zero => simp at hc; rw [← hc.2]; exact h.1
      | succ j => exact ih h.2 j T cs (by simpa using hc)
    | row T' k' es' =>
      simp only [nro] at h
      cases j with
      | zero => simp at hc
      | succ j => exact ih h j T cs (by simpa using hc)

theorem Rd.reref {w w' : World} {X X' : Nat → Prop} {β : List Tr} {v : Value} {U : V} (h : Rd w X β v U) {i : Nat} {t' : Tr} (hsz : w.heap.size ≤ w'.heap.size)
    (hX : ∀ b, b < w.heap.size → X' b → X b) (hcell : ∀ (p : Addr) (u : Value), ¬ X p.block → w.cell? p = some u → w'.cell? p = some u) : U.nr i = true → Rd w' X' (β.set i t') v U := by
  have hset : ∀ {j : Nat} {t : Tr} {l : List Tr}, Nat.beq j i = false → l[j]? = some t → (l.set i t')[j]? = some t := fun {j t l} hj ht => by
    rw [List.getElem?_set_ne (by rintro rfl; simp at hj)]; exact ht
  induction h with
  | int h1 h2 => exact fun _ => .int h1 h2
  | bool => exact fun _ => .bool
  | str h => exact fun _ => .str h
  | slice0 h => exact fun _ => .slice0 h
  | slice hn hpos hc hm hXa hb hk hce hrd ih => exact fun _ => (Rd.slice (β := []) hn hpos hc hm hXa hb hk hce hrd).conv hsz hX hcell (fun _ _ h => by simp at h)
  | nil => exact fun _ => .nil
  | agg hl _ ih => exact fun hp => .agg hl (fun j v c h1 h2 => ih j v c h1 h2 (nrs_get (by simpa [V.nr] using hp) j c h2))
  | tup hl _ ih => exact fun hp => .tup hl (fun j v c h1 h2 => ih j v c h1 h2 (nrs_get (by simpa [V.nr] using hp) j c h2))
  | box h hb => exact fun hp => .box (hset (by simpa [V.nr] using hp) h) hb
  | elem hXa hb hce hrd ih => exact fun _ => (Rd.elem (β := []) hXa hb hce hrd).conv hsz hX hcell (fun _ _ h => by simp at h)
  | own h => exact fun hp => .own (hset (by simpa [V.nr] using hp) h)
  | oel h hb => exact fun hp => .oel (hset (by simpa [V.nr] using hp) h) hb
  | und => exact fun _ => .und
  | any => exact fun _ => .any

/-- What is appended: its cells. -/
theorem src_cells {w : World} {X : Nat → Prop} {β : List Tr} {v : Value} {k : Nat} {news : List (List V)} (h : Rd w X β v (.slice k news)) (hone : ∀ e ∈ news, allOne e = true) :
    ∃ (A : Option Addr) (c : Nat) (xs : List Value), v = .slice A news.length c ∧ xs.length = news.length * k ∧ (news = [] ∨ ∃ a, A = some a ∧ ∀ j u, xs[j]? = some u → w.cell? (a.add j) = some u) ∧ (∀ u ∈ xs, u.oneCell' = true) ∧ (∀ e ∈ news, e.length = k) ∧
      ∀ (i j : Nat) (e : List V) (d : V), news[i]? = some e → e[j]? = some d → ∃ u, xs[i * k + j]? = some u ∧ Rd w X [] u d := by
  cases h with
  | slice0 => exact ⟨_, _, [], rfl, by simp, .inl rfl, by simp, by simp, by simp⟩
  | @slice _ a n c _ _ val hn hpos hc hm hX hb hk hcell hrd =>
    subst hn
    have key : ∀ q, q < news.length * k → ∃ (e : List V) (d : V), news[q / k]? = some e ∧ e[q % k]? = some d ∧ q / k * k + q % k = q := fun q hq => by
      have hk0 : 0 < k := by
        rcases Nat.eq_zero_or_pos k with h | h
        · subst h; simp at hq
        · exact h
      have h1 : q / k < news.length := Nat.div_lt_of_lt_mul (by rwa [Nat.mul_comm])
      have h2 : q % k < (news[q / k]).length := by rw [hk _ (List.getElem_mem h1)]; exact Nat.mod_lt _ hk0
      exact ⟨_, _, List.getElem?_eq_getElem h1, List.getElem?_eq_getElem h2, by rw [Nat.mul_comm]; exact Nat.div_add_mod q k⟩
    refine ⟨some a, c, (List.range (news.length * k)).map (fun q => val (q / k) (q % k)), rfl, by simp, .inr ⟨a, rfl, fun q u hu => ?_⟩, fun u hu => ?_, hk, fun i j e d h1 h2 => ?_⟩
    · have hq : q < news.length * k := by have := (List.getElem?_eq_some_iff.1 hu).1; simpa using this
      obtain ⟨e, d, k1, k2, k3⟩ := key q hq
      have := hcell _ _ e d k1 k2
      rw [k3] at this
      simp [List.getElem?_map, List.getElem?_range hq] at hu
      rw [this, hu]
    · obtain ⟨q, hq⟩ := List.mem_iff_getElem?.1 hu
      have hql : q < news.length * k := by have := (List.getElem?_eq_some_iff.1 hq).1; simpa using this
      obtain ⟨e, d, k1, k2, k3⟩ := key q hql
      simp [List.getElem?_map, List.getElem?_range hql] at hq
      rw [← hq]
      exact (hrd _ _ e d k1 k2).one (allOne_get (hone e (List.mem_of_getElem? k1)) _ d k2)
    · have hj : j < k := by rw [← hk e (List.mem_of_getElem? h1)]; exact (List.getElem?_eq_some_iff.1 h2).1
      have hi : i < news.length := (List.getElem?_eq_some_iff.1 h1).1
      have hq : i * k + j < news.length * k := by
        have : (i + 1) * k ≤ news.length * k := Nat.mul_le_mul_right _ hi
        rw [Nat.add_mul] at this; omega
      refine ⟨val i j, ?_, hrd i j e d h1 h2⟩
      have hk0 : 0 < k := by omega
      rw [List.getElem?_map, List.getElem?_range hq, Option.map_some]
      rw [show (i * k + j) / k = i by rw [Nat.mul_comm, Nat.mul_add_div hk0, Nat.div_eq_of_lt hj, Nat.add_zero], show (i * k + j) % k = j by rw [Nat.mul_comm, Nat.mul_add_mod, Nat.mod_eq_of_lt hj]]

theorem append_run {w : World} {t ty e k bts : Nat} (ht : slB P t e k bts = true) {v : Value} {n : Nat} {xs : List Value} (hown : w.ownsRow 0 e k v n xs) {A : Option Addr} {m c : Nat} {news : List Value} (hl : news.length = m * k)
    (hsrc : m = 0 ∨ ∃ a, A = some a ∧ ∀ j u, news[j]? = some u → w.cell? (a.add j) = some u) (h1 : ∀ u ∈ news, u.oneCell' = true) (hm : n + m ≤ maxLen) (hb : (n + m) * bts ≤ 140737488355328) :
    ∃ v' w', (Builtin.append_ #[t, t] ty #[v, .slice A m c]).run P w = .ok v' w' ∧ w'.ownsRow 0 e k v' (n + m) (xs ++ news) ∧ w.grownBy w' v.ownBlock ∧ (v'.ownBlock = v.ownBlock ∨ v'.ownBlock = some w.heap.size) := by
  obtain ⟨hu, i, z, hi, hz, hik, hib, hzk, hk0⟩ := slB_spec ht
  cases A with
  | some a =>
    have hc : ∀ j u, news[j]? = some u → w.cell? (a.add j) = some u := by
      rcases hsrc with h0 | ⟨a', h2, h3⟩
      · subst h0
        have : news = [] := List.eq_nil_of_length_eq_zero (by simpa using hl)
        subst this; simp
      · injection h2 with h2; subst h2; exact h3
    obtain ⟨v', w', h2, h3, h4, _, h6⟩ := run_append_own_at (P := P) w 0 t ty e i z k bts hu hi hz hik hib hzk hk0 v n xs hown a m c news hl hc h1 hm hb (Nat.zero_le _)
    exact ⟨v', w', h2, h3, h4, h6⟩
  | none =>
    have h0 : m = 0 := by
      rcases hsrc with h0 | ⟨a', h2, _⟩
      · exact h0
      · cases h2
    subst h0
    have hn : news = [] := List.eq_nil_of_length_eq_zero (by simpa using hl)
    subst hn
    refine ⟨v, w, ?_, by simpa using hown, ⟨rfl, rfl, rfl, Nat.le_refl _, fun _ _ _ => rfl⟩, .inl rfl⟩
    rcases hown.2 with ⟨rfl, rfl⟩ | ⟨gg, cap, cur, rfl, _, _, hnc, _⟩
    · simp [Builtin.append_, run_underlying hu, sizeOf, typeInfo, hi, Builtin.lenOf, Builtin.firstCells]
    · simp [Builtin.append_, run_underlying hu, sizeOf, typeInfo, hi, Builtin.lenOf, Builtin.firstCells, hnc, storeCells]

/-- An owned row as one of the walk's rows. -/
theorem ownsRow_val {w : World} {e k n : Nat} {v : Value} {xs : List Value} (h : w.ownsRow 0 e k v n xs) : ∃ t : Tr, t.val = v ∧ t.b = v.ownBlock := by
  rcases h.2 with ⟨rfl, _⟩ | ⟨gg, cap, cur, rfl, _⟩
  · exact ⟨⟨none, 0, 0⟩, rfl, rfl⟩
  · exact ⟨⟨some gg, n, cap⟩, rfl, rfl⟩

theorem ap_core {β : List Tr} {a : Act} {w : World} (r : RelB E s β a w) {i T k bts t ty : Nat} {es news : List (List V)} {x : Value} {o' : List Ob} {tr : Tr} (ht : slB P t T k bts = true) (hi : At s.o i (.row T k es)) (hb : β[i]? = some tr)
    (hx : ∃ β0 : List Tr, Rd w (E.X β) β0 x (.slice k news)) (hone : ∀ e ∈ news, allOne e = true) (hsz : (es.length + news.length) * bts ≤ 140737488355328) (hm : es.length + news.length ≤ maxLen)
    (hup : UpO s.o i (.row T k (es ++ news)) o') (hnr : (nrs i s.t && nro i s.o) = true) :
    ∃ v' w' tr', (Builtin.append_ #[t, t] ty #[tr.val, x]).run P w = .ok v' w' ∧ tr'.val = v' ∧ RelB E ⟨s.t, o'⟩ (β.set i tr') a w' ∧ (β.set i tr')[i]? = some tr' := by
  obtain ⟨β0, hx⟩ := hx
  simp only [Bool.and_eq_true] at hnr
  obtain ⟨h1, h2, xs, h3, h4⟩ := r.objs i tr _ hb hi.get
  obtain ⟨A, c, ys, y1, y2, y3, y4, y5, y6⟩ := src_cells hx hone
  subst y1
  obtain ⟨v', w', a1, a2, a3, a4⟩ := append_run (P := P) (ty := ty) ht h3 (A := A) (c := c) y2 (by
    rcases y3 with h | h
    · exact .inl (by rw [h]; rfl)
    · exact .inr h) y4 hm hsz
  obtain ⟨tr', t1, t2⟩ := ownsRow_val a2
  have htv : tr.val.ownBlock = tr.b := by cases h : tr.b <;> simp [Tr.val, Value.ownBlock, h]
  rw [htv] at a3 a4
  rw [← t2] at a4
  have hil : i < β.length := (List.getElem?_eq_some_iff.1 hb).1
  have hself : (β.set i tr')[i]? = some tr' := List.getElem?_set_self hil
  have hX : ∀ b, b < w.heap.size → E.X (β.set i tr') b → E.X β b := by
    rintro b hlt (h | ⟨u, hu, hub⟩)
    · exact .inl h
    · rcases List.mem_or_eq_of_mem_set hu with hu | hu
      · exact .inr ⟨u, hu, hub⟩
      · subst hu
        rcases a4 with h | h
        · exact .inr ⟨tr, List.mem_of_getElem? hb, by rw [← h]; exact hub⟩
        · rw [h] at hub; injection hub with hub; omega
  have hcell : ∀ (p : Addr) (u : Value), ¬ E.X β p.block → w.cell? p = some u → w'.cell? p = some u := fun p u hp hc => by
    have hlt := World.block_lt_of_cell? w p hc
    rw [World.cell?_of_block (a3.block p.block hlt (fun e => hp (.inr ⟨tr, List.mem_of_getElem? hb, e.symm⟩)))]
    exact hc
  have hget : ∀ (j : Nat) (u : Tr), (β.set i tr')[j]? = some u → (j = i ∧ u = tr') ∨ (j ≠ i ∧ β[j]? = some u) := fun j u hj => by
    by_cases h : i = j
    · subst h; rw [hself] at hj; injection hj with hj; exact .inl ⟨rfl, hj.symm⟩
    · rw [List.getElem?_set_ne h] at hj; exact .inr ⟨Ne.symm h, hj⟩
  have hnew : ∀ b, tr'.b = some b → E.w0.heap.size ≤ b ∧ b < w'.heap.size := fun b hb' => by
    have hlt : b < w'.heap.size := by
      have := a2.lt b (by rw [← t2]; exact hb')
      exact this.2
    refine ⟨?_, hlt⟩
    rcases a4 with h | h
    · rw [h] at hb'; exact (r.new i tr b hb hb').1
    · rw [h] at hb'; injection hb' with hb'; have := r.ext.size; omega
  obtain ⟨e1, e2⟩ := hup.eq
  refine ⟨v', w', tr', a1, t1, { ext := ?_, defers := r.defers, tsz := r.tsz, tmps := fun n U h => (r.tmps n U h).reref a3.size hX hcell (nrs_get hnr.1 n U h), blen := by rw [e1]; simpa using r.blen, new := ?_, dist := ?_, objs := ?_ }, hself⟩
  · refine ⟨a3.os.trans r.ext.os, a3.tape.trans r.ext.tape, a3.output.trans r.ext.output, Nat.le_trans r.ext.size a3.size, fun q hq => ?_⟩
    rw [a3.block q (Nat.lt_of_lt_of_le hq r.ext.size) (fun e => by have := (r.new i tr q hb e.symm).1; omega)]
    exact r.ext.block q hq
  · intro j u b hj hub
    rcases hget j u hj with ⟨_, rfl⟩ | ⟨_, h⟩
    · exact hnew b hub
    · exact ⟨(r.new j u b h hub).1, Nat.lt_of_lt_of_le (r.new j u b h hub).2 a3.size⟩
  · intro j j' u u' b hjj hj hj' hub hub'
    have aux : ∀ (q : Nat) (x : Tr), q ≠ i → β[q]? = some x → x.b = some b → tr'.b = some b → False := fun q x hq hx hxb htb => by
      rcases a4 with h | h
      · rw [h] at htb; exact r.dist i q tr x b (Ne.symm hq) hb hx htb hxb
      · rw [h] at htb; injection htb with htb; have := (r.new q x b hx hxb).2; omega
    rcases hget j u hj with ⟨rfl, rfl⟩ | ⟨hne, h⟩ <;> rcases hget j' u' hj' with ⟨rfl, rfl⟩ | ⟨hne', h'⟩
    · exact hjj rfl
    · exact aux j' u' hne' h' hub' hub
    · exact aux j u hne h hub hub'
    · exact r.dist j j' u u' b hjj h h' hub hub'
  · intro j u o hj ho
    simp only [e1] at ho
    rcases hget j u hj with ⟨rfl, rfl⟩ | ⟨hne, h⟩
    · rw [List.getElem?_set_self e2] at ho
      injection ho with ho
      subst ho
      refine ⟨h1, fun e he => ?_, xs ++ ys, by rw [t1, List.length_append]; exact a2, fun q j' e d q1 q2 => ?_⟩
      · rcases List.mem_append.1 he with he | he
        · exact h2 e he
        · exact y5 e he
      · by_cases hq : q < es.length
        · rw [List.getElem?_append_left hq] at q1
          obtain ⟨v, k3, k4, k5⟩ := h4 q j' e d q1 q2
          refine ⟨v, ?_, k4, k5.conv a3.size hX hcell (fun _ _ h => by simp at h)⟩
          rw [List.getElem?_append_left (List.getElem?_eq_some_iff.1 k3).1]; exact k3
        · rw [List.getElem?_append_right (by omega)] at q1
          obtain ⟨v, k3, k5⟩ := y6 _ j' e d q1 q2
          refine ⟨v, ?_, y4 v (List.mem_of_getElem? k3), k5.conv a3.size hX hcell (fun _ _ h => by simp at h)⟩
          rw [List.getElem?_append_right (by rw [h3.1]; have : es.length * k ≤ q * k := Nat.mul_le_mul_right _ (by omega); omega), h3.1]
          rw [show q * k + j' - es.length * k = (q - es.length) * k + j' by rw [Nat.sub_mul]; have : es.length * k ≤ q * k := Nat.mul_le_mul_right _ (by omega); omega]
          exact k3
    · rw [List.getElem?_set_ne (Ne.symm hne)] at ho
      have hob : ∀ b, u.b = some b → w'.heap[b]? = w.heap[b]? := fun b hub => a3.block b (r.new j u b h hub).2 (fun e => r.dist j i u tr b hne h hb hub e.symm)
      have hk := r.objs j u o h ho
      cases o with
      | box T' cs =>
        obtain ⟨b, vs, k1, k2, k3, k4⟩ := hk
        exact ⟨b, vs, k1, by rw [hob b k1]; exact k2, k3, fun q v c q1 q2 => (k4 q v c q1 q2).reref a3.size hX hcell (nrs_get (nro_get hnr.2 j T' cs ho) q c q2)⟩
      | row T' k' es' =>
        have := Ob.ok.conv (o := .row T' k' es') hk a3.size hX hcell (β' := β) (fun _ _ h => h) hob
        exact this

/-- append onto the walk's own row. The slots that named the row are forgotten first ('dr'). -/
theorem ap {sx x : Operand} {i t T k bts d : Nat} {es news : List (List V)} {t0 t' : List V} {o' : List Ob} (n : Nat) (ht : slB P t T k bts = true) (hsx : sx = .tmp n) (hn : At s.t n (.own i)) (hd0 : Upd s.t n .any t0) (hi : At s.o i (.row T k es)) (hx : Ev E s x (.slice k news)) (hone : ∀ e ∈ news, allOne e = true)
    (hsz : (es.length + news.length) * bts ≤ 140737488355328) (hm : es.length + news.length ≤ maxLen) (hup : UpO s.o i (.row T k (es ++ news)) o') (hnr : (nrs i t0 && nro i s.o) = true) (hu : Upd t0 d (.own i) t') :
    SOp E s (.call { callee := .builtin .append, args := #[sx, x], argTypes := #[t, t] }) (some d) ⟨t', o'⟩ false := fun β a w r o ho hd => by
  subst hsx
  obtain ⟨tr, h1, h2⟩ := (r.tmps n _ hn.get).own_inv
  obtain ⟨v', w', tr', a1, a2, a3, a4⟩ := ap_core (P := P) (r.drop hd0) (ty := o.type) ht hi h1 ⟨β, hx β a w r⟩ hone hsz hm hup hnr
  refine ⟨v', w', β.set i tr', .inl ?_, a3.put (by rw [← a2]; exact .own a4) hu, fun h => by cases h⟩
  have he : a.eval (.tmp n) = tr.val := h2
  simp only [execOp, ho, resolve, invoke, builtin, Sem.run_bind, Sem.run_pure, Result.andThen_ok, List.map_toArray, List.map_cons, List.map_nil, he, a1]

/-- The nil slice becomes a row of the walk's own. -/
theorem no {ops : Array Oper} {l : List Oper} {F : S → Prop} {n T k m : Nat} {t' : List V} {o' : List Ob} (hk : decide (0 < k) = true) (hv : At s.t n .nil) (hs : Sn s.o (.row T k []) m o') (hu : Upd s.t n (.own m) t') (h : RF E ops l F ⟨t', o'⟩) : RF E ops l F s := fun Q hQ a w ⟨β, r⟩ => by
  have h0 := (r.tmps n _ hv.get).nil_inv
  obtain ⟨r1, r2⟩ := r.new_ob (t := ⟨none, 0, 0⟩) hs (Ext.refl w) (fun b hb => by cases hb) ⟨of_decide_eq_true hk, by simp, [], World.ownsRow_nil w 0 T k, by simp⟩
  have hn : n < a.tmps.size := by rw [r.tsz]; exact (List.getElem?_eq_some_iff.1 hv.get).1
  have hp := r1.put (v := a.tmps.getD n undef) (by rw [h0]; exact .own (t := ⟨none, 0, 0⟩) r2) hu
  have ha : a.put (some n) (a.tmps.getD n undef) = a := by
    unfold Act.put
    simp only
    congr 1
    rw [Array.getD_eq_getD_getElem?, Array.getElem?_eq_getElem hn]
    apply Array.ext'
    rw [Array.toList_setIfInBounds, ← Array.getElem_toList hn, Option.getD_some, List.set_getElem_self]
  rw [ha] at hp
  exact h Q hQ a w ⟨_, hp⟩

/-! ### Calls that are handed the walk's own slices, and hand back none -/
mutual
def V.flat : V → Bool
  | .int .. | .bool _ | .str _ => true
  | .tup cs => flats cs
  | .agg cs => flats cs
  | _ => false
def flats : List V → Bool
  | [] => true
  | c :: cs => V.flat c && flats cs
end
theorem flats_get {cs : List V} (h : flats cs = true) : ∀ (j : Nat) (c : V), cs[j]? = some c → V.flat c = true := by
  induction cs with
  | nil => intro j c hc; simp at hc
  | cons x xs ih =>
    simp only [flats, Bool.and_eq_true] at h
    intro j c hc
    cases j with
    | zero => simp at hc; rw [← hc]; exact h.1
    | succ j => exact ih h.2 j c (by simpa using hc)
theorem Rd.flat {w w' : World} {X X' : Nat → Prop} {β : List Tr} {v : Value} {U : V} (h : Rd w X β v U) : U.flat = true → ∀ {β' : List Tr}, Rd w' X' β' v U := by
  induction h with
  | int h1 h2 => exact fun _ _ => .int h1 h2
  | bool => exact fun _ _ => .bool
  | str h => exact fun _ _ => .str h
  | agg hl _ ih => exact fun hp β' => .agg hl (fun i v c h1 h2 => ih i v c h1 h2 (flats_get (by simpa [V.flat] using hp) i c h2))
  | tup hl _ ih => exact fun hp β' => .tup hl (fun i v c h1 h2 => ih i v c h1 h2 (flats_get (by simpa [V.flat] using hp) i c h2))
  | _ => intro hp; simp [V.flat] at hp

inductive EvM (E : Env P g) (s : S) : List Operand → List V → Prop
  | n : EvM E s [] []
  | c {x : Operand} {U U' : V} {xs : List Operand} {Us : List V} (h : Ev E s x U) (hp : Cv s U U') (hr : EvM E s xs Us) : EvM E s (x :: xs) (U' :: Us)
theorem EvM.rd {xs : List Operand} {Us : List V} (h : EvM E s xs Us) {β : List Tr} {a : Act} {w : World} (r : RelB E s β a w) : RdL w E.X0 (xs.map a.eval) Us := by
  induction h with
  | n => exact ⟨rfl, by simp⟩
  | @c x U U' xs Us h hp hr ih =>
    refine ⟨by simp [ih.1], fun i v W h1 h2 => ?_⟩
    cases i with
    | zero => simp at h1 h2; subst h1; subst h2; exact hp.rd r (h β a w r)
    | succ i => exact ih.2 i v W (by simpa using h1) (by simpa using h2)
/-- A call of whose arguments some are the walk's own rows (or the nil slice); its result holds no slice. -/
theorem callm {f : FuncId} {xs : List Operand} {ats : Array TypeId} {Us : List V} {r0 : V} (hs : Spec P g f Us (fun r => r = r0)) (hf : r0.flat = true) (ha : EvM E s xs Us) : COp E s (.call { callee := .value (.func f), args := xs.toArray, argTypes := ats }) (fun r => r = r0) := fun β a w r o ho =>
  ⟨f, _, enter_run ho hs.1, (hs.2 w E.X0 _ r.gw (fun b hb => Nat.lt_of_lt_of_le (E.h0 b hb) r.ext.size) (ha.rd r)).mono fun e w' ⟨v, r', h1, h2, h3, h4⟩ => ⟨v, r', h1, h2, by subst h2; exact h3.flat hf, h4⟩⟩

/-! ### Small facts for the walks -/
theorem gi {α : Type} {l : List α} {i : Nat} (h : i < l.length) : l[((i : Nat) : Int).toNat]? = some (l[i]'h) := by rw [Int.toNat_natCast]; exact List.getElem?_eq_getElem h
theorem oneM {α : Type} {l : List α} {f : α → List V} (h : ∀ x, allOne (f x) = true) : ∀ e ∈ l.map f, allOne e = true := fun e he => by
  obtain ⟨x, _, rfl⟩ := List.mem_map.1 he; exact h x
theorem wi {i : Nat} (h : i + 1 < 9223372036854775808) : V.int .i64 (IntKind.i64.wrap ((i : Int) + 1)) = V.int .i64 (((i + 1 : Nat) : Int)) := by
  congr 1; rw [IntKind.wrap_i64]; omega
/-! ### Bytes as a string -/
end Go.VK
