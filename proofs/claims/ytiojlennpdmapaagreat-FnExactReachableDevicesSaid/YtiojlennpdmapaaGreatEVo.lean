/-
  THE EVALUATOR's KIT, fifteenth part: slice literals, append. Plain theorems over any program; the conditions stand in each.
-/
import Derived.Test.YtiojlennpdmapaaGreatEVn
set_option linter.unusedVariables false
set_option linter.unusedSimpArgs false
namespace Go.EV
open Go.RowKit Go.VK
variable {U : Uni} {Y : Lay U} {TI : List (Nat × TInfo)} {P : Program} {g : GI} {E : Env g}
section
variable {s : St U} {a : Act} {w : World} {β : List Tr} {α : Type}

/-- A slice literal's cells. -/
theorem build_exec {t : TypeId} {e k bts n : Nat} {ps : Array (Nat × Operand)} {vs : List Value} (ht : slB P t e k bts = true) (hn : vs.length = n) (h24 : n * k ≤ 16777216) (hps : (ps.toList.map fun (i, x) => (i, a.eval x)) = (vs.zipIdx 0 |>.map fun (v, j) => (j, v))) (hsz : ∀ v ∈ vs, v.cells.size = k) {o : Oper} (ho : o.op = .buildSlice t n ps) :
    ∃ cells : Array Value, (execOp a.eval o).run P w = .ok (.value (.slice (some ⟨w.heap.size, 0, none⟩) n n)) (w.alloc (.cells cells e)) ∧ cells.toList = (vs.map fun v => v.cells.toList).flatten := by
  obtain ⟨hu, i, z, hi, hz, hik, hib, hzk, hk0⟩ := slB_spec ht
  have hz0 : ∃ zc : Array Value, (if n * k = 0 then (pure #[] : Sem (Array Value)) else do pure (← zeroValue e).cells).run P w = .ok zc w := by
    by_cases h : n * k = 0
    · exact ⟨#[], by simp [h]⟩
    · exact ⟨z.cells, by simp [h, zeroValue, typeInfo, hi, hz]⟩
  obtain ⟨zc, hzc⟩ := hz0
  obtain ⟨res, r1, r2, r3, r4⟩ := fill_spec k vs 0 ((Array.range (n * k)).map (zc[· % zc.size]!)) hsz (by simp [hn])
  have r2' : res.size = n * k := by rw [r2]; simp
  refine ⟨res, ?_, ?_⟩
  · have hp : ((ps.map fun (i, x) => (i, a.eval x)) : Array (Nat × Value)).toList = ((vs.zipIdx 0).map fun (v, j) => (j, v)) := by
      rw [← hps]; simp
    simp only [execOp, ho, Instr.buildSlice, Sem.run_bind, run_underlying hu, Result.andThen_ok]
    have hs : (sizeOf e).run P w = .ok k w := by simp [sizeOf, typeInfo, hi, hik]
    simp only [hs, Result.andThen_ok]
    rw [if_neg (by omega)]
    by_cases h : n * k = 0
    · have hzc' : zc = #[] := by simp [h] at hzc; exact hzc
      subst hzc'
      simp only [h, if_true, Sem.run_bind, Sem.run_pure, Result.andThen_ok]
      rw [h] at r1
      simp only [hp, r1, newRow, Sem.run_bind, run_newObj, Sem.run_pure, Result.andThen_ok]
      rfl
    · simp only [h, if_false, Sem.run_bind, Sem.run_pure] at hzc ⊢
      have hzc' : ((zeroValue e).run P w).andThen (fun a w' => Result.ok a.cells w') = .ok zc w := hzc
      have hz2 : (zeroValue e).run P w = .ok z w := by simp [zeroValue, typeInfo, hi, hz]
      rw [hz2] at hzc'
      simp only [Result.andThen_ok, Result.ok.injEq, and_true] at hzc'
      simp only [hz2, Result.andThen_ok, hzc', hp, r1, newRow, Sem.run_bind, run_newObj, Sem.run_pure]
      rfl
  · have hlen : (vs.map fun v => v.cells.toList).flatten.length = n * k := by
      have : ∀ (vs : List Value), (∀ v ∈ vs, v.cells.size = k) → (vs.map fun v => v.cells.toList).flatten.length = vs.length * k := by
        intro vs
        induction vs with
        | nil => simp
        | cons v vs ih =>
          intro h
          simp only [List.map_cons, List.flatten_cons, List.length_append, Array.length_toList, h v (by simp), ih (fun v hv => h v (by simp [hv])), List.length_cons, Nat.add_mul]; omega
      rw [this vs hsz, hn]
    apply List.ext_getElem?
    intro q
    by_cases hq : q < n * k
    · obtain ⟨q0, q1, hq1, rfl⟩ : ∃ q0 q1, q1 < k ∧ q = q0 * k + q1 := ⟨q / k, q % k, Nat.mod_lt _ hk0, by rw [Nat.mul_comm]; exact (Nat.div_add_mod q _).symm⟩
      have hdiv : q0 < n := Nat.lt_of_mul_lt_mul_right (Nat.lt_of_le_of_lt (Nat.le_add_right _ _) hq)
      have hv : vs[q0]? = some (vs[q0]'(by omega)) := List.getElem?_eq_getElem _
      have h4 := r4 q0 q1 _ hv hq1
      rw [Nat.zero_add] at h4
      -- the flat list, by its rows
      have key : ∀ (vs : List Value) (q0 : Nat) (v : Value), (∀ v ∈ vs, v.cells.size = k) → vs[q0]? = some v → (vs.map fun v => v.cells.toList).flatten[q0 * k + q1]? = v.cells.toList[q1]? := by
        intro vs
        induction vs with
        | nil => intro q0 v _ h; simp at h
        | cons u vs ih =>
          intro q0 v h hv
          cases q0 with
          | zero =>
            simp at hv; subst hv
            simp only [List.map_cons, List.flatten_cons, Nat.zero_mul, Nat.zero_add]
            rw [List.getElem?_append_left (by simp [h u (by simp)]; exact hq1)]
          | succ q0 =>
            simp only [List.map_cons, List.flatten_cons]
            have hu : u.cells.toList.length = k := by simp [h u (by simp)]
            rw [show (q0 + 1) * k + q1 = u.cells.toList.length + (q0 * k + q1) by rw [hu, Nat.add_mul]; omega, List.getElem?_append_right (Nat.le_add_right _ _), Nat.add_sub_cancel_left]
            exact ih q0 v (fun v hv => h v (by simp [hv])) (by simpa using hv)
      rw [key vs q0 _ hsz hv]
      simpa using h4
    · rw [List.getElem?_eq_none (by simp [r2']; omega), List.getElem?_eq_none (by omega)]

theorem absE_mean (hY : LayOk Y) (r : Rel Y.C E s a w β) {e : Nat} {x : Operand} {z : U.El e} {ids : List Nat} {d : Bool} (h : absE Y s e (opd s x) = some (z, ids, d)) :
    OwL Y.C w (E.X β) d (a.eval x).cells.toList (Y.C.cel e z) (blks β ids) := by
  unfold absE at h
  cases hp : parts (opd s x) with
  | none => simp [hp] at h
  | some cs =>
    cases hab : absb s.m (Y.kd e) cs with
    | none => simp [hp, hab] at h
    | some q =>
      obtain ⟨ds, ids', d'⟩ := q
      cases hb : Y.C.bld e ds with
      | none => simp [hp, hab, hb] at h
      | some z' =>
        simp only [hp, hab, hb, Option.some.injEq, Prod.mk.injEq] at h
        obtain ⟨rfl, rfl, rfl⟩ := h
        rw [← Y.C.hmk e ds z' hb]
        have hm := opd_mean r (x := x)
        cases ho : opd s x with
        | l y =>
          rw [ho] at hm hp
          simp only [parts, Option.some.injEq] at hp
          subst hp
          cases hk : Y.kd e with
          | nil => rw [hk] at hab; cases hab
          | cons kd ks =>
            rw [hk] at hab
            simp only [absb] at hab
            cases h1 : abs1 s.m kd y with
            | none => simp [h1] at hab
            | some q1 =>
              obtain ⟨y', i1, d1⟩ := q1
              have ho := abs1_mean r.hp h1 hm (fun τ e' => hY.pos e τ (by rw [hk, e']; simp))
              have : (a.eval x).cells = #[a.eval x] := one_cells ho.one
              rw [this]
              refine absb_mean r.hp (ks := kd :: ks) (xs := [y]) (by simp only [absb]; exact hab) ⟨rfl, fun i u c h5 h6 => ?_⟩ (fun kd' hkd τ e' => hY.pos e τ (by rw [hk]; subst e'; exact hkd))
              cases i with
              | zero => simp at h5 h6; subst h5; subst h6; exact hm
              | succ i => simp at h5
        | a ds' =>
          rw [ho] at hm hp
          simp only [parts, Option.some.injEq] at hp
          subst hp
          obtain ⟨vs, hv, hM⟩ := hm
          rw [hv]
          exact absb_mean r.hp hab hM (fun kd' hkd τ e' => hY.pos e τ (by subst e'; exact hkd))
        | t xs => rw [ho] at hp; cases hp
theorem absEs_mean (hY : LayOk Y) (r : Rel Y.C E s a w β) {e : Nat} : ∀ {ps : List (Nat × Operand)} {n : Nat} {l : List (U.El e)} {ids : List Nat} {d : Bool}, absEs Y s e n ps = some (l, ids, d) →
    ∃ vs : List Value, (ps.map fun (i, x) => (i, a.eval x)) = (vs.zipIdx n |>.map fun (v, j) => (j, v)) ∧ vs.length = ps.length ∧ l.length = ps.length ∧ (∀ v ∈ vs, v.cells.size = U.K e) ∧ OwL Y.C w (E.X β) d (vs.map fun v => v.cells.toList).flatten (l.map (Y.C.cel e)).flatten (blks β ids)
  | [], n, l, ids, d, h => by
    simp only [absEs, Option.some.injEq, Prod.mk.injEq] at h
    obtain ⟨rfl, rfl, rfl⟩ := h
    exact ⟨[], rfl, rfl, rfl, by simp, .n⟩
  | (i, x) :: ps, n, l, ids, d, h => by
    simp only [absEs] at h
    cases hb : Nat.beq i n with
    | false => simp [hb] at h
    | true =>
      have hin : i = n := Nat.eq_of_beq_eq_true hb
      subst hin
      simp only [hb, cond_true] at h
      cases h1 : absE Y s e (opd s x) with
      | none => simp [h1] at h
      | some q =>
        obtain ⟨z, i1, d1⟩ := q
        cases h2 : absEs Y s e (Nat.succ i) ps with
        | none => simp [h1, h2] at h
        | some q2 =>
          obtain ⟨zs, i2, d2⟩ := q2
          simp only [h1, h2, Option.some.injEq, Prod.mk.injEq] at h
          obtain ⟨rfl, rfl, rfl⟩ := h
          obtain ⟨vs, k1, k2, k3, k4, k5⟩ := absEs_mean hY r h2
          have hO := absE_mean hY r h1
          refine ⟨a.eval x :: vs, by simp [List.zipIdx_cons, k1], by simp [k2], by simp [k3], fun v hv => ?_, ?_⟩
          · rcases List.mem_cons.1 hv with rfl | hv
            · have := hO.len; rw [Y.C.hlen] at this; simpa using this
            · exact k4 v hv
          · rw [blks_app]
            simp only [List.map_cons, List.flatten_cons]
            exact OwL.app (hO.fl (by simp; exact fun h _ => h)) (k5.fl (by simp))

theorem build_sound (hTI : tiOk P TI = true) (hY : LayOk Y) (r : Rel Y.C E s a w β) {o : Oper} {t : TypeId} {n e ek eb k : Nat} {zz : List Kz} {ps : Array (Nat × Operand)} {l : List (U.El e)} {ids : List Nat} {d : Bool} (ho : o.op = .buildSlice t n ps)
    (h1 : fnd TI t = some ⟨.sl e ek eb, k, zz⟩) (h2 : ps.toList.length = n) (h3 : n * ek ≤ 16777216) (h4 : okE (U := U) e ek e = true) (h5 : absEs Y s e 0 ps.toList = some (l, ids, d)) (hJ : (s.m.o.length :: ids).Nodup) :
    SO P Y.C E a w o (.l (.own (len s.m.o) s.m.k)) ⟨s.t, ⟨kil (Nat.succ s.m.k) ids (upd (s.m.o ++ [⟨.dead, s.m.k, s.m.k⟩]) (len s.m.o) ⟨.tree e d l, s.m.k, Nat.succ s.m.k⟩), Nat.succ s.m.k, s.m.ns⟩, s.fr⟩ true := fun K Q hK => by
  have hsl := (ti_sl (tiOk_at hTI h1) rfl).1
  obtain ⟨_, _, _, _, _, _, _, _, hk0⟩ := slB_spec hsl
  simp only [okE, Bool.and_eq_true] at h4
  have hKe : U.K e = ek := Nat.eq_of_beq_eq_true h4.2
  obtain ⟨vs, k1, k2, k3, k4, k5⟩ := absEs_mean hY r h5
  rw [hKe] at k4
  obtain ⟨cells, q1, q2⟩ := build_exec (w := w) hsl (k2.trans h2) h3 k1 k4 ho
  have he : Ext w (w.alloc (.cells cells e)) := Ext.alloc _ _
  have hnm : n ≤ maxLen := by
    have : n * 1 ≤ n * ek := Nat.mul_le_mul_left _ hk0
    unfold maxLen; omega
  have r1 := r.add he [((⟨.dead, s.m.k, s.m.k⟩ : EO U), (⟨some w.heap.size, n, n, []⟩ : Tr))] (by simp) (by simp [Tr.all]) (by simp [Tr.all]) (fun _ x hx => by simp at hx; subst hx; trivial)
  have hli : (s.m.o ++ [(⟨.dead, s.m.k, s.m.k⟩ : EO U)])[s.m.o.length]? = some ⟨.dead, s.m.k, s.m.k⟩ := by simp
  have hlb : (β ++ [(⟨some w.heap.size, n, n, []⟩ : Tr)])[s.m.o.length]? = some ⟨some w.heap.size, n, n, []⟩ := by rw [← r.hp.len]; simp
  have hidl : ∀ j ∈ ids, ∀ u, (β ++ [(⟨some w.heap.size, n, n, []⟩ : Tr)])[j]? = some u → β[j]? = some u := fun j hj u hu => by
    have hne : j ≠ s.m.o.length := fun e => (List.nodup_cons.1 hJ).1 (e ▸ hj)
    by_cases hl : j < β.length
    · rwa [List.getElem?_append_left hl] at hu
    · have := lt_of_some hu
      simp at this
      rw [r.hp.len] at this hl; omega
  have hbl : blks (β ++ [(⟨some w.heap.size, n, n, []⟩ : Tr)]) ids = blks β ids := by
    unfold blks
    congr 1
    apply List.map_congr_left
    intro j hj
    by_cases hl : j < β.length
    · rw [List.getElem?_append_left hl]
    · have hne : j ≠ s.m.o.length := fun e => (List.nodup_cons.1 hJ).1 (e ▸ hj)
      rw [List.getElem?_eq_none (by simp; rw [r.hp.len] at hl ⊢; omega), List.getElem?_eq_none (by omega)]
  obtain ⟨β', r2, r3, r4⟩ := r1.turn (w' := w.alloc (.cells cells e)) (J := ids) (ob := .tree e d l) (rv := s.m.k) (t' := ⟨some w.heap.size, n, n, blks β ids⟩) hli hlb hJ (Nat.le_refl _) rfl rfl rfl (fun _ _ _ => rfl)
    (fun b hb => by
      simp only [Tr.all, Option.toList_some, List.cons_append, List.nil_append, List.mem_cons] at hb
      rcases hb with rfl | hb
      · exact ⟨by simp, .inr (.inl (by simp [Tr.all]))⟩
      · obtain ⟨j, hj, u, hu, hub⟩ := blks_in hb
        have := (r.hp.new j u b hu hub).2
        refine ⟨by simp; omega, .inr (.inr ⟨j, hj, u, ?_, hub⟩)⟩
        rw [List.getElem?_append_left (lt_of_some hu)]; exact hu)
    (by
      simp only [Tr.all, Option.toList_some, List.cons_append, List.nil_append]
      rw [List.nodup_cons]
      refine ⟨fun hb => ?_, blks_nd r.hp (List.nodup_cons.1 hJ).2⟩
      obtain ⟨j, _, u, hu, hub⟩ := blks_in hb
      have := (r.hp.new j u _ hu hub).2; omega)
    (.inl ⟨rfl, rfl⟩) (fun h => by cases h) (fun β' m' hev => by
      refine ⟨by rw [hKe]; exact hk0, cells.toList, ?_, ?_⟩
      · rw [k3, h2]
        exact World.ownsRow_lit w cells n (Nat.zero_le _) hnm (by
          have hc : cells.size = cells.toList.length := by simp
          rw [hc, q2, k5.len, flat_len (Y.C.hlen e), k3, h2])
      · rw [q2]
        have hX0 : ∀ b, b < w.heap.size → E.X (β ++ [(⟨some w.heap.size, n, n, []⟩ : Tr)]) b → E.X β b := fun b hb hx => by
          rcases hx with h | h | ⟨u, hu, hub⟩
          · exact .inl h
          · exact .inr (.inl h)
          · rcases List.mem_append.1 hu with hu | hu
            · exact .inr (.inr ⟨u, hu, hub⟩)
            · simp at hu; subst hu; simp [Tr.all] at hub; omega
        exact k5.conv he.size (fun b hb hx => hX0 b hb (hev.hX b (Nat.lt_of_lt_of_le hb he.size) hx)) (fun p u _ hc => he.cell hc) (fun b hb => by
          obtain ⟨j, _, u, hu, hub⟩ := blks_in hb
          exact he.block b (r.hp.new j u b hu hub).2))
  rw [← len_eq] at r2 r3
  refine wpo (w' := w.alloc (.cells cells e)) (v := .slice (some ⟨w.heap.size, 0, none⟩) n n) (.inl q1) (hK _ _ β' r2 (fun _ => ?_) (fun _ => he))
  refine ⟨⟨Nat.le_succ _, rfl⟩, ⟨.tree e d l, s.m.k, Nat.succ s.m.k⟩, _, ?_, r3, fun _ => rfl⟩
  rw [kil_out (by rw [len_eq]; exact (List.nodup_cons.1 hJ).1), upd_eq, List.getElem?_set_self (by rw [len_eq]; simp)]
end
end Go.EV
