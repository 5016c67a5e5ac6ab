/-
  THE EVALUATOR's KIT, sixteenth part: append. Plain theorems over any program; the conditions stand in each.
-/
import Derived.Test.YtiojlennpdmapaaGreatEVo
set_option linter.unusedVariables false
set_option linter.unusedSimpArgs false
namespace Go.EV
open Go.RowKit Go.VK
variable {U : Uni} {Y : Lay U} {TI : List (Nat × TInfo)} {P : Program} {g : GI} {E : Env g}
section
variable {s : St U} {a : Act} {w : World} {β : List Tr} {α : Type}

theorem flat_ix {α β : Type} {f : α → List β} {k : Nat} (hk : ∀ x, (f x).length = k) (h0 : 0 < k) : ∀ {l : List α} {q : Nat} {c : β}, (l.map f).flatten[q]? = some c → ∃ x, l[q / k]? = some x ∧ (f x)[q % k]? = some c
  | [], q, c, h => by simp at h
  | x :: l, q, c, h => by
    simp only [List.map_cons, List.flatten_cons] at h
    by_cases hq : q < k
    · rw [List.getElem?_append_left (by rw [hk]; exact hq)] at h
      exact ⟨x, by rw [Nat.div_eq_of_lt hq]; rfl, by rw [Nat.mod_eq_of_lt hq]; exact h⟩
    · rw [List.getElem?_append_right (by rw [hk]; omega), hk] at h
      obtain ⟨y, h1, h2⟩ := flat_ix hk h0 h
      have e : q = q - k + k := by omega
      refine ⟨y, ?_, ?_⟩
      · rw [e, Nat.add_div_right _ h0]; simpa using h1
      · rw [e, Nat.add_mod_right]; exact h2
theorem OwL.of_pt {C : Cod U} {X : Nat → Prop} {d : Bool} : ∀ {vs : List Value} {xs : List (Lf U)}, vs.length = xs.length → (∀ (i : Nat) (v : Value) (x : Lf U), vs[i]? = some v → xs[i]? = some x → Ow C w X d v x []) → OwL C w X d vs xs []
  | [], [], _, _ => .n
  | [], _ :: _, h, _ => by simp at h
  | _ :: _, [], h, _ => by simp at h
  | v :: vs, x :: xs, h, h1 => by
    have := OwL.c (h1 0 v x rfl rfl) (OwL.of_pt (by simpa using h) fun i v x a b => h1 (i + 1) v x (by simpa using a) (by simpa using b))
    simpa using this
theorem anySl_iff : ∀ {l : List Kd}, anySl l = false ↔ ∀ τ, Kd.sl τ ∉ l
  | [] => by simp [anySl]
  | x :: l => by
    have e : anySl (x :: l) = cond x.isSl true (anySl l) := rfl
    rw [e]
    cases x with
    | sl τ => exact ⟨fun h => (by cases h), fun h => absurd List.mem_cons_self (h τ)⟩
    | _ => simp only [Kd.isSl, cond_false, List.mem_cons, reduceCtorEq, false_or]; exact anySl_iff
theorem flatT_cel (hY : LayOk Y) {τ : Nat} (h : flatT Y τ = true) {z : U.El τ} {c : Lf U} (hc : c ∈ Y.C.cel τ z) : ∀ τ' l, c ≠ .sl τ' l := fun τ' l e => by
  subst e
  have h' : anySl (Y.kd τ) = false := by
    unfold flatT at h; cases ha : anySl (Y.kd τ) with
    | false => rfl
    | true => rw [ha] at h; cases h
  have hk := hY.kds τ z
  have : some (Kd.sl τ') ∈ (Y.kd τ).map some := by rw [← hk]; exact List.mem_map.2 ⟨_, hc, rfl⟩
  obtain ⟨k, hk1, hk2⟩ := List.mem_map.1 this
  injection hk2 with hk2; subst hk2
  exact anySl_iff.1 h' τ' hk1
theorem cel_allOne (Y : Lay U) {τ : Nat} {z : U.El τ} : allOne (U.enc τ z) = true := by
  rw [← Y.C.hcel]
  have : ∀ (cs : List (Lf U)), (∀ c ∈ cs, c.isData = true) → allOne (cs.map Lf.toV) = true := by
    intro cs
    induction cs with
    | nil => intro _; rfl
    | cons c cs ih => intro h; simp only [List.map_cons, allOne, Bool.and_eq_true]; exact ⟨Lf.toV_data (h c (by simp)), ih fun c hc => h c (by simp [hc])⟩
  exact this _ (Y.C.hdat τ z)
/-- Data that are read become elements of a tree: flat ones, or such as stay data. -/
theorem src_of_rd (hY : LayOk Y) {e : Nat} (hk : 0 < U.K e) {X Z : Nat → Prop} {d : Bool} {v : Value} {l : List (U.El e)} (h : Rd w Z [] v (.slice (U.K e) (l.map (U.enc e)))) (hd : flatT Y e = true ∨ (d = false ∧ ∀ b, X b → Z b)) :
    ∃ (A : Option Addr) (c : Nat) (news : List Value), v = .slice A l.length c ∧ news.length = l.length * U.K e ∧ (l.length = 0 ∨ ∃ p, A = some p ∧ ∀ j u, news[j]? = some u → w.cell? (p.add j) = some u) ∧ OwL Y.C w X d news (l.map (Y.C.cel e)).flatten [] := by
  obtain ⟨A, c, xs, h1, h2, h3, h4, h5, h6⟩ := src_cells h (fun e' he => by
    obtain ⟨z, _, rfl⟩ := List.mem_map.1 he
    exact cel_allOne Y)
  rw [List.length_map] at h1 h2
  refine ⟨A, c, xs, h1, h2, h3.imp (fun hn => by simpa using congrArg List.length hn) id, OwL.of_pt (by rw [h2, flat_len (Y.C.hlen e)]) fun q u x hu hx => ?_⟩
  obtain ⟨z, q1, q2⟩ := flat_ix (Y.C.hlen e) hk hx
  have hz : (l.map (U.enc e))[q / U.K e]? = some (U.enc e z) := by rw [List.getElem?_map, q1]; rfl
  have hc : (U.enc e z)[q % U.K e]? = some x.toV := by rw [← Y.C.hcel, List.getElem?_map, q2]; rfl
  obtain ⟨u', k1, k2⟩ := h6 _ _ _ _ hz hc
  have hq : q / U.K e * U.K e + q % U.K e = q := by rw [Nat.mul_comm]; exact Nat.div_add_mod q _
  rw [hq, hu] at k1
  injection k1 with k1; subst k1
  have hmem := List.mem_of_getElem? q2
  have hdat := Y.C.hdat e z x hmem
  cases x with
  | int k n => obtain ⟨rfl, a1, a2⟩ := k2.int_inv; exact .int a1 a2
  | bool b => obtain rfl := k2.bool_inv; exact .bool
  | str b => obtain ⟨rfl, a1⟩ := k2.str_inv; exact .str a1
  | sl τ' l' =>
    rcases hd with hd | ⟨hd, hX⟩
    · exact absurd rfl (flatT_cel hY hd hmem τ' l')
    · exact .fz hd (Rd.conv k2 (Nat.le_refl _) (fun b _ hb => hX b hb) (fun _ _ _ h => h) (fun _ _ h => h))
  | _ => cases hdat

theorem notIn_own {i j r : Nat} (h : notIn i (.own j r : Lf U) = true) : j ≠ i := fun e => by
  subst e
  have : notIn j (.own j r : Lf U) = cond (Nat.beq j j) false true := rfl
  rw [this, show Nat.beq j j = true from Nat.beq_refl j] at h; cases h

/-- What is appended to. -/
theorem apD_mean (r : Rel Y.C E s a w β) {e i : Nat} (hke : 0 < U.K e) {x : Operand} {px : Lf U} {d : Bool} {l : List (U.El e)} {s1 : St U} (hx : opd s x = .l px) (h : apD s e px = some (i, d, l, s1)) :
    ∃ β1 t rv cv, Rel Y.C E s1 a w β1 ∧ s1.t = s.t ∧ s1.m.ns = s.m.ns ∧ s1.fr = s.fr ∧ β1[i]? = some t ∧ s1.m.o[i]? = some ⟨.tree e d l, rv, cv⟩ ∧ a.eval x = t.val ∧ rv ≤ s1.m.k := by
  have hm := sv_l r hx
  cases px with
  | nil =>
    simp only [apD, Option.some.injEq, Prod.mk.injEq] at h
    obtain ⟨rfl, rfl, rfl, rfl⟩ := h
    have r1 := r.add (Ext.refl w) [((⟨.tree e true [], s.m.k, s.m.k⟩ : EO U), noTr)] (by simp) (by simp [noTr_all]) (by simp [noTr_all]) (fun hev x hx => by
      simp at hx; subst hx
      exact ⟨hke, [], World.ownsRow_nil w 0 e (U.K e), .n⟩)
    refine ⟨_, noTr, s.m.k, s.m.k, r1, rfl, rfl, rfl, ?_, ?_, ?_, Nat.le_refl _⟩
    · rw [len_eq, ← r.hp.len]; simp
    · simp [psh, len_eq]
    · have hm' : a.eval x = .slice none 0 0 := hm
      rw [hm']; rfl
  | own j q =>
    simp only [apD, nth_eq] at h
    obtain ⟨_, e', t, k1, k2, k3⟩ := hm
    simp only [k1] at h
    obtain ⟨ob, rv, cv⟩ := e'
    cases ob with
    | tree τ d0 l0 =>
      cases hb : Nat.beq rv q with
      | false => simp [hb] at h
      | true =>
        simp only [hb, cond_true] at h
        cases hs : slq e τ l0 with
        | none => simp [hs] at h
        | some l1 =>
          simp only [hs, Option.some.injEq, Prod.mk.injEq] at h
          obtain ⟨rfl, rfl, rfl, rfl⟩ := h
          obtain ⟨rfl, hh⟩ := slq_some hs
          obtain rfl := eq_of_heq hh
          exact ⟨β, t, rv, cv, r, rfl, rfl, rfl, k2, k1, k3 (Nat.eq_of_beq_eq_true hb), (r.hp.vers _ _ k1).1⟩
    | _ => cases h
  | _ => cases h

/-- What is appended. -/
theorem apS_mean (hY : LayOk Y) (r : Rel Y.C E s a w β) {e i : Nat} (hke : 0 < U.K e) {py : Lf U} {v : Value} {l : List (U.El e)} {ids : List Nat} {d : Bool} (hm : py.mean Y.C w (E.X β) β s.m v) (h : apS Y s.m e i py = some (l, ids, d)) :
    (i :: ids).Nodup ∧ ∃ (A : Option Addr) (c : Nat) (news : List Value), v = .slice A l.length c ∧ news.length = l.length * U.K e ∧ (l.length = 0 ∨ ∃ p, A = some p ∧ ∀ j u, news[j]? = some u → w.cell? (p.add j) = some u) ∧ ∃ B, OwL Y.C w (E.X β) d news (l.map (Y.C.cel e)).flatten B ∧ (∀ b ∈ B, b ∈ blks β ids) ∧ B.Nodup := by
  by_cases hn : py = .nil
  · subst hn
    simp only [apS, Option.some.injEq, Prod.mk.injEq] at h
    obtain ⟨rfl, rfl, rfl⟩ := h
    obtain rfl := hm
    exact ⟨by simp, none, 0, [], rfl, by simp, .inl rfl, [], .n, by simp, List.nodup_nil⟩
  · have h' : (bif flatT Y e then (match rdl s.m py with
      | some (.sl τ l) => match slq e τ l with
        | some l => bif notIn i py then some (l, [], true) else none
        | none => none
      | _ => none) else (match py with
      | .sl τ l => match slq e τ l with
        | some l => some (l, [], false)
        | none => none
      | .own j r => match nth s.m.o j with
        | some ⟨.tree τ d l, rv, _⟩ => bif Nat.beq rv r && notIn i py then (match slq e τ l with
          | some l => some (l, [j], d)
          | none => none) else none
        | _ => none
      | _ => none)) = some (l, ids, d) := by
      cases py <;> first | exact absurd rfl hn | exact h
    cases hf : flatT Y e with
    | true =>
      rw [hf] at h'
      simp only [cond_true] at h'
      split at h'
      · rename_i τ l0 hr
        cases hs : slq e τ l0 with
        | none => simp [hs] at h'
        | some l1 =>
          simp only [hs] at h'
          cases hni : notIn i py with
          | false => simp [hni] at h'
          | true =>
            simp only [hni, cond_true, Option.some.injEq, Prod.mk.injEq] at h'
            obtain ⟨rfl, rfl, rfl⟩ := h'
            obtain ⟨rfl, hh⟩ := slq_some hs
            obtain rfl := eq_of_heq hh
            have hrd := (rdl_mean r.hp hm hr (Z := fun _ => False) (fun _ h => h.elim) (.inr fun _ _ _ _ _ h => h)).2
            obtain ⟨A, c, news, q1, q2, q3, q4⟩ := src_of_rd (X := E.X β) (d := true) hY hke hrd (.inl hf)
            exact ⟨by simp, A, c, news, q1, q2, q3, [], q4, by simp, List.nodup_nil⟩
      · cases h'
    | false =>
      rw [hf] at h'
      simp only [cond_false] at h'
      cases py with
      | nil => exact absurd rfl hn
      | sl τ l0 =>
        simp only at h'
        cases hs : slq e τ l0 with
        | none => simp [hs] at h'
        | some l1 =>
          simp only [hs, Option.some.injEq, Prod.mk.injEq] at h'
          obtain ⟨rfl, rfl, rfl⟩ := h'
          obtain ⟨rfl, hh⟩ := slq_some hs
          obtain rfl := eq_of_heq hh
          obtain ⟨A, c, news, q1, q2, q3, q4⟩ := src_of_rd (X := E.X β) (d := false) hY hke (Z := E.X β) hm (.inr ⟨rfl, fun _ h => h⟩)
          exact ⟨by simp, A, c, news, q1, q2, q3, [], q4, by simp, List.nodup_nil⟩
      | own j q =>
        simp only at h'
        split at h'
        · rename_i τ d0 l0 rv cv ho
          rw [nth_eq] at ho
          cases hb : (Nat.beq rv q && notIn i (.own j q : Lf U)) with
          | false => rw [hb] at h'; cases h'
          | true =>
            rw [hb] at h'
            simp only [cond_true] at h'
            simp only [Bool.and_eq_true] at hb
            cases hs : slq e τ l0 with
            | none => simp [hs] at h'
            | some l1 =>
              simp only [hs, Option.some.injEq, Prod.mk.injEq] at h'
              obtain ⟨rfl, rfl, rfl⟩ := h'
              obtain ⟨rfl, hh⟩ := slq_some hs
              obtain rfl := eq_of_heq hh
              obtain ⟨_, e', t, k1, k2, k3⟩ := hm
              rw [ho] at k1; injection k1 with k1; subst k1
              have hv := k3 (Nat.eq_of_beq_eq_true hb.1)
              have hok := r.hp.ok j t _ k2 ho
              obtain ⟨_, xs, c1, c2⟩ := hok
              have hbl : blks β [j] = t.all := by simp [blks, k2]
              have hsub : ∀ b ∈ t.bs, b ∈ blks β [j] := fun b hb' => by rw [hbl]; simp [Tr.all, hb']
              have hnd : t.bs.Nodup := (List.nodup_append.1 (r.hp.nd j t k2)).2.1
              refine ⟨by simp; exact (notIn_own hb.2).symm, ?_⟩
              rcases ownsRow_root c1 with ⟨b1, b2, b3, b4, b5⟩ | ⟨b, cur, b1, b2, b3, b4, b5, b6, b7⟩
              · have : l0 = [] := List.eq_nil_of_length_eq_zero b2
                subst this
                exact ⟨none, 0, xs, by rw [hv]; simp [Tr.val, b1, b4, b5], c1.1, .inl rfl, t.bs, c2, hsub, hnd⟩
              · exact ⟨some ⟨b, 0, none⟩, t.c, xs, by rw [hv]; simp [Tr.val, b1, b2], c1.1, .inr ⟨_, rfl, fun j u hu => ownsRow_cell c1 b1 hu⟩, t.bs, c2, hsub, hnd⟩
        · cases h'
      | _ => cases h'

theorem grow_tr {e k n : Nat} {v : Value} {xs : List Value} {w : World} (h : w.ownsRow 0 e k v n xs) (bs : List Nat) : ∃ t : Tr, t.val = v ∧ t.b = v.ownBlock ∧ t.bs = bs := by
  rcases h.2 with ⟨rfl, _⟩ | ⟨gg, cap, cur, rfl, _⟩
  · exact ⟨⟨none, 0, 0, bs⟩, rfl, rfl, rfl⟩
  · exact ⟨⟨some gg, n, cap, bs⟩, rfl, rfl, rfl⟩

theorem append_sound (hTI : tiOk P TI = true) (hY : LayOk Y) (r : Rel Y.C E s a w β) {o : Oper} {t : TypeId} {x y : Operand} {e ek eb k i : Nat} {zz : List Kz} {px py : Lf U} {d d' : Bool} {l l' : List (U.El e)} {s1 : St U} {ids : List Nat}
    (ho : o.op = .call { callee := .builtin .append, args := #[x, y], argTypes := #[t, t] }) (h1 : fnd TI t = some ⟨.sl e ek eb, k, zz⟩) (h2 : Nat.ble eb 2048 = true) (h3 : okE (U := U) e ek e = true) (h4 : opd s x = .l px) (h5 : opd s y = .l py)
    (h6 : apD s e px = some (i, d, l, s1)) (h7 : apS Y s1.m e i py = some (l', ids, d')) (hg : apOk l l') :
    SO P Y.C E a w o (.l (.own i (Nat.succ s1.m.k))) ⟨s1.t, ⟨kil (Nat.succ s1.m.k) ids (upd s1.m.o i ⟨.tree e (d && d') (l ++ l'), Nat.succ s1.m.k, Nat.succ s1.m.k⟩), Nat.succ s1.m.k, s1.m.ns⟩, s1.fr⟩ false := fun K Q hK => by
  have hsl := (ti_sl (tiOk_at hTI h1) rfl).1
  obtain ⟨_, _, _, _, _, _, _, _, hk0⟩ := slB_spec hsl
  simp only [okE, Bool.and_eq_true] at h3
  have hKe : U.K e = ek := Nat.eq_of_beq_eq_true h3.2
  have hke : 0 < U.K e := by rw [hKe]; exact hk0
  obtain ⟨β1, tr, rv, cv, r1, e1, e2, e3, e4, e5, e6, _⟩ := apD_mean r hke h4 h6
  have h5' : opd s1 y = .l py := by
    rw [← h5]; unfold opd opr; rw [e1, e2]
  obtain ⟨hJ, A, c, news, q1, q2, q3, B, q4, q5, q6⟩ := apS_mean hY r1 hke (sv_l r1 h5') h7
  have hok := r1.hp.ok i tr _ e4 e5
  obtain ⟨_, xs, c1, c2⟩ := hok
  have hb' : eb ≤ 2048 := Nat.le_of_ble_eq_true h2
  unfold apOk at hg
  rw [hKe] at c1 q2
  obtain ⟨v', w', a1, a2, a3, a4⟩ := append_run (P := P) (ty := o.type) hsl c1 (A := A) (c := c) q2 q3 q4.ones (by unfold maxLen; omega) (by
    calc (l.length + l'.length) * eb ≤ 68719476736 * 2048 := Nat.mul_le_mul hg hb'
      _ = 140737488355328 := by decide)
  obtain ⟨t2, t3, t4, t5⟩ := grow_tr a2 (tr.bs ++ B)
  have htv : tr.val.ownBlock = tr.b := by cases h : tr.b <;> simp [Tr.val, Value.ownBlock, h]
  rw [htv] at a3 a4
  rw [← t4] at a4
  have hnd := r1.hp.nd i tr e4
  have hBd : ∀ b ∈ B, b ∉ tr.all := fun b hb hb' => by
    obtain ⟨j, hj, u, hu, hub⟩ := blks_in (q5 b hb)
    exact r1.hp.dist j i u tr b (fun e => (List.nodup_cons.1 hJ).1 (e ▸ hj)) hu e4 hub hb'
  have hlt : ∀ b ∈ B, b < w.heap.size := fun b hb => by
    obtain ⟨j, hj, u, hu, hub⟩ := blks_in (q5 b hb)
    exact (r1.hp.new j u b hu hub).2
  have hne : ∀ b, (b ∈ tr.bs ∨ b ∈ B) → some b ≠ tr.b := fun b hb e => by
    rcases hb with hb | hb
    · have h' : b ∈ tr.b.toList := by rw [← e]; simp
      exact (List.nodup_append.1 hnd).2.2 b h' b hb rfl
    · exact hBd b hb (Tr.root e.symm)
  obtain ⟨β', r2, r3, _⟩ := r1.turn (w' := w') (J := ids) (ob := .tree e (d && d') (l ++ l')) (rv := s1.m.k + 1) (t' := t2) e5 e4 hJ a3.size a3.os a3.tape a3.output
    (fun b hb hn => a3.block b hb (fun e => hn (Tr.root e.symm)))
    (fun b hb => by
      simp only [Tr.all, t5, List.mem_append, Option.mem_toList] at hb
      rcases hb with hb | hb | hb
      · rcases a4 with h | h
        · have hb2 : tr.b = some b := by rw [← h]; exact hb
          exact ⟨Nat.lt_of_lt_of_le (r1.hp.new i tr b e4 (Tr.root hb2)).2 a3.size, .inr (.inl (Tr.root hb2))⟩
        · rw [h] at hb
          have hb2 : b = w.heap.size := by simpa using hb.symm
          refine ⟨?_, .inl (by omega)⟩
          have := a2.lt b (by rw [← t4, h, hb2])
          exact this.2
      · exact ⟨Nat.lt_of_lt_of_le (r1.hp.new i tr b e4 (by simp [Tr.all, hb])).2 a3.size, .inr (.inl (by simp [Tr.all, hb]))⟩
      · obtain ⟨j, hj, u, hu, hub⟩ := blks_in (q5 b hb)
        exact ⟨Nat.lt_of_lt_of_le (hlt b hb) a3.size, .inr (.inr ⟨j, hj, u, hu, hub⟩)⟩)
    (by
      have hbs : (tr.bs ++ B).Nodup := by
        rw [List.nodup_append]
        refine ⟨(List.nodup_append.1 hnd).2.1, q6, fun b hb b' hb' e => ?_⟩
        subst e; exact hBd b hb' (by simp [Tr.all, hb])
      rw [Tr.all, t5, List.nodup_append]
      refine ⟨by cases t2.b <;> simp, hbs, fun b hb b' hb' e => ?_⟩
      subst e
      have hb2 : t2.b = some b := by simpa using hb
      rcases a4 with h | h
      · rw [h] at hb2
        exact hne b (by simpa using hb') hb2.symm
      · rw [h] at hb2
        injection hb2 with hb2
        rcases List.mem_append.1 hb' with hb' | hb'
        · have := (r1.hp.new i tr b e4 (by simp [Tr.all, hb'])).2; omega
        · have := hlt b hb'; omega)
    (.inr rfl) (fun h => by cases h) (fun β' m' hev => by
      refine ⟨hke, xs ++ news, ?_, ?_⟩
      · rw [t3, List.length_append, hKe]; exact a2
      · rw [List.map_append, List.flatten_append, t5]
        have hsoft : (d && d') = true → d = true := fun h => by simp at h; exact h.1
        have hsoft' : (d && d') = true → d' = true := fun h => by simp at h; exact h.2
        exact OwL.app ((c2.conv hev.sz hev.hX hev.hc (fun b hb => a3.block b (r1.hp.new i tr b e4 (by simp [Tr.all, hb])).2 (hne b (.inl hb)))).fl hsoft)
          ((q4.conv hev.sz hev.hX hev.hc (fun b hb => a3.block b (hlt b hb) (hne b (.inr hb)))).fl hsoft'))
  refine wpo (w' := w') (v := v') (.inl ?_) (hK _ _ β' r2 (fun _ => ?_) (fun h => by cases h))
  · simp only [execOp, ho, resolve, invoke, builtin, Sem.run_bind, Sem.run_pure, Result.andThen_ok, List.map_toArray, List.map_cons, List.map_nil, e6, q1, a1]
  · refine ⟨⟨Nat.le_refl _, by rw [← t3]; rfl⟩, ⟨.tree e (d && d') (l ++ l'), s1.m.k + 1, s1.m.k + 1⟩, t2, ?_, r3, fun _ => t3.symm⟩
    rw [kil_out (List.nodup_cons.1 hJ).1, upd_eq, List.getElem?_set_self (lt_of_some e5)]
end
end Go.EV
