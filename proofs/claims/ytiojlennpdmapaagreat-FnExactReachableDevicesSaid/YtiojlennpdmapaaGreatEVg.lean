/-
  THE EVALUATOR's KIT, seventh part: fields, loads, builds. Plain theorems over any program; the conditions stand in each.
-/
import Derived.Test.YtiojlennpdmapaaGreatEVf
set_option linter.unusedVariables false
set_option linter.unusedSimpArgs false
namespace Go.EV
open Go.RowKit Go.VK
variable {U : Uni} {Y : Lay U} {TI : List (Nat × TInfo)} {P : Program} {g : GI} {E : Env g}
section
variable {C : Cod U} {s : St U} {m : Mm U} {a : Act} {w w' : World} {β β' : List Tr} {X : Nat → Prop}

theorem cut_cases {i : TInfo} {cs : List (Lf U)} {off : Nat} {x : Sv U} (h : cut i cs off = some x) :
    (∃ fs ds, i.u = .st fs ∧ ds = (cs.drop off).take i.k ∧ ds.length = i.k ∧ x = .a ds) ∨ ((∀ fs, i.u ≠ .st fs) ∧ ∃ y, cs[off]? = some y ∧ x = .l y) := by
  unfold cut at h
  split at h
  · rename_i fs hu
    left
    simp only [drp_eq, tk_eq, len_eq] at h
    cases hb : Nat.beq ((cs.drop off).take i.k).length i.k with
    | false => rw [hb] at h; cases h
    | true =>
      simp only [hb, cond_true, Option.some.injEq] at h
      exact ⟨fs, _, hu, rfl, Nat.eq_of_beq_eq_true hb, h.symm⟩
  · rename_i hu
    right
    refine ⟨fun fs he => hu fs he, ?_⟩
    rw [nth_eq] at h
    cases hc : cs[off]? with
    | none => simp [hc] at h
    | some y => simp only [hc, Option.some.injEq] at h; exact ⟨y, rfl, h.symm⟩
theorem ti_one {t : Nat} {i : TInfo} (h : tiB P t i = true) (hu : ∀ fs, i.u ≠ .st fs) : oneB P t = true ∧ i.k = 1 := by
  cases hi : i.u with
  | int k => have := ti_int h hi; exact this.2
  | bool => have := ti_bool h hi; exact this.2
  | str => have := ti_str h hi; exact this.2
  | sl e ek eb => have := ti_sl h hi; exact this.2
  | st fs => exact absurd hi (hu fs)
theorem add_zero' (p : Addr) : p.add 0 = p := by simp [Addr.add]

/-- A value of type t is loaded where these cells stand. -/
theorem load_cut {t : Nat} {i : TInfo} {p : Addr} {vs : List Value} {cs : List (Lf U)} {off : Nat} {x : Sv U} (hti : tiB P t i = true) (hc : cut i cs off = some x) (hM : Ms C w X β m vs (cs.drop off))
    (hcell : ∀ w', Ext w w' → ∀ (j : Nat) (v : Value), vs[j]? = some v → w'.cell? (p.add j) = some v) :
    ∃ v, (∀ w', Ext w w' → (loadVar t p).run P w' = .ok v w') ∧ x.mean C w X β m v := by
  rcases cut_cases hc with ⟨fs, ds, hu, h1, h2, rfl⟩ | ⟨hu, y, h1, rfl⟩
  · have hag := (ti_st hti hu).1
    have hl : i.k ≤ vs.length := by
      rw [hM.1, ← h2, h1, List.length_take]; exact Nat.min_le_right _ _
    have hvl : (vs.take i.k).length = i.k := by rw [List.length_take]; omega
    refine ⟨.agg (vs.take i.k).toArray, fun w' he => ?_, vs.take i.k, rfl, by rw [hvl, h2], fun j v c h5 h6 => ?_⟩
    · exact loadVar_agg (by rw [hvl]; exact hag) (fun j v hj => hcell w' he j v (by rw [List.getElem?_take] at hj; split at hj; exact hj; cases hj))
    · rw [List.getElem?_take] at h5
      split at h5
      · rw [h1, List.getElem?_take] at h6
        split at h6
        · exact hM.2 j v c h5 h6
        · exact absurd ‹j < i.k› ‹¬ j < i.k›
      · simp at h5
  · have ho := (ti_one hti hu).1
    have h0 : (cs.drop off)[0]? = some y := by rw [List.getElem?_drop]; exact h1
    have hl : 0 < vs.length := by rw [hM.1]; exact lt_of_some h0
    have hv0 : vs[0]? = some vs[0] := List.getElem?_eq_getElem hl
    refine ⟨vs[0], fun w' he => ?_, hM.2 0 _ y hv0 h0⟩
    have := hcell w' he 0 _ hv0
    rw [add_zero'] at this
    exact loadVar_one ho this
theorem Ms.drop {vs : List Value} {cs : List (Lf U)} (h : Ms C w X β m vs cs) (n : Nat) : Ms C w X β m (vs.drop n) (cs.drop n) :=
  ⟨by simp [h.1], fun i v c h1 h2 => h.2 (n + i) v c (by simpa using h1) (by simpa using h2)⟩

/-- The parts of a tree round one of its elements. -/
theorem tree_at (H : Hp C E m β w) {i n : Nat} {t : Tr} {e : EO U} {τ : Nat} {d : Bool} {L : List (U.El τ)} {z : U.El τ} (hβ : β[i]? = some t) (ho : m.o[i]? = some e) (he : e.ob = .tree τ d L) (hz : L[n]? = some z) :
    ∃ (l1 l2 : List (U.El τ)) (x1 xz x2 : List Value) (B1 Bz B2 : List Nat), L = l1 ++ z :: l2 ∧ l1.length = n ∧ w.ownsRow 0 τ (U.K τ) t.val L.length (x1 ++ (xz ++ x2)) ∧ x1.length = n * U.K τ ∧ xz.length = U.K τ ∧ t.bs = B1 ++ (Bz ++ B2) ∧
      OwL C w (E.X β) d x1 (l1.map (C.cel τ)).flatten B1 ∧ OwL C w (E.X β) d xz (C.cel τ z) Bz ∧ OwL C w (E.X β) d x2 (l2.map (C.cel τ)).flatten B2 ∧ 0 < U.K τ := by
  have hok := H.ok i t e hβ ho
  rw [he] at hok
  obtain ⟨h1, xs, h2, h3⟩ := hok
  obtain ⟨l1, l2, g1, g2, g3, g4⟩ := flat_at (C.hlen τ) hz
  rw [g3] at h3
  obtain ⟨x1, xr, B1, Br, e1, e2, o1, o2⟩ := OwL.split h3
  obtain ⟨xz, x2, Bz, B2, e3, e4, o3, o4⟩ := OwL.split o2
  refine ⟨l1, l2, x1, xz, x2, B1, Bz, B2, g1, g2, ?_, ?_, ?_, ?_, o1, o3, o4, h1⟩
  · rw [← e3, ← e1]; exact h2
  · rw [o1.len, g4]
  · rw [o3.len, C.hlen]
  · rw [← e4, ← e2]

theorem inns_get {i c τ : Nat} {q : Int} {z : U.El τ} : ∀ (cs : List (Lf U)) (j0 j : Nat) (x : Lf U), (inns i c τ q z j0 cs)[j]? = some x → ∃ y, cs[j]? = some y ∧ ((∃ τ' l, y = .sl τ' l ∧ x = .inn i c τ q z (j0 + j) τ' l) ∨ ((∀ τ' l, y ≠ .sl τ' l) ∧ x = y))
  | [], j0, j, x, h => by simp [inns] at h
  | y :: cs, j0, 0, x, h => by
    refine ⟨y, rfl, ?_⟩
    cases y with
    | sl τ' l => simp [inns] at h; subst h; exact .inl ⟨τ', l, rfl, rfl⟩
    | _ => simp [inns] at h; subst h; exact .inr ⟨by simp, rfl⟩
  | y :: cs, j0, j + 1, x, h => by
    have h' : (inns i c τ q z (Nat.succ j0) cs)[j]? = some x := by
      cases y <;> simpa [inns] using h
    obtain ⟨y', h1, h2⟩ := inns_get cs (Nat.succ j0) j x h'
    refine ⟨y', by simpa using h1, ?_⟩
    rw [show j0 + (j + 1) = Nat.succ j0 + j by omega]; exact h2
theorem inns_len {i c τ : Nat} {q : Int} {z : U.El τ} : ∀ (cs : List (Lf U)) (j0 : Nat), (inns i c τ q z j0 cs).length = cs.length
  | [], _ => rfl
  | y :: cs, j0 => by cases y <;> simp [inns, inns_len cs]
theorem OwL.at {d : Bool} : ∀ {vs : List Value} {xs : List (Lf U)} {B : List Nat}, OwL C w X d vs xs B → ∀ (i : Nat) (v : Value) (x : Lf U), vs[i]? = some v → xs[i]? = some x → ∃ B', Ow C w X d v x B' ∧ ∀ b ∈ B', b ∈ B
  | _, _, _, .n, i, v, x, h, _ => by simp at h
  | _, _, _, .c h hr, i, v, x, h1, h2 => by
    cases i with
    | zero => simp at h1 h2; subst h1; subst h2; exact ⟨_, h, fun b hb => by simp [hb]⟩
    | succ i =>
      obtain ⟨B', k1, k2⟩ := OwL.at hr i v x (by simpa using h1) (by simpa using h2)
      exact ⟨B', k1, fun b hb => by simp [k2 b hb]⟩
/-- The cells of a tree's element, as leaves. -/
theorem inns_mean (H : Hp C E m β w) {i : Nat} {q : Int} {t : Tr} {e : EO U} {τ : Nat} {d : Bool} {L : List (U.El τ)} {z : U.El τ} (hβ : β[i]? = some t) (ho : m.o[i]? = some e) (he : e.ob = .tree τ d L) (h0 : 0 ≤ q) (hz : L[q.toNat]? = some z) :
    ∃ xz : List Value, Ms C w (E.X β) β m xz (inns i e.cv τ q z 0 (C.cel τ z)) ∧ ∀ b, t.b = some b → ∀ (j : Nat) (v : Value), xz[j]? = some v → w.cell? (Addr.add ⟨b, 0, none⟩ (q.toNat * U.K τ + j)) = some v := by
  obtain ⟨l1, l2, x1, xz, x2, B1, Bz, B2, g1, g2, g3, g4, g5, g6, o1, o2, o3, _⟩ := tree_at H hβ ho he hz
  have hx : ∀ (j : Nat) (v : Value), xz[j]? = some v → (x1 ++ (xz ++ x2))[q.toNat * U.K τ + j]? = some v := fun j v hj => by
    rw [← g4, List.getElem?_append_right (Nat.le_add_right _ _), Nat.add_sub_cancel_left, List.getElem?_append_left (lt_of_some hj)]; exact hj
  refine ⟨xz, ⟨by rw [inns_len, o2.len], fun j v x h1 h2 => ?_⟩, fun b hb j v hj => ownsRow_cell g3 hb (hx j v hj)⟩
  obtain ⟨y, k1, k2⟩ := inns_get _ _ _ _ h2
  rw [Nat.zero_add] at k2
  obtain ⟨B', k3, _⟩ := o2.at j v y h1 k1
  rcases k2 with ⟨τ', l, rfl, rfl⟩ | ⟨k2, rfl⟩
  · exact ⟨⟨(H.vers i e ho).2, o2.ones v (List.mem_of_getElem? h1)⟩, e, t, ho, hβ, fun _ => ⟨d, L, _, he, h0, hz, k1, g3, hx j v h1⟩⟩
  · cases k3 with
    | int q1 q2 => exact ⟨rfl, q1, q2⟩
    | bool => rfl
    | str q => exact ⟨rfl, q⟩
    | fz => exact absurd rfl (k2 _ _)
    | sl => exact absurd rfl (k2 _ _)

theorem okv_some {i c : Nat} (h : okv m i c = true) : ∃ e, m.o[i]? = some e ∧ e.cv = c := by
  unfold okv at h
  rw [nth_eq] at h
  cases he : m.o[i]? with
  | none => simp [he] at h
  | some e => simp only [he] at h; exact ⟨e, rfl, Nat.eq_of_beq_eq_true h⟩
/-- A field's address. -/
theorem fldAddr_mean (r : Rel C E s a w β) {t f : Nat} {off : Nat} {x y : Lf U} {v : Value} (hf : fldB P t f off = true) (hm : x.mean C w (E.X β) β s.m v) (h : fldAddr s.m off x = some y) :
    ∃ v', (∀ w' : World, (Instr.fieldAt t v f).run P w' = .ok v' w') ∧ y.mean C w (E.X β) β s.m v' := by
  cases x with
  | box i o =>
    simp only [fldAddr, nth_eq] at h
    obtain ⟨_, e, tr, h1, h2, h3⟩ := hm
    simp only [h1] at h
    obtain ⟨ob, rv, cv⟩ := e
    cases ob with
    | box T cs us =>
      simp only [Option.some.injEq] at h
      subst h
      obtain ⟨b, h4, rfl⟩ := h3 rfl
      refine ⟨_, fun w' => fldB_run hf _, ⟨rfl, ⟨.box T cs us, rv, cv⟩, tr, h1, h2, fun _ => ⟨b, h4, by rw [add_flat]⟩⟩⟩
    | _ => cases h
  | ptr τ z o =>
    simp only [fldAddr, Option.some.injEq] at h
    subst h
    have hm' : Rd w (E.X β) [] v (.elem ((U.enc τ z).drop o)) := hm
    cases v with
    | pointer p =>
      cases hm' with
      | @elem _ ad _ val hX hb hcell hrd =>
        refine ⟨.pointer (some (ad.add off)), fun w' => fldB_run hf _, ?_⟩
        show Rd w (E.X β) [] _ (.elem ((U.enc τ z).drop (o + off)))
        refine .elem (val := fun j => val (off + j)) (by rw [add_block]; exact hX) (by rw [add_block]; exact hb) (fun j d hj => ?_) (fun j d hj => ?_)
        · rw [add_add']; exact hcell _ d (by rw [List.getElem?_drop] at hj ⊢; rw [← Nat.add_assoc]; exact hj)
        · exact hrd _ d (by rw [List.getElem?_drop] at hj ⊢; rw [← Nat.add_assoc]; exact hj)
    | _ => cases hm'
  | oel i c τ q z o =>
    simp only [fldAddr] at h
    cases hv : okv s.m i c with
    | false => simp [hv] at h
    | true =>
      simp only [hv, cond_true, Option.some.injEq] at h
      subst h
      obtain ⟨h0, e, tr, h1, h2, h3⟩ := hm
      obtain ⟨e', k1, k2⟩ := okv_some hv
      rw [h1] at k1; injection k1 with k1; subst k1
      obtain ⟨d, L, b, a1, a2, a3, a4, rfl⟩ := h3 k2
      refine ⟨_, fun w' => fldB_run hf _, ⟨⟨h0.1, rfl⟩, e, tr, h1, h2, fun _ => ⟨d, L, b, a1, a2, a3, a4, by rw [add_flat, Nat.add_assoc]⟩⟩⟩
  | _ => cases h

/-- A load. -/
theorem load_mean (r : Rel Y.C E s a w β) {t : Nat} {i : TInfo} (hti : tiB P t i = true) {x : Lf U} {y : Sv U} {v : Value} (hm : x.mean Y.C w (E.X β) β s.m v) (h : load Y s i x = some y) :
    ∃ p v', v = .pointer (some p) ∧ (∀ w', Ext w w' → (loadVar t p).run P w' = .ok v' w') ∧ y.mean Y.C w (E.X β) β s.m v' := by
  cases x with
  | box b o =>
    simp only [load, nth_eq] at h
    obtain ⟨_, e, tr, h1, h2, h3⟩ := hm
    simp only [h1] at h
    have hok := r.hp.ok b tr e h2 h1
    obtain ⟨ob, rv, cv⟩ := e
    cases ob with
    | box T cs us =>
      obtain ⟨bb, h4, rfl⟩ := h3 rfl
      obtain ⟨_, b', vs, k1, k2, k3, k4⟩ := hok
      rw [h4] at k1; injection k1 with k1; subst k1
      obtain ⟨v', q1, q2⟩ := load_cut (P := P) (p := ⟨bb, o, none⟩) hti h (k4.drop o) (fun w' he j u hj => by
        rw [add_flat, cell_of_row w' bb (o + j) _ T (0, 0) (he.heap k3)]
        simpa using hj)
      exact ⟨_, v', rfl, q1, q2⟩
    | _ => cases h
  | ptr τ z o =>
    simp only [load] at h
    have hm' : Rd w (E.X β) [] v (.elem ((U.enc τ z).drop o)) := hm
    cases v with
    | pointer p =>
      cases hm' with
      | @elem _ ad _ val hX hb hcell hrd =>
        have hlen : ((List.range ((Y.C.cel τ z).drop o).length).map val).length = ((Y.C.cel τ z).drop o).length := by simp
        obtain ⟨v', q1, q2⟩ := load_cut (P := P) (p := ad) (vs := (List.range ((Y.C.cel τ z).drop o).length).map val) hti h (m := s.m) (C := Y.C) (w := w) (X := E.X β) (β := β) ⟨hlen, fun j u c h5 h6 => by
            have hjl := lt_of_some h6
            simp only [List.getElem?_map, List.getElem?_range hjl, Option.map_some, Option.some.injEq] at h5
            subst h5
            have hd : ((U.enc τ z).drop o)[j]? = some c.toV := by
              rw [← Y.C.hcel, ← List.map_drop, List.getElem?_map, h6]; rfl
            have hr := hrd j _ hd
            have hdat := Y.C.hdat τ z c (List.mem_of_mem_drop (List.mem_of_getElem? h6))
            cases c with
            | int k n => exact hr.int_inv
            | bool b => exact hr.bool_inv
            | str b => exact hr.str_inv
            | sl τ' l => exact hr
            | _ => cases hdat⟩ (fun w' he j u hj => by
            have hjl : j < ((Y.C.cel τ z).drop o).length := by have := lt_of_some hj; rw [hlen] at this; exact this
            simp only [List.getElem?_map, List.getElem?_range hjl, Option.map_some, Option.some.injEq] at hj
            subst hj
            exact he.cell (hcell j (((U.enc τ z).drop o)[j]'(by rw [← Y.C.hcel, ← List.map_drop, List.length_map]; exact hjl)) (List.getElem?_eq_getElem _)))
        exact ⟨_, v', rfl, q1, q2⟩
    | _ => cases hm'
  | oel b c τ q z o =>
    simp only [load] at h
    cases hv : okv s.m b c with
    | false => simp [hv] at h
    | true =>
      simp only [hv, cond_true] at h
      obtain ⟨h0, e, tr, h1, h2, h3⟩ := hm
      obtain ⟨e', k1, k2⟩ := okv_some hv
      rw [h1] at k1; injection k1 with k1; subst k1
      subst k2
      obtain ⟨d, L, bb, a1, a2, a3, a4, rfl⟩ := h3 rfl
      obtain ⟨xz, m1, m2⟩ := inns_mean r.hp h2 h1 a1 a2 a3
      obtain ⟨v', q1, q2⟩ := load_cut (P := P) (p := ⟨bb, q.toNat * U.K τ + o, none⟩) hti h (m1.drop o) (fun w' he j u hj => by
        have := he.cell (m2 bb a4 (o + j) u (by simpa using hj))
        rw [add_flat] at this ⊢
        rw [show q.toNat * U.K τ + o + j = 0 + (q.toNat * U.K τ + (o + j)) by omega]; exact this)
      exact ⟨_, v', rfl, q1, q2⟩
  | _ => cases h
end
end Go.EV
