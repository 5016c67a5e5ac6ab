/-
  THE EVALUATOR's KIT, twelfth part: objects come to be, turn, are given up; what is put into a tree. Plain theorems over any program; the conditions stand in each.
-/
import Derived.Test.YtiojlennpdmapaaGreatEVk
set_option linter.unusedVariables false
set_option linter.unusedSimpArgs false
namespace Go.EV
open Go.RowKit Go.VK
variable {U : Uni} {Y : Lay U} {TI : List (Nat × TInfo)} {P : Program} {g : GI} {E : Env g} {C : Cod U}

theorem memb_iff : ∀ {l : List Nat} {i : Nat}, memb i l = true ↔ i ∈ l
  | [], i => by simp [memb]
  | x :: l, i => by
    have e : memb i (x :: l) = cond (Nat.beq x i) true (memb i l) := rfl
    rw [e, List.mem_cons]
    cases hb : Nat.beq x i with
    | true => simp [(Nat.eq_of_beq_eq_true hb).symm]
    | false => simp only [cond_false]; rw [memb_iff]; exact ⟨.inr, fun h => h.resolve_left (fun e => by rw [e, show Nat.beq x x = true from Nat.beq_refl x] at hb; cases hb)⟩
theorem dist_iff : ∀ {l : List Nat}, dist l = true ↔ l.Nodup
  | [] => by simp [dist]
  | x :: l => by
    have e : dist (x :: l) = cond (memb x l) false (dist l) := rfl
    rw [e, List.nodup_cons, ← dist_iff (l := l), ← memb_iff (l := l)]
    cases memb x l <;> simp
theorem kil_len {k : Nat} : ∀ {ids : List Nat} {o : List (EO U)}, (kil k ids o).length = o.length
  | [], o => rfl
  | i :: ids, o => by
    have e : kil k (i :: ids) o = upd (kil k ids o) i ⟨.dead, k, k⟩ := rfl
    rw [e, upd_eq, List.length_set, kil_len]
theorem kil_in {k : Nat} : ∀ {ids : List Nat} {o : List (EO U)} {j : Nat}, j ∈ ids → j < o.length → (kil k ids o)[j]? = some ⟨.dead, k, k⟩
  | [], o, j, h, _ => by simp at h
  | i :: ids, o, j, h, hj => by
    have e : kil k (i :: ids) o = upd (kil k ids o) i ⟨.dead, k, k⟩ := rfl
    rw [e, upd_eq]
    by_cases hij : i = j
    · subst hij; rw [List.getElem?_set_self (by rw [kil_len]; exact hj)]
    · rw [List.getElem?_set_ne hij]; exact kil_in (by rcases List.mem_cons.1 h with h | h; exact absurd h.symm hij; exact h) hj
theorem kil_out {k : Nat} : ∀ {ids : List Nat} {o : List (EO U)} {j : Nat}, j ∉ ids → (kil k ids o)[j]? = o[j]?
  | [], o, j, _ => rfl
  | i :: ids, o, j, h => by
    have e : kil k (i :: ids) o = upd (kil k ids o) i ⟨.dead, k, k⟩ := rfl
    rw [e, upd_eq, List.getElem?_set_ne (fun e => h (by simp [e])), kil_out (fun hh => h (by simp [hh]))]

def noTr : Tr := ⟨none, 0, 0, []⟩
theorem noTr_all : noTr.all = [] := rfl
/-- The walk's rows, some given up. -/
def kilT : List Nat → List Tr → List Tr
  | [], β => β
  | i :: ids, β => (kilT ids β).set i noTr
theorem kilT_len : ∀ {ids : List Nat} {β : List Tr}, (kilT ids β).length = β.length
  | [], _ => rfl
  | i :: ids, β => by simp [kilT, kilT_len]
theorem kilT_in : ∀ {ids : List Nat} {β : List Tr} {j : Nat}, j ∈ ids → j < β.length → (kilT ids β)[j]? = some noTr
  | [], _, j, h, _ => by simp at h
  | i :: ids, β, j, h, hj => by
    simp only [kilT]
    by_cases hij : i = j
    · subst hij; rw [List.getElem?_set_self (by rw [kilT_len]; exact hj)]
    · rw [List.getElem?_set_ne hij]; exact kilT_in (by rcases List.mem_cons.1 h with h | h; exact absurd h.symm hij; exact h) hj
theorem kilT_out : ∀ {ids : List Nat} {β : List Tr} {j : Nat}, j ∉ ids → (kilT ids β)[j]? = β[j]?
  | [], _, j, _ => rfl
  | i :: ids, β, j, h => by
    simp only [kilT]
    rw [List.getElem?_set_ne (fun e => h (by simp [e])), kilT_out (fun hh => h (by simp [hh]))]

section
variable {s : St U} {a : Act} {w w' : World} {β : List Tr}

/-- New objects. -/
theorem Rel.add (r : Rel C E s a w β) (he : Ext w w') (bs : List (EO U × Tr)) (hv : ∀ x ∈ bs, x.1.rv ≤ s.m.k ∧ x.1.cv ≤ s.m.k) (hb : ∀ x ∈ bs, ∀ b ∈ x.2.all, w.heap.size ≤ b ∧ b < w'.heap.size)
    (hnd : ((bs.map fun x => x.2.all).flatten).Nodup)
    (hok : Evo w w' (E.X β) (E.X (β ++ bs.map (·.2))) β (β ++ bs.map (·.2)) s.m ⟨s.m.o ++ bs.map (·.1), s.m.k, s.m.ns⟩ s.m.o.length s.m.ns.length s.m.k → ∀ x ∈ bs, x.1.ob.ok C w' (E.X (β ++ bs.map (·.2))) (β ++ bs.map (·.2)) ⟨s.m.o ++ bs.map (·.1), s.m.k, s.m.ns⟩ x.2) :
    Rel C E ⟨s.t, ⟨s.m.o ++ bs.map (·.1), s.m.k, s.m.ns⟩, s.fr⟩ a w' (β ++ bs.map (·.2)) := by
  have hlen := r.hp.len
  have hget : ∀ (j : Nat) (t : Tr), s.m.o.length ≤ j → (β ++ bs.map (·.2))[j]? = some t → ∃ x, bs[j - s.m.o.length]? = some x ∧ t = x.2 := fun j t hj ht => by
    rw [List.getElem?_append_right (by omega), hlen, List.getElem?_map] at ht
    cases hx : bs[j - s.m.o.length]? with
    | none => simp [hx] at ht
    | some x => simp only [hx, Option.map_some, Option.some.injEq] at ht; exact ⟨x, rfl, ht.symm⟩
  have hgeto : ∀ (j : Nat) (e : EO U), s.m.o.length ≤ j → (s.m.o ++ bs.map (·.1))[j]? = some e → ∃ x, bs[j - s.m.o.length]? = some x ∧ e = x.1 := fun j e hj ht => by
    rw [List.getElem?_append_right hj, List.getElem?_map] at ht
    cases hx : bs[j - s.m.o.length]? with
    | none => simp [hx] at ht
    | some x => simp only [hx, Option.map_some, Option.some.injEq] at ht; exact ⟨x, rfl, ht.symm⟩
  have hF : ∀ {j : Nat}, (False ∨ s.m.o.length ≤ j) → s.m.o.length ≤ j := fun h => h.resolve_left id
  have hpw : ∀ (i j : Nat) (x y : EO U × Tr) (b : Nat), i ≠ j → bs[i]? = some x → bs[j]? = some y → b ∈ x.2.all → b ∉ y.2.all := fun i j x y b hij hx hy hbx hby => by
    have hp := (List.pairwise_flatten.1 hnd).2
    rw [List.pairwise_map] at hp
    have := List.pairwise_iff_getElem.1 hp
    obtain ⟨l1, e1⟩ := List.getElem?_eq_some_iff.1 hx
    obtain ⟨l2, e2⟩ := List.getElem?_eq_some_iff.1 hy
    rcases Nat.lt_or_gt_of_ne hij with h | h
    · exact this i j l1 l2 h b (by rw [e1]; exact hbx) b (by rw [e2]; exact hby) rfl
    · exact this j i l2 l1 h b (by rw [e2]; exact hby) b (by rw [e1]; exact hbx) rfl
  obtain ⟨h1, h2⟩ := r.hp.step (s' := ⟨s.m.o ++ bs.map (·.1), s.m.k, s.m.ns⟩) (β' := β ++ bs.map (·.2)) (w' := w') (fun _ => False) (fun _ => False) (Nat.le_refl _) (fun _ _ f h => ⟨f, h⟩) r.hp.cnt (by simp [hlen]) (by simp) he.size he.os he.tape he.output
    (fun b hb _ => he.block b hb) (fun _ h => h.elim) (fun i _ hi => ⟨by rw [List.getElem?_append_left hi], by rw [List.getElem?_append_left (by rw [hlen]; exact hi)]⟩)
    (fun j t b hj ht hbt => by
      obtain ⟨x, hx, rfl⟩ := hget j t (hF hj) ht
      have := hb x (List.mem_of_getElem? hx) b hbt
      exact ⟨this.2, .inl this.1⟩)
    (fun i j t u b hi hj hij ht hu hbt hbu => by
      obtain ⟨x, hx, rfl⟩ := hget i t (hF hi) ht
      obtain ⟨y, hy, rfl⟩ := hget j u (hF hj) hu
      exact hpw _ _ x y b (by have := hF hi; have := hF hj; omega) hx hy hbt hbu)
    (fun j t hj ht => by
      obtain ⟨x, hx, rfl⟩ := hget j t (hF hj) ht
      exact (List.pairwise_flatten.1 hnd).1 _ (List.mem_map.2 ⟨x, List.mem_of_getElem? hx, rfl⟩))
    (fun j e hj he' => by
      obtain ⟨x, hx, rfl⟩ := hgeto j e (hF hj) he'
      exact hv x (List.mem_of_getElem? hx))
    (fun _ _ _ _ _ h => h.elim)
    (fun hev j t e hj ht he' => by
      obtain ⟨x, hx, rfl⟩ := hget j t (hF hj) ht
      obtain ⟨y, hy, rfl⟩ := hgeto j e (hF hj) he'
      rw [hx] at hy; injection hy with hy; subst hy
      exact hok hev x (List.mem_of_getElem? hx))
  exact r.go h1 h2

/-- An object turns, others are given up to it. -/
theorem Rel.turn (r : Rel C E s a w β) {i : Nat} {J : List Nat} {e : EO U} {t t' : Tr} {ob : Ob U} {rv : Nat} (hi : s.m.o[i]? = some e) (ht : β[i]? = some t) (hJ : (i :: J).Nodup)
    (hsz : w.heap.size ≤ w'.heap.size) (hos : w'.os = w.os) (htape : w'.tape = w.tape) (hout : w'.output = w.output) (hheap : ∀ b, b < w.heap.size → b ∉ t.all → w'.heap[b]? = w.heap[b]?)
    (hnew : ∀ b ∈ t'.all, b < w'.heap.size ∧ (w.heap.size ≤ b ∨ b ∈ t.all ∨ ∃ j ∈ J, ∃ u, β[j]? = some u ∧ b ∈ u.all)) (hnd : t'.all.Nodup) (hrv : (rv = e.rv ∧ t'.val = t.val) ∨ rv = s.m.k + 1)
    (hbox : ob.isBox = true → e.ob.isBox = true ∧ t'.b = t.b)
    (hok : ∀ (β' : List Tr) (m' : Mm U), Evo w w' (E.X β) (E.X β') β β' s.m m' s.m.o.length s.m.ns.length s.m.k → ob.ok C w' (E.X β') β' m' t') :
    ∃ β', Rel C E ⟨s.t, ⟨kil (s.m.k + 1) J (upd s.m.o i ⟨ob, rv, s.m.k + 1⟩), s.m.k + 1, s.m.ns⟩, s.fr⟩ a w' β' ∧ β'[i]? = some t' ∧ Evo w w' (E.X β) (E.X β') β β' s.m ⟨kil (s.m.k + 1) J (upd s.m.o i ⟨ob, rv, s.m.k + 1⟩), s.m.k + 1, s.m.ns⟩ s.m.o.length s.m.ns.length s.m.k := by
  have hiJ : i ∉ J := (List.nodup_cons.1 hJ).1
  have hil : i < s.m.o.length := lt_of_some hi
  have hlen := r.hp.len
  let o' := kil (s.m.k + 1) J (upd s.m.o i ⟨ob, rv, s.m.k + 1⟩)
  let β' := kilT J (β.set i t')
  have hol : o'.length = s.m.o.length := by simp only [o', kil_len, upd_eq, List.length_set]
  have hbl : β'.length = β.length := by simp only [β', kilT_len, List.length_set]
  have ho_i : o'[i]? = some ⟨ob, rv, s.m.k + 1⟩ := by simp only [o']; rw [kil_out hiJ, upd_eq, List.getElem?_set_self hil]
  have hb_i : β'[i]? = some t' := by simp only [β']; rw [kilT_out hiJ, List.getElem?_set_self (by rw [hlen]; exact hil)]
  have ho_J : ∀ j ∈ J, j < s.m.o.length → o'[j]? = some ⟨.dead, s.m.k + 1, s.m.k + 1⟩ := fun j hj hl => kil_in hj (by rw [upd_eq, List.length_set]; exact hl)
  have hb_J : ∀ j ∈ J, j < s.m.o.length → β'[j]? = some noTr := fun j hj hl => kilT_in hj (by rw [List.length_set, hlen]; exact hl)
  have ho_n : ∀ j, j ≠ i → j ∉ J → o'[j]? = s.m.o[j]? := fun j h1 h2 => by simp only [o']; rw [kil_out h2, upd_eq, List.getElem?_set_ne (Ne.symm h1)]
  have hb_n : ∀ j, j ≠ i → j ∉ J → β'[j]? = β[j]? := fun j h1 h2 => by simp only [β']; rw [kilT_out h2, List.getElem?_set_ne (Ne.symm h1)]
  have hcase : ∀ j, ((j = i ∨ j ∈ J) ∨ s.m.o.length ≤ j) → j = i ∨ (j ∈ J ∧ j < s.m.o.length) ∨ s.m.o.length ≤ j := fun j h => by
    rcases h with (h | h) | h
    · exact .inl h
    · by_cases hl : j < s.m.o.length
      · exact .inr (.inl ⟨h, hl⟩)
      · exact .inr (.inr (by omega))
    · exact .inr (.inr h)
  have htr : ∀ (j : Nat) (u : Tr), ((j = i ∨ j ∈ J) ∨ s.m.o.length ≤ j) → β'[j]? = some u → (j = i ∧ u = t') ∨ u = noTr := fun j u h hu => by
    rcases hcase j h with rfl | ⟨h1, h2⟩ | h1
    · rw [hb_i] at hu; injection hu with hu; exact .inl ⟨rfl, hu.symm⟩
    · rw [hb_J j h1 h2] at hu; injection hu with hu; exact .inr hu.symm
    · have := lt_of_some hu; omega
  obtain ⟨h1, h2⟩ := r.hp.step (s' := ⟨o', s.m.k + 1, s.m.ns⟩) (β' := β') (w' := w') (fun j => j = i ∨ j ∈ J) (fun b => b ∈ t.all ∨ ∃ j ∈ J, ∃ u, β[j]? = some u ∧ b ∈ u.all) (Nat.le_succ _) (fun _ _ f h => ⟨f, h⟩) r.hp.cnt (by rw [hbl, hol, hlen]) (by rw [hol]; exact Nat.le_refl _) hsz hos htape hout
    (fun b hb hn => hheap b hb (fun h => hn (.inl h)))
    (fun b hb => by
      rcases hb with hb | ⟨j, hj, u, hu, hub⟩
      · exact ⟨i, t, .inl rfl, ht, hb⟩
      · exact ⟨j, u, .inr hj, hu, hub⟩)
    (fun j hj _ => ⟨ho_n j (fun e => hj (.inl e)) (fun e => hj (.inr e)), hb_n j (fun e => hj (.inl e)) (fun e => hj (.inr e))⟩)
    (fun j u b hj hu hb => by
      rcases htr j u hj hu with ⟨_, rfl⟩ | rfl
      · obtain ⟨q1, q2⟩ := hnew b hb
        refine ⟨q1, q2.imp id fun q => ?_⟩
        rcases q with q | ⟨j', hj', u', hu', hub'⟩
        · exact ⟨i, t, .inl rfl, ht, q⟩
        · exact ⟨j', u', .inr hj', hu', hub'⟩
      · simp [noTr_all] at hb)
    (fun j j' u u' b hj hj' hjj hu hu' hb hb' => by
      rcases htr j u hj hu with ⟨e1, rfl⟩ | rfl
      · rcases htr j' u' hj' hu' with ⟨e2, rfl⟩ | rfl
        · exact hjj (e1.trans e2.symm)
        · simp [noTr_all] at hb'
      · simp [noTr_all] at hb)
    (fun j u hj hu => by
      rcases htr j u hj hu with ⟨_, rfl⟩ | rfl
      · exact hnd
      · rw [noTr_all]; exact List.nodup_nil)
    (fun j e' hj he' => by
      rcases hcase j hj with rfl | ⟨q1, q2⟩ | q
      · rw [ho_i] at he'; injection he' with he'; subst he'
        refine ⟨?_, Nat.le_refl _⟩
        rcases hrv with ⟨h, _⟩ | h
        · have := (r.hp.vers _ e hi).1; simp only; omega
        · simp only; omega
      · rw [ho_J j q1 q2] at he'; injection he' with he'; subst he'; exact ⟨Nat.le_refl _, Nat.le_refl _⟩
      · have := lt_of_some he'; simp only at this; omega)
    (fun j e0 e' u u' hj he0 he' hu hu' => by
      rcases hj with rfl | hj
      · rw [ho_i] at he'; injection he' with he'; subst he'
        rw [hi] at he0; injection he0 with he0; subst he0
        rw [ht] at hu; injection hu with hu; subst hu
        rw [hb_i] at hu'; injection hu' with hu'; subst hu'
        refine ⟨fun hle => ?_, Nat.lt_succ_self _, hbox⟩
        rcases hrv with h | h
        · exact h
        · simp only at hle; omega
      · have hl := lt_of_some he0
        rw [ho_J j hj hl] at he'; injection he' with he'; subst he'
        exact ⟨fun hle => by simp only at hle; omega, Nat.lt_succ_self _, fun h => by cases h⟩)
    (fun hev j u e' hj hu he' => by
      rcases hcase j hj with rfl | ⟨q1, q2⟩ | q
      · rw [ho_i] at he'; injection he' with he'; subst he'
        rw [hb_i] at hu; injection hu with hu; subst hu
        exact hok _ _ hev
      · rw [ho_J j q1 q2] at he'; injection he' with he'; subst he'; trivial
      · have := lt_of_some he'; simp only at this; omega)
  exact ⟨β', r.go h1 h2, hb_i, h2⟩

/-- The blocks of the objects that go along. -/
def blks (β : List Tr) (ids : List Nat) : List Nat := (ids.map fun j => match β[j]? with | some t => t.all | none => []).flatten
theorem blks_in {ids : List Nat} {b : Nat} (h : b ∈ blks β ids) : ∃ j ∈ ids, ∃ u, β[j]? = some u ∧ b ∈ u.all := by
  simp only [blks, List.mem_flatten, List.mem_map] at h
  obtain ⟨l, ⟨j, hj, rfl⟩, hb⟩ := h
  cases hu : β[j]? with
  | none => simp [hu] at hb
  | some u => simp only [hu] at hb; exact ⟨j, hj, u, hu, hb⟩
theorem blks_nd (H : Hp C E s.m β w) {ids : List Nat} (h : ids.Nodup) : (blks β ids).Nodup := by
  unfold blks
  refine List.pairwise_flatten.2 ⟨fun l hl => ?_, ?_⟩
  · obtain ⟨j, _, rfl⟩ := List.mem_map.1 hl
    cases hu : β[j]? with
    | none => exact List.nodup_nil
    | some u => exact H.nd j u hu
  · rw [List.pairwise_map]
    refine h.imp fun {j j'} hjj b hb b' hb' => ?_
    rintro rfl
    cases hu : β[j]? with
    | none => simp [hu] at hb
    | some u =>
      cases hu' : β[j']? with
      | none => simp [hu'] at hb'
      | some u' => simp only [hu] at hb; simp only [hu'] at hb'; exact H.dist j j' u u' b hjj hu hu' hb hb'
theorem blks_app {i j : List Nat} : blks β (i ++ j) = blks β i ++ blks β j := by simp [blks]

theorem abs1_mean (H : Hp C E s.m β w) {kd : Kd} {x y : Lf U} {ids : List Nat} {d : Bool} (h : abs1 s.m kd x = some (y, ids, d)) {v : Value} (hm : x.mean C w (E.X β) β s.m v) (hK : ∀ τ, kd = .sl τ → 0 < U.K τ) : Ow C w (E.X β) d v y (blks β ids) := by
  have flat : ∀ {x : Lf U}, x.mean C w (E.X β) β s.m v → freeL x = true → (∀ τ l, x ≠ .sl τ l) → (match rdl s.m x with | some y => some (y, ([] : List Nat), true) | none => none) = some (y, ids, d) → Ow C w (E.X β) d v y (blks β ids) := fun {x} hm hf hns h => by
    cases hr : rdl s.m x with
    | none => simp [hr] at h
    | some y' =>
      simp only [hr, Option.some.injEq, Prod.mk.injEq] at h
      obtain ⟨rfl, rfl, rfl⟩ := h
      have := (rdl_mean H hm hr (Z := fun _ => False) (fun _ h => h.elim) (.inl hf)).2
      have hb : blks β [] = [] := rfl
      rw [hb]
      cases x with
      | int k n => simp only [rdl, Option.some.injEq] at hr; subst hr; obtain ⟨rfl, h1, h2⟩ := this.int_inv; exact .int h1 h2
      | bool k => simp only [rdl, Option.some.injEq] at hr; subst hr; obtain rfl := this.bool_inv; exact .bool
      | str k => simp only [rdl, Option.some.injEq] at hr; subst hr; obtain ⟨rfl, h1⟩ := this.str_inv; exact .str h1
      | nat c =>
        simp only [rdl] at hr
        split at hr
        · simp only [Option.some.injEq] at hr; subst hr; obtain ⟨rfl, h1, h2⟩ := this.int_inv; exact .int h1 h2
        · cases hr
      | lt c n =>
        simp only [rdl] at hr
        split at hr
        · simp only [Option.some.injEq] at hr; subst hr; obtain rfl := this.bool_inv; exact .bool
        · cases hr
      | sl τ l => exact absurd rfl (hns τ l)
      | own => cases hf
      | bor => cases hf
      | inn => cases hf
      | _ => cases hr
  cases x with
  | nil =>
    obtain rfl := hm
    cases kd with
    | sl τ =>
      simp only [abs1, Option.some.injEq, Prod.mk.injEq] at h
      obtain ⟨rfl, rfl, rfl⟩ := h
      exact .sl noTr (hK τ rfl) (World.ownsRow_nil w 0 τ (U.K τ)) .n
    | _ => cases h
  | sl τ l =>
    simp only [abs1, Option.some.injEq, Prod.mk.injEq] at h
    obtain ⟨rfl, rfl, rfl⟩ := h
    exact .fz rfl hm
  | own i q =>
    obtain ⟨_, e, t, k1, k2, k3⟩ := hm
    simp only [abs1, nth_eq, k1] at h
    obtain ⟨ob, rv, cv⟩ := e
    cases ob with
    | tree τ d' l =>
      cases hb : Nat.beq rv q with
      | false => simp [hb] at h
      | true =>
        simp only [hb, cond_true, Option.some.injEq, Prod.mk.injEq] at h
        obtain ⟨rfl, rfl, rfl⟩ := h
        rw [k3 (Nat.eq_of_beq_eq_true hb)]
        have := Hp.tree H k2 k1 rfl
        simpa [blks, k2] using this
    | _ => cases h
  | bor => cases h
  | inn => cases h
  | int k n => exact flat hm rfl (by simp) h
  | bool b => exact flat hm rfl (by simp) h
  | str b => exact flat hm rfl (by simp) h
  | nat c => exact flat hm rfl (by simp) h
  | lt c n => exact flat hm rfl (by simp) h
  | _ => cases h
theorem Ow.fl {X : Nat → Prop} {d d' : Bool} {v : Value} {x : Lf U} {B : List Nat} (h : Ow C w X d v x B) (hd : d' = true → d = true) : Ow C w X d' v x B := by
  cases d' with
  | false => exact h.soft
  | true => rw [hd rfl] at h; exact h
theorem OwL.fl {X : Nat → Prop} {d d' : Bool} {v : List Value} {x : List (Lf U)} {B : List Nat} (h : OwL C w X d v x B) (hd : d' = true → d = true) : OwL C w X d' v x B := by
  cases d' with
  | false => exact h.soft
  | true => rw [hd rfl] at h; exact h
theorem absb_mean (H : Hp C E s.m β w) : ∀ {ks : List Kd} {xs ys : List (Lf U)} {ids : List Nat} {d : Bool} {vs : List Value}, absb s.m ks xs = some (ys, ids, d) → Ms C w (E.X β) β s.m vs xs → (∀ kd ∈ ks, ∀ τ, kd = .sl τ → 0 < U.K τ) → OwL C w (E.X β) d vs ys (blks β ids)
  | [], [], ys, ids, d, vs, h, hM, _ => by
    simp only [absb, Option.some.injEq, Prod.mk.injEq] at h
    obtain ⟨rfl, rfl, rfl⟩ := h
    have : vs = [] := List.eq_nil_of_length_eq_zero hM.1
    subst this; exact .n
  | [], _ :: _, _, _, _, _, h, _, _ => by cases h
  | _ :: _, [], _, _, _, _, h, _, _ => by cases h
  | kd :: ks, x :: xs, ys, ids, d, vs, h, hM, hK => by
    simp only [absb] at h
    cases h1 : abs1 s.m kd x with
    | none => simp [h1] at h
    | some q =>
      obtain ⟨y, i, d1⟩ := q
      cases h2 : absb s.m ks xs with
      | none => simp [h1, h2] at h
      | some q2 =>
        obtain ⟨ys', is, ds⟩ := q2
        simp only [h1, h2, Option.some.injEq, Prod.mk.injEq] at h
        obtain ⟨rfl, rfl, rfl⟩ := h
        match vs, hM with
        | [], hM => have := hM.1; simp at this
        | v :: vs, hM =>
          rw [blks_app]
          refine .c ((abs1_mean H h1 (hM.2 0 v x rfl rfl) (hK kd (by simp))).fl (by simp; exact fun h _ => h)) ((absb_mean H h2 ⟨by have := hM.1; simpa using this, fun i u c a b => hM.2 (i + 1) u c (by simpa using a) (by simpa using b)⟩ (fun kd' hk => hK kd' (by simp [hk]))).fl (by simp))
end
end Go.EV
