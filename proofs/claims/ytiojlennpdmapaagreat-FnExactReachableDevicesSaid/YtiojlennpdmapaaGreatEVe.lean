/-
  THE EVALUATOR's KIT, fifth part: what a state says of a moment of the run; operands; the way to the value kit's rules. Plain theorems over any program; the conditions stand in each.
-/
import Derived.Test.YtiojlennpdmapaaGreatEVd
set_option linter.unusedVariables false
set_option linter.unusedSimpArgs false
namespace Go.EV
open Go.RowKit Go.VK

section lists
variable {α : Type}
theorem nth_eq : ∀ (l : List α) (n : Nat), nth l n = l[n]?
  | [], n => by cases n <;> rfl
  | x :: l, 0 => rfl
  | x :: l, n + 1 => by rw [List.getElem?_cons_succ]; exact nth_eq l n
theorem upd_eq : ∀ (l : List α) (n : Nat) (y : α), upd l n y = l.set n y
  | [], n, y => by cases n <;> rfl
  | x :: l, 0, y => rfl
  | x :: l, n + 1, y => by rw [List.set_cons_succ, ← upd_eq l n y]; rfl
theorem drp_eq : ∀ (l : List α) (n : Nat), drp l n = l.drop n
  | [], n => by cases n <;> rfl
  | x :: l, 0 => rfl
  | x :: l, n + 1 => by rw [List.drop_succ_cons]; exact drp_eq l n
theorem tk_eq : ∀ (l : List α) (n : Nat), tk l n = l.take n
  | [], n => by cases n <;> rfl
  | x :: l, 0 => rfl
  | x :: l, n + 1 => by rw [List.take_succ_cons, ← tk_eq l n]; rfl
theorem len_eq : ∀ (l : List α), len l = l.length
  | [] => rfl
  | x :: l => by rw [List.length_cons, ← len_eq l]; rfl
theorem spl_eq : ∀ (l : List α) (n : Nat) (vs : List α), n + vs.length ≤ l.length → spl l n vs = l.take n ++ vs ++ l.drop (n + vs.length)
  | [], n, vs, h => by
    have h1 : vs = [] := List.eq_nil_of_length_eq_zero (by simp only [List.length_nil] at h; omega)
    subst h1; cases n <;> rfl
  | x :: l, 0, vs, h => by
    show vs ++ drp (x :: l) (len vs) = _
    rw [drp_eq, len_eq]; simp
  | x :: l, n + 1, vs, h => by
    show x :: spl l n vs = _
    rw [spl_eq l n vs (by simp at h; omega), show n + 1 + vs.length = (n + vs.length) + 1 by omega]; rfl
theorem at_of : ∀ {l : List α} {n : Nat} {x : α}, l[n]? = some x → At l n x
  | [], n, x, h => by simp at h
  | y :: l, 0, x, h => by simp at h; subst h; exact .z
  | y :: l, n + 1, x, h => .s (at_of (by simpa using h))
theorem fnd_mem {l : List (Nat × α)} {n : Nat} {x : α} (h : fnd l n = some x) : (n, x) ∈ l := by
  induction l with
  | nil => cases h
  | cons y l ih =>
    have h' : cond (Nat.beq y.1 n) (some y.2) (fnd l n) = some x := h
    cases hb : Nat.beq y.1 n with
    | true =>
      rw [hb] at h'
      obtain ⟨a, b⟩ := y
      have : a = n := Nat.eq_of_beq_eq_true hb
      simp at h'; subst h'; subst this; exact List.mem_cons_self
    | false => rw [hb] at h'; exact List.mem_cons_of_mem _ (ih h')
end lists

variable {U : Uni} {Y : Lay U} {P : Program} {g : GI} {E : Env g}

structure Rel (C : Cod U) (E : Env g) (s : St U) (a : Act) (w : World) (β : List Tr) : Prop where
  hp : Hp C E s.m β w
  defers : a.defers = []
  tsz : a.tmps.size = s.t.length
  tm : ∀ (n : Nat) (x : Sv U), s.t[n]? = some x → x.mean C w (E.X β) β s.m (a.tmps.getD n undef)

section
variable {C : Cod U} {s : St U} {a : Act} {w w' : World} {β β' : List Tr}

theorem Rel.put (r : Rel C E s a w β) {d : Option Nat} {x : Sv U} {v : Value} (h : d ≠ none → x.mean C w (E.X β) β s.m v) : Rel C E (put s d x) (a.put d v) w β := by
  cases d with
  | none => exact r
  | some n =>
    refine ⟨r.hp, r.defers, ?_, fun m y hm => ?_⟩
    · simp only [EV.put, upd_eq, List.length_set]; simpa [Act.put] using r.tsz
    · simp only [EV.put, upd_eq] at hm ⊢
      have hml : m < s.t.length := by have := lt_of_some hm; simpa using this
      simp only [Act.put]
      by_cases hn : n < s.t.length
      · rw [getD_set _ _ _ _ _ (by rw [r.tsz]; exact hn)]
        by_cases he : n = m
        · subst he
          rw [List.getElem?_set_self hn] at hm
          injection hm with hm
          rw [if_pos rfl, ← hm]; exact h (by simp)
        · rw [List.getElem?_set_ne he] at hm
          rw [if_neg he]; exact r.tm m y hm
      · rw [List.set_eq_of_length_le (by omega)] at hm
        have : (a.tmps.setIfInBounds n v) = a.tmps := by
          apply Array.setIfInBounds_eq_of_size_le; rw [r.tsz]; omega
        rw [this]; exact r.tm m y hm

theorem Rel.go (r : Rel C E s a w β) {m' : Mm U} (h : Hp C E m' β' w') (he : Evo w w' (E.X β) (E.X β') β β' s.m m' s.m.o.length s.m.ns.length s.m.k) {fr : List (List (Sv U))} : Rel C E ⟨s.t, m', fr⟩ a w' β' :=
  ⟨h, r.defers, r.tsz, fun n x hx => Sv.mean_go he (r.tm n x hx)⟩

/-- Memory is made, the state stays. -/
theorem Evo.ext (he : Ext w w') {m : Mm U} (H : Hp C E m β w) : Hp C E m β w' ∧ Evo w w' (E.X β) (E.X β) β β m m m.o.length m.ns.length m.k := by
  have ev : Evo w w' (E.X β) (E.X β) β β m m m.o.length m.ns.length m.k := ⟨he.size, fun _ _ h => h, fun _ _ _ h => he.cell h, Nat.le_refl _, fun a i f _ h => ⟨f, h⟩, fun i e t _ h1 h2 => ⟨e, t, h1, h2, fun _ => ⟨rfl, rfl⟩, fun _ => ⟨rfl, rfl, rfl, fun b hb => he.block b (H.new i t b h2 hb).2⟩, fun h => ⟨h, rfl⟩⟩⟩
  refine ⟨⟨H.ext.trans (Bel.of_ext he), H.len, H.vers, H.cnt, fun i t b h1 h2 => ⟨(H.new i t b h1 h2).1, Nat.lt_of_lt_of_le (H.new i t b h1 h2).2 he.size⟩, H.dist, H.nd, fun i t e h1 h2 => Ob.ok_evo ev (H.ok i t e h1 h2) fun b hb => he.block b (H.new i t b h1 hb).2, fun x hx => Lf.mean_go ev (H.pin x hx)⟩, ev⟩
theorem Rel.ext (r : Rel C E s a w β) (he : Ext w w') : Rel C E s a w' β := by
  obtain ⟨h1, h2⟩ := Evo.ext he r.hp
  exact r.go h1 h2

/-! ### Reading -/
theorem rsv_mean {X : Nat → Prop} {m : Mm U} {v : Value} {x : Lf U} (h : x.mean C w X β m v) : (rsv m.ns x).mean C w X β m v := by
  cases x with
  | nat a =>
    obtain ⟨i, f, h1, h2, h3⟩ := h
    simp only [rsv, nth_eq, h1]
    exact ⟨h2, by simp [IntKind.min, IntKind.signed, IntKind.bits], by simpa [IntKind.max, IntKind.signed, IntKind.bits] using h3⟩
  | lt a n =>
    obtain ⟨i, f, h1, h2, h3⟩ := h
    simp only [rsv, nth_eq, h1]
    exact h2
  | _ => exact h

theorem slq_some {τ τ' : Nat} {l : List (U.El τ')} {l' : List (U.El τ)} (h : slq τ τ' l = some l') : τ' = τ ∧ HEq l l' := by
  unfold slq at h
  split at h
  · rename_i he; subst he; simp at h; subst h; exact ⟨rfl, HEq.rfl⟩
  · cases h
theorem slq_val {τ τ' : Nat} {l : List (U.El τ')} {l' : List (U.El τ)} (h : slq τ τ' l = some l') : Lf.sl τ' l = Lf.sl τ l' := by
  obtain ⟨rfl, h⟩ := slq_some h; rw [eq_of_heq h]

theorem Hp.tree (H : Hp C E s.m β w) {i : Nat} {t : Tr} {e : EO U} {τ : Nat} {d : Bool} {l : List (U.El τ)} (h1 : β[i]? = some t) (h2 : s.m.o[i]? = some e) (h3 : e.ob = .tree τ d l) : Ow C w (E.X β) d t.val (.sl τ l) t.all := by
  have := H.ok i t e h1 h2
  rw [h3] at this
  obtain ⟨h4, xs, h5, h6⟩ := this
  exact .sl t h4 h5 h6
/-- A leaf that can be read reads as data: with no mark in the blocks of the object that it lies in. -/
theorem rdl_mean (H : Hp C E s.m β w) {v : Value} {x y : Lf U} (hm : x.mean C w (E.X β) β s.m v) (h : rdl s.m x = some y) {Z : Nat → Prop} (hZ : ∀ b, Z b → E.X β b) (hZt : freeL x = true ∨ ∀ (i : Nat) (t : Tr) (b : Nat), β[i]? = some t → b ∈ t.all → ¬ Z b) :
    y.isData = true ∧ Rd w Z [] v y.toV := by
  have hXZ : ∀ b, b < w.heap.size → Z b → E.X β b := fun b _ hb => hZ b hb
  cases x with
  | int k n => simp only [rdl, Option.some.injEq] at h; subst h; obtain ⟨rfl, h1, h2⟩ := hm; exact ⟨rfl, .int h1 h2⟩
  | bool b => simp only [rdl, Option.some.injEq] at h; subst h; obtain rfl := hm; exact ⟨rfl, .bool⟩
  | str z => simp only [rdl, Option.some.injEq] at h; subst h; obtain ⟨rfl, h1⟩ := hm; exact ⟨rfl, .str h1⟩
  | sl τ l => simp only [rdl, Option.some.injEq] at h; subst h; exact ⟨rfl, Rd.conv hm (Nat.le_refl _) hXZ (fun _ _ _ h => h) (fun _ _ h => h)⟩
  | nat a =>
    obtain ⟨i, f, h1, rfl, h3⟩ := hm
    simp only [rdl, nth_eq, h1, Option.some.injEq] at h
    subst h
    exact ⟨rfl, .int (by simp [IntKind.min, IntKind.signed, IntKind.bits]) (by simpa [IntKind.max, IntKind.signed, IntKind.bits] using h3)⟩
  | lt a n =>
    obtain ⟨i, f, h1, rfl, h3⟩ := hm
    simp only [rdl, nth_eq, h1, Option.some.injEq] at h
    subst h
    exact ⟨rfl, .bool⟩
  | own i r =>
    obtain ⟨_, e, t, h2, h3, h4⟩ := hm
    simp only [rdl, nth_eq, h2] at h
    obtain ⟨ob, rv, cv⟩ := e
    cases ob with
    | tree τ d l =>
      cases hb : Nat.beq rv r with
      | false => simp [hb] at h
      | true =>
        simp only [hb, cond_true, Option.some.injEq] at h
        subst h
        rw [h4 (Nat.eq_of_beq_eq_true hb)]
        refine ⟨rfl, (Hp.tree H h3 h2 rfl).rd hZ (fun b hb' => ?_)⟩
        rcases hZt with h | h
        · cases h
        · exact h i t b h3 hb'
    | _ => cases h
  | bor i c τ l =>
    obtain ⟨_, e, t, h2, h3, h4⟩ := hm
    simp only [rdl, okv, nth_eq, h2] at h
    cases hb : Nat.beq e.cv c with
    | false => simp [hb] at h
    | true =>
      simp only [hb, cond_true, Option.some.injEq] at h
      subst h
      refine ⟨rfl, (h4 (Nat.eq_of_beq_eq_true hb)).conv (Nat.le_refl _) (fun b _ hb' => ⟨hZ b hb', ?_⟩) (fun _ _ _ h => h) (fun _ _ h => h)⟩
      rcases hZt with h | h
      · cases h
      · exact fun hbt => h i t b h3 hbt hb'
  | inn i c τ q z j τ' l =>
    obtain ⟨_, e, t, h2, h3, h4⟩ := hm
    simp only [rdl, okv, nth_eq, h2] at h
    cases hb : Nat.beq e.cv c with
    | false => simp [hb] at h
    | true =>
      simp only [hb, cond_true, Option.some.injEq] at h
      subst h
      obtain ⟨d, L, xs, a1, a2, a3, a4, a5, a6⟩ := h4 (Nat.eq_of_beq_eq_true hb)
      have hok := H.ok i t e h3 h2
      rw [a1] at hok
      obtain ⟨k1, xs', k2, k3⟩ := hok
      obtain rfl : xs' = xs := by
        rcases ownsRow_root k2 with ⟨b1, b2, b3, _⟩ | ⟨b, cur, b1, _, _, _, b5, _, b7⟩
        · rw [b3]
          have := a5.1; rw [b2] at this; simp at this; exact this.symm
        · rcases ownsRow_root a5 with ⟨c1, _⟩ | ⟨b', cur', c1, _, _, _, c5, _, c7⟩
          · rw [b1] at c1; cases c1
          · rw [b1] at c1; injection c1 with c1; subst c1
            rw [b5] at c5; injection c5 with c5; injection c5 with c5; subst c5
            rw [← b7, ← c7]
      obtain ⟨l1, l2, g1, g2, g3, g4⟩ := flat_at (C.hlen τ) a3
      have hin : (L.map (C.cel τ)).flatten[q.toNat * U.K τ + j]? = some (.sl τ' l) := by
        rw [g3, ← g4, List.getElem?_append_right (Nat.le_add_right _ _), Nat.add_sub_cancel_left, List.getElem?_append_left (lt_of_some a4)]
        exact a4
      have := (k3.rd hZ (fun b hb' => by
        rcases hZt with h | h
        · cases h
        · exact h i t b h3 (by simp [Tr.all, hb']))).2 _ _ _ a6 hin
      exact ⟨rfl, this⟩
  | _ => cases h
end
end Go.EV
