/-
  THE EVALUATOR's KIT, tenth part: the steps of 'stpM' are sound. Plain theorems over any program; the conditions stand in each.
-/
import Derived.Test.YtiojlennpdmapaaGreatEVi
set_option linter.unusedVariables false
set_option linter.unusedSimpArgs false
namespace Go.EV
open Go.RowKit Go.VK
variable {U : Uni} {Y : Lay U} {TI : List (Nat × TInfo)} {P : Program} {g : GI} {E : Env g}
section
variable {s : St U} {a : Act} {w : World} {β : List Tr} {α : Type}

theorem natOf_int {x : Operand} {n : Int} (h : natOf (opd s x) = some n) : ∃ k, opd s x = .l (.int k n) := by
  cases ho : opd s x with
  | l y =>
    cases y with
    | int k m => rw [ho] at h; simp only [natOf, Option.some.injEq] at h; subst h; exact ⟨k, rfl⟩
    | _ => rw [ho] at h; cases h
  | _ => rw [ho] at h; cases h

/-- A slice's part: what it means. -/
theorem subl_mean (r : Rel Y.C E s a w β) {f : (τ : Nat) → List (U.El τ) → List (U.El τ)} {p p' : Lf U} {τ : Nat} {l : List (U.El τ)} (hr : rdl s.m p = some (.sl τ l)) (hs : subl f s.m.o p = some p') {v v0 : Value} (hm : p.mean Y.C w (E.X β) β s.m v0)
    (h1 : v.oneCell' = true) (hv : ∀ Z : Nat → Prop, Rd w Z [] v0 (.slice (U.K τ) (l.map (U.enc τ))) → Rd w Z [] v (.slice (U.K τ) ((f τ l).map (U.enc τ)))) : p'.mean Y.C w (E.X β) β s.m v := by
  have own : ∀ (i c : Nat) (e : EO U), s.m.o[i]? = some e → e.cv = c → freeL p = false → (∀ t, β[i]? = some t → Rd w (fun b => E.X β b ∧ b ∉ t.all) [] v0 (.slice (U.K τ) (l.map (U.enc τ)))) → (Lf.bor i c τ (f τ l) : Lf U).mean Y.C w (E.X β) β s.m v := fun i c e he hc _ hrd => by
    obtain ⟨t, ht⟩ := r.hp.tr he
    exact ⟨⟨hc ▸ (r.hp.vers i e he).2, h1⟩, e, t, he, ht, fun _ => hv _ (hrd t ht)⟩
  cases p with
  | sl τ' l' =>
    simp only [rdl, Option.some.injEq, Lf.sl.injEq] at hr
    obtain ⟨rfl, hl⟩ := hr
    obtain rfl := eq_of_heq hl
    simp only [subl, Option.some.injEq] at hs; subst hs
    exact hv _ hm
  | own i q =>
    obtain ⟨_, e, t, k1, k2, k3⟩ := hm
    simp only [rdl, nth_eq, k1] at hr
    simp only [subl, nth_eq, k1] at hs
    obtain ⟨ob, rv, cv⟩ := e
    cases ob with
    | tree τ' d l' =>
      cases hb : Nat.beq rv q with
      | false => simp [hb] at hr
      | true =>
        simp only [hb, cond_true, Option.some.injEq, Lf.sl.injEq] at hr hs
        obtain ⟨rfl, hl⟩ := hr
        obtain rfl := eq_of_heq hl
        subst hs
        refine own i cv _ k1 rfl rfl (fun t' ht' => ?_)
        rw [k2] at ht'; injection ht' with ht'; subst ht'
        rw [k3 (Nat.eq_of_beq_eq_true hb)]
        exact (Hp.tree r.hp k2 k1 rfl).rd (fun b hb' => hb'.1) (fun b hb' hn => hn.2 hb')
    | _ => cases hr
  | bor i c τ' l' =>
    obtain ⟨h0, e, t, k1, k2, k3⟩ := hm
    simp only [rdl, okv, nth_eq, k1] at hr
    simp only [subl, Option.some.injEq] at hs
    cases hb : Nat.beq e.cv c with
    | false => simp [hb] at hr
    | true =>
      simp only [hb, cond_true, Option.some.injEq, Lf.sl.injEq] at hr
      obtain ⟨rfl, hl⟩ := hr
      obtain rfl := eq_of_heq hl
      subst hs
      refine own i c e k1 (Nat.eq_of_beq_eq_true hb) rfl (fun t' ht' => ?_)
      rw [k2] at ht'; injection ht' with ht'; subst ht'
      exact k3 (Nat.eq_of_beq_eq_true hb)
  | inn i c τ0 q z j τ' l' =>
    have hm0 := hm
    obtain ⟨h0, e, t, k1, k2, k3⟩ := hm
    have hr0 := hr
    simp only [rdl, okv, nth_eq, k1] at hr
    simp only [subl, Option.some.injEq] at hs
    cases hb : Nat.beq e.cv c with
    | false => simp [hb] at hr
    | true =>
      simp only [hb, cond_true, Option.some.injEq, Lf.sl.injEq] at hr
      obtain ⟨rfl, hl⟩ := hr
      obtain rfl := eq_of_heq hl
      subst hs
      refine own i c e k1 (Nat.eq_of_beq_eq_true hb) rfl (fun t' ht' => ?_)
      rw [k2] at ht'; injection ht' with ht'; subst ht'
      have hc := Nat.eq_of_beq_eq_true hb
      obtain ⟨d, L, xs, a1, a2, a3, a4, a5, a6⟩ := k3 hc
      have hok := r.hp.ok i t e k2 k1
      rw [a1] at hok
      obtain ⟨_, xs', b2, b3⟩ := hok
      -- the element's cells, by the tree round it
      obtain ⟨l1, l2, x1, xz, x2, B1, Bz, B2, g1, g2, g3, g4, g5, g6, o1, o2, o3, _⟩ := tree_at r.hp k2 k1 a1 a3
      have hxs : xs = x1 ++ (xz ++ x2) := by
        rcases ownsRow_root a5 with ⟨c1, c2, c3, _⟩ | ⟨b, cur, c1, _, _, _, c5, _, c7⟩
        · have := g3.1; rw [c2] at this; simp at this
          rw [c3, this.1, this.2.1, this.2.2]; rfl
        · rcases ownsRow_root g3 with ⟨d1, _⟩ | ⟨b', cur', d1, _, _, _, d5, _, d7⟩
          · rw [c1] at d1; cases d1
          · rw [c1] at d1; injection d1 with d1; subst d1
            rw [c5] at d5; injection d5 with d5; injection d5 with d5; subst d5
            rw [← c7, ← d7]
      have hvz : xz[j]? = some v0 := by
        have hjl : j < xz.length := by rw [g5, ← Y.C.hlen τ0 z]; exact lt_of_some a4
        rw [hxs, ← g4, List.getElem?_append_right (Nat.le_add_right _ _), Nat.add_sub_cancel_left, List.getElem?_append_left hjl] at a6
        exact a6
      exact (o2.rd (Z := fun b => E.X β b ∧ b ∉ t.all) (fun b hb' => hb'.1) (fun b hb' hn => hn.2 (by simp [Tr.all, g6, hb']))).2 j v0 _ hvz a4
  | _ => cases hs

/-- A part of a slice that may be read. -/
theorem sub_of (r : Rel Y.C E s a w β) {op : Op} {f : (τ : Nat) → List (U.El τ) → List (U.El τ)} {x : Operand} {p p' : Lf U} {τ : Nat} {l : List (U.El τ)} (hx : opd s x = .l p) (hr : rdl s.m p = some (.sl τ l)) (hs : subl f s.m.o p = some p')
    (a0 b0 : Nat) (hab : a0 ≤ b0) (hb : b0 ≤ l.length) (hf : f τ l = (l.take b0).drop a0)
    (hrun : ∀ (A : Option Addr) (c : Nat), a.eval x = .slice A l.length c → l.length ≤ c → ∀ o : Oper, o.op = op → ∀ w', (execOp a.eval o).run P w' = .ok (.value (.slice (if c = a0 then A else A.map fun q => q.add (a0 * U.K τ)) (b0 - a0) (c - a0))) w') : MO P Y.C E s a w β op (.l p') := fun o ho => by
  have hm := sv_l r hx
  have h0 := (rdl_mean r.hp hm hr (Z := fun _ => False) (fun _ h => h.elim) (.inr fun _ _ _ _ _ h => h)).2
  obtain ⟨A, c, h1, h2, h3⟩ := Rd.slice_len (show Rd w _ [] (a.eval x) (.slice (U.K τ) (l.map (U.enc τ))) from h0)
  rw [List.length_map] at h1 h2
  refine ⟨_, fun w' _ => hrun A c h1 h2 o ho w', subl_mean r hr hs hm rfl fun Z hZ => ?_⟩
  rw [h1] at hZ
  rw [hf, List.map_drop, List.map_take]
  exact hZ.sub hab (by rw [List.length_map]; exact hb)
theorem slice_sound (hTI : tiOk P TI = true) (r : Rel Y.C E s a w β) {t : TypeId} {x : Operand} {lo hi : Option Operand} {K : Sv U → Option α} {z : α} (h : stpM Y TI s (.slice t x lo hi none) K = some z) : ∃ y, K y = some z ∧ MO P Y.C E s a w β (.slice t x lo hi none) y := by
  simp only [stpM] at h
  split at h
  · rename_i i k zz str h1 h2
    have ht := (ti_str (tiOk_at hTI h1) rfl).1
    split at h
    · rename_i hh
      split at h
      · rename_i n hn
        obtain ⟨hg, h⟩ := gd_some h
        obtain ⟨kk, hn⟩ := natOf_int hn
        exact ⟨_, h, mo_str r fun _ => ssl1 hg ht (ev_str h2) (ev_int hn)⟩
      · cases h
    · rename_i ll
      split at h
      · rename_i n hn
        obtain ⟨hg, h⟩ := gd_some h
        obtain ⟨kk, hn⟩ := natOf_int hn
        exact ⟨_, h, mo_str r fun _ => ssl2 hg ht (ev_str h2) (ev_int hn)⟩
      · cases h
    · rename_i ll hh
      split at h
      · rename_i m n hm hn
        obtain ⟨hg, h⟩ := gd_some h
        obtain ⟨kk, hn⟩ := natOf_int hn
        obtain ⟨kk', hm⟩ := natOf_int hm
        exact ⟨_, h, mo_str r fun _ => ssl3 hg ht (ev_str h2) (ev_int hm) (ev_int hn)⟩
      · cases h
    · cases h
  · rename_i e ek eb k zz p h1 h2
    have hsl := (ti_sl (tiOk_at hTI h1) rfl).1
    obtain ⟨hu, ii, zz', hii, hz, hik, hib, hzk, hk0⟩ := slB_spec hsl
    split at h
    · rename_i τ l hr
      cases hoe : okE (U := U) e ek τ with
      | false => simp [hoe] at h
      | true =>
        simp only [hoe, cond_true] at h
        simp only [okE, Bool.and_eq_true] at hoe
        have he : e = τ := Nat.eq_of_beq_eq_true hoe.1
        have hk : U.K τ = ek := Nat.eq_of_beq_eq_true hoe.2
        subst he
        split at h
        · split at h
          · rename_i p' hs
            refine ⟨_, h, sub_of r h2 hr hs 0 l.length (Nat.zero_le _) (Nat.le_refl _) (by simp) fun A c hA hc o ho w' => ?_⟩
            simp [execOp, ho, hA, Instr.sliceAt, Instr.slice, run_underlying hu, Instr.sliceBounds, Instr.sliceBound, asIntOf, sizeOf, typeInfo, hii, hc]
          · cases h
        · rename_i hh
          split at h
          · rename_i n p' hn hs
            obtain ⟨hg, h⟩ := gd_some h
            rw [hn] at hs
            obtain ⟨kk, hn'⟩ := natOf_int hn
            have hnv : a.eval hh = .int kk n := (sv_l r hn').1
            refine ⟨_, h, sub_of r h2 hr hs 0 n.toNat (Nat.zero_le _) hg.2 (by simp) fun A c hA hc o ho w' => ?_⟩
            have e1 : (0 ≤ n ∧ n ≤ (c : Int)) := ⟨hg.1, by have := hg.2; have := hg.1; omega⟩
            simp [execOp, ho, hA, hnv, Instr.sliceAt, Instr.slice, run_underlying hu, Instr.sliceBounds, Instr.sliceBound, asIntOf, e1, sizeOf, typeInfo, hii]
          · cases h
        · rename_i bb
          split at h
          · rename_i n p' hn hs
            obtain ⟨hg, h⟩ := gd_some h
            rw [hn] at hs
            obtain ⟨kk, hn'⟩ := natOf_int hn
            have hnv : a.eval bb = .int kk n := (sv_l r hn').1
            refine ⟨_, h, sub_of r h2 hr hs n.toNat l.length hg.2 (Nat.le_refl _) (by simp) fun A c hA hc o ho w' => ?_⟩
            have e1 : (0 ≤ n ∧ n ≤ (l.length : Int)) := ⟨hg.1, by have := hg.2; have := hg.1; omega⟩
            simp [execOp, ho, hA, hnv, Instr.sliceAt, Instr.slice, run_underlying hu, Instr.sliceBounds, Instr.sliceBound, asIntOf, e1, sizeOf, typeInfo, hii, hik, hk]
          · cases h
        · rename_i bb hh
          split at h
          · rename_i n m p' hn hm hs
            obtain ⟨hg, h⟩ := gd_some h
            rw [hn, hm] at hs
            obtain ⟨kk, hn'⟩ := natOf_int hn
            obtain ⟨kk', hm'⟩ := natOf_int hm
            have hnv : a.eval bb = .int kk n := (sv_l r hn').1
            have hmv : a.eval hh = .int kk' m := (sv_l r hm').1
            obtain ⟨g1, g2, g3, g4⟩ := hg
            refine ⟨_, h, sub_of r h2 hr hs n.toNat m.toNat (by omega) g4 (by simp) fun A c hA hc o ho w' => ?_⟩
            have e1 : (0 ≤ m ∧ m ≤ (c : Int)) := ⟨g3, by omega⟩
            have e2 : (0 ≤ n ∧ n ≤ ((m.toNat : Nat) : Int)) := ⟨g1, by omega⟩
            simp [execOp, ho, hA, hnv, hmv, Instr.sliceAt, Instr.slice, run_underlying hu, Instr.sliceBounds, Instr.sliceBound, asIntOf, e1, e2, sizeOf, typeInfo, hii, hik, hk]
            intro hh; exfalso; omega
          · cases h
    · cases h
  · cases h
end
end Go.EV
