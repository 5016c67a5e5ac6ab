/-
  THE EVALUATOR's KIT, twenty-fifth part: code. Plain theorems over any program; the conditions stand in each.
-/
import Derived.Test.YtiojlennpdmapaaGreatEVx
import Derived.Test.YtiojlennpdmapaaGreatVKe
set_option linter.unusedVariables false
set_option linter.unusedSimpArgs false
namespace Go.EV
open Go.RowKit Go.VK
variable {U : Uni} {Y : Lay U} {TI : List (Nat × TInfo)} {FZ : List (Nat × Sum U)} {P : Program} {g : GI} {E : Env g}

/-- All that a code writes lies in D. -/
def WC (D : Nat → Prop) : Code → Prop
  | .seq a b => WC D a ∧ WC D b
  | .cond c a b => (∀ n, c = .tmp n → D n) ∧ WC D a ∧ WC D b
  | .block _ c => WC D c
  | .loop c => WC D c
  | .region _ os _ => ∀ o ∈ os.toList, ∀ n, Wr os.toList o n → D n
  | _ => True
/-- All that the joins wipe lies in D. -/
def AW (D : Nat → Prop) : An → Prop
  | .s a b => AW D a ∧ AW D b
  | .j t a => (∀ n, inW t.ws 0 n = true → D n) ∧ AW D a
  | .jx t a => (∀ n, inW t.ws 0 n = true → D n) ∧ AW D a
  | .l t _ a => (∀ n, inW t.ws 0 n = true → D n) ∧ AW D a
  | .rj _ t _ => ∀ n, inW t.ws 0 n = true → D n
  | _ => True
theorem AW.true : ∀ an : An, AW (fun _ => True) an
  | .n => trivial
  | .s a b => ⟨AW.true a, AW.true b⟩
  | .j t a => ⟨fun _ _ => trivial, AW.true a⟩
  | .jx t a => ⟨fun _ _ => trivial, AW.true a⟩
  | .l t _ a => ⟨fun _ _ => trivial, AW.true a⟩
  | .r .. => trivial
  | .rj .. => fun _ _ => trivial
  | .z .. => trivial
theorem covR_spec : ∀ {ws : List (Nat × Nat)} {p lo hi n : Nat}, covR ws p lo hi = true → lo ≤ n → n < hi → inW ws p n = true
  | [], _, _, _, _, h, _, _ => by cases h
  | (a, b) :: r, p, lo, hi, n, h, h1, h2 => by
    simp only [covR, Bool.or_eq_true, Bool.and_eq_true] at h
    simp only [inW, Bool.or_eq_true, Bool.and_eq_true]
    rcases h with ⟨k1, k2⟩ | h
    · have := Nat.le_of_ble_eq_true k1; have := Nat.le_of_ble_eq_true k2
      exact .inl ⟨Nat.ble_eq_true_of_le (by omega), Nat.ble_eq_true_of_le (by omega)⟩
    · exact .inr (covR_spec h h1 h2)
theorem subR_spec {ws : List (Nat × Nat)} : ∀ {r : List (Nat × Nat)} {p n : Nat}, subR ws r p = true → inW r p n = true → inW ws 0 n = true
  | [], _, _, _, h => by cases h
  | (a, b) :: r, p, n, h, h1 => by
    simp only [subR, Bool.and_eq_true, Bool.or_eq_true] at h
    simp only [inW, Bool.or_eq_true, Bool.and_eq_true] at h1
    rcases h1 with ⟨k1, k2⟩ | h1
    · have := Nat.le_of_ble_eq_true k1; have := Nat.le_of_ble_eq_true k2
      rcases h.1 with h | h
      · have := Nat.eq_of_beq_eq_true h; omega
      · exact covR_spec h (by omega) (by omega)
    · exact subR_spec h.2 h1
theorem anW_spec {ws : List (Nat × Nat)} : ∀ {an : An}, anW ws an = true → AW (fun n => inW ws 0 n = true) an
  | .n, _ => trivial
  | .s a b, h => by simp only [anW, Bool.and_eq_true] at h; exact ⟨anW_spec h.1, anW_spec h.2⟩
  | .j t a, h => by simp only [anW, Bool.and_eq_true] at h; exact ⟨fun n => subR_spec h.1, anW_spec h.2⟩
  | .jx t a, h => by simp only [anW, Bool.and_eq_true] at h; exact ⟨fun n => subR_spec h.1, anW_spec h.2⟩
  | .l t _ a, h => by simp only [anW, Bool.and_eq_true] at h; exact ⟨fun n => subR_spec h.1, anW_spec h.2⟩
  | .r .., _ => trivial
  | .rj .., h => fun n => subR_spec h
  | .z .., _ => trivial
theorem AW.a {D : Nat → Prop} {an : An} (h : AW D an) : AW D an.a := by
  cases an <;> first | exact h.1 | trivial
theorem AW.b {D : Nat → Prop} {an : An} (h : AW D an) : AW D an.b := by
  cases an <;> first | exact h.2 | trivial
theorem wrG_spec {ws : List (Nat × Nat)} {al : List Oper} : ∀ {l : List Oper}, wrG ws al l = true → ∀ o ∈ l, ∀ n, Wr al o n → inW ws 0 n = true
  | [], _, o, h => by simp at h
  | x :: l, h, o, ho => by
    have e : wrG ws al (x :: l) = cond ((match x.dst with | some n => inW ws 0 n | none => true) && (match x.guard with | some (j, _) => (match nth al j with | some oj => (match oj.dst with | some n => inW ws 0 n | none => true) | none => true) | none => true)) (wrG ws al l) false := rfl
    rw [e] at h
    cases hc : ((match x.dst with | some n => inW ws 0 n | none => true) && (match x.guard with | some (j, _) => (match nth al j with | some oj => (match oj.dst with | some n => inW ws 0 n | none => true) | none => true) | none => true)) with
    | false => rw [hc] at h; cases h
    | true =>
      rw [hc] at h
      simp only [cond_true] at h
      rcases List.mem_cons.1 ho with rfl | ho
      · simp only [Bool.and_eq_true] at hc
        rintro n (hn | ⟨j, b, oj, h1, h2, h3⟩)
        · have := hc.1; rw [hn] at this; exact this
        · have := hc.2; rw [h1] at this; simp only [nth_eq, h2, h3] at this; exact this
      · exact wrG_spec h o ho
theorem wr_spec {ws : List (Nat × Nat)} : ∀ {f : Nat} {c : Code}, wr ws f c = true → WC (fun n => inW ws 0 n = true) c := by
  intro f
  induction f with
  | zero => intro c h; cases h
  | succ f ih =>
    intro c h
    cases c with
    | seq a b =>
      replace h : (wr ws f a && wr ws f b) = true := h
      simp only [Bool.and_eq_true] at h; exact ⟨ih h.1, ih h.2⟩
    | cond c a b =>
      cases c with
      | tmp n =>
        replace h : (inW ws 0 n && (wr ws f a && wr ws f b)) = true := h
        simp only [Bool.and_eq_true] at h
        exact ⟨fun n' e => by injection e with e; subst e; exact h.1, ih h.2.1, ih h.2.2⟩
      | _ => cases h
    | block id c => exact ih (c := c) h
    | loop c => exact ih (c := c) h
    | region id os d => exact wrG_spec (show wrG ws os.toList os.toList = true from h)
    | _ => trivial

section
variable {α : Type}
/-- Run from such a state, the code ends in one of the states that lead to z. -/
def Snd (P : Program) (Y : Lay U) (E : Env g) (D : Nat → Prop) (c : Code) (s : St U) {α : Type} (z : α) (N : St U → Option α) (X : Nat → St U → Option α) (R : St U → Option α) : Prop :=
  ∀ Q : Exit → Act → World → Prop, (∀ s' a w β, Ag D s s' → N s' = some z → Rel Y.C E s' a w β → Q .normal a w) → (∀ i s' a w β, Ag D s s' → X i s' = some z → Rel Y.C E s' a w β → Q (.exit i) a w) → (∀ s' a w β, Ag D s s' → R s' = some z → Rel Y.C E s' a w β → Q .ret a w) →
    ∀ a w β, Rel Y.C E s a w β → c.wp P Q a w
/-- Regions do what the evaluator says. -/
def RgnOk (P : Program) (Y : Lay U) (TI : List (Nat × TInfo)) (FZ : List (Nat × Sum U)) (E : Env g) : Prop :=
  ∀ (id : Nat) (os : Array Oper) (d : Bool) (an : An) (α : Type) (s : St U) (N : St U → Option α) (X : Nat → St U → Option α) (R : St U → Option α) (z : α) (D : Nat → Prop), (∀ o ∈ os.toList, ∀ n, Wr os.toList o n → D n) → AW D an → rgn Y TI FZ os.toList os d an s N = some z → Snd P Y E D (.region id os d) s z N X R

def NJ (an : An) : Prop := (∀ tm a, an ≠ .j tm a) ∧ ∀ tm a, an ≠ .jx tm a
section
variable {f : Nat} {an : An} {s : St U} {N : St U → Option α} {X : Nat → St U → Option α} {R : St U → Option α}
theorem ev_seq (h : NJ an) {a b : Code} : ev Y TI FZ (f + 1) an (.seq a b) α s N X R = ev Y TI FZ f an.a a α s (fun s' => ev Y TI FZ f an.b b α s' N X R) X R := by
  cases an <;> first | exact absurd rfl (h.1 _ _) | exact absurd rfl (h.2 _ _) | rfl
theorem ev_cond (h : NJ an) {n : Nat} {a b : Code} : ev Y TI FZ (f + 1) an (.cond (.tmp n) a b) α s N X R = tst n s (fun s => ev Y TI FZ f an.a a α s N X R) (fun s => ev Y TI FZ f an.b b α s N X R) := by
  cases an <;> first | exact absurd rfl (h.1 _ _) | exact absurd rfl (h.2 _ _) | rfl
theorem ev_cond0 (h : NJ an) {c : Operand} {a b : Code} {z : α} (hz : ev Y TI FZ (f + 1) an (.cond c a b) α s N X R = some z) : ∃ n, c = .tmp n := by
  cases c with
  | tmp n => exact ⟨n, rfl⟩
  | _ => cases an <;> first | exact absurd rfl (h.1 _ _) | exact absurd rfl (h.2 _ _) | cases hz
theorem ev_block (h : NJ an) {id : Nat} {c : Code} : ev Y TI FZ (f + 1) an (.block id c) α s N X R = ev Y TI FZ f an.a c α s N (fun i s' => bif Nat.beq i id then N s' else X i s') R := by
  cases an <;> first | exact absurd rfl (h.1 _ _) | exact absurd rfl (h.2 _ _) | rfl
theorem ev_loop (h : NJ an) {c : Code} {z : α} (hz : ev Y TI FZ (f + 1) an (.loop c) α s N X R = some z) : ∃ tm n a, an = .l tm n a ∧ (bif wr tm.ws f c && anW tm.ws a then bd (col Y s tm s) (itr n fun rec d => ev Y TI FZ f a c α (reb Y s tm d) (fun s' => bd (col Y s tm s') rec) X R) else none) = some z := by
  cases an with
  | l tm n a => exact ⟨tm, n, a, rfl, hz⟩
  | j => exact absurd rfl (h.1 _ _)
  | jx => exact absurd rfl (h.2 _ _)
  | _ => cases hz
theorem ev_skip (h : NJ an) : ev Y TI FZ (f + 1) an .skip α s N X R = N s := by
  cases an <;> first | exact absurd rfl (h.1 _ _) | exact absurd rfl (h.2 _ _) | rfl
theorem ev_ret (h : NJ an) : ev Y TI FZ (f + 1) an .ret α s N X R = R s := by
  cases an <;> first | exact absurd rfl (h.1 _ _) | exact absurd rfl (h.2 _ _) | rfl
theorem ev_exit (h : NJ an) {i : Nat} : ev Y TI FZ (f + 1) an (.exit i) α s N X R = X i s := by
  cases an <;> first | exact absurd rfl (h.1 _ _) | exact absurd rfl (h.2 _ _) | rfl
theorem ev_region (h : NJ an) {id : Nat} {os : Array Oper} {d : Bool} : ev Y TI FZ (f + 1) an (.region id os d) α s N X R = rgn Y TI FZ os.toList os d an s N := by
  cases an <;> first | exact absurd rfl (h.1 _ _) | exact absurd rfl (h.2 _ _) | rfl
end
theorem an_cases (an : An) : (∃ tm a, an = .j tm a) ∨ (∃ tm a, an = .jx tm a) ∨ NJ an := by
  cases an <;> simp [NJ]

theorem ev_sound (HR : RgnOk P Y TI FZ E) : ∀ (f : Nat) (an : An) (c : Code) (α : Type) (s : St U) (N : St U → Option α) (X : Nat → St U → Option α) (R : St U → Option α) (z : α) (D : Nat → Prop), WC D c → AW D an → ev Y TI FZ f an c α s N X R = some z → Snd P Y E D c s z N X R
  | 0, an, c, α, s, N, X, R, z, D, _, _, h => by cases h
  | f + 1, an, c, α, s, N, X, R, z, D, hw, ha, h => by
    rcases an_cases an with ⟨tm, a, rfl⟩ | ⟨tm, a, rfl⟩ | hn
    · replace h : (bif wr tm.ws f c && anW tm.ws a then bd (ev Y TI FZ f a c (Dat U tm.it) s (fun s' => col Y s tm s') (fun _ _ => none) (fun _ => none)) fun d => N (reb Y s tm d) else none) = some z := h
      cases hb : (wr tm.ws f c && anW tm.ws a) with
      | false => rw [hb] at h; cases h
      | true =>
        rw [hb] at h
        simp only [cond_true] at h
        simp only [Bool.and_eq_true] at hb
        obtain ⟨d, h1, h2⟩ := bd_some h
        intro Q hN hX hR a0 w0 β0 r0
        refine ev_sound HR f a c _ s _ _ _ d _ (wr_spec hb.1) (anW_spec hb.2) h1 Q (fun s' a' w' β' hag hc r' => ?_) (fun i s' a' w' β' _ hc _ => by cases hc) (fun s' a' w' β' _ hc _ => by cases hc) a0 w0 β0 r0
        obtain ⟨β'', r''⟩ := reb_sound r0 r' hag hc
        obtain ⟨_, _, _, hs, _⟩ := col_inv hc
        exact hN _ _ _ _ ((reb_ag hs).mono ha.1) h2 r''
    · replace h : (bif wr tm.ws f c && anW tm.ws a then nx (ev Y TI FZ f a c (α ⊕ Dat U tm.it) s (fun s' => bd (col Y s tm s') fun d => some (.inr d)) (fun i s' => bd (X i s') fun r => some (.inl r)) (fun s' => bd (R s') fun r => some (.inl r))) fun d => N (reb Y s tm d) else none) = some z := h
      cases hb : (wr tm.ws f c && anW tm.ws a) with
      | false => rw [hb] at h; cases h
      | true =>
        rw [hb] at h
        simp only [cond_true] at h
        simp only [Bool.and_eq_true] at hb
        obtain ⟨q, h1, h2⟩ := nx_some h
        intro Q hN hX hR a0 w0 β0 r0
        refine ev_sound HR f a c _ s _ _ _ q _ (wr_spec hb.1) (anW_spec hb.2) h1 Q (fun s' a' w' β' hag hc r' => ?_) (fun i s' a' w' β' hag hc r' => ?_) (fun s' a' w' β' hag hc r' => ?_) a0 w0 β0 r0
        · obtain ⟨d, h3, h4⟩ := bd_some hc
          have := Option.some.inj h4; subst this
          obtain ⟨β'', r''⟩ := reb_sound r0 r' hag h3
          obtain ⟨_, _, _, hs, _⟩ := col_inv h3
          exact hN _ _ _ _ ((reb_ag hs).mono ha.1) h2 r''
        · obtain ⟨d, h3, h4⟩ := bd_some hc
          have := Option.some.inj h4; subst this
          obtain rfl : d = z := h2
          exact hX i s' a' w' β' (hag.mono ha.1) h3 r'
        · obtain ⟨d, h3, h4⟩ := bd_some hc
          have := Option.some.inj h4; subst this
          obtain rfl : d = z := h2
          exact hR s' a' w' β' (hag.mono ha.1) h3 r'
    cases c with
    | seq a b =>
      rw [ev_seq hn] at h
      intro Q hN hX hR a0 w0 β0 r0
      exact wp_seq (ev_sound HR f an.a a _ s _ _ _ z D hw.1 ha.a h (Exit.then (b.wp P Q) Q) (fun s' a' w' β' hag h2 r' =>
        ev_sound HR f an.b b _ s' _ _ _ z D hw.2 ha.b h2 Q (fun s2 a2 w2 β2 hg => hN s2 a2 w2 β2 (hag.trans hg)) (fun i s2 a2 w2 β2 hg => hX i s2 a2 w2 β2 (hag.trans hg)) (fun s2 a2 w2 β2 hg => hR s2 a2 w2 β2 (hag.trans hg)) a' w' β' r')
        (fun i s' a' w' β' hag h2 r' => hX i s' a' w' β' hag h2 r') (fun s' a' w' β' hag h2 r' => hR s' a' w' β' hag h2 r') a0 w0 β0 r0)
    | cond c0 a b =>
        obtain ⟨n, rfl⟩ := ev_cond0 hn h
        rw [ev_cond hn] at h
        intro Q hN hX hR a0 w0 β0 r0
        obtain ⟨t, s1, k1, k2, k3, k4, k5, k6⟩ := tst_sound r0 h
        have hag := k6.mono (D' := D) (fun k e => e ▸ hw.1 n rfl)
        refine wp_cond_split k1 (fun ht => ?_) (fun hf => ?_)
        · exact ev_sound HR f an.a a _ s1 _ _ _ z D hw.2.1 ha.a (k4 ht) Q (fun s2 a2 w2 β2 hg => hN s2 a2 w2 β2 (hag.trans hg)) (fun i s2 a2 w2 β2 hg => hX i s2 a2 w2 β2 (hag.trans hg)) (fun s2 a2 w2 β2 hg => hR s2 a2 w2 β2 (hag.trans hg)) a0 w0 β0 k3
        · exact ev_sound HR f an.b b _ s1 _ _ _ z D hw.2.2 ha.b (k5 hf) Q (fun s2 a2 w2 β2 hg => hN s2 a2 w2 β2 (hag.trans hg)) (fun i s2 a2 w2 β2 hg => hX i s2 a2 w2 β2 (hag.trans hg)) (fun s2 a2 w2 β2 hg => hR s2 a2 w2 β2 (hag.trans hg)) a0 w0 β0 k3
    | block id c' =>
      rw [ev_block hn] at h
      intro Q hN hX hR a0 w0 β0 r0
      refine wp_block (ev_sound HR f an.a c' _ s _ _ _ z D hw ha.a h (Exit.inBlock id Q) (fun s' a' w' β' hag h2 r' => hN s' a' w' β' hag h2 r') (fun i s' a' w' β' hag h2 r' => ?_) (fun s' a' w' β' hag h2 r' => hR s' a' w' β' hag h2 r') a0 w0 β0 r0)
      simp only [Exit.inBlock]
      cases hb : Nat.beq i id with
      | true =>
        rw [if_pos (Nat.eq_of_beq_eq_true hb)]
        simp only [hb, cond_true] at h2
        exact hN s' a' w' β' hag h2 r'
      | false =>
        rw [if_neg (fun e => by subst e; rw [show Nat.beq i i = true from Nat.beq_refl i] at hb; cases hb)]
        simp only [hb, cond_false] at h2
        exact hX i s' a' w' β' hag h2 r'
    | loop c' =>
      obtain ⟨tm, n, a, rfl, h'⟩ := ev_loop hn h
      replace h := h'
      cases hb : (wr tm.ws f c' && anW tm.ws a) with
      | false => rw [hb] at h; cases h
      | true =>
        rw [hb] at h
        simp only [cond_true] at h
        simp only [Bool.and_eq_true] at hb
        obtain ⟨d0, h1, h2⟩ := bd_some h
        intro Q hN hX hR a0 w0 β0 r0
        have key : ∀ (m : Nat) (d : Dat U tm.it), itr m (fun rec d => ev Y TI FZ f a c' α (reb Y s tm d) (fun s' => bd (col Y s tm s') rec) X R) d = some z → ∀ a1 w1 β1, Rel Y.C E (reb Y s tm d) a1 w1 β1 → Ag (fun n => inW tm.ws 0 n = true) s (reb Y s tm d) → ∀ (b : Frame) (kk : List Item) (cs : List Frame),
            ∃ e a' w', Q e a' w' ∧ Arrives P (lone (b.at a1 (.code c' :: .inLoop c' :: kk)) cs w1) b kk cs e a' w' := by
          intro m
          induction m with
          | zero => intro d hd; cases hd
          | succ m ih =>
            intro d hd a1 w1 β1 r1 hg b kk cs
            have hd' : ev Y TI FZ f a c' α (reb Y s tm d) (fun s' => bd (col Y s tm s') (itr m (fun rec d => ev Y TI FZ f a c' α (reb Y s tm d) (fun s' => bd (col Y s tm s') rec) X R))) X R = some z := hd
            have hbody := ev_sound HR f a c' _ _ _ _ _ z _ (wr_spec hb.1) (anW_spec hb.2) hd' (Exit.then (fun a' w' => ∃ d' β', itr m (fun rec d => ev Y TI FZ f a c' α (reb Y s tm d) (fun s' => bd (col Y s tm s') rec) X R) d' = some z ∧ Rel Y.C E (reb Y s tm d') a' w' β' ∧ Ag (fun n => inW tm.ws 0 n = true) s (reb Y s tm d')) Q)
              (fun s2 a2 w2 β2 hg2 hc r2 => by
                obtain ⟨d', q1, q2⟩ := bd_some hc
                obtain ⟨β', r'⟩ := reb_sound r0 r2 (hg.trans hg2) q1
                obtain ⟨_, _, _, hs, _⟩ := col_inv q1
                exact ⟨d', β', q2, r', reb_ag hs⟩)
              (fun i s2 a2 w2 β2 hg2 hc r2 => hX i s2 a2 w2 β2 ((hg.trans hg2).mono ha.1) hc r2)
              (fun s2 a2 w2 β2 hg2 hc r2 => hR s2 a2 w2 β2 ((hg.trans hg2).mono ha.1) hc r2) a1 w1 β1 r1 b (.inLoop c' :: kk) cs
            obtain ⟨e, a₁, w₁, hq, harr⟩ := hbody
            cases e with
            | normal =>
              obtain ⟨d', β', j1, j2, j3⟩ := hq
              obtain ⟨e₂, a₂, w₂, hq₂, harr₂⟩ := ih d' j1 a₁ w₁ β' j2 j3 b kk cs
              exact ⟨e₂, a₂, w₂, hq₂, .of_steps (Steps.trans harr (.one step_inLoop)) harr₂⟩
            | exit id => exact ⟨_, a₁, w₁, hq, .pass (x := .inLoop c') rfl (fun _ _ => .inl (by simp)) harr⟩
            | goto l => exact ⟨_, a₁, w₁, hq, .pass (x := .inLoop c') rfl (fun _ _ => .inl (by simp)) harr⟩
            | ret => exact ⟨_, a₁, w₁, hq, .pass (x := .inLoop c') rfl (fun _ _ => .inl (by simp)) harr⟩
            | panic ch => exact ⟨_, a₁, w₁, hq, .pass (x := .inLoop c') rfl (fun _ _ => .inl (by simp)) harr⟩
            | outgrown => exact ⟨_, a₁, w₁, hq, .pass (x := .inLoop c') rfl (fun _ _ => .inl (by simp)) harr⟩
        intro b kk cs
        obtain ⟨β1, r1⟩ := reb_sound r0 r0 (Ag.refl s) h1
        obtain ⟨_, _, _, hs, _⟩ := col_inv h1
        obtain ⟨e, a', w', hq, harr⟩ := key n d0 h2 a0 w0 β1 r1 (reb_ag hs) b kk cs
        exact ⟨e, a', w', hq, .of_steps (.one step_loop) harr⟩
    | skip =>
      rw [ev_skip hn] at h
      intro Q hN hX hR a0 w0 β0 r0
      exact wp_skip (hN s a0 w0 β0 (Ag.refl s) h r0)
    | ret =>
      rw [ev_ret hn] at h
      intro Q hN hX hR a0 w0 β0 r0
      exact wp_ret (hR s a0 w0 β0 (Ag.refl s) h r0)
    | exit i =>
      rw [ev_exit hn] at h
      intro Q hN hX hR a0 w0 β0 r0
      exact wp_exit (hX i s a0 w0 β0 (Ag.refl s) h r0)
    | region id os d =>
      rw [ev_region hn] at h
      exact HR id os d an α s N X R z D hw ha h
    | _ => cases an <;> first | exact absurd rfl (hn.1 _ _) | exact absurd rfl (hn.2 _ _) | cases h
end
end Go.EV
