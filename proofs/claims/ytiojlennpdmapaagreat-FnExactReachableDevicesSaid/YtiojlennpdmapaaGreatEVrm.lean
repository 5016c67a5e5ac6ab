/-
  THE EVALUATOR's KIT: calls of functions that write their first argument. Plain theorems over any program; the conditions stand in each.
-/
import Derived.Test.YtiojlennpdmapaaGreatEVr
set_option linter.unusedVariables false
set_option linter.unusedSimpArgs false
namespace Go.EV
open Go.RowKit Go.VK
variable {U : Uni} {Y : Lay U} {TI : List (Nat × TInfo)} {FZ : List (Nat × Sum U)} {P : Program} {g : GI} {E : Env g}
section
variable {s : St U} {a : Act} {w : World} {β : List Tr} {α : Type} {C : Cod U}

theorem updA_len : ∀ {l : List (Nat × EO U)} {o : List (EO U)}, (updA l o).length = o.length
  | [], o => rfl
  | x :: l, o => by
    have e : updA (x :: l) o = upd (updA l o) x.1 x.2 := rfl
    rw [e, upd_eq, List.length_set, updA_len]
theorem fstE_eq : ∀ {l : List (Nat × EO U)}, fstE l = l.map (·.1)
  | [] => rfl
  | x :: l => by
    have e : fstE (x :: l) = x.1 :: fstE l := rfl
    rw [e, fstE_eq]; rfl
theorem updA_out : ∀ {l : List (Nat × EO U)} {o : List (EO U)} {j : Nat}, j ∉ fstE l → (updA l o)[j]? = o[j]?
  | [], o, j, _ => rfl
  | x :: l, o, j, h => by
    have e : updA (x :: l) o = upd (updA l o) x.1 x.2 := rfl
    have e2 : fstE (x :: l) = x.1 :: fstE l := rfl
    rw [e2] at h
    rw [e, upd_eq, List.getElem?_set_ne (fun hh => h (by simp [hh])), updA_out (fun hh => h (by simp [hh]))]
theorem updA_in : ∀ {l : List (Nat × EO U)} {o : List (EO U)} {j : Nat} {e : EO U}, (fstE l).Nodup → (j, e) ∈ l → j < o.length → (updA l o)[j]? = some e
  | [], o, j, e, _, h, _ => by simp at h
  | x :: l, o, j, e, hn, h, hj => by
    have e1 : updA (x :: l) o = upd (updA l o) x.1 x.2 := rfl
    have e2 : fstE (x :: l) = x.1 :: fstE l := rfl
    rw [e2] at hn
    obtain ⟨n1, n2⟩ := List.nodup_cons.1 hn
    rw [e1, upd_eq]
    rcases List.mem_cons.1 h with h | h
    · subst h
      rw [List.getElem?_set_self (by rw [updA_len]; exact hj)]
    · have hm : j ∈ fstE l := by rw [fstE_eq]; exact List.mem_map.2 ⟨_, h, rfl⟩
      rw [List.getElem?_set_ne (fun hh => n1 (by rw [hh]; exact hm))]
      exact updA_in n2 h hj

/-- Two rows that name the same cells. -/
theorem ownsRow_same {τ k n : Nat} {t : Tr} {xs xs' : List Value} (k2 : w.ownsRow 0 τ k t.val n xs) (a5 : w.ownsRow 0 τ k t.val n xs') : xs = xs' := by
  rcases ownsRow_root k2 with ⟨b1, b2, b3, _⟩ | ⟨b, cur, b1, _, _, _, b5, _, b7⟩
  · rw [b3]
    have := a5.1; rw [b2] at this; simp at this; exact this.symm
  · rcases ownsRow_root a5 with ⟨c1, _⟩ | ⟨b', cur', c1, _, _, _, c5, _, c7⟩
    · rw [b1] at c1; cases c1
    · rw [b1] at c1; injection c1 with c1; subst c1
      rw [b5] at c5; injection c5 with c5; injection c5 with c5; subst c5
      rw [← b7, ← c7]
theorem in4 {x : Nat} {l a b c d : List Nat} (hl : l = a ++ (b ++ (c ++ d))) (h : x ∈ a ++ (b ++ d)) : x ∈ l := by
  rw [hl]
  simp only [List.mem_append] at h ⊢
  rcases h with h | h | h
  · exact .inl h
  · exact .inr (.inl h)
  · exact .inr (.inr (.inr h))
theorem nd_inj {δ : Type} {l : List δ} (h : l.Nodup) {i j : Nat} {x : δ} (hi : l[i]? = some x) (hj : l[j]? = some x) : i = j := by
  have hp := List.pairwise_iff_getElem.1 h
  obtain ⟨l1, e1⟩ := List.getElem?_eq_some_iff.1 hi
  obtain ⟨l2, e2⟩ := List.getElem?_eq_some_iff.1 hj
  rcases Nat.lt_trichotomy i j with q | q | q
  · exact absurd (e1.trans e2.symm) (hp i j l1 l2 q)
  · exact q
  · exact absurd (e2.trans e1.symm) (hp j i l2 l1 q)
theorem posKs_spec : ∀ {ks : List Kd}, posKs (U := U) ks = true → ∀ kd ∈ ks, ∀ τ, kd = .sl τ → 0 < U.K τ
  | [], _, kd, h, _, _ => by simp at h
  | k :: ks, h, kd, hk, τ, e => by
    cases k with
    | sl τ' =>
      simp only [posKs, Bool.and_eq_true] at h
      rcases List.mem_cons.1 hk with rfl | hk
      · injection e with e; subst e; exact Nat.le_of_ble_eq_true h.1
      · exact posKs_spec h.2 kd hk τ e
    | _ =>
      rcases List.mem_cons.1 hk with rfl | hk
      · cases e
      · exact posKs_spec (ks := ks) h kd hk τ e
/-- A tree that stands in a memory. -/
def TrOk (C : Cod U) (w : World) (t : Tr) (τ : Nat) (L : List (U.El τ)) : Prop := 0 < U.K τ ∧ ∃ xs, w.ownsRow 0 τ (U.K τ) t.val L.length xs ∧ OwL C w (fun _ => False) true xs (L.map (C.cel τ)).flatten t.bs
/-- What a leaf hands over (B), and what it is when that comes back. -/
structure Hd (C : Cod U) (m : Mm U) (w : World) (β : List Tr) (v : Value) (y' : Lf U) (i : Nat) (e : EO U) (t : Tr) (B : List Nat) : Prop where
  ht : β[i]? = some t
  he : ∃ e0 τ L, m.o[i]? = some e0 ∧ e0.ob.isBox = false ∧ e = ⟨.tree τ true L, e0.rv, Nat.succ m.k⟩
  sub : ∀ b ∈ B, b ∈ t.all
  back : ∀ w' B', w.heap.size ≤ w'.heap.size → Ow C w' (fun _ => False) true v y' B' → (∀ b ∈ t.all, b ∉ B → w'.heap[b]? = w.heap[b]?) →
    ∃ t' τ L, t'.val = t.val ∧ (∀ b ∈ t'.all, b ∈ B' ∨ (b ∈ t.all ∧ b ∉ B)) ∧ (B'.Nodup → (∀ b ∈ B', b ∈ t.all → b ∈ B) → t'.all.Nodup) ∧ e.ob = .tree τ true L ∧ TrOk C w' t' τ L

theorem noTr_inv {X : Nat → Prop} {y : Lf U} {B : List Nat} (h : Ow C w X true (.slice none 0 0) y B) : B = [] := by
  generalize hv : Value.slice none 0 0 = v at h
  cases h with
  | int => cases hv
  | bool => cases hv
  | str => cases hv
  | fz h0 => cases h0
  | sl t hk hown hc =>
    obtain ⟨b, n, c, bs⟩ := t
    simp only [Tr.val, Value.slice.injEq] at hv
    obtain ⟨h1, rfl, rfl⟩ := hv
    cases b with
    | some b => cases h1
    | none =>
      rcases ownsRow_root hown with ⟨_, h2, h3, _⟩ | ⟨b, _, h2, _⟩
      · subst h3
        have hl := List.eq_nil_of_length_eq_zero h2
        subst hl
        cases hc
        rfl
      · cases h2
theorem one_flat {X : Nat → Prop} {v : Value} {y : Lf U} {B : List Nat} (h : Ow C w X true v y B) (hv : ∀ b n c, v ≠ .slice b n c) : B = [] := by
  cases h with
  | sl t => exact absurd rfl (hv _ _ _)
  | _ => rfl

theorem wr1_spec (hY : LayOk Y) (H : Hp Y.C E s.m β w) {kd : Kd} {x y y' : Lf U} {us : List (Nat × EO U)} {v : Value} (hm : x.mean Y.C w (E.X β) β s.m v) (hr : rdn s.m kd x = some y) (hw : wr1 Y s.m x y' = some us) (hK : ∀ τ, kd = .sl τ → 0 < U.K τ) :
    ∃ B, Ow Y.C w (fun _ => False) true v y B ∧ B.Nodup ∧ ((us = [] ∧ B = [] ∧ ∀ w' B', Ow Y.C w' (fun _ => False) true v y' B' → B' = []) ∨ ∃ i e t, us = [(i, e)] ∧ Hd Y.C s.m w β v y' i e t B) := by
  have flat : freeL x = true → rdl s.m x = some y → us = [] → (∀ τ ll, y ≠ .sl τ ll) → ∃ B, Ow Y.C w (fun _ => False) true v y B ∧ B.Nodup ∧ ((us = [] ∧ B = [] ∧ ∀ w' B', Ow Y.C w' (fun _ => False) true v y' B' → B' = []) ∨ ∃ i e t, us = [(i, e)] ∧ Hd Y.C s.m w β v y' i e t B) := fun hf hr hl hns => by
    obtain ⟨k1, k2⟩ := rdl_mean H hm hr (Z := fun _ => False) (fun _ h => h.elim) (.inl hf)
    refine ⟨[], ?_, List.nodup_nil, .inl ⟨hl, rfl, fun w' B' h => one_flat h ?_⟩⟩
    · cases y with
      | int k n => obtain ⟨rfl, h1, h2⟩ := k2.int_inv; exact .int h1 h2
      | bool b => obtain rfl := k2.bool_inv; exact .bool
      | str z => obtain ⟨rfl, h1⟩ := k2.str_inv; exact .str h1
      | sl τ ll => exact absurd rfl (hns τ ll)
      | _ => cases k1
    · cases y with
      | int k n => obtain ⟨rfl, h1, h2⟩ := k2.int_inv; intro _ _ _ e; cases e
      | bool b => obtain rfl := k2.bool_inv; intro _ _ _ e; cases e
      | str z => obtain ⟨rfl, h1⟩ := k2.str_inv; intro _ _ _ e; cases e
      | sl τ ll => exact absurd rfl (hns τ ll)
      | _ => cases k1
  cases x with
  | own i r =>
    obtain ⟨_, e, t, h2, h3, h4⟩ := hm
    obtain ⟨ob, rv, cv⟩ := e
    replace hr : rdl s.m (.own i r) = some y := hr
    simp only [rdl, nth_eq, h2] at hr
    simp only [wr1, nth_eq, h2] at hw
    cases ob with
    | tree τ' d l0 =>
      simp only at hr
      split at hw
      · rename_i o' τ1 d1 l1 rv1 cv1 τ l heq
        injection heq with heq
        injection heq with q1 q2 q3
        injection q1 with q4 q5 q6
        subst q4; subst q5; subst q2; subst q3
        have q6 := eq_of_heq q6; subst q6
        cases hb : (d && (Nat.beq rv r && Nat.beq τ' τ)) with
        | false => rw [hb] at hw; cases hw
        | true =>
          rw [hb] at hw
          simp only [cond_true] at hw
          have := Option.some.inj hw; subst this
          simp only [Bool.and_eq_true] at hb
          obtain ⟨hd, hb1, hb2⟩ := hb
          subst hd
          have hb2 := Nat.eq_of_beq_eq_true hb2; subst hb2
          rw [hb1] at hr
          have := Option.some.inj hr; subst this
          have hv := h4 (Nat.eq_of_beq_eq_true hb1)
          refine ⟨t.all, ?_, H.nd i t h3, .inr ⟨i, _, t, rfl, h3, ⟨_, τ', l, h2, rfl, rfl⟩, fun _ h => h, fun w' B' hsz ho hh => ?_⟩⟩
          · rw [hv]; exact (Hp.tree H h3 h2 rfl).anyX rfl
          · generalize hyy : (Lf.sl τ' l : Lf U) = yy at ho
            cases ho with
            | fz h0 => cases h0
            | sl t' hk hown hc =>
              injection hyy with e1 e2
              subst e1; have e2 := eq_of_heq e2; subst e2
              refine ⟨t', _, _, hv, fun b hb => .inl hb, fun hnd _ => hnd, rfl, hk, _, hown, hc⟩
            | _ => cases hyy
      · cases hw
    | _ => cases hr
  | inn i c τ q z j τ' l0 =>
    obtain ⟨hone, e, t, h2, h3, h4⟩ := hm
    obtain ⟨ob, rv, cv⟩ := e
    replace hr : rdl s.m (.inn i c τ q z j τ' l0) = some y := hr
    simp only [rdl, okv, nth_eq, h2] at hr
    simp only [wr1, nth_eq, h2] at hw
    cases ob with
    | tree τ1 d L0 =>
      split at hw
      · rename_i o' τ2 d1 l1 rv1 cv1 τ'' l heq
        injection heq with heq
        injection heq with q1 q2 q3
        injection q1 with q4 q5 q6
        subst q4; subst q5; subst q2; subst q3
        have q6 := eq_of_heq q6; subst q6
        cases hb : (d && (Nat.beq cv c && Nat.beq τ'' τ')) with
        | false => rw [hb] at hw; cases hw
        | true =>
          rw [hb] at hw
          simp only [cond_true] at hw
          simp only [Bool.and_eq_true] at hb
          obtain ⟨hd, hb1, hb2⟩ := hb
          subst hd
          have hb2 := Nat.eq_of_beq_eq_true hb2; subst hb2
          rw [hb1] at hr
          have := Option.some.inj hr; subst this
          cases hs : slq τ τ1 L0 with
          | none => rw [hs] at hw; cases hw
          | some L =>
            rw [hs] at hw
            obtain ⟨rfl, hL⟩ := slq_some hs
            have hL := eq_of_heq hL; subst hL
            simp only at hw
            split at hw
            · rename_i z' hz'
              have := Option.some.inj hw; subst this
              obtain ⟨d', L', xs, a1, a2, a3, a4, a5, a6⟩ := h4 (Nat.eq_of_beq_eq_true hb1)
              injection a1 with a11 a12 a13
              subst a12; subst a13
              have hok := H.ok i t _ h3 h2
              obtain ⟨k1, xs', k2, k3⟩ := hok
              obtain rfl := ownsRow_same k2 a5
              obtain ⟨l1, l2, g1, g2, g3, g4⟩ := flat_at (Y.C.hlen τ1) a3
              -- the cell's place
              obtain ⟨c1, c2, g5, g6⟩ : ∃ c1 c2, Y.C.cel τ1 z = c1 ++ (.sl τ'' l0) :: c2 ∧ c1.length = j := by
                obtain ⟨hj, hj2⟩ := List.getElem?_eq_some_iff.1 a4
                exact ⟨(Y.C.cel τ1 z).take j, (Y.C.cel τ1 z).drop (j + 1), by rw [← hj2, List.getElem_cons_drop, List.take_append_drop], by rw [List.length_take]; omega⟩
              have hcel' : Y.C.cel τ1 z' = c1 ++ (.sl τ'' l) :: c2 := by
                rw [← Y.C.hmk _ _ _ hz', upd_eq, g5, List.set_append_right _ _ (by omega)]
                simp [g6]
              rw [g3, g5] at k3
              rw [show (l1.map (Y.C.cel τ1)).flatten ++ ((c1 ++ .sl τ'' l0 :: c2) ++ (l2.map (Y.C.cel τ1)).flatten) = ((l1.map (Y.C.cel τ1)).flatten ++ c1) ++ (.sl τ'' l0 :: (c2 ++ (l2.map (Y.C.cel τ1)).flatten)) by simp] at k3
              obtain ⟨v1, v2, B1, B2', rfl, hbs, o1, o2⟩ := OwL.split k3
              cases o2 with
              | c ho orest =>
                rename_i u B Br vr
                have hlen1 : v1.length = q.toNat * U.K τ1 + j := by rw [o1.len, List.length_append, g4, g6]
                have hu : u = v := by
                  rw [← hlen1, List.getElem?_append_right (Nat.le_refl _), Nat.sub_self] at a6
                  simpa using a6
                subst hu
                have hnd := H.nd i t h3
                have hsub : ∀ b ∈ B, b ∈ t.bs := fun b hb => by rw [hbs]; simp [hb]
                have hall : t.all = t.b.toList ++ (B1 ++ (B ++ Br)) := by rw [← hbs]; rfl
                rw [hall] at hnd
                obtain ⟨n1, n2, n3⟩ := List.nodup_append.1 hnd
                obtain ⟨n4, n5, n6⟩ := List.nodup_append.1 n2
                obtain ⟨n7, n8, n9⟩ := List.nodup_append.1 n5
                refine ⟨B, ho.anyX rfl, n7, .inr ⟨i, _, t, rfl, h3, ⟨_, τ1, _, h2, rfl, rfl⟩, fun b hb => by rw [hall]; simp [hb], fun w' B' hsz ho' hh => ?_⟩⟩
                have hkeep : ∀ b ∈ t.b.toList ++ (B1 ++ Br), w'.heap[b]? = w.heap[b]? := fun b hb => by
                  refine hh b (in4 hall hb) (fun hB => ?_)
                  simp only [List.mem_append] at hb
                  rcases hb with hb | hb | hb
                  · exact n3 b hb b (by simp [hB]) rfl
                  · exact n6 b hb b (by simp [hB]) rfl
                  · exact n9 b hB b hb rfl
                let t' : Tr := ⟨t.b, t.n, t.c, B1 ++ (B' ++ Br)⟩
                have hval : t'.val = t.val := rfl
                refine ⟨t', τ1, L0.set q.toNat z', hval, fun b hb => ?_, fun hB' hdis => ?_, rfl, k1, v1 ++ u :: vr, ?_, ?_⟩
                · have hb' : b ∈ t.b.toList ++ (B1 ++ (B' ++ Br)) := hb
                  simp only [List.mem_append] at hb'
                  have key : b ∈ t.b.toList ++ (B1 ++ Br) → b ∈ t.all ∧ b ∉ B := fun hb => by
                    refine ⟨in4 hall hb, fun hB => ?_⟩
                    simp only [List.mem_append] at hb
                    rcases hb with hb | hb | hb
                    · exact n3 b hb b (by simp [hB]) rfl
                    · exact n6 b hb b (by simp [hB]) rfl
                    · exact n9 b hB b hb rfl
                  rcases hb' with hb' | hb' | hb' | hb'
                  · exact .inr (key (by simp [hb']))
                  · exact .inr (key (by simp [hb']))
                  · exact .inl hb'
                  · exact .inr (key (by simp [hb']))
                · show (t.b.toList ++ (B1 ++ (B' ++ Br))).Nodup
                  have hin : ∀ b ∈ B', b ∈ t.b.toList ++ (B1 ++ Br) → False := fun b hb hb2 => by
                    have hB := hdis b hb (in4 hall hb2)
                    simp only [List.mem_append] at hb2
                    rcases hb2 with h | h | h
                    · exact n3 b h b (by simp [hB]) rfl
                    · exact n6 b h b (by simp [hB]) rfl
                    · exact n9 b hB b h rfl
                  refine List.nodup_append.2 ⟨n1, List.nodup_append.2 ⟨n4, List.nodup_append.2 ⟨hB', n8, fun x hx y hy e => ?_⟩, fun x hx y hy e => ?_⟩, fun x hx y hy e => ?_⟩
                  · subst e; exact hin x hx (by simp [hy])
                  · subst e
                    rcases List.mem_append.1 hy with hy | hy
                    · exact hin x hy (by simp [hx])
                    · exact n6 x hx x (by simp [hy]) rfl
                  · subst e
                    simp only [List.mem_append] at hy
                    rcases hy with hy | hy | hy
                    · exact n3 x hx x (by simp [hy]) rfl
                    · exact hin x hy (by simp [hx])
                    · exact n3 x hx x (by simp [hy]) rfl
                · rw [List.length_set]
                  exact ownsRow_conv (t := t) k2 (fun b hb => hkeep b (by simp [hb]))
                · have hLs : (L0.set q.toNat z') = l1 ++ z' :: l2 := by
                    rw [g1, List.set_append_right _ _ (by omega)]
                    simp [g2]
                  rw [hLs]
                  simp only [List.map_append, List.map_cons, List.flatten_append, List.flatten_cons, hcel']
                  rw [show (l1.map (Y.C.cel τ1)).flatten ++ ((c1 ++ .sl τ'' l :: c2) ++ (l2.map (Y.C.cel τ1)).flatten) = ((l1.map (Y.C.cel τ1)).flatten ++ c1) ++ (.sl τ'' l :: (c2 ++ (l2.map (Y.C.cel τ1)).flatten)) by simp]
                  refine OwL.app ?_ (.c ho' ?_)
                  · exact (o1.anyX (X' := fun _ => True) rfl).conv hsz (fun _ _ _ => trivial) (fun _ _ h => absurd trivial h) (fun b hb => hkeep b (by simp [hb]))
                  · exact (orest.anyX (X' := fun _ => True) rfl).conv hsz (fun _ _ _ => trivial) (fun _ _ h => absurd trivial h) (fun b hb => hkeep b (by simp [hb]))
            · cases hw
      · cases hw
    | _ => cases y' <;> cases hw
  | nil =>
    obtain rfl := hm
    have := Option.some.inj (show some [] = some us from hw); subst this
    cases kd with
    | sl τ =>
      have := Option.some.inj (show some (Lf.sl τ []) = some y from hr); subst this
      exact ⟨[], .sl noTr (hK τ rfl) (World.ownsRow_nil w 0 τ (U.K τ)) .n, List.nodup_nil, .inl ⟨rfl, rfl, fun w' B' h => noTr_inv h⟩⟩
    | _ => cases hr
  | int k n => have e := Option.some.inj (show some (Lf.int k n) = some y from hr); exact flat rfl hr (Option.some.inj hw).symm (fun _ _ e' => by rw [← e] at e'; cases e')
  | bool b => have e := Option.some.inj (show some (Lf.bool b) = some y from hr); exact flat rfl hr (Option.some.inj hw).symm (fun _ _ e' => by rw [← e] at e'; cases e')
  | str b => have e := Option.some.inj (show some (Lf.str b) = some y from hr); exact flat rfl hr (Option.some.inj hw).symm (fun _ _ e' => by rw [← e] at e'; cases e')
  | nat c =>
    refine flat rfl hr (Option.some.inj hw).symm (fun τ ll e' => ?_)
    subst e'
    replace hr : rdl s.m (.nat c) = some (.sl τ ll) := hr
    simp only [rdl] at hr
    split at hr <;> cases hr
  | lt c n =>
    refine flat rfl hr (Option.some.inj hw).symm (fun τ ll e' => ?_)
    subst e'
    replace hr : rdl s.m (.lt c n) = some (.sl τ ll) := hr
    simp only [rdl] at hr
    split at hr <;> cases hr
  | sl => cases hw
  | bor => cases hw
  | _ => cases hr

/-- One written object: what is handed over, what comes back. -/
structure Wo (U : Uni) where
  i : Nat
  e : EO U
  t : Tr
  B : List Nat
  v : Value
  y : Lf U
theorem wrm_cons {m : Mm U} {x y : Lf U} {xs ys : List (Lf U)} {us : List (Nat × EO U)} (h : wrm Y m (x :: xs) (y :: ys) = some us) : ∃ u u', wr1 Y m x y = some u ∧ wrm Y m xs ys = some u' ∧ us = u ++ u' := by
  simp only [wrm] at h
  cases h1 : wr1 Y m x y with
  | none => rw [h1] at h; cases h
  | some u =>
    cases h2 : wrm Y m xs ys with
    | none => rw [h1, h2] at h; cases h
    | some u' => rw [h1, h2] at h; exact ⟨u, u', rfl, rfl, (Option.some.inj h).symm⟩
theorem wrm_spec (hY : LayOk Y) (H : Hp Y.C E s.m β w) : ∀ (ks : List Kd) {cs csd ds : List (Lf U)} {us : List (Nat × EO U)} {vs : List Value}, rds s.m ks cs = some csd → wrm Y s.m cs ds = some us → Ms Y.C w (E.X β) β s.m vs cs → (∀ kd ∈ ks, ∀ τ, kd = .sl τ → 0 < U.K τ) →
    ∃ W : List (Wo U), OwL Y.C w (fun _ => False) true vs csd ((W.map (·.B)).flatten) ∧ us = W.map (fun r => (r.i, r.e)) ∧ (∀ r ∈ W, r.B.Nodup ∧ Hd Y.C s.m w β r.v r.y r.i r.e r.t r.B) ∧
      ∀ w' B', OwL Y.C w' (fun _ => False) true vs ds B' → ∃ Bs : List (List Nat), Bs.length = W.length ∧ Bs.flatten = B' ∧ ∀ (n : Nat) (r : Wo U) (b : List Nat), W[n]? = some r → Bs[n]? = some b → Ow Y.C w' (fun _ => False) true r.v r.y b
  | [], [], csd, ds, us, vs, h, hw, hM, _ => by
    have := Option.some.inj h; subst this
    have hv : vs = [] := List.eq_nil_of_length_eq_zero hM.1
    subst hv
    cases ds with
    | nil =>
      have := Option.some.inj hw; subst this
      refine ⟨[], .n, rfl, by simp, fun w' B' h => ⟨[], rfl, ?_, by simp⟩⟩
      cases h; rfl
    | cons => cases hw
  | [], _ :: _, _, _, _, _, h, _, _, _ => by cases h
  | _ :: _, [], _, _, _, _, h, _, _, _ => by cases h
  | kd :: ks, x :: xs, csd, ds, us, vs, h, hw, hM, hK => by
    obtain ⟨y, ys, h1, h2, rfl⟩ := rds_cons h
    cases ds with
    | nil => cases hw
    | cons y' ys' =>
      obtain ⟨u, u', w1, w2, rfl⟩ := wrm_cons hw
      cases vs with
      | nil => have := hM.1; simp at this
      | cons v vs =>
        obtain ⟨W, p1, p2, p3, p4⟩ := wrm_spec hY H ks h2 w2 ⟨by have := hM.1; simpa using this, fun i u c p q => hM.2 (i + 1) u c (by simpa using p) (by simpa using q)⟩ (fun kd' hk => hK kd' (by simp [hk]))
        obtain ⟨B, q1, q2, q3⟩ := wr1_spec hY H (hM.2 0 v x rfl rfl) h1 w1 (hK kd (by simp))
        rcases q3 with ⟨rfl, rfl, q4⟩ | ⟨i, e, t, rfl, q4⟩
        · refine ⟨W, by simpa using OwL.c q1 p1, by simpa using p2, p3, fun w' B' ho => ?_⟩
          cases ho with
          | c ho hr =>
            have := q4 w' _ ho; subst this
            obtain ⟨Bs, a1, a2, a3⟩ := p4 w' _ hr
            exact ⟨Bs, a1, by simpa using a2, a3⟩
        · refine ⟨⟨i, e, t, B, v, y'⟩ :: W, by simpa using OwL.c q1 p1, by simp [p2], fun r hr => ?_, fun w' B' ho => ?_⟩
          · rcases List.mem_cons.1 hr with rfl | hr
            · exact ⟨q2, q4⟩
            · exact p3 r hr
          · cases ho with
            | c ho hr =>
              rename_i b b'
              obtain ⟨Bs, a1, a2, a3⟩ := p4 w' _ hr
              refine ⟨b :: Bs, by simp [a1], by simp [a2], fun n r c e1 e2 => ?_⟩
              cases n with
              | zero => simp at e1 e2; subst e1; subst e2; exact ho
              | succ n => exact a3 n r c (by simpa using e1) (by simpa using e2)

/-- The rows that stand under names. -/
noncomputable def putW (W : List (Nat × Tr)) (β : List Tr) : List Tr := W.foldr (fun x l => l.set x.1 x.2) β
theorem putW_len : ∀ {W : List (Nat × Tr)} {β : List Tr}, (putW W β).length = β.length
  | [], _ => rfl
  | x :: W, β => by show ((putW W β).set _ _).length = _; rw [List.length_set, putW_len]
theorem putW_out : ∀ {W : List (Nat × Tr)} {β : List Tr} {j : Nat}, j ∉ W.map (·.1) → (putW W β)[j]? = β[j]?
  | [], _, _, _ => rfl
  | x :: W, β, j, h => by
    simp only [List.map_cons, List.mem_cons, not_or] at h
    show ((putW W β).set _ _)[j]? = _
    rw [List.getElem?_set_ne (Ne.symm h.1), putW_out h.2]
theorem putW_in : ∀ {W : List (Nat × Tr)} {β : List Tr} {j : Nat} {t : Tr}, (W.map (·.1)).Nodup → (j, t) ∈ W → j < β.length → (putW W β)[j]? = some t
  | [], _, _, _, _, h, _ => by simp at h
  | x :: W, β, j, t, hn, h, hj => by
    simp only [List.map_cons] at hn
    obtain ⟨n1, n2⟩ := List.nodup_cons.1 hn
    show ((putW W β).set _ _)[j]? = _
    rcases List.mem_cons.1 h with h | h
    · subst h; rw [List.getElem?_set_self (by rw [putW_len]; exact hj)]
    · have hm : j ∈ W.map (·.1) := List.mem_map.2 ⟨_, h, rfl⟩
      rw [List.getElem?_set_ne (fun hh => n1 (by rw [hh]; exact hm))]
      exact putW_in n2 h hj

/-- The objects that a call has written. -/
theorem Rel.wrote (r : Rel Y.C E s a w β) {w' : World} {W : List (Wo U)} (hn : (W.map (·.i)).Nodup) (hW : ∀ r ∈ W, r.B.Nodup ∧ Hd Y.C s.m w β r.v r.y r.i r.e r.t r.B) (hbel : Bel (· ∈ (W.map (·.B)).flatten) w w')
    {Bs : List (List Nat)} (hl : Bs.length = W.length) (hnd : Bs.flatten.Nodup) (hsub : ∀ x ∈ Bs.flatten, x ∈ (W.map (·.B)).flatten ∨ w.heap.size ≤ x) (how : ∀ (n : Nat) (r : Wo U) (b : List Nat), W[n]? = some r → Bs[n]? = some b → Ow Y.C w' (fun _ => False) true r.v r.y b) :
    ∃ β', Rel Y.C E ⟨s.t, ⟨updA (W.map fun r => (r.i, r.e)) s.m.o, Nat.succ s.m.k, s.m.ns⟩, s.fr⟩ a w' β' := by
  have H := r.hp
  have hget : ∀ {n : Nat} {r : Wo U}, W[n]? = some r → r ∈ W := fun h => List.mem_of_getElem? h
  have hdisj : ∀ {r1 r2 : Wo U} {b : Nat}, r1 ∈ W → r2 ∈ W → r1.i ≠ r2.i → b ∈ r1.t.all → b ∉ r2.t.all := fun {r1 r2 b} h1 h2 hne hb =>
    H.dist r1.i r2.i r1.t r2.t b hne (hW r1 h1).2.ht (hW r2 h2).2.ht hb
  have hBall : ∀ {b : Nat}, b ∈ (W.map (·.B)).flatten → ∃ r ∈ W, b ∈ r.B := fun {b} h => by
    obtain ⟨l, hl, hb⟩ := List.mem_flatten.1 h
    obtain ⟨r, hr, rfl⟩ := List.mem_map.1 hl
    exact ⟨r, hr, hb⟩
  have hinj : ∀ {r1 r2 : Wo U}, r1 ∈ W → r2 ∈ W → r1.i = r2.i → r1 = r2 := fun {r1 r2} h1 h2 he => by
    obtain ⟨n1, q1⟩ := List.mem_iff_getElem?.1 h1
    obtain ⟨n2, q2⟩ := List.mem_iff_getElem?.1 h2
    have : n1 = n2 := nd_inj hn (x := r1.i) (by rw [List.getElem?_map, q1]; rfl) (by rw [List.getElem?_map, q2, he]; rfl)
    subst this
    rw [q1] at q2; exact Option.some.inj q2
  -- a block of a row that was handed over belongs to what was handed over of it
  have hBt : ∀ {r1 : Wo U} {b : Nat}, r1 ∈ W → b ∈ r1.t.all → b ∈ (W.map (·.B)).flatten → b ∈ r1.B := fun {r1 b} h1 hb hB => by
    obtain ⟨r2, h2, hb2⟩ := hBall hB
    by_cases he : r1.i = r2.i
    · rw [hinj h1 h2 he]; exact hb2
    · exact absurd ((hW r2 h2).2.sub b hb2) (hdisj h1 h2 he hb)
  have hback : ∀ (n : Nat) (r1 : Wo U) (b : List Nat), W[n]? = some r1 → Bs[n]? = some b → ∃ t' : Tr, t'.val = r1.t.val ∧ (∀ x ∈ t'.all, x ∈ b ∨ (x ∈ r1.t.all ∧ x ∉ r1.B)) ∧ t'.all.Nodup ∧ ∃ τ L, r1.e.ob = .tree τ true L ∧ TrOk Y.C w' t' τ L := fun n r1 b h1 h2 => by
    have hr1 := hget h1
    have hbB : ∀ x ∈ b, x ∈ r1.t.all → x ∈ (W.map (·.B)).flatten := fun x hx hxt => (hsub x (List.mem_flatten.2 ⟨b, List.mem_of_getElem? h2, hx⟩)).resolve_right (fun h => by have := (H.new r1.i r1.t x (hW r1 hr1).2.ht hxt).2; omega)
    obtain ⟨t', τ, L, a1, a2, a3, a4, a5⟩ := (hW r1 hr1).2.back w' b hbel.size (how n r1 b h1 h2) (fun x hx hxn => hbel.block x (H.new r1.i r1.t x (hW r1 hr1).2.ht hx).2 (fun hB => hxn (hBt hr1 hx hB)))
    exact ⟨t', a1, a2, a3 ((List.pairwise_flatten.1 hnd).1 b (List.mem_of_getElem? h2)) (fun x hx hxt => hBt hr1 hxt (hbB x hx hxt)), τ, L, a4, a5⟩
  -- the new rows
  have hex : ∀ n : Nat, ∃ t' : Tr, ∀ r1 : Wo U, W[n]? = some r1 → ∃ b, Bs[n]? = some b ∧ t'.val = r1.t.val ∧ (∀ x ∈ t'.all, x ∈ b ∨ (x ∈ r1.t.all ∧ x ∉ r1.B)) ∧ t'.all.Nodup ∧ ∃ τ L, r1.e.ob = .tree τ true L ∧ TrOk Y.C w' t' τ L := fun n => by
    cases h1 : W[n]? with
    | none => exact ⟨noTr, fun r1 h => by cases h⟩
    | some r0 =>
      have h2 : Bs[n]? = some (Bs[n]'(by rw [hl]; exact lt_of_some h1)) := List.getElem?_eq_getElem _
      obtain ⟨t', h3⟩ := hback n r0 _ h1 h2
      exact ⟨t', fun r1 h => by have := Option.some.inj h; subst this; exact ⟨_, h2, h3⟩⟩
  let T : Nat → Tr := fun n => Classical.choose (hex n)
  have hT : ∀ (n : Nat) (r1 : Wo U), W[n]? = some r1 → ∃ b, Bs[n]? = some b ∧ (T n).val = r1.t.val ∧ (∀ x ∈ (T n).all, x ∈ b ∨ (x ∈ r1.t.all ∧ x ∉ r1.B)) ∧ (T n).all.Nodup ∧ ∃ τ L, r1.e.ob = .tree τ true L ∧ TrOk Y.C w' (T n) τ L := fun n => Classical.choose_spec (hex n)
  let V : List (Nat × Tr) := (List.range W.length).map fun n => ((W.map (·.i)).getD n 0, T n)
  have hV1 : V.map (·.1) = W.map (·.i) := by
    simp only [V, List.map_map]
    apply List.ext_getElem?
    intro n
    rw [List.getElem?_map]
    by_cases h : n < W.length
    · simp [List.getElem?_range h, List.getElem?_eq_getElem h]
    · simp [List.getElem?_eq_none (Nat.le_of_not_lt h), List.getElem?_eq_none (show (List.range W.length).length ≤ n by simp; omega)]
  have hVin : ∀ {n : Nat} {r1 : Wo U}, W[n]? = some r1 → (r1.i, T n) ∈ V := fun {n r1} h => by
    refine List.mem_map.2 ⟨n, List.mem_range.2 (lt_of_some h), ?_⟩
    simp [List.getD, h]
  have hids : fstE (W.map fun r => (r.i, r.e)) = W.map (·.i) := by rw [fstE_eq, List.map_map]; rfl
  have hmem : ∀ {j : Nat}, j ∈ W.map (·.i) → ∃ (n : Nat) (r1 : Wo U), W[n]? = some r1 ∧ r1.i = j := fun {j} h => by
    obtain ⟨r1, h1, rfl⟩ := List.mem_map.1 h
    obtain ⟨n, hn⟩ := List.mem_iff_getElem?.1 h1
    exact ⟨n, r1, hn, rfl⟩
  let β' := putW V β
  have hβin : ∀ {n : Nat} {r1 : Wo U}, W[n]? = some r1 → β'[r1.i]? = some (T n) := fun {n r1} h => putW_in (by rw [hV1]; exact hn) (hVin h) (lt_of_some (hW r1 (hget h)).2.ht)
  have hβout : ∀ {j : Nat}, j ∉ W.map (·.i) → β'[j]? = β[j]? := fun h => putW_out (by rw [hV1]; exact h)
  have hoin : ∀ {n : Nat} {r1 : Wo U}, W[n]? = some r1 → (updA (W.map fun r => (r.i, r.e)) s.m.o)[r1.i]? = some r1.e := fun {n r1} h =>
    updA_in (by rw [hids]; exact hn) (List.mem_map.2 ⟨r1, hget h, rfl⟩) (by rw [← H.len]; exact lt_of_some (hW r1 (hget h)).2.ht)
  have hoout : ∀ {j : Nat}, j ∉ W.map (·.i) → (updA (W.map fun r => (r.i, r.e)) s.m.o)[j]? = s.m.o[j]? := fun h => updA_out (by rw [hids]; exact h)
  have hI0 : ∀ {j : Nat}, (j ∈ W.map (·.i) ∨ s.m.o.length ≤ j) → (β'[j]? ≠ none ∨ (updA (W.map fun r => (r.i, r.e)) s.m.o)[j]? ≠ none) → j ∈ W.map (·.i) := fun {j} h hb => by
    rcases h with h | h
    · exact h
    · rcases hb with hb | hb
      · exact absurd (List.getElem?_eq_none (by show (putW V β).length ≤ j; rw [putW_len, H.len]; exact h)) hb
      · exact absurd (List.getElem?_eq_none (by rw [updA_len]; exact h)) hb
  have hTall : ∀ {n : Nat} {r1 : Wo U} {x : Nat}, W[n]? = some r1 → x ∈ (T n).all → (w.heap.size ≤ x ∧ x < w'.heap.size) ∨ ∃ i u, i ∈ W.map (·.i) ∧ β[i]? = some u ∧ x ∈ u.all := fun {n r1 x} h hx => by
    obtain ⟨b, h2, _, a2, _⟩ := hT n r1 h
    rcases a2 x hx with h3 | h3
    · rcases hsub x (List.mem_flatten.2 ⟨b, List.mem_of_getElem? h2, h3⟩) with h4 | h4
      case inr => exact .inl ⟨h4, (how n r1 b h h2).lt x h3⟩
      obtain ⟨r2, k1, k2⟩ := hBall h4
      exact .inr ⟨r2.i, r2.t, List.mem_map.2 ⟨r2, k1, rfl⟩, (hW r2 k1).2.ht, (hW r2 k1).2.sub x k2⟩
    · exact .inr ⟨r1.i, r1.t, List.mem_map.2 ⟨r1, hget h, rfl⟩, (hW r1 (hget h)).2.ht, h3.1⟩
  obtain ⟨h1, h2⟩ := H.step (s' := ⟨updA (W.map fun r => (r.i, r.e)) s.m.o, Nat.succ s.m.k, s.m.ns⟩) (β' := β') (w' := w') (fun j => j ∈ W.map (·.i)) (· ∈ (W.map (·.B)).flatten) (Nat.le_succ _) (fun _ _ f h => ⟨f, h⟩) H.cnt (by show (putW V β).length = _; rw [putW_len, updA_len, H.len]) (by rw [updA_len]; exact Nat.le_refl _) hbel.size hbel.os hbel.tape hbel.output hbel.block
    (fun b hb => by
      obtain ⟨r1, k1, k2⟩ := hBall hb
      exact ⟨r1.i, r1.t, List.mem_map.2 ⟨r1, k1, rfl⟩, (hW r1 k1).2.ht, (hW r1 k1).2.sub b k2⟩)
    (fun j hj _ => ⟨hoout hj, hβout hj⟩)
    (fun j t b hj ht hb => by
      have hj' := hI0 hj (.inl (by rw [ht]; simp))
      obtain ⟨n, r1, k1, rfl⟩ := hmem hj'
      rw [hβin k1] at ht
      have := Option.some.inj ht; subst this
      rcases hTall k1 hb with h9 | ⟨i, u, z1, z2, z3⟩
      · exact ⟨h9.2, .inl h9.1⟩
      exact ⟨Nat.lt_of_lt_of_le (H.new i u b z2 z3).2 hbel.size, .inr ⟨i, u, z1, z2, z3⟩⟩)
    (fun i j t u b hi hj hij ht hu hb hub => by
      have hi' := hI0 hi (.inl (by rw [ht]; simp))
      have hj' := hI0 hj (.inl (by rw [hu]; simp))
      obtain ⟨n, r1, k1, rfl⟩ := hmem hi'
      obtain ⟨n2, r2, k2, rfl⟩ := hmem hj'
      rw [hβin k1] at ht
      rw [hβin k2] at hu
      have := Option.some.inj ht; subst this
      have := Option.some.inj hu; subst this
      obtain ⟨b1, c1, _, c2, _⟩ := hT n r1 k1
      obtain ⟨b2, d1, _, d2, _⟩ := hT n2 r2 k2
      have hne : n ≠ n2 := fun e => hij (by subst e; rw [k1] at k2; rw [Option.some.inj k2])
      have hall : ∀ {bb : List Nat} {m : Nat} {r3 : Wo U}, r3 ∈ W → b ∈ r3.t.all → Bs[m]? = some bb → b ∈ bb → b ∈ (W.map (·.B)).flatten := fun {bb m r3} m3 hb3 h1 h2 => (hsub b (List.mem_flatten.2 ⟨_, List.mem_of_getElem? h1, h2⟩)).resolve_right (fun h => by have := (H.new r3.i r3.t b (hW r3 m3).2.ht hb3).2; omega)
      rcases c2 b hb with hb1 | hb1 <;> rcases d2 b hub with hb2 | hb2
      · have hp := List.pairwise_iff_getElem.1 (List.pairwise_flatten.1 hnd).2
        obtain ⟨l1, e1⟩ := List.getElem?_eq_some_iff.1 c1
        obtain ⟨l2, e2⟩ := List.getElem?_eq_some_iff.1 d1
        rcases Nat.lt_or_gt_of_ne hne with h | h
        · exact hp n n2 l1 l2 h b (by rw [e1]; exact hb1) b (by rw [e2]; exact hb2) rfl
        · exact hp n2 n l2 l1 h b (by rw [e2]; exact hb2) b (by rw [e1]; exact hb1) rfl
      · exact hb2.2 (hBt (hget k2) hb2.1 (hall (hget k2) hb2.1 c1 hb1))
      · exact hb1.2 (hBt (hget k1) hb1.1 (hall (hget k1) hb1.1 d1 hb2))
      · exact hdisj (hget k1) (hget k2) hij hb1.1 hb2.1)
    (fun j t hj ht => by
      have hj' := hI0 hj (.inl (by rw [ht]; simp))
      obtain ⟨n, r1, k1, rfl⟩ := hmem hj'
      rw [hβin k1] at ht
      have := Option.some.inj ht; subst this
      obtain ⟨b1, c1, _, _, c2, _⟩ := hT n r1 k1
      exact c2)
    (fun j e hj he => by
      have hj' := hI0 hj (.inr (by simp only at he; rw [he]; simp))
      obtain ⟨n, r1, k1, rfl⟩ := hmem hj'
      simp only at he
      rw [hoin k1] at he
      have := Option.some.inj he; subst this
      obtain ⟨e0, τ, L, z1, z2, z3⟩ := (hW r1 (hget k1)).2.he
      rw [z3]
      exact ⟨Nat.le_succ_of_le (H.vers _ _ z1).1, Nat.le_refl _⟩)
    (fun j e0 e' t t' hj he0 he' ht ht' => by
      obtain ⟨n, r1, k1, rfl⟩ := hmem hj
      simp only at he'
      rw [hoin k1] at he'
      have := Option.some.inj he'; subst this
      rw [hβin k1] at ht'
      have := Option.some.inj ht'; subst this
      obtain ⟨e1, τ, L, z1, z2, z3⟩ := (hW r1 (hget k1)).2.he
      rw [he0] at z1
      have := Option.some.inj z1; subst this
      have hW2 := (hW r1 (hget k1)).2.ht
      rw [ht] at hW2
      have := Option.some.inj hW2; subst this
      obtain ⟨b1, c1, c2, _⟩ := hT n r1 k1
      rw [z3]
      exact ⟨fun _ => ⟨rfl, c2⟩, Nat.lt_succ_self _, fun h => by cases h⟩)
    (fun hev j t e hj ht he => by
      have hj' := hI0 hj (.inl (by rw [ht]; simp))
      obtain ⟨n, r1, k1, rfl⟩ := hmem hj'
      simp only at he
      rw [hoin k1] at he
      have := Option.some.inj he; subst this
      rw [hβin k1] at ht
      have := Option.some.inj ht; subst this
      obtain ⟨b1, c1, _, _, _, τ, L, c3, c4, xs, c5, c6⟩ := hT n r1 k1
      rw [c3]
      exact ⟨c4, xs, c5, c6.anyX rfl⟩)
  exact ⟨β', r.go h1 h2⟩

theorem svsTy_cons {m : Mm U} {k k' : Kd} {ks : List Kd} {x : Sv U} {xs : List (Sv U)} {z : Tup U (k :: k' :: ks)} (h : svsTy Y m (k :: k' :: ks) (x :: xs) = some z) : ∃ (z1 : k.ty U) (z2 : Tup U (k' :: ks)), svTy Y m k x = some z1 ∧ svsTy Y m (k' :: ks) xs = some z2 ∧ toCps Y (k :: k' :: ks) z = toCp Y k z1 :: toCps Y (k' :: ks) z2 := by
  have h' : (match svTy Y m k x with
    | some a => match svsTy Y m (k' :: ks) xs with
      | some b => some ((a, b) : Tup U (k :: k' :: ks))
      | none => none
    | none => none) = some z := h
  cases h1 : svTy Y m k x with
  | none => rw [h1] at h'; cases h'
  | some z1 =>
    cases h2 : svsTy Y m (k' :: ks) xs with
    | none => rw [h1, h2] at h'; cases h'
    | some z2 =>
      rw [h1, h2] at h'
      have := Option.some.inj h'; subst this
      exact ⟨z1, z2, rfl, rfl, rfl⟩
theorem svsTy_nil {m : Mm U} {k : Kd} {ks : List Kd} : svsTy Y m (k :: ks) [] = none := by cases ks <;> rfl
theorem svsTy_two {m : Mm U} {ks : List Kd} {x y : Sv U} {z : Tup U ks} (h : svsTy Y m ks [x, y] = some z) : ∃ (k1 k2 : Kd) (z1 : k1.ty U) (z2 : k2.ty U), ks = [k1, k2] ∧ svTy Y m k1 x = some z1 ∧ svTy Y m k2 y = some z2 ∧ toCps Y ks z = [toCp Y k1 z1, toCp Y k2 z2] := by
  cases ks with
  | nil => cases h
  | cons k1 ks =>
    cases ks with
    | nil => cases h
    | cons k2 ks =>
      obtain ⟨z1, z2, h1, h2, h3⟩ := svsTy_cons h
      cases ks with
      | nil => exact ⟨k1, k2, z1, z2, rfl, h1, h2, h3⟩
      | cons k3 ks =>
        obtain ⟨z3, z4, _, h4, _⟩ := svsTy_cons h2
        rw [svsTy_nil] at h4; cases h4
/-- An argument's cells, read one by one. -/
theorem svTy_parts (hY : LayOk Y) {m : Mm U} {kd : Kd} {x : Sv U} {z : kd.ty U} {cs : List (Lf U)} (h : svTy Y m kd x = some z) (hp : parts x = some cs) : ∃ ks, rds m ks cs = some (toCp Y kd z).2 ∧ ((∃ T, kd = .st T ∧ ks = Y.kd T ∧ x = .a cs ∧ (toCp Y kd z).1 = true) ∨ (ks = [kd] ∧ (∃ y, x = .l y ∧ cs = [y]) ∧ (toCp Y kd z).1 = false)) := by
  have leaf : ∀ {y : Lf U}, x = .l y → (∀ T, kd ≠ .st T) → (match rdn m kd y with | some q => lfTy kd q | none => none) = some z → ∃ ks, rds m ks cs = some (toCp Y kd z).2 ∧ ((∃ T, kd = .st T ∧ ks = Y.kd T ∧ x = .a cs ∧ (toCp Y kd z).1 = true) ∨ (ks = [kd] ∧ (∃ y, x = .l y ∧ cs = [y]) ∧ (toCp Y kd z).1 = false)) := fun {y} hx hkd h0 => by
    subst hx
    have := Option.some.inj hp; subst this
    cases hr : rdn m kd y with
    | none => rw [hr] at h0; cases h0
    | some q =>
      rw [hr] at h0
      have hq := lfTy_some (show lfTy kd q = some z from h0)
      subst hq
      refine ⟨[kd], ?_, .inr ⟨rfl, ⟨y, rfl, rfl⟩, ?_⟩⟩
      · simp only [rds, hr]
        cases kd with
        | st T => exact absurd rfl (hkd T)
        | _ => rfl
      · cases kd with
        | st T => exact absurd rfl (hkd T)
        | _ => rfl
  cases kd with
  | st T =>
    cases x with
    | a cs' =>
      have := Option.some.inj hp; subst this
      have h' : (match rds m (Y.kd T) cs' with | some ds => Y.C.bld T ds | none => none) = some z := h
      cases hr : rds m (Y.kd T) cs' with
      | none => rw [hr] at h'; cases h'
      | some ds =>
        rw [hr] at h'
        refine ⟨Y.kd T, ?_, .inl ⟨T, rfl, rfl, rfl, rfl⟩⟩
        rw [hr, Y.C.hmk T ds z h']; rfl
    | l y =>
      have h' : (match rdn m (Kd.st T) y with | some q => lfTy (Kd.st T) q | none => none) = some z := h
      cases hr : rdn m (Kd.st T) y with
      | none => rw [hr] at h'; cases h'
      | some q => rw [hr] at h'; cases q <;> cases h'
    | t y => cases h
  | int k => cases x with
    | l y => exact leaf rfl (by simp) h
    | _ => cases h
  | bool => cases x with
    | l y => exact leaf rfl (by simp) h
    | _ => cases h
  | str => cases x with
    | l y => exact leaf rfl (by simp) h
    | _ => cases h
  | sl τ => cases x with
    | l y => exact leaf rfl (by simp) h
    | _ => cases h
theorem callMark_sound (hY : LayOk Y) (r : Rel Y.C E s a w β) {o : Oper} {f : FuncId} {xa : Array Operand} {ats : Array TypeId} {S : Sum U} {z : Tup U S.ar} {q : Tup U S.rs} (ho : o.op = .call { callee := .value (.func f), args := xa, argTypes := ats })
    (hS : SumOk P g Y f S) (hz : svsTy Y s.m S.ar (xa.toList.map (opd s)) = some z) (hmk : S.wt = true) (hq : S.m z = some q) {x y : Sv U} (hxs : xa.toList.map (opd s) = [x, y]) {cs ds : List (Lf U)} (hp : parts x = some cs) {b1 b2 : Bool} {k : Int} (hr : toCps Y S.rs q = [(b1, ds), (b2, [.int .i64 k])]) (hpos : posKs (U := U) S.ar = true) {us : List (Nat × EO U)} (hw : wrm Y s.m cs ds = some us) (hd : (fstE us).Nodup) :
    SO P Y.C E a w o (.l (.int .i64 k)) ⟨s.t, ⟨updA us s.m.o, Nat.succ s.m.k, s.m.ns⟩, s.fr⟩ false := fun K Q hK => by
  have hm : ∀ (i : Nat) (v : Value) (x : Sv U), (xa.toList.map a.eval)[i]? = some v → (xa.toList.map (opd s))[i]? = some x → x.mean Y.C w (E.X β) β s.m v := fun i v x p q => by
    obtain ⟨y, rfl, rfl⟩ := args_eval i v x p q; exact opd_mean r
  rw [hxs] at hz hm
  obtain ⟨v, v1, hvs⟩ : ∃ v v1, xa.toList.map a.eval = [v, v1] := by
    have hl : (xa.toList.map a.eval).length = 2 := by
      have := congrArg List.length hxs
      simpa using this
    match hh : xa.toList.map a.eval, hl with
    | [v, v1], _ => exact ⟨v, v1, rfl⟩
  rw [hvs] at hm
  have hx := hm 0 v x rfl rfl
  have hy := hm 1 v1 y rfl rfl
  obtain ⟨k1, k2, z1, z2, h0, h1, h2, h3⟩ := svsTy_two hz
  obtain ⟨ks, c1, c2⟩ := svTy_parts hY h1 hp
  obtain ⟨vs, hM, hsh⟩ : ∃ vs : List Value, Ms Y.C w (E.X β) β s.m vs cs ∧ ((x = .a cs ∧ (toCp Y k1 z1).1 = true ∧ v = .agg vs.toArray) ∨ (∃ y, x = .l y ∧ cs = [y] ∧ (toCp Y k1 z1).1 = false ∧ vs = [v])) := by
    rcases c2 with ⟨T, _, _, rfl, c3⟩ | ⟨_, ⟨y', rfl, rfl⟩, c3⟩
    · obtain ⟨vs, rfl, hM⟩ := hx
      exact ⟨vs, hM, .inl ⟨rfl, c3, rfl⟩⟩
    · refine ⟨[v], ⟨rfl, fun i u c p q => ?_⟩, .inr ⟨y', rfl, rfl, c3, rfl⟩⟩
      cases i with
      | zero => simp at p q; subst p; subst q; exact hx
      | succ i => simp at p
  have hK' : ∀ kd ∈ ks, ∀ τ, kd = .sl τ → 0 < U.K τ := by
    rcases c2 with ⟨T, _, rfl, _⟩ | ⟨rfl, _⟩
    · exact fun kd hk τ e => hY.pos T τ (e ▸ hk)
    · intro kd hk
      simp only [List.mem_singleton] at hk
      subst hk
      exact posKs_spec hpos kd (by rw [h0]; simp)
  have hread : Rd w (fun _ => False) [] v1 (cpV (toCp Y k2 z2)) := svTy_mean r hy h2 (fun _ h => h.elim) (.inr fun _ _ _ _ _ h => h)
  obtain ⟨W, p1, p2, p3, p4⟩ := wrm_spec hY r.hp ks c1 hw hM hK'
  subst p2
  have hd' : (W.map (·.i)).Nodup := by rw [fstE_eq, List.map_map] at hd; exact hd
  have hBt : ∀ b ∈ (W.map (·.B)).flatten, ∃ r1 ∈ W, b ∈ r1.t.all := fun b hb => by
    obtain ⟨l, hl, hb⟩ := List.mem_flatten.1 hb
    obtain ⟨r1, hr1, rfl⟩ := List.mem_map.1 hl
    exact ⟨r1, hr1, (p3 r1 hr1).2.sub b hb⟩
  have hBnd : ((W.map (·.B)).flatten).Nodup := by
    refine List.pairwise_flatten.2 ⟨fun l hl => ?_, ?_⟩
    · obtain ⟨r1, hr1, rfl⟩ := List.mem_map.1 hl
      exact (p3 r1 hr1).1
    · rw [List.pairwise_map]
      have hdd : W.Pairwise (fun r1 r2 => r1.i ≠ r2.i) := by
        have := hd'
        unfold List.Nodup at this
        rwa [List.pairwise_map] at this
      refine List.Pairwise.imp_of_mem (fun {r1 r2} m1 m2 hne x hx y hy e => ?_) hdd
      subst e
      exact r.hp.dist r1.i r2.i r1.t r2.t x hne (p3 r1 m1).2.ht (p3 r2 m2).2.ht ((p3 r1 m1).2.sub x hx) ((p3 r2 m2).2.sub x hy)
  have hsp := (hS z q hq).2.2 hmk (toCp Y k1 z1).1 (toCp Y k1 z1).2 (toCp Y k2 z2) b1 ds b2 k (by rw [h3]) hr
  have hOw : OwP Y.C w v ((W.map (·.B)).flatten) ((toCp Y k1 z1).1, (toCp Y k1 z1).2) := by
    rcases hsh with ⟨_, e1, rfl⟩ | ⟨y', _, rfl, e1, rfl⟩
    · rw [e1]; exact ⟨vs, rfl, p1⟩
    · rw [e1]
      generalize (toCp Y k1 z1).2 = ll at p1 ⊢
      generalize (W.map (·.B)).flatten = BB at p1 ⊢
      cases p1 with
      | c h hr =>
        cases hr
        rw [List.append_nil]
        exact ⟨_, rfl, h⟩
  have hG : ∀ w', Bel (· ∈ (W.map (·.B)).flatten) w w' → g.G w' := fun w' hb => E.hg w' ⟨hb.os.trans r.hp.ext.os, hb.tape.trans r.hp.ext.tape, hb.output.trans r.hp.ext.output, Nat.le_trans r.hp.ext.size hb.size, fun b hlt hy => by
    rw [hb.block b (Nat.lt_of_lt_of_le hlt r.hp.ext.size) (fun hB => ?_)]
    · exact r.hp.ext.block b hlt hy
    · obtain ⟨r1, m1, hb1⟩ := hBt b hB
      rcases (r.hp.new r1.i r1.t b (p3 r1 m1).2.ht hb1).1 with h | h
      · omega
      · exact hy h⟩
  have hcall := hsp.2 w v v1 _ hBnd hG hOw hread
  have hargs : (xa.toList.map a.eval).toArray = #[v, v1] := by rw [hvs]
  refine wpc (call_enter ho hsp.1) (R' := fun u w' => u = .int .i64 k ∧ (IntKind.i64.min ≤ k ∧ k ≤ IntKind.i64.max) ∧ Bel (· ∈ (W.map (·.B)).flatten) w w' ∧ ∃ B', B'.Nodup ∧ (∀ x ∈ B', x ∈ (W.map (·.B)).flatten ∨ w.heap.size ≤ x) ∧ OwP Y.C w' v B' ((toCp Y k1 z1).1, ds)) ?_ ?_
  · rw [hargs]
    refine hcall.mono ?_
    rintro e w' ⟨rfl, h4, h5, h6⟩
    exact ⟨_, rfl, rfl, h4, h5, h6⟩
  · rintro u w' ⟨rfl, h4, h5, B', h6, h7, h8⟩
    have hL : OwL Y.C w' (fun _ => False) true vs ds B' := by
      rcases hsh with ⟨_, e1, rfl⟩ | ⟨y', _, _, e1, rfl⟩
      · rw [e1] at h8
        obtain ⟨vs', e2, h9⟩ := h8
        have : vs = vs' := by
          injection e2 with e2
          have := congrArg Array.toList e2
          simpa using this
        subst this; exact h9
      · rw [e1] at h8
        obtain ⟨c, rfl, h9⟩ := h8
        simpa using OwL.c h9 .n
    obtain ⟨Bs, l1, l2, l3⟩ := p4 w' B' hL
    subst l2
    obtain ⟨β', r'⟩ := r.wrote hd' p3 h5 l1 h6 h7 l3
    exact hK _ w' β' r' (fun _ => ⟨rfl, h4.1, h4.2⟩) (fun h => by cases h)
end
end Go.EV
