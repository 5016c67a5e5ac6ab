/-
  THE EVALUATOR's KIT, nineteenth part: every operation does what the evaluator says. Plain theorems over any program; the conditions stand in each.
-/
import Derived.Test.YtiojlennpdmapaaGreatEVrm
set_option linter.unusedVariables false
set_option linter.unusedSimpArgs false
namespace Go.EV
open Go.RowKit Go.VK
variable {U : Uni} {Y : Lay U} {TI : List (Nat × TInfo)} {FZ : List (Nat × Sum U)} {P : Program} {g : GI} {E : Env g}

/-- All that is asked of a program's tables. -/
structure Good (P : Program) (g : GI) (Y : Lay U) (TI : List (Nat × TInfo)) (FZ : List (Nat × Sum U)) : Prop where
  ti : tiOk P TI = true
  lay : LayOk Y
  fs : ∀ (f : Nat) (S : Sum U), (f, S) ∈ FZ → SumOk P g Y f S

/-- The memory behind agrees with the memory before, wherever its versions say so. -/
structure Am (m m' : Mm U) : Prop where
  k : m.k ≤ m'.k
  ns : ∀ (a i : Nat) (f : Bool), m.ns[a]? = some (i, f) → ∃ f', m'.ns[a]? = some (i, f')
  ol : m.o.length ≤ m'.o.length
  o : ∀ (i : Nat) (e e' : EO U), m.o[i]? = some e → m'.o[i]? = some e' → (e'.cv ≤ m.k → e' = e) ∧ (e'.ob.isBox = true → e.ob.isBox = true) ∧
    ∀ T cs vs T' cs' vs', e.ob = .box T cs vs → e'.ob = .box T' cs' vs' → T' = T ∧ cs'.length = cs.length ∧ vs'.length = vs.length ∧ ∀ (j v : Nat), vs'[j]? = some v → v ≤ m.k → cs'[j]? = cs[j]? ∧ vs[j]? = some v
theorem Am.refl (m : Mm U) : Am m m := ⟨Nat.le_refl _, fun _ _ f h => ⟨f, h⟩, Nat.le_refl _, fun i e e' h h' => by
  rw [h] at h'; injection h' with h'; subst h'
  refine ⟨fun _ => rfl, id, fun T cs vs T' cs' vs' h1 h2 => ?_⟩
  rw [h1] at h2; injection h2 with a b c; subst a; subst b; subst c
  exact ⟨rfl, rfl, rfl, fun j v hv _ => ⟨rfl, hv⟩⟩⟩
theorem Am.trans {m m' m'' : Mm U} (h : Am m m') (h' : Am m' m'') : Am m m'' := by
  refine ⟨Nat.le_trans h.k h'.k, fun a i f hf => ?_, Nat.le_trans h.ol h'.ol, fun i e e'' he he'' => ?_⟩
  · obtain ⟨f', h1⟩ := h.ns a i f hf; exact h'.ns a i f' h1
  · have hl : i < m'.o.length := Nat.lt_of_lt_of_le (lt_of_some he) h.ol
    obtain ⟨a1, a2, a3⟩ := h.o i e _ he (List.getElem?_eq_getElem hl)
    obtain ⟨b1, b2, b3⟩ := h'.o i _ e'' (List.getElem?_eq_getElem hl) he''
    refine ⟨fun hc => ?_, fun hb => a2 (b2 hb), fun T cs vs T'' cs'' vs'' h1 h2 => ?_⟩
    · have e1 := b1 (Nat.le_trans hc h.k)
      rw [e1] at hc ⊢
      exact a1 hc
    · have hb : (m'.o[i]).ob.isBox = true := b2 (by rw [h2]; rfl)
      cases hm : (m'.o[i]).ob with
      | box T' cs' vs' =>
        obtain ⟨p1, p2, p3, p4⟩ := a3 T cs vs T' cs' vs' h1 hm
        obtain ⟨q1, q2, q3, q4⟩ := b3 T' cs' vs' T'' cs'' vs'' hm h2
        refine ⟨q1.trans p1, q2.trans p2, q3.trans p3, fun j v hv hvk => ?_⟩
        obtain ⟨r1, r2⟩ := q4 j v hv (Nat.le_trans hvk h.k)
        obtain ⟨r3, r4⟩ := p4 j v r2 hvk
        exact ⟨r1.trans r3, r4⟩
      | _ => rw [hm] at hb; cases hb
theorem Am.add (m : Mm U) (es : List (EO U)) : Am m ⟨m.o ++ es, m.k, m.ns⟩ := by
  refine ⟨Nat.le_refl _, fun _ _ f h => ⟨f, h⟩, by simp, fun i e e' he he' => ?_⟩
  have h2 : (m.o ++ es)[i]? = some e := by rw [List.getElem?_append_left (lt_of_some he)]; exact he
  simp only at he'
  rw [h2] at he'
  exact (Am.refl m).o i e e' he (he.trans he')
theorem Am.cntr (m : Mm U) {ns' : List (Nat × Bool)} (h : ∀ (a i : Nat) (f : Bool), m.ns[a]? = some (i, f) → ∃ f', ns'[a]? = some (i, f')) : Am m ⟨m.o, m.k, ns'⟩ := ⟨Nat.le_refl _, h, Nat.le_refl _, (Am.refl m).o⟩
theorem wrm_vers {Y : Lay U} {m : Mm U} : ∀ {cs ds : List (Lf U)} {us : List (Nat × EO U)}, wrm Y m cs ds = some us → ∀ x ∈ us, m.k < x.2.cv ∧ x.2.ob.isBox = false
  | [], [], us, h => by have := Option.some.inj h; subst this; simp
  | [], _ :: _, _, h => by cases h
  | _ :: _, [], _, h => by cases h
  | x :: xs, y :: ys, us, h => by
    obtain ⟨u, u', h1, h2, rfl⟩ := wrm_cons h
    intro p hp
    rcases List.mem_append.1 hp with hp | hp
    · unfold wr1 at h1
      split at h1
      · split at h1
        · rename_i τ' d l rv cv τ l' _
          cases hb : (d && (Nat.beq rv _ && Nat.beq τ' τ)) with
          | false => rw [hb] at h1; cases h1
          | true =>
            rw [hb] at h1
            have := Option.some.inj h1; subst this
            simp only [List.mem_singleton] at hp; subst hp
            exact ⟨Nat.lt_succ_self _, rfl⟩
        · cases h1
      · split at h1
        · rename_i τ1 d L rv cv τ'' l _
          rw [Bool.cond_eq_ite] at h1
          split at h1
          · split at h1
            · split at h1
              · have := Option.some.inj h1; subst this
                simp only [List.mem_singleton] at hp; subst hp
                exact ⟨Nat.lt_succ_self _, rfl⟩
              · cases h1
            · cases h1
          · cases h1
        · cases h1
      · cases h1
      · cases h1
      · have := Option.some.inj h1; subst this; simp at hp
    · exact wrm_vers h2 p hp
theorem Am.updA (m : Mm U) {us : List (Nat × EO U)} (h : ∀ x ∈ us, m.k < x.2.cv ∧ x.2.ob.isBox = false) : Am m ⟨EV.updA us m.o, Nat.succ m.k, m.ns⟩ := by
  refine ⟨Nat.le_succ _, fun _ _ f h => ⟨f, h⟩, by rw [updA_len]; exact Nat.le_refl _, fun j e e' he he' => ?_⟩
  simp only at he'
  by_cases hj : j ∈ fstE us
  · have hin : ∃ x ∈ us, e' = x.2 := by
      clear h
      revert e'
      induction us with
      | nil => simp [fstE] at hj
      | cons x us ih =>
        intro e' he'
        have e1 : EV.updA (x :: us) m.o = upd (EV.updA us m.o) x.1 x.2 := rfl
        rw [e1, upd_eq] at he'
        by_cases hx : x.1 = j
        · subst hx
          rw [List.getElem?_set_self (by rw [updA_len]; exact lt_of_some he)] at he'
          exact ⟨x, by simp, (Option.some.inj he').symm⟩
        · rw [List.getElem?_set_ne hx] at he'
          have hj' : j ∈ fstE us := by
            have e2 : fstE (x :: us) = x.1 :: fstE us := rfl
            rw [e2] at hj
            rcases List.mem_cons.1 hj with h | h
            · exact absurd h.symm hx
            · exact h
          obtain ⟨y, h1, h2⟩ := ih hj' e' he'
          exact ⟨y, by simp [h1], h2⟩
    obtain ⟨x, hx, rfl⟩ := hin
    obtain ⟨h1, h2⟩ := h x hx
    refine ⟨fun hc => by omega, fun hb => ?_, fun T cs vs T' cs' vs' _ hb => ?_⟩
    · rw [h2] at hb; cases hb
    · rw [hb] at h2; cases h2
  · rw [updA_out hj, he] at he'
    have := Option.some.inj he'; subst this
    exact (Am.refl m).o j _ _ he he
theorem Am.turn (m : Mm U) {i : Nat} {ids : List Nat} {ob : Ob U} {rv : Nat} (hb : ob.isBox = true → ∀ e, m.o[i]? = some e → e.ob.isBox = true ∧ ∀ T cs vs T' cs' vs', e.ob = .box T cs vs → ob = .box T' cs' vs' → T' = T ∧ cs'.length = cs.length ∧ vs'.length = vs.length ∧ ∀ (j v : Nat), vs'[j]? = some v → v ≤ m.k → cs'[j]? = cs[j]? ∧ vs[j]? = some v) :
    Am m ⟨kil (Nat.succ m.k) ids (upd m.o i ⟨ob, rv, Nat.succ m.k⟩), Nat.succ m.k, m.ns⟩ := by
  refine ⟨Nat.le_succ _, fun _ _ f h => ⟨f, h⟩, by rw [kil_len, upd_eq, List.length_set]; exact Nat.le_refl _, fun j e e' he he' => ?_⟩
  simp only at he'
  by_cases hj : j ∈ ids
  · rw [kil_in hj (by rw [upd_eq, List.length_set]; exact lt_of_some he)] at he'
    injection he' with he'; subst he'
    exact ⟨fun h => (by simp only at h; omega), fun h => (by cases h), fun _ _ _ _ _ _ _ h => (by cases h)⟩
  · rw [kil_out hj, upd_eq] at he'
    by_cases hij : i = j
    · subst hij
      rw [List.getElem?_set_self (lt_of_some he)] at he'
      injection he' with he'; subst he'
      refine ⟨fun h => by simp only at h; omega, fun h => (hb h e he).1, fun T cs vs T' cs' vs' h1 h2 => ?_⟩
      have hbx : ob.isBox = true := by simp only at h2; rw [h2]; rfl
      exact (hb hbx e he).2 T cs vs T' cs' vs' h1 h2
    · rw [List.getElem?_set_ne hij] at he'
      exact (Am.refl m).o j e e' he he'
theorem Am.tree (m : Mm U) {i : Nat} {ids : List Nat} {τ : Nat} {d : Bool} {l : List (U.El τ)} {rv : Nat} : Am m ⟨kil (Nat.succ m.k) ids (upd m.o i ⟨.tree τ d l, rv, Nat.succ m.k⟩), Nat.succ m.k, m.ns⟩ := Am.turn m (fun h => by cases h)

section
variable {s : St U} {a : Act} {w : World} {β : List Tr} {α : Type}

theorem po_of_stpM (G : Good P g Y TI FZ) (r : Rel Y.C E s a w β) {o : Oper} {op : Op} (ho : o.op = op) {K : Sv U → St U → Option α} {z : α} (h : stpM Y TI s op (fun x => K x s) = some z) : ∃ x s', K x s' = some z ∧ PO P Y.C E a w β o x s' ∧ s'.t = s.t ∧ s'.fr = s.fr ∧ Am s.m s'.m := by
  obtain ⟨x, h1, h2⟩ := stpM_sound G.ti r h
  obtain ⟨v, k1, k2⟩ := h2 o ho
  exact ⟨x, s, h1, ⟨v, k1, r, k2⟩, rfl, rfl, Am.refl _⟩
theorem stp0_sound (G : Good P g Y TI FZ) (r : Rel Y.C E s a w β) {o : Oper} {op : Op} (ho : o.op = op) (hc : cls FZ op = 0) {K : Sv U → St U → Option α} {z : α} (h : stp Y TI FZ s op K = some z) : ∃ x s', K x s' = some z ∧ PO P Y.C E a w β o x s' ∧ s'.t = s.t ∧ s'.fr = s.fr ∧ Am s.m s'.m := by
  unfold stp at h
  split at h
  · cases hc
  · cases hc
  · cases hc
  · cases hc
  · cases hc
  · cases hc
  · rename_i f xa ats
    exfalso
    simp only [cls] at hc
    split at hc
    · cases hw : (Sum.wt _) <;> rw [hw] at hc <;> cases hc
    · cases hc
  · rename_i t x y u
    split at h
    · rename_i c n hx
      cases hn : decide (n = 1) with
      | false => rw [hn] at h; exact po_of_stpM G r ho h
      | true =>
        rw [hn] at h
        simp only [cond_true] at h
        cases hm : nth s.m.ns c with
        | none => rw [hm] at h; cases h
        | some p =>
          obtain ⟨i, f⟩ := p
          rw [hm] at h
          cases f with
          | false => exact po_of_stpM G r ho h
          | true => exact ⟨_, _, h, inc_sound r ho (of_decide_eq_true hn) hx (by rw [← nth_eq]; exact hm), rfl, rfl, Am.cntr _ (fun a' j f' h => ⟨f', by rw [List.getElem?_append_left (lt_of_some h)]; exact h⟩)⟩
    · exact po_of_stpM G r ho h
  · exact po_of_stpM G r ho h

theorem Rel.boxLen {C : Cod U} (r : Rel C E s a w β) {b T rv cv : Nat} {cs : List (Lf U)} {us : List Nat} (h : s.m.o[b]? = some ⟨.box T cs us, rv, cv⟩) : cs.length = us.length := by
  obtain ⟨t, ht⟩ := r.hp.tr h
  exact (r.hp.ok b t _ ht h).1
theorem storeBox_am {b T rv cv off n : Nat} {cs ps : List (Lf U)} {us : List Nat} {rv' : Nat} (h4 : s.m.o[b]? = some ⟨.box T cs us, rv, cv⟩) (h5 : ps.length = n) (h6 : off + n ≤ cs.length) (hl : cs.length = us.length) :
    Am s.m (trn s b (.box T (spl cs off ps) (spl us off (ps.map fun _ => Nat.succ s.m.k))) rv').m := by
  have e1 := spl_eq cs off ps (by rw [h5]; exact h6)
  have e2 := spl_eq us off (ps.map fun _ => Nat.succ s.m.k) (by rw [List.length_map, h5, ← hl]; exact h6)
  refine Am.turn (ids := []) s.m fun _ e he => ?_
  rw [h4] at he; injection he with he; subst he
  refine ⟨rfl, fun T1 cs1 vs1 T' cs' vs' k1 k2 => ?_⟩
  injection k1 with a1 a2 a3
  injection k2 with b1 b2 b3
  subst a1; subst a2; subst a3; subst b1; subst b2; subst b3
  refine ⟨rfl, by rw [e1]; simp; omega, by rw [e2]; simp; omega, fun j v hv hvk => ?_⟩
  rw [e2, splice_get _ _ _ _ (by rw [List.length_map, h5, ← hl]; exact h6)] at hv
  rw [e1, splice_get _ _ _ _ (by rw [h5]; exact h6)]
  rw [List.length_map, h5] at hv
  rw [h5]
  split at hv
  · rename_i hj
    rw [List.getElem?_map] at hv
    cases hp : ps[j - off]? with
    | none => simp [hp] at hv
    | some y => simp only [hp, Option.map_some, Option.some.injEq] at hv; omega
  · rename_i hj
    rw [if_neg hj]; exact ⟨rfl, hv⟩
theorem apD_am {e i : Nat} {px : Lf U} {d : Bool} {l : List (U.El e)} {s1 : St U} (h : apD s e px = some (i, d, l, s1)) : s1.t = s.t ∧ s1.fr = s.fr ∧ Am s.m s1.m := by
  cases px with
  | nil =>
    simp only [apD, Option.some.injEq, Prod.mk.injEq] at h
    obtain ⟨_, _, _, rfl⟩ := h
    exact ⟨rfl, rfl, Am.add _ _⟩
  | own j q =>
    simp only [apD] at h
    split at h
    · rename_i τ d0 l0 rv cv ho
      cases hb : Nat.beq rv q with
      | false => simp [hb] at h
      | true =>
        simp only [hb, cond_true] at h
        split at h
        · simp only [Option.some.injEq, Prod.mk.injEq] at h
          obtain ⟨_, _, _, rfl⟩ := h
          exact ⟨rfl, rfl, Am.refl _⟩
        · cases h
    · cases h
  | _ => cases h
theorem SO.to {C : Cod U} {o : Oper} {x : Sv U} {s' : St U} {b : Bool} (h : SO P C E a w o x s' true) : SO P C E a w o x s' b := by
  cases b with
  | true => exact h
  | false => exact h.soft
theorem toArray_l {xs : Array Operand} {l : List Operand} (h : xs.toList = l) : xs = l.toArray := by apply Array.ext'; simpa using h
theorem toArray_t {xs : Array TypeId} {l : List TypeId} (h : xs.toList = l) : xs = l.toArray := by apply Array.ext'; simpa using h
/-- e: nothing that was there turns. -/
theorem stp_sound (G : Good P g Y TI FZ) (r : Rel Y.C E s a w β) {o : Oper} {op : Op} (ho : o.op = op) {K : Sv U → St U → Option α} {z : α} (h : stp Y TI FZ s op K = some z) : ∃ x s', K x s' = some z ∧ SO P Y.C E a w o x s' (Nat.ble (cls FZ op) 1) ∧ s'.t = s.t ∧ s'.fr = s.fr ∧ Am s.m s'.m := by
  by_cases hc : cls FZ op = 0
  · obtain ⟨x, s', h1, h2, h3⟩ := stp0_sound G r ho hc h
    rw [hc]; exact ⟨x, s', h1, SO.of_po h2, h3⟩
  unfold stp at h
  split at h
  · rename_i T x
    cases hp : parts (opr s x) with
    | none => rw [hp] at h; cases h
    | some cs =>
      rw [hp] at h
      cases ha : allO cs with
      | false => simp [ha] at h
      | true =>
        simp only [ha, cond_true] at h
        exact ⟨_, _, h, box_sound r ho hp ha, rfl, rfl, Am.add _ _⟩
  · rename_i T
    cases hf : fnd TI T with
    | none => rw [hf] at h; cases h
    | some i => rw [hf] at h; exact ⟨_, _, h, alloc_sound G.ti r ho hf, rfl, rfl, Am.add _ _⟩
  · rename_i t x y
    split at h
    · rename_i i b off ps h1 h2 h3
      split at h
      · rename_i T cs us rv cv h4
        rw [nth_eq] at h4
        cases hb : (Nat.beq (len ps) i.k && (Nat.ble (off + i.k) (len cs) && allO ps)) with
        | false => rw [hb] at h; cases h
        | true =>
          rw [hb] at h
          simp only [cond_true] at h
          simp only [Bool.and_eq_true, len_eq] at hb
          exact ⟨_, _, h, storeBox_sound G.ti r ho h1 h2 h3 h4 (Nat.eq_of_beq_eq_true hb.1) (Nat.le_of_ble_eq_true hb.2.1) hb.2.2, rfl, rfl, storeBox_am h4 (Nat.eq_of_beq_eq_true hb.1) (Nat.le_of_ble_eq_true hb.2.1) (r.boxLen h4)⟩
      · cases h
    · rename_i i b c τ q z' off ps h1 h2 h3
      cases hv : okv s.m b c with
      | false => rw [hv] at h; cases h
      | true =>
        rw [hv] at h
        simp only [cond_true] at h
        split at h
        · rename_i τ' d l rv cv h4
          rw [nth_eq] at h4
          cases hs : slq τ τ' l with
          | none => rw [hs] at h; cases h
          | some l1 =>
            rw [hs] at h
            obtain ⟨rfl, hh⟩ := slq_some hs
            obtain rfl := eq_of_heq hh
            simp only at h
            split at h
            · rename_i ds ids d' h8
              rw [tk_eq, drp_eq] at h8
              cases hb : (Nat.beq (len ps) i.k && (Nat.ble (off + i.k) (U.K τ') && (allO ps && dist (b :: ids)))) with
              | false => rw [hb] at h; cases h
              | true =>
                rw [hb] at h
                simp only [cond_true] at h
                simp only [Bool.and_eq_true, len_eq] at hb
                split at h
                · rename_i z2 h9
                  obtain ⟨e', k1, k2⟩ := okv_some hv
                  rw [h4] at k1; injection k1 with k1; subst k1
                  exact ⟨_, _, h, storeTree_sound G.ti G.lay r ho h1 h2 h3 h4 k2 (Nat.eq_of_beq_eq_true hb.1) (Nat.le_of_ble_eq_true hb.2.1) hb.2.2.1 h8 (dist_iff.1 hb.2.2.2) h9, rfl, rfl, Am.tree _⟩
                · cases h
            · cases h
        · cases h
    · cases h
  · rename_i t n ps
    split at h
    · rename_i e ek eb k zz h1
      cases hb : (Nat.beq (len ps.toList) n && (Nat.ble (n * ek) 16777216 && okE (U := U) e ek e)) with
      | false => rw [hb] at h; cases h
      | true =>
        rw [hb] at h
        simp only [cond_true] at h
        simp only [Bool.and_eq_true, len_eq] at hb
        split at h
        · rename_i l ids d h5
          cases hd : dist (len s.m.o :: ids) with
          | false => rw [hd] at h; cases h
          | true =>
            rw [hd] at h
            simp only [cond_true] at h
            have hJ := dist_iff.1 hd
            rw [len_eq] at hJ
            exact ⟨_, _, h, build_sound G.ti G.lay r ho h1 (Nat.eq_of_beq_eq_true hb.1) (Nat.le_of_ble_eq_true hb.2.1) hb.2.2 h5 hJ, rfl, rfl, (Am.add s.m [⟨.dead, s.m.k, s.m.k⟩]).trans (Am.tree _)⟩
        · cases h
    · cases h
  · rename_i t x y
    split at h
    · rename_i e ek eb k zz h1
      split at h
      · rename_i i n h2 h3
        cases hb : (sameOp x y && (Nat.ble eb 2048 && okE (U := U) e ek e)) with
        | false => rw [hb] at h; cases h
        | true =>
          rw [hb] at h
          simp only [cond_true] at h
          simp only [Bool.and_eq_true] at hb
          split at h
          · rename_i ds h7
            split at h
            · rename_i z2 h8
              obtain ⟨hg, h⟩ := gd_some h
              exact ⟨_, _, h, make_sound G.ti G.lay r ho h1 h2 h3 hb.1 hb.2.1 hb.2.2 h7 h8 hg, rfl, rfl, Am.add _ _⟩
            · cases h
          · cases h
      · cases h
    · cases h
  · rename_i xa ats
    split at h
    · rename_i x y t t2 hxa hats
      split at h
      · rename_i e ek eb k zz h1
        cases hb : (Nat.beq t t2 && (Nat.ble eb 2048 && okE (U := U) e ek e)) with
        | false => rw [hb] at h; cases h
        | true =>
          rw [hb] at h
          simp only [cond_true] at h
          simp only [Bool.and_eq_true] at hb
          obtain rfl : t = t2 := Nat.eq_of_beq_eq_true hb.1
          split at h
          · rename_i px py h4 h5
            split at h
            · rename_i i d l s1 h6
              split at h
              · rename_i l' ids d' h7
                obtain ⟨hg, h⟩ := gd_some h
                rw [toArray_l hxa, toArray_t hats] at ho ⊢
                exact ⟨_, _, h, append_sound G.ti G.lay r ho h1 hb.2.1 hb.2.2 h4 h5 h6 h7 hg, (apD_am h6).1, (apD_am h6).2.1, (apD_am h6).2.2.trans (Am.tree _)⟩
              · cases h
            · cases h
          · cases h
      · cases h
    · cases h
  · rename_i f xa ats
    split at h
    · rename_i S hS
      have hok := G.fs f S (fnd_mem hS)
      simp only at h
      split at h
      · rename_i z1 hz
        cases hmk : S.wt with
        | true =>
          rw [hmk] at h
          simp only [cond_true] at h
          split at h
          · rename_i x y hxs
            split at h
            · rename_i cs hp
              obtain ⟨q, hq, h⟩ := bd_some h
              split at h
              · rename_i b1 ds b2 k hr
                split at h
                · rename_i us hw
                  cases hd : (dist (fstE us) && posKs (U := U) S.ar) with
                  | false => rw [hd] at h; cases h
                  | true =>
                    rw [hd] at h
                    simp only [cond_true] at h
                    simp only [Bool.and_eq_true] at hd
                    have hcl : Nat.ble (cls FZ (.call { callee := .value (.func f), args := xa, argTypes := ats })) 1 = false := by simp only [cls, hS, hmk, cond_true]; rfl
                    rw [hcl]
                    exact ⟨_, _, h, callMark_sound G.lay r ho hok hz hmk hq hxs hp hr hd.2 hw (dist_iff.1 hd.1), rfl, rfl, Am.updA _ (wrm_vers hw)⟩
                · cases h
              · cases h
            · cases h
          · cases h
        | false =>
          rw [hmk] at h
          simp only [cond_false] at h
          cases hfr : S.fr with
          | true =>
            rw [hfr] at h
            simp only [cond_true] at h
            obtain ⟨q, hq, h⟩ := bd_some h
            exact ⟨_, _, h, (callFresh_sound r ho hok hz hmk hfr hq).to, rfl, rfl, Am.add _ _⟩
          | false =>
            rw [hfr] at h
            simp only [cond_false] at h
            cases hff : (flatKs Y S.rs || freeVs (xa.toList.map (opd s))) with
            | false => rw [hff] at h; cases h
            | true =>
              rw [hff] at h
              simp only [cond_true] at h
              obtain ⟨q, hq, h⟩ := bd_some h
              rw [Bool.or_eq_true] at hff
              exact ⟨_, _, h, (callPlain_sound G.lay r ho hok hz hmk hfr hff hq).to, rfl, rfl, Am.refl _⟩
      · cases h
    · cases h
  · exact absurd rfl hc
  · rename_i h1 h2 h3 h4 h5 h6 h7 h8
    obtain ⟨x, k1, k2⟩ := stpM_sound G.ti r h
    refine ⟨x, s, k1, ?_, rfl, rfl, Am.refl _⟩
    exact (by
      have hle : Nat.ble (cls FZ op) 1 = true ∨ Nat.ble (cls FZ op) 1 = false := by cases Nat.ble (cls FZ op) 1 <;> simp
      have := SO.of_mo r (o := o) (by rw [ho]; exact k2)
      rcases hle with e | e
      · rw [e]; exact this
      · rw [e]; exact this.soft)
end
end Go.EV
