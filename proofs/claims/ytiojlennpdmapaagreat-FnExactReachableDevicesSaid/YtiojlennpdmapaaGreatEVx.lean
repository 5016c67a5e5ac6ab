/-
  THE EVALUATOR's KIT, twenty-fourth part: joins. Plain theorems over any program; the conditions stand in each.
-/
import Derived.Test.YtiojlennpdmapaaGreatEVw
set_option linter.unusedVariables false
set_option linter.unusedSimpArgs false
namespace Go.EV
open Go.RowKit Go.VK
variable {U : Uni} {Y : Lay U} {P : Program} {g : GI} {E : Env g}

section
variable {b s : St U} {a a0 : Act} {w w0 : World} {β β0 : List Tr}
theorem col_inv {tm : Tm} {d : Dat U tm.it} (h : col Y b tm s = some d) : ∃ q, srcs s tm.it = some q ∧ gets Y s tm.it = some d ∧ slI tm.ws tm.it = true ∧ chkO tm.cels tm.dead b.m.k 0 b.m.o s.m.o = true ∧ chkT b.m.o.length tm.dead (snds q) = true ∧ (snds q).Nodup ∧ (trsOf tm.it).Nodup ∧ chkB b.m.o.length (trsOf tm.it) = true := by
  unfold col at h
  cases hq : srcs s tm.it with
  | none => rw [hq] at h; cases h
  | some q =>
    rw [hq] at h
    simp only at h
    cases hb : (slI tm.ws tm.it && (chkO tm.cels tm.dead b.m.k 0 b.m.o s.m.o && (chkT (len b.m.o) tm.dead (snds q) && (dist (snds q) && (dist (trsOf tm.it) && chkB (len b.m.o) (trsOf tm.it)))))) with
    | false => rw [hb] at h; cases h
    | true =>
      rw [hb] at h
      simp only [cond_true] at h
      simp only [Bool.and_eq_true, len_eq] at hb
      obtain ⟨h1, h2, h3, h4, h5, h6⟩ := hb
      exact ⟨q, rfl, h, h1, h2, h3, dist_iff.1 h4, dist_iff.1 h5, h6⟩
theorem chkT_spec {N : Nat} {dd : List Nat} : ∀ {l : List Nat}, chkT N dd l = true → ∀ i ∈ l, N ≤ i ∨ i ∈ dd
  | [], _, i, h => by simp at h
  | x :: l, h, i, hi => by
    simp only [chkT, Bool.and_eq_true, Bool.or_eq_true] at h
    rcases List.mem_cons.1 hi with rfl | hi
    · exact h.1.imp Nat.le_of_ble_eq_true memb_iff.1
    · exact chkT_spec h.2 i hi
theorem chkB_spec {N : Nat} : ∀ {l : List Nat}, chkB N l = true → ∀ i ∈ l, i < N
  | [], _, i, h => by simp at h
  | x :: l, h, i, hi => by
    simp only [chkB, Bool.and_eq_true] at h
    rcases List.mem_cons.1 hi with rfl | hi
    · exact Nat.le_of_ble_eq_true h.1
    · exact chkB_spec h.2 i hi
theorem natAt_mean {C : Cod U} {X : Nat → Prop} {m : Mm U} {v : Value} {x : Sv U} {i : Nat} (hm : x.mean C w X β m v) (h : natAt m x = some i) : v = .int .i64 (i : Int) ∧ (i : Int) ≤ 9223372036854775807 := by
  unfold natAt at h
  split at h
  · obtain ⟨i', f, h1, h2, h3⟩ := hm
    rw [nth_eq, h1] at h
    have := Option.some.inj h; subst this; exact ⟨h2, h3⟩
  · rename_i n
    obtain ⟨h1, _, _⟩ := hm
    cases hn : decide (n = 0) with
    | false => rw [hn] at h; cases h
    | true =>
      rw [hn] at h
      have h := Option.some.inj h
      have := of_decide_eq_true hn
      subst this; subst h
      exact ⟨h1, by simp⟩
  · cases h
theorem treeAt_mean {C : Cod U} {m : Mm U} {X : Nat → Prop} {τ : Nat} {d : Bool} {v : Value} {x : Sv U} {q : Option Nat × List (U.El τ)} (hm : x.mean C w X β m v) (h : treeAt m τ d x = some q) : v.oneCell' = true ∧ v = (srcT β q.1).val := by
  unfold treeAt at h
  split at h
  · obtain rfl := hm
    cases hb : Nat.ble 1 (U.K τ) with
    | false => rw [hb] at h; cases h
    | true =>
      rw [hb] at h
      have := Option.some.inj h; subst this
      exact ⟨rfl, rfl⟩
  · rename_i i r
    obtain ⟨h1, e, t, h2, h3, h4⟩ := hm
    rw [nth_eq, h2] at h
    obtain ⟨ob, rv, cv⟩ := e
    cases ob with
    | tree τ' d' l =>
      simp only at h
      cases hb : (Nat.beq rv r && (d' || !d)) with
      | false => rw [hb] at h; cases h
      | true =>
        rw [hb] at h
        simp only [cond_true] at h
        cases hq : slq τ τ' l with
        | none => rw [hq] at h; cases h
        | some l' =>
          rw [hq] at h
          have := Option.some.inj h; subst this
          simp only [Bool.and_eq_true] at hb
          refine ⟨h1.2, ?_⟩
          rw [h4 (Nat.eq_of_beq_eq_true hb.1)]; simp [srcT, h3]
    | _ => cases h
  · cases h

/-- Places of boxes under new names. -/
theorem LV.ren {N M K : Nat} {σ : List (Option Nat)} {o : List (EO U)} (hlen : σ.length = o.length) (hs : ∀ (j : Nat) (q : Option Nat) (e' : EO U), σ[j]? = some q → o[j]? = some e' → Src N M K s.m q j e') (r : Rel Y.C E s a w β) {l : Lo} {v : Value} (h : LV a w β s.m.o l v) : LV a w (σ.map (srcT β)) o l v := by
  cases l with
  | s n => exact h
  | c bb j =>
    intro e' he' hbx
    have hl : bb < σ.length := by rw [hlen]; exact lt_of_some he'
    have hq : σ[bb]? = some σ[bb] := List.getElem?_eq_getElem hl
    have done : ∀ e : EO U, σ[bb] = some bb → s.m.o[bb]? = some e → e.ob.isBox = true → ∃ t blk vals T, (σ.map (srcT β))[bb]? = some t ∧ t.b = some blk ∧ w.heap[blk]? = some (.cells vals T (0, 0)) ∧ vals[j]? = some v := fun e hq' he hb => by
      obtain ⟨t, blk, vals, T, h1, h2, h3, h4⟩ := h e he hb
      exact ⟨t, blk, vals, T, by rw [List.getElem?_map, hq, hq']; simp [srcT, h1], h2, h3, h4⟩
    cases hs bb _ e' hq he' with
    | keep hq' he _ => exact done e' hq' he hbx
    | box hq' he h1 h2 _ _ _ _ => exact done _ hq' he (by rw [h1]; rfl)
    | dead h' _ => rw [h'] at hbx; cases hbx
    | tree _ _ _ _ h' _ => rw [h'] at hbx; cases hbx
    | ti _ _ _ _ h' _ _ => rw [h'] at hbx; cases hbx
    | nil _ h' _ _ => rw [h'] at hbx; cases hbx

theorem if_of (r : Rel Y.C E s a w β) {k : Nat} {σ : List (Option Nat)} {o : List (EO U)} {u : St U} (huo : u.m.o = o) (huk : k ≤ u.m.k) (hX : ∀ b, E.X (σ.map (srcT β)) b → E.X β b) (hfree : ∀ x : Nat, True)
    (hlv : ∀ (l : Lo) (v : Value), LV a w β s.m.o l v → LV a w (σ.map (srcT β)) o l v) : ∀ (xs : List DI) (n : Nat) (d : Dat U xs), gets Y s xs = some d → Plc k σ o s n xs → IF Y E k u a w (σ.map (srcT β)) n xs d
  | [], _, _, _, _ => trivial
  | .dat l kd :: xs, n, d, hg, hp => by
    obtain ⟨g1, g2⟩ := gets_cons hg
    refine ⟨?_, if_of r huo huk hX hfree hlv xs n (Dtl d) g2 hp⟩
    simp only [get1] at g1
    cases hl : lkp s l with
    | none => rw [hl] at g1; cases g1
    | some x =>
      rw [hl] at g1
      simp only at g1
      cases hf : freeV x with
      | false => rw [hf] at g1; cases g1
      | true =>
        rw [hf] at g1
        obtain ⟨v, h1, h2⟩ := lkp_mean r hl
        exact ⟨v, by rw [huo]; exact hlv l v h1, svTy_mean r h2 g1 hX (.inl hf)⟩
  | .ti i τ bb :: xs, n, d, hg, hp => ⟨trivial, if_of r huo huk hX hfree hlv xs n (Dtl d) (gets_cons hg).2 hp⟩
  | .nat l :: xs, n, d, hg, hp => by
    obtain ⟨g1, g2⟩ := gets_cons hg
    refine ⟨?_, if_of r huo huk hX hfree hlv xs n (Dtl d) g2 hp⟩
    simp only [get1] at g1
    cases hl : lkp s l with
    | none => rw [hl] at g1; cases g1
    | some x =>
      rw [hl] at g1
      obtain ⟨v, h1, h2⟩ := lkp_mean r hl
      obtain ⟨q1, q2⟩ := natAt_mean h2 g1
      exact ⟨v, by rw [huo]; exact hlv l v h1, _, rfl, q1, q2⟩
  | .tr l i τ bb :: xs, n, d, hg, ⟨⟨v, q, e, p1, p2, p3, p4, p5⟩, hp⟩ => by
    obtain ⟨g1, g2⟩ := gets_cons hg
    refine ⟨?_, if_of r huo huk hX hfree hlv xs n (Dtl d) g2 hp⟩
    obtain ⟨v', h1, h2⟩ := lkp_mean r p1
    obtain ⟨k1, k2⟩ := treeAt_mean h2 p2
    exact ⟨v', by rw [huo]; exact hlv l v' h1, ⟨huk, k1⟩, e, srcT β q.1, by rw [huo]; exact p4, by rw [List.getElem?_map, p3]; rfl, fun _ => k2⟩
  | .nt l τ bb :: xs, n, d, hg, ⟨⟨v, q, e, p1, p2, p3, p4, p5⟩, hp⟩ => by
    obtain ⟨g1, g2⟩ := gets_cons hg
    refine ⟨?_, if_of r huo huk hX hfree hlv xs (Nat.succ n) (Dtl d) g2 hp⟩
    obtain ⟨v', h1, h2⟩ := lkp_mean r p1
    obtain ⟨k1, k2⟩ := treeAt_mean h2 p2
    exact ⟨v', by rw [huo]; exact hlv l v' h1, ⟨huk, k1⟩, e, srcT β q.1, by rw [huo]; exact p4, by rw [List.getElem?_map, p3]; rfl, fun _ => k2⟩

theorem reb_sound (rb : Rel Y.C E b a0 w0 β0) (r : Rel Y.C E s a w β) {tm : Tm} (hag : Ag (fun n => inW tm.ws 0 n = true) b s) {d : Dat U tm.it} (h : col Y b tm s = some d) : ∃ β', Rel Y.C E (reb Y b tm d) a w β' := by
  obtain ⟨q, c1, c2, _, c3, c4, c5, c6, c7⟩ := col_inv h
  have hI := inv0 rb hag.m c3
  have hol : (forC (Nat.succ b.m.k) tm.cels (kil (Nat.succ b.m.k) tm.dead b.m.o)).length = b.m.o.length := by rw [forC_len, kil_len]
  obtain ⟨i1, i2, _⟩ := putT_inv (Nat.lt_succ_self _) tm.it q d _ _ c1 c2 hI (fun i hi j hj => by
    obtain ⟨g1, g2⟩ := sg0_get hj
    rcases g2 with ⟨_, g2⟩ | ⟨g3, g2⟩
    · cases g2
    · have := Option.some.inj g2; subst this
      rcases chkT_spec c4 i hi with h | h
      · omega
      · exact g3 h) c5 (fun i hi => by rw [hol]; exact chkB_spec c7 i hi) c6
  rw [hol] at i2
  obtain ⟨H, ev⟩ := Hp.ren (m' := ⟨putT (Nat.succ b.m.k) tm.it d (forC (Nat.succ b.m.k) tm.cels (kil (Nat.succ b.m.k) tm.dead b.m.o)), Nat.succ b.m.k, b.m.ns⟩) r.hp i1.len i1.ge i1.inj (Nat.le_succ _) i1.ver rb.hp.cnt (fun a' i f ha hn => by
    have h1 : b.m.ns[a']? = some b.m.ns[a'] := List.getElem?_eq_getElem ha
    obtain ⟨f', h2⟩ := hag.m.ns a' (b.m.ns[a']).1 (b.m.ns[a']).2 h1
    rw [hn] at h2
    have h3 := congrArg Prod.fst (Option.some.inj h2)
    exact ⟨(b.m.ns[a']).2, by rw [h1]; simp only at h3; rw [h3]⟩) i1.src (fun x hx => Lf.mean_bd (rb.hp.pin x hx))
  have hX : ∀ bb, E.X ((sgm q (sg0 tm.dead b.m.o.length)).map (srcT β)) bb → E.X β bb := fun bb hb => ev.hX bb (Hp.X_lt H bb hb) hb
  have r1 : Rel Y.C E ⟨wip tm.ws b.t, ⟨putT (Nat.succ b.m.k) tm.it d (forC (Nat.succ b.m.k) tm.cels (kil (Nat.succ b.m.k) tm.dead b.m.o)), Nat.succ b.m.k, b.m.ns⟩, b.fr⟩ a w ((sgm q (sg0 tm.dead b.m.o.length)).map (srcT β)) := by
    refine ⟨H, r.defers, ?_, fun n x hx => ?_⟩
    · show a.tmps.size = (wip tm.ws b.t).length
      rw [wip_len, r.tsz, hag.tl]
    · have hx' := (wip_get (ws := tm.ws) (p := 0) (n := n) (l := b.t)).symm.trans hx
      rw [Nat.zero_add] at hx'
      split at hx'
      · cases hb : b.t[n]? with
        | none => rw [hb] at hx'; cases hx'
        | some y => rw [hb] at hx'; have := Option.some.inj hx'; subst this; trivial
      · rename_i hn
        exact Sv.mean_evo ev (Sv.mean_bd (rb.tm n x hx')) (r.tm n x ((hag.t n hn).trans hx'))
  have hIF := if_of (Y := Y) (u := ⟨wip tm.ws b.t, ⟨putT (Nat.succ b.m.k) tm.it d (forC (Nat.succ b.m.k) tm.cels (kil (Nat.succ b.m.k) tm.dead b.m.o)), Nat.succ b.m.k, b.m.ns⟩, b.fr⟩) r rfl (Nat.le_refl _) hX (fun _ => trivial) (fun l v h => LV.ren i1.len i1.src r h) tm.it b.m.o.length d c2 i2
  have := sets_sound tm.it r1 hIF
  unfold reb
  rw [len_eq]
  exact this

/-! ### The state behind agrees with the state before -/
theorem setL_fr {u : St U} {x : Sv U} {l : Lo} : (setL u x l).fr = u.fr ∧ (setL u x l).t.length = u.t.length ∧ Am u.m (setL u x l).m ∧ ∀ n, (∀ m, l = .s m → m ≠ n) → (setL u x l).t[n]? = u.t[n]? := by
  cases l with
  | s m =>
    refine ⟨rfl, by simp only [setL, put, upd_eq, List.length_set], Am.refl _, fun n hn => ?_⟩
    simp only [setL, put, upd_eq]
    rw [List.getElem?_set_ne (hn m rfl)]
  | c bb j =>
    unfold setL
    simp only [nth_eq]
    split
    · rename_i T cs vs rv cv y he
      refine ⟨rfl, rfl, Am.turn (ids := []) u.m fun _ e he' => ?_, fun _ _ => rfl⟩
      rw [he] at he'; have := Option.some.inj he'; subst this
      refine ⟨rfl, fun T1 cs1 vs1 T' cs' vs' k1 k2 => ?_⟩
      injection k1 with a1 a2 a3
      injection k2 with b1 b2 b3
      subst a1; subst a2; subst a3; subst b1; subst b2; subst b3
      refine ⟨rfl, by rw [upd_eq, List.length_set], by rw [upd_eq, List.length_set], fun i v hv hk => ?_⟩
      rw [upd_eq] at hv ⊢
      by_cases hij : j = i
      · subst hij
        have hl : j < vs.length := by have := lt_of_some hv; simpa using this
        rw [List.getElem?_set_self hl] at hv
        have := Option.some.inj hv; omega
      · rw [List.getElem?_set_ne hij] at hv
        exact ⟨List.getElem?_set_ne hij, hv⟩
    · exact ⟨rfl, rfl, Am.refl _, fun _ _ => rfl⟩
theorem Ag.setL {D : Nat → Prop} {s0 u : St U} (h : Ag D s0 u) {x : Sv U} {l : Lo} (hl : ∀ m, l = .s m → D m) : Ag D s0 (setL u x l) := by
  obtain ⟨h1, h2, h3, h4⟩ := setL_fr (u := u) (x := x) (l := l)
  exact ⟨fun n hn => (h4 n (fun m e e' => hn (e' ▸ hl m e))).trans (h.t n hn), h2.trans h.tl, h1.trans h.fr, h.m.trans h3⟩
theorem Ag.set1 {D : Nat → Prop} {s0 u : St U} (h : Ag D s0 u) {k n : Nat} {x : DI} {d : x.ty U} {ws : List (Nat × Nat)} {xs : List DI} (hx : slI ws (x :: xs) = true) (hD : ∀ n, inW ws 0 n = true → D n) : Ag D s0 (set1 Y k n u x d) ∧ slI ws xs = true := by
  have key : ∀ l : Lo, (match l with | .s n => inW ws 0 n && slI ws xs | .c .. => slI ws xs) = true → (∀ m, l = .s m → D m) ∧ slI ws xs = true := fun l hl => by
    cases l with
    | s m => simp only [Bool.and_eq_true] at hl; exact ⟨fun m' e => by injection e with e; subst e; exact hD _ hl.1, hl.2⟩
    | c => exact ⟨fun m e => (by cases e), hl⟩
  cases x with
  | dat l kd =>
    obtain ⟨k1, k2⟩ := key l (by cases l <;> exact hx)
    exact ⟨h.setL k1, k2⟩
  | nat l =>
    obtain ⟨k1, k2⟩ := key l (by cases l <;> exact hx)
    refine ⟨Ag.setL (u := ⟨u.t, ⟨u.m.o, u.m.k, u.m.ns ++ [((⟨d, false⟩ : Nat × Bool))]⟩, u.fr⟩) ⟨h.t, h.tl, h.fr, h.m.trans (Am.cntr _ fun a' i f h => ⟨f, by rw [List.getElem?_append_left (lt_of_some h)]; exact h⟩)⟩ k1, k2⟩
  | tr l i τ bb =>
    obtain ⟨k1, k2⟩ := key l (by cases l <;> exact hx)
    exact ⟨h.setL k1, k2⟩
  | nt l τ bb =>
    obtain ⟨k1, k2⟩ := key l (by cases l <;> exact hx)
    exact ⟨h.setL k1, k2⟩
  | ti i τ bb => exact ⟨h, hx⟩
theorem Ag.sets {D : Nat → Prop} {s0 : St U} {k : Nat} {ws : List (Nat × Nat)} (hD : ∀ n, inW ws 0 n = true → D n) : ∀ (xs : List DI) {u : St U} {n : Nat} {d : Dat U xs}, slI ws xs = true → Ag D s0 u → Ag D s0 (sets Y k n u xs d)
  | [], _, _, _, _, h => h
  | x :: xs, u, n, d, hx, h => by
    obtain ⟨h1, h2⟩ := h.set1 (Y := Y) (k := k) (n := n) (d := Dhd d) hx hD
    rw [sets_cons]
    exact Ag.sets hD xs h2 h1
theorem putT_get {k : Nat} : ∀ (xs : List DI) {d : Dat U xs} {o : List (EO U)} {j : Nat} {e : EO U}, o[j]? = some e → ∃ e', (putT k xs d o)[j]? = some e' ∧ (e' = e ∨ (e'.cv = k ∧ e'.ob.isBox = false))
  | [], _, o, j, e, h => ⟨e, h, .inl rfl⟩
  | x :: xs, d, o, j, e, h => by
    rw [putT_cons]
    have h1 : ∃ e1, (putT1 k x (Dhd d) o)[j]? = some e1 ∧ (e1 = e ∨ (e1.cv = k ∧ e1.ob.isBox = false)) := by
      cases x with
      | dat l kd => exact ⟨e, h, .inl rfl⟩
      | nat l => exact ⟨e, h, .inl rfl⟩
      | tr l i τ bb =>
        show ∃ e1, (upd o i (⟨.tree τ bb _, k, k⟩ : EO U))[j]? = some e1 ∧ _
        rw [upd_eq]
        by_cases hij : i = j
        · subst hij
          exact ⟨_, List.getElem?_set_self (lt_of_some h), .inr ⟨rfl, rfl⟩⟩
        · exact ⟨e, by rw [List.getElem?_set_ne hij]; exact h, .inl rfl⟩
      | ti i τ bb =>
        show ∃ e1, (upd o i (⟨.tree τ bb _, 0, k⟩ : EO U))[j]? = some e1 ∧ _
        rw [upd_eq]
        by_cases hij : i = j
        · subst hij
          exact ⟨_, List.getElem?_set_self (lt_of_some h), .inr ⟨rfl, rfl⟩⟩
        · exact ⟨e, by rw [List.getElem?_set_ne hij]; exact h, .inl rfl⟩
      | nt l τ bb =>
        show ∃ e1, (o ++ [(⟨.tree τ bb _, k, k⟩ : EO U)])[j]? = some e1 ∧ _
        exact ⟨e, by rw [List.getElem?_append_left (lt_of_some h)]; exact h, .inl rfl⟩
    obtain ⟨e1, h1, h2⟩ := h1
    obtain ⟨e', h3, h4⟩ := putT_get xs (d := Dtl d) h1
    refine ⟨e', h3, ?_⟩
    rcases h4 with rfl | h4
    · exact h2
    · exact .inr h4
theorem putT_len {k : Nat} : ∀ (xs : List DI) {d : Dat U xs} {o : List (EO U)}, o.length ≤ (putT k xs d o).length
  | [], _, o => Nat.le_refl _
  | x :: xs, d, o => by
    rw [putT_cons]
    refine Nat.le_trans ?_ (putT_len xs)
    cases x with
    | dat => exact Nat.le_refl _
    | nat => exact Nat.le_refl _
    | tr l i τ bb => show o.length ≤ (upd o i _).length; rw [upd_eq, List.length_set]; exact Nat.le_refl _
    | nt l τ bb => show o.length ≤ (o ++ [_]).length; simp
    | ti i τ bb => show o.length ≤ (upd o i _).length; rw [upd_eq, List.length_set]; exact Nat.le_refl _
theorem reb_ag {tm : Tm} {d : Dat U tm.it} (h : slI tm.ws tm.it = true) : Ag (fun n => inW tm.ws 0 n = true) b (reb Y b tm d) := by
  unfold reb
  refine Ag.sets (fun _ h => h) tm.it h ⟨fun n hn => ?_, wip_len, rfl, ?_⟩
  · have := wip_get (ws := tm.ws) (p := 0) (n := n) (l := b.t)
    rw [Nat.zero_add, if_neg hn] at this
    exact this
  · refine ⟨Nat.le_succ _, fun _ _ f h => ⟨f, h⟩, ?_, fun i e e' he he' => ?_⟩
    · refine Nat.le_trans ?_ (putT_len tm.it)
      rw [forC_len, kil_len]; exact Nat.le_refl _
    · have hl := lt_of_some he
      by_cases hd : i ∈ tm.dead
      · obtain ⟨e1, h1, h2, _⟩ := forC_get (k := Nat.succ b.m.k) (kil_in (k := Nat.succ b.m.k) hd hl) tm.cels
        have e1d := h2 (.inl rfl)
        obtain ⟨e2, h3, h4⟩ := putT_get (k := Nat.succ b.m.k) tm.it (d := d) h1
        have := Option.some.inj (h3.symm.trans he'); subst this
        have : e2.cv = Nat.succ b.m.k ∧ e2.ob.isBox = false := by
          rcases h4 with rfl | h4
          · rw [e1d]; exact ⟨rfl, rfl⟩
          · exact h4
        refine ⟨fun hh => by omega, fun hh => (by rw [this.2] at hh; cases hh), fun T cs vs T' cs' vs' _ hh => ?_⟩
        rw [hh] at this; cases this.2
      · have h0 : (kil (Nat.succ b.m.k) tm.dead b.m.o)[i]? = some e := by rw [kil_out hd]; exact he
        obtain ⟨e1, h1, h2, h5⟩ := forC_get (k := Nat.succ b.m.k) h0 tm.cels
        obtain ⟨e2, h3, h4⟩ := putT_get (k := Nat.succ b.m.k) tm.it (d := d) h1
        have := Option.some.inj (h3.symm.trans he'); subst this
        rcases h4 with rfl | h4
        · by_cases hk : e.ob.isBox = false ∨ hasB i tm.cels = false
          · have := h2 hk; subst this
            exact (Am.refl b.m).o i _ _ he he
          · have hB : hasB i tm.cels = true := by
              cases hh : hasB i tm.cels with
              | true => rfl
              | false => exact absurd (.inr hh) hk
            cases ho : e.ob with
            | box T cs vs =>
              obtain ⟨cs', vs', k1, k2, k3, k4, k5⟩ := h5 T cs vs ho
              obtain ⟨q1, q2⟩ := k4 hB
              refine ⟨fun hh => by omega, fun _ => rfl, fun T1 cs1 vs1 T2 cs2 vs2 g1 g2 => ?_⟩
              rw [k1] at g2
              injection g1 with a1 a2 a3
              injection g2 with b1 b2 b3
              subst a1; subst a2; subst a3; subst b1; subst b2; subst b3
              refine ⟨rfl, k2, k3, fun j v hv hvk => ?_⟩
              cases hA : hasA i j tm.cels with
              | true => have := (k5 j).2.1 hA v hv; omega
              | false =>
                obtain ⟨z1, z2⟩ := (k5 j).2.2 hA
                exact ⟨z1, z2.symm.trans hv⟩
            | _ => exact absurd (.inl (by rw [ho]; rfl)) hk
        · refine ⟨fun hh => by omega, fun hh => (by rw [h4.2] at hh; cases hh), fun T cs vs T' cs' vs' _ hh => ?_⟩
          rw [hh] at h4; cases h4.2
end
end Go.EV
