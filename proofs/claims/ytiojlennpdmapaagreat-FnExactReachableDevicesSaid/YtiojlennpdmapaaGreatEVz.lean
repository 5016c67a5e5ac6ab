/-
  THE EVALUATOR's KIT, twenty-sixth part: regions, whose order is the text's or drawn; the evaluator is sound. Plain theorems over any program; the conditions stand in each.
-/
import Derived.Test.YtiojlennpdmapaaGreatEVy
set_option linter.unusedVariables false
set_option linter.unusedSimpArgs false
namespace Go.EV
open Go.RowKit Go.VK
variable {U : Uni} {Y : Lay U} {TI : List (Nat × TInfo)} {FZ : List (Nat × Sum U)} {P : Program} {g : GI} {E : Env g}

section
variable {α : Type}
theorem fstsN_eq : ∀ (l : List (Nat × Bool)), fstsN l = l.map Prod.fst
  | [] => rfl
  | x :: l => by rw [List.map_cons, ← fstsN_eq l]; rfl
theorem noneF_cons {x : Nat × Bool} {l : List (Nat × Bool)} (h : noneF (x :: l) = true) : x.2 = false ∧ noneF l = true := by
  have e : noneF (x :: l) = cond x.2 false (noneF l) := rfl
  rw [e] at h
  cases hx : x.2 with
  | true => rw [hx] at h; cases h
  | false => rw [hx] at h; exact ⟨rfl, h⟩

/-! ### Drawn orders in which each step is the only one -/
theorem opsZ (G : Good P g Y TI FZ) {al : List Oper} {Q : Exit → Act → World → Prop} {D : Nat → Prop} : ∀ (l : List Nat) (s : St U) (K : St U → Option α) (z : α), (∀ i ∈ l, ∀ o, al[i]? = some o → ∀ n, Wr al o n → D n) → opsO Y TI FZ al l s K = some z →
    ∀ (rest : List Nat), (∀ s' a w β listed, Ag D s s' → K s' = some z → Rel Y.C E s' a w β → chz al.toArray rest listed = true → wpAny P .any al.toArray Q rest.length listed a w) → ∀ listed, chz al.toArray (l ++ rest) listed = true → ∀ a w β, Rel Y.C E s a w β → wpAny P .any al.toArray Q (l ++ rest).length listed a w
  | [], s, K, z, _, h, rest, hk, listed, hc, a, w, β, r => hk s a w β listed (Ag.refl s) h r hc
  | i :: l, s, K, z, hD, h, rest, hk, listed, hc, a, w, β, r => by
    simp only [opsO, nth_eq] at h
    cases ho : al[i]? with
    | none => rw [ho] at h; cases h
    | some o =>
      rw [ho] at h
      simp only at h
      replace hc : ((Region.ready .any al.toArray listed == [i]) && chz al.toArray (l ++ rest) (listed.setIfInBounds i true)) = true := hc
      simp only [Bool.and_eq_true, beq_iff_eq] at hc
      have hg : al.toArray[i]? = some o := by simpa using ho
      refine anyOne hc.1 (wpOp_step hg fun K' hK' => grd_wp G r h fun s' a' w' β' q1 q2 q3 _ => hK' _ _ ?_)
      have q1' := q1.mono (hD i (by simp) o ho)
      exact opsZ G l s' K z (fun j hj => hD j (by simp [hj])) q2 rest (fun s2 a2 w2 β2 li p1 p2 p3 p4 => hk s2 a2 w2 β2 li (q1'.trans p1) p2 p3 p4) _ hc.2 a' w' β' q3

/-! ### Drawn orders -/
def CG (FZ : List (Nat × Sum U)) (al : List Oper) (a0 : Option Nat) (l : List (Nat × Bool)) (listed : Array Bool) : Prop := frees FZ al a0 l = true ∨ (nyet a0 listed = false ∧ noneF l = true)
theorem opsG (G : Good P g Y TI FZ) {al : List Oper} {a0 : Option Nat} (hs : Region.noSelect al.toArray = true) {Q : Exit → Act → World → Prop} {D : Nat → Prop} : ∀ (l : List (Nat × Bool)) (s : St U) (K : St U → Option α) (z : α), (∀ i ∈ l, ∀ o, al[i.1]? = some o → ∀ n, Wr al o n → D n) → opsO Y TI FZ al (fstsN l) s K = some z →
    ∀ (rest : List (Nat × Bool)), (∀ s' a w β listed, Ag D s s' → K s' = some z → Rel Y.C E s' a w β → Dn .any al.toArray listed → chk al.toArray a0 rest listed = true → CG FZ al a0 rest listed → wpAnyG P .any al.toArray a0 (NoPanic Q) (Ext w) rest.length listed a w) →
      ∀ listed, Dn .any al.toArray listed → chk al.toArray a0 (l ++ rest) listed = true → CG FZ al a0 (l ++ rest) listed → ∀ a w β, Rel Y.C E s a w β → wpAnyG P .any al.toArray a0 (NoPanic Q) (Ext w) (l ++ rest).length listed a w
  | [], s, K, z, _, h, rest, hk, listed, hd, hc, hg, a, w, β, r => hk s a w β listed (Ag.refl s) h r hd hc hg
  | (i, fl) :: l, s, K, z, hD, h, rest, hk, listed, hd, hc, hcg, a, w, β, r => by
    replace h : opsO Y TI FZ al (i :: fstsN l) s K = some z := h
    simp only [opsO, nth_eq] at h
    cases ho : al[i]? with
    | none => rw [ho] at h; cases h
    | some o =>
      rw [ho] at h
      simp only at h
      have hg : al.toArray[i]? = some o := by simpa using ho
      cases fl with
      | true =>
        rw [List.cons_append] at hc
        simp only [chk, Bool.and_eq_true] at hc
        have hfr : Nat.beq (cls FZ o.op) 0 = true ∧ frees FZ al a0 (l ++ rest) = true := by
          rcases hcg with hcg | ⟨_, hcg⟩
          · have hcg' : frees FZ al a0 ((i, true) :: (l ++ rest)) = true := hcg
            simp only [frees, nth_eq, ho, cond_true, Bool.and_eq_true] at hcg'
            exact hcg'
          · exact absurd (noneF_cons hcg).1 (by simp)
        obtain ⟨v, s', h1, h2, h3, h4⟩ := grd0 G r (Nat.eq_of_beq_eq_true hfr.1) h
        have hD' := hd.set (by simpa using hc.1.1.2)
        have h4' := h4.mono (hD (i, true) (by simp) o ho)
        refine wpAnyG_take (i := i) (oi := o) (v := v) hg hs hc.1.1.1 hc.1.1.2 hc.1.2 hd (fun _ _ _ h => h) ?_ (Ext.refl w) ?_
        · rcases h1 with ⟨k1, k2⟩ | ⟨k1, k2⟩
          · exact .inl ⟨k1, k2⟩
          · exact .inr ⟨k1, k2⟩
        · exact opsG G hs l s' K z (fun j hj => hD j (by simp [hj])) h3 rest (fun s2 a2 w2 β2 li p1 p2 p3 p4 p5 p6 => hk s2 a2 w2 β2 li (h4'.trans p1) p2 p3 p4 p5 p6) _ hD' hc.2 (.inl hfr.2) _ w β h2
      | false =>
        replace hc : ((Region.ready .any al.toArray listed == [i]) && (a0 != some i || !nyet a0 (listed.setIfInBounds i true)) && chk al.toArray a0 (l ++ rest) (listed.setIfInBounds i true)) = true := hc
        simp only [Bool.and_eq_true, beq_iff_eq] at hc
        have hD' := hd.set (i := i) (by rw [hc.1.1]; simp)
        have hcase : (Nat.ble (cls FZ o.op) 1 = true ∧ frees FZ al a0 (l ++ rest) = true) ∨ (nyet a0 (listed.setIfInBounds i true) = false ∧ noneF (l ++ rest) = true) := by
          rcases hcg with hcg | ⟨hn, hcg⟩
          · have hcg' : frees FZ al a0 ((i, false) :: (l ++ rest)) = true := hcg
            simp only [frees, nth_eq, ho, cond_false] at hcg'
            cases hb : Nat.ble (cls FZ o.op) 1 with
            | true => rw [hb] at hcg'; exact .inl ⟨rfl, hcg'⟩
            | false =>
              rw [hb] at hcg'
              simp only [cond_false, Bool.and_eq_true] at hcg'
              refine .inr ⟨?_, hcg'.2⟩
              cases a0 with
              | none => exact absurd hcg'.1 (by simp)
              | some b =>
                have hbi : b = i := Nat.eq_of_beq_eq_true hcg'.1
                subst hbi
                have := hc.1.2
                simpa using this
          · exact .inr ⟨nyet_set hn, (noneF_cons hcg).2⟩
        refine wpAnyG_all hc.1.1 (by simp) (fun i' hi' => ?_)
        simp at hi'; subst hi'
        refine wpOp_step hg fun K' hK' => grd_wp G r h fun s' a' w' β' q1 q2 q3 q4 => hK' _ _ ?_
        have q1' := q1.mono (hD (i', false) (by simp) o ho)
        have cont := fun hh => opsG G hs l s' K z (fun j hj => hD j (by simp [hj])) q2 rest (fun s2 a2 w2 β2 li p1 p2 p3 p4 p5 p6 => hk s2 a2 w2 β2 li (q1'.trans p1) p2 p3 p4 p5 p6) _ hD' hc.2 hh a' w' β' q3
        rcases hcase with ⟨c1, c2⟩ | ⟨c1, c2⟩
        · have hx := q4 c1
          exact ⟨fun _ => hx, wpAnyG_mono (fun x hx' => Ext.trans hx hx') _ _ _ _ (cont (.inl c2))⟩
        · exact ⟨fun hn => (by rw [c1] at hn; cases hn), wpAnyG_free _ _ _ _ c1 (cont (.inr ⟨c1, c2⟩))⟩

/-! ### Regions -/
theorem Dn0 {os : Array Oper} : Dn .any os (Array.replicate os.size false) := fun j oj hj hl => by
  have hlt := (Array.getElem?_eq_some_iff.1 hj).1
  rw [Array.getD_eq_getD_getElem?, Array.getElem?_replicate, if_pos hlt] at hl
  cases hl
theorem opsAt_cons {al : List Oper} {i : Nat} {l : List Nat} : opsAt al (i :: l) = match nth al i with | some o => o :: opsAt al l | none => opsAt al l := rfl
theorem opsAt_mem {al : List Oper} : ∀ {l : List Nat} {i : Nat} {o : Oper}, i ∈ l → al[i]? = some o → o ∈ opsAt al l
  | [], i, o, h, _ => by simp at h
  | x :: l, i, o, h, ho => by
    rw [opsAt_cons, nth_eq]
    rcases List.mem_cons.1 h with rfl | h
    · rw [ho]; simp
    · have := opsAt_mem h ho
      cases al[x]? with
      | none => exact this
      | some o' => exact List.mem_cons_of_mem _ this
theorem tk_drp {β : Type} (l : List β) (k : Nat) : tk l k ++ drp l k = l := by rw [tk_eq, drp_eq]; exact List.take_append_drop k l

theorem ordr_spec {os : Array Oper} {an : An} {l : List Nat} (h : ordr FZ os.toList os an = some l) :
    (Region.noSelect os = true ∧ l.length = os.size ∧ chz os l (Array.replicate os.size false) = true) ∨
    (∃ a0 ord, Region.noSelect os = true ∧ ord.length = os.size ∧ chk os a0 ord (Array.replicate os.size false) = true ∧ frees FZ os.toList a0 ord = true ∧ l = ord.map Prod.fst) := by
  cases an with
  | r a0 ord =>
    simp only [ordr] at h
    cases hb : (chkAll os a0 ord && frees FZ os.toList a0 ord) with
    | false => rw [hb] at h; cases h
    | true =>
      rw [hb] at h
      have := Option.some.inj h
      simp only [chkAll, Bool.and_eq_true, beq_iff_eq] at hb
      exact .inr ⟨a0, ord, hb.1.1.1, hb.1.1.2, hb.1.2, hb.2, by rw [← this, fstsN_eq]⟩
  | z ord =>
    simp only [ordr] at h
    cases hb : (Region.noSelect os && (Nat.beq (len ord) (len os.toList) && chz os ord (Array.replicate os.size false))) with
    | false => rw [hb] at h; cases h
    | true =>
      rw [hb] at h
      have := Option.some.inj h; subst this
      simp only [Bool.and_eq_true, len_eq] at hb
      exact .inl ⟨hb.1, by have := Nat.eq_of_beq_eq_true hb.2.1; simpa using this, hb.2.2⟩
  | _ => cases h

/-- A drawn region gone by in two parts; the second ends in K2. -/
theorem drawn2 (G : Good P g Y TI FZ) (hm : P.follows .mixedOrders = true) {os : Array Oper} {an : An} {l l1 l2 : List Nat} (h : ordr FZ os.toList os an = some l) (hl : l = l1 ++ l2) {id : Nat} {Q : Exit → Act → World → Prop} {D : Nat → Prop} {D2 : Nat → Prop} {α α2 : Type} {s : St U} {z : α} {K1 : St U → Option α}
    (hD : ∀ o ∈ os.toList, ∀ n, Wr os.toList o n → D n) (h1 : opsO Y TI FZ os.toList l1 s K1 = some z)
    (hk : ∀ s1, Ag D s s1 → K1 s1 = some z → ∃ (K2 : St U → Option α2) (z2 : α2), (∀ i ∈ l2, ∀ o, os.toList[i]? = some o → ∀ n, Wr os.toList o n → D2 n) ∧ opsO Y TI FZ os.toList l2 s1 K2 = some z2 ∧ ∀ a1 w1 β1, Rel Y.C E s1 a1 w1 β1 → ∀ s' a w β, Ag D2 s1 s' → K2 s' = some z2 → Rel Y.C E s' a w β → Q .normal a w)
    {a : Act} {w : World} {β : List Tr} (r : Rel Y.C E s a w β) : (Code.region id os true).wp P Q a w := by
  have hos : os.toList.toArray = os := by simp
  have hmem : ∀ (i : Nat) (o : Oper), os.toList[i]? = some o → ∀ n, Wr os.toList o n → D n := fun i o ho => hD o (List.mem_of_getElem? ho)
  have r0 : Rel Y.C E s a w.drew β := r.ext (Ext.drew w)
  rcases ordr_spec h with ⟨hs, hlen, hc⟩ | ⟨a0, ord, hs, hlen, hc, hfr, hlo⟩
  · refine wp_region_noPanic (wp_region_any hm ?_)
    have := opsZ G (E := E) (al := os.toList) (Q := NoPanic Q) (D := D) l1 s K1 z (fun i _ => hmem i) h1 l2 (fun s1 a1 w1 β1 listed g1 g2 g3 g4 => by
      obtain ⟨K2, z2, e1, e2, e3⟩ := hk s1 g1 g2
      have := opsZ G (E := E) (al := os.toList) (Q := NoPanic Q) (D := D2) l2 s1 K2 z2 e1 e2 [] (fun s' a' w' β' li p1 p2 p3 p4 => ⟨by simpa [chz] using p4, e3 a1 w1 β1 g3 s' a' w' β' p1 p2 p3⟩) listed (by simpa using g4) a1 w1 β1 g3
      simpa using this) (Array.replicate os.size false) (by rw [hos, ← hl]; exact hc) a w.drew β r0
    rw [hos, ← hl, hlen] at this
    exact this
  · refine wp_region_noPanic (wp_region_any hm (wpAny_of_G (a0 := a0) (S := Ext w.drew) _ _ _ _ ?_))
    -- split the order
    have hl1 : ord.map Prod.fst = l1 ++ l2 := by rw [← hlo, hl]
    obtain ⟨o1, o2, ho, hm1, hm2⟩ := List.map_eq_append_iff.1 hl1
    subst hm1; subst hm2
    have := opsG G (E := E) (al := os.toList) (a0 := a0) (by rw [hos]; exact hs) (Q := Q) (D := D) o1 s K1 z (fun i _ => hmem i.1) (by rw [fstsN_eq]; exact h1) o2 (fun s1 a1 w1 β1 listed g1 g2 g3 g4 g5 g6 => by
      obtain ⟨K2, z2, e1, e2, e3⟩ := hk s1 g1 g2
      have := opsG G (E := E) (al := os.toList) (a0 := a0) (by rw [hos]; exact hs) (Q := Q) (D := D2) o2 s1 K2 z2 (fun i hi => e1 i.1 (List.mem_map.2 ⟨i, hi, rfl⟩)) (by rw [fstsN_eq]; exact e2) [] (fun s' a' w' β' li p1 p2 p3 p4 p5 p6 => wpAnyG_done (P := P) (a0 := a0) (S := Ext w') (Q := NoPanic Q) (by simpa [chk] using p5) (e3 a1 w1 β1 g3 s' a' w' β' p1 p2 p3) 0) listed g4 (by simpa using g5) (by simpa using g6) a1 w1 β1 g3
      simpa using this) (Array.replicate os.size false) (by rw [hos]; exact Dn0) (by rw [hos, ← ho]; exact hc) (.inl (by rw [← ho]; exact hfr)) a w.drew β r0
    rw [hos, ← ho, hlen] at this
    exact this

theorem rgn_sound (G : Good P g Y TI FZ) (hm : P.follows .mixedOrders = true) : RgnOk P Y TI FZ E := by
  intro id os d an α s N X R z D hD hA h Q hN hX hR a w β r
  have hos : os.toList.toArray = os := by simp
  -- plain
  have plain : ∀ an, (bif d then (match ordr FZ os.toList os an with | some l => opsO Y TI FZ os.toList l s N | none => none) else ops Y TI FZ os.toList os.toList s N) = some z → (Code.region id os d).wp P Q a w := fun an h => by
    cases d with
    | false =>
      refine wp_region_list ?_
      have := ops_sound G (E := E) (al := os.toList) (Q := Q) (D := D) os.toList s N z hD h [] (fun s' a w β g1 g2 g3 => wpList_nil (hN s' a w β g1 g2 g3)) a w β r
      rw [List.append_nil, hos] at this; exact this
    | true =>
      simp only [cond_true] at h
      cases ho : ordr FZ os.toList os an with
      | none => rw [ho] at h; cases h
      | some l =>
        rw [ho] at h
        exact drawn2 G hm (l1 := l) (l2 := []) (α2 := α) (D2 := D) ho (by simp) hD h (fun s1 g1 g2 => ⟨N, z, fun i hi => by simp at hi, g2, fun a1 w1 β1 _ s' a' w' β' p1 p2 p3 => hN s' a' w' β' (g1.trans p1) p2 p3⟩) r
  cases an with
  | rj k tm a' =>
    cases d with
    | false =>
      replace h : ops Y TI FZ os.toList (tk os.toList k) s (fun s1 => bif wrG tm.ws os.toList (drp os.toList k) then bd (ops Y TI FZ os.toList (drp os.toList k) s1 fun s' => col Y s1 tm s') fun d => N (reb Y s1 tm d) else none) = some z := h
      refine wp_region_list ?_
      have := ops_sound G (E := E) (al := os.toList) (Q := Q) (D := D) (tk os.toList k) s _ z (fun o ho => hD o (by rw [tk_eq] at ho; exact List.mem_of_mem_take ho)) h (drp os.toList k) (fun s1 a1 w1 β1 g1 g2 g3 => by
        cases hb : wrG tm.ws os.toList (drp os.toList k) with
        | false => rw [hb] at g2; cases g2
        | true =>
          rw [hb] at g2
          simp only [cond_true] at g2
          obtain ⟨d, k1, k2⟩ := bd_some g2
          have := ops_sound G (E := E) (al := os.toList) (Q := Q) (D := fun n => inW tm.ws 0 n = true) (drp os.toList k) s1 _ d (wrG_spec hb) k1 [] (fun s' a' w' β' p1 p2 p3 => wpList_nil (by
            obtain ⟨β'', r''⟩ := reb_sound g3 p3 p1 p2
            obtain ⟨_, _, _, hs, _⟩ := col_inv p2
            exact hN _ _ _ _ (g1.trans ((reb_ag hs).mono hA)) k2 r'')) a1 w1 β1 g3
          rw [List.append_nil] at this; exact this) a w β r
      rw [tk_drp, hos] at this; exact this
    | true =>
      replace h : (match ordr FZ os.toList os a' with | some l => opsO Y TI FZ os.toList (tk l k) s (fun s1 => bif wrG tm.ws os.toList (opsAt os.toList (drp l k)) then bd (opsO Y TI FZ os.toList (drp l k) s1 fun s' => col Y s1 tm s') fun d => N (reb Y s1 tm d) else none) | none => none) = some z := h
      cases ho : ordr FZ os.toList os a' with
      | none => rw [ho] at h; cases h
      | some l =>
        rw [ho] at h
        refine drawn2 G hm (l1 := tk l k) (l2 := drp l k) (α2 := Dat U tm.it) (D2 := fun n => inW tm.ws 0 n = true) ho (tk_drp l k).symm hD h (fun s1 g1 g2 => ?_) r
        cases hb : wrG tm.ws os.toList (opsAt os.toList (drp l k)) with
        | false => rw [hb] at g2; cases g2
        | true =>
          rw [hb] at g2
          simp only [cond_true] at g2
          obtain ⟨d, k1, k2⟩ := bd_some g2
          refine ⟨_, d, fun i hi o hio => wrG_spec hb o (opsAt_mem hi hio), k1, fun a1 w1 β1 r1 s' a2 w2 β2 p1 p2 p3 => ?_⟩
          obtain ⟨β'', r''⟩ := reb_sound r1 p3 p1 p2
          obtain ⟨_, _, _, hs, _⟩ := col_inv p2
          exact hN _ _ _ _ (g1.trans ((reb_ag hs).mono hA)) k2 r''
  | n => exact plain .n h
  | s x y => exact plain (.s x y) h
  | j t x => exact plain (.j t x) h
  | jx t x => exact plain (.jx t x) h
  | l t f x => exact plain (.l t f x) h
  | r a0 o => exact plain (.r a0 o) h
  | z o => exact plain (.z o) h
end
end Go.EV
