/-
  THE EVALUATOR's KIT, eighth part: each operation that only computes or reads does what the evaluator says. Plain theorems over any program; the conditions stand in each.
-/
import Derived.Test.YtiojlennpdmapaaGreatEVg
set_option linter.unusedVariables false
set_option linter.unusedSimpArgs false
namespace Go.EV
open Go.RowKit Go.VK
variable {U : Uni} {Y : Lay U} {TI : List (Nat × TInfo)} {P : Program} {g : GI} {E : Env g}
section
variable {s : St U} {m : Mm U} {a : Act} {w w' : World} {β β' : List Tr} {X : Nat → Prop}

theorem sv_l {x : Operand} (r : Rel Y.C E s a w β) {y : Lf U} (h : opd s x = .l y) : y.mean Y.C w (E.X β) β s.m (a.eval x) := by
  have := opd_mean r (x := x); rw [h] at this; exact this
theorem sv_a {x : Operand} (r : Rel Y.C E s a w β) {cs : List (Lf U)} (h : opr s x = .a cs) : ∃ vs : List Value, a.eval x = .agg vs.toArray ∧ Ms Y.C w (E.X β) β s.m vs cs := by
  have := opr_mean r (x := x); rw [h] at this; exact this
theorem opd_a {x : Operand} {cs : List (Lf U)} (h : opd s x = .a cs) : opr s x = .a cs := by
  unfold opd at h; cases ho : opr s x with
  | l y => simp [ho] at h
  | a ds => simp only [ho] at h; exact h
  | t xs => simp [ho] at h
theorem opd_t {x : Operand} {xs : List (Bool × List (Lf U))} (h : opd s x = .t xs) : opr s x = .t xs := by
  unfold opd at h; cases ho : opr s x with
  | l y => simp [ho] at h
  | a ds => simp [ho] at h
  | t xs => simp only [ho] at h; exact h
theorem isOne_cell {v : Value} {x : Lf U} (hm : x.mean Y.C w X β m v) (h : isOne x = true) : v.oneCell' = true := by
  cases x with
  | int => obtain ⟨rfl, _⟩ := hm; rfl
  | bool => obtain rfl := hm; rfl
  | str => obtain ⟨rfl, _⟩ := hm; rfl
  | nat => obtain ⟨_, _, _, rfl, _⟩ := hm; rfl
  | lt => obtain ⟨_, _, _, rfl, _⟩ := hm; rfl
  | sl τ l => exact Rd.one hm rfl
  | nil => obtain rfl := hm; rfl
  | own => exact hm.1.2
  | bor => exact hm.1.2
  | inn => exact hm.1.2
  | oel => exact hm.1.2
  | box => exact hm.1
  | ptr τ z off =>
    have hm' : Rd w X [] v (.elem ((U.enc τ z).drop off)) := hm
    exact Rd.one hm' rfl
  | und => cases h
  | any => cases h
theorem allO_at : ∀ {cs : List (Lf U)}, allO cs = true → ∀ c ∈ cs, isOne c = true
  | [], _, c, hc => by simp at hc
  | x :: xs, h, c, hc => by
    simp only [allO, Bool.and_eq_true] at h
    rcases List.mem_cons.1 hc with rfl | hc
    · exact h.1
    · exact allO_at h.2 c hc
/-- A value's cells, as leaves. -/
theorem parts_mean {v : Value} {x : Sv U} {ps : List (Lf U)} (hm : x.mean Y.C w X β m v) (hp : parts x = some ps) (h1 : allO ps = true) : Ms Y.C w X β m v.cells.toList ps ∧ ∀ u ∈ v.cells.toList, u.oneCell' = true := by
  have key : ∀ {vs : List Value}, Ms Y.C w X β m vs ps → ∀ u ∈ vs, u.oneCell' = true := fun {vs} hM u hu => by
    obtain ⟨i, hi⟩ := List.mem_iff_getElem?.1 hu
    have hil : i < ps.length := by rw [← hM.1]; exact lt_of_some hi
    exact isOne_cell (hM.2 i u _ hi (List.getElem?_eq_getElem hil)) (allO_at h1 _ (List.getElem_mem hil))
  cases x with
  | l y =>
    simp only [parts, Option.some.injEq] at hp
    subst hp
    have ho := isOne_cell (Y := Y) (m := m) (β := β) hm (allO_at h1 y (by simp))
    rw [one_cells ho]
    have hM : Ms Y.C w X β m [v] [y] := ⟨rfl, fun i u c h5 h6 => by
      cases i with
      | zero => simp at h5 h6; subst h5; subst h6; exact hm
      | succ i => simp at h5⟩
    exact ⟨hM, key hM⟩
  | a cs =>
    simp only [parts, Option.some.injEq] at hp
    subst hp
    obtain ⟨vs, rfl, hM⟩ := hm
    have e : (Value.agg vs.toArray).cells.toList = vs := rfl
    rw [e]
    exact ⟨hM, key hM⟩
  | t xs => cases hp
theorem plcB_at : ∀ {l : List (Nat × Nat)} {fs : List (Nat × Nat × Nat)} {n : Nat} {off ft k : Nat}, plcB l fs = true → fs[n]? = some (off, ft, k) → l[n]? = some (off, k)
  | [], [], n, off, ft, k, _, h => by simp at h
  | [], _ :: _, n, off, ft, k, h, _ => by cases h
  | _ :: _, [], n, off, ft, k, h, _ => by cases h
  | (x, y) :: l, (o, f, c) :: fs, 0, off, ft, k, h, hn => by
    simp only [plcB, Bool.and_eq_true] at h
    simp at hn
    obtain ⟨rfl, rfl, rfl⟩ := hn
    rw [Nat.eq_of_beq_eq_true h.1.1, Nat.eq_of_beq_eq_true h.1.2]; rfl
  | (x, y) :: l, (o, f, c) :: fs, n + 1, off, ft, k, h, hn => by
    simp only [plcB, Bool.and_eq_true] at h
    simpa using plcB_at h.2 (by simpa using hn)
/-- Fields filled in. -/
theorem bldF_run (r : Rel Y.C E s a w β) {pls : List (Nat × Nat)} {fs : List (Nat × Nat × Nat)} (hp : plcB pls fs = true) : ∀ {xs : List (Nat × Operand)} {cs ds : List (Lf U)}, bldF s fs xs cs = some ds →
    ∀ cells : Array Value, Ms Y.C w (E.X β) β s.m cells.toList cs → ∃ res, Instr.fill (fun i => pls.toArray[i]?) cells (xs.map fun (i, x) => (i, a.eval x)) = some res ∧ Ms Y.C w (E.X β) β s.m res.toList ds
  | [], cs, ds, h, cells, hM => by
    simp only [bldF, Option.some.injEq] at h
    subst h; exact ⟨cells, rfl, hM⟩
  | (f, x) :: xs, cs, ds, h, cells, hM => by
    simp only [bldF, fld, nth_eq] at h
    cases hf : fs[f]? with
    | none => simp [hf] at h
    | some q =>
      obtain ⟨off, ft, n⟩ := q
      cases hps : parts (opr s x) with
      | none => simp [hf, hps] at h
      | some ps =>
        simp only [hf, hps] at h
        cases hb : (Nat.beq (len ps) n && Nat.ble (off + n) (len cs) && allO ps) with
        | false => rw [hb] at h; cases h
        | true =>
          rw [hb] at h
          simp only [cond_true] at h
          simp only [Bool.and_eq_true, len_eq] at hb
          obtain ⟨⟨b1, b2⟩, b3⟩ := hb
          have b1 := Nat.eq_of_beq_eq_true b1
          have b2 := Nat.le_of_ble_eq_true b2
          have hpm := (parts_mean (opr_mean r (x := x)) hps b3).1
          have hcl : cells.size = cs.length := by have := hM.1; simpa using this
          have hsz : (a.eval x).cells.toList.length = n := by rw [hpm.1, b1]
          have hfg := fold_get off (a.eval x).cells.toList 0 cells (by rw [hsz, hcl]; omega)
          rw [spl_eq _ _ _ (by rw [b1]; omega)] at h
          obtain ⟨res, r1, r2⟩ := bldF_run r hp h ((((a.eval x).cells.toList.zipIdx 0).foldl (fun cs (cc, j) => cs.setIfInBounds (off + j) cc) cells)) ⟨by
              have := hfg.1
              simp only [Array.length_toList, this, hcl, List.length_append, List.length_take, List.length_drop]
              omega, fun j v c h5 h6 => by
              have h5' : (((a.eval x).cells.toList.zipIdx 0).foldl (fun cs (cc, j) => cs.setIfInBounds (off + j) cc) cells)[j]? = some v := by simpa using h5
              rw [hfg.2] at h5'
              rw [splice_get _ _ _ _ (by rw [b1]; omega)] at h6
              simp only [Nat.add_zero, hsz] at h5'
              rw [b1] at h6
              split at h5'
              · rename_i hj; rw [if_pos hj] at h6; exact hpm.2 _ v c h5' h6
              · rename_i hj; rw [if_neg hj] at h6; exact hM.2 j v c (by simpa using h5') h6⟩
          refine ⟨res, ?_, r2⟩
          simp only [List.map_cons, Instr.fill]
          have hg : pls.toArray[f]? = some (off, n) := by simpa using plcB_at hp hf
          rw [hg]
          simp only
          have hcs : (a.eval x).cells.size = n := by rw [← hsz]; simp
          rw [if_neg (by simp only [hcs, hcl]; simp; omega)]
          rw [← Array.foldl_toList, Array.toList_zipIdx]
          exact r1
theorem kz_mean {v : Value} {z : Kz} (h : kzB v z = true) : (z.lf : Lf U).mean Y.C w X β m v := by
  unfold kzB at h
  split at h
  · simp only [Bool.and_eq_true, decide_eq_true_eq] at h
    obtain ⟨⟨⟨rfl, rfl⟩, h1⟩, h2⟩ := h
    exact ⟨rfl, h1, h2⟩
  · rename_i b
    have : b = false := by simpa using h
    subst this; rfl
  · rename_i b
    have hs : b.data.size = 0 := Nat.eq_of_beq_eq_true h
    have hb : b = ⟨#[]⟩ := by
      cases b with
      | mk d => have hd : d = #[] := Array.eq_empty_of_size_eq_zero hs; rw [hd]
    subst hb
    exact ⟨rfl, by decide⟩
  · rfl
  · cases h
theorem kzs_mean : ∀ {vs : List Value} {zs : List Kz}, kzsB vs zs = true → Ms Y.C w X β m vs (zs.map (Kz.lf : Kz → Lf U))
  | [], [], _ => ⟨rfl, by simp⟩
  | [], _ :: _, h => by cases h
  | _ :: _, [], h => by cases h
  | v :: vs, z :: zs, h => by
    simp only [kzsB, Bool.and_eq_true] at h
    have ih := kzs_mean h.2
    refine ⟨by simp [ih.1], fun i u c h1 h2 => ?_⟩
    cases i with
    | zero => simp at h1 h2; subst h1; subst h2; exact kz_mean h.1
    | succ i => exact ih.2 i u c (by simpa using h1) (by simpa using h2)
theorem cpSv_mean {C : Cod U} {v : Value} {x : Bool × List (Lf U)} (h : Mp C w X β m v x) : (cpSv x).mean C w X β m v := by
  obtain ⟨b, cs⟩ := x
  cases b with
  | false => obtain ⟨c, rfl, h⟩ := h; exact h
  | true => exact h
/-- A part of a struct value. -/
theorem part_cut {t : Nat} {i : TInfo} {vs : List Value} {cs : List (Lf U)} {off : Nat} {x : Sv U} (hti : tiB P t i = true) (hc : cut i cs off = some x) (hM : Ms Y.C w X β m vs cs) :
    ∃ v, (∀ w', (part t vs.toArray off).run P w' = .ok v w') ∧ x.mean Y.C w X β m v := by
  rcases cut_cases hc with ⟨fs, ds, hu, h1, h2, rfl⟩ | ⟨hu, y, h1, rfl⟩
  · have hag := (ti_st hti hu).1
    have hl : i.k ≤ vs.length - off := by
      rw [hM.1, ← h2, h1, List.length_take, List.length_drop]; exact Nat.min_le_right _ _
    refine ⟨.agg (vs.toArray.extract off (off + i.k)), fun w' => ?_, (vs.drop off).take i.k, ?_, ?_, fun j v c h5 h6 => ?_⟩
    · have e1 := (aggB_isAgg (w := w') hag).1
      have e2 := (aggB_isAgg (w := w') hag).2
      simp [part, e1, e2]
    · congr 1
      apply Array.ext'
      simp [List.extract, Nat.add_sub_cancel_left]
    · rw [h2, List.length_take, List.length_drop]; omega
    · rw [List.getElem?_take] at h5
      split at h5
      · rw [h1, List.getElem?_take] at h6
        split at h6
        · exact hM.2 (off + j) v c (by simpa using h5) (by simpa using h6)
        · exact absurd ‹j < i.k› ‹¬ j < i.k›
      · simp at h5
  · have ho := (ti_one hti hu).1
    have hl : off < vs.length := by rw [hM.1]; exact lt_of_some h1
    exact ⟨vs[off], fun w' => part_one ho (by simp [hl]), hM.2 off _ y (List.getElem?_eq_getElem hl) h1⟩
end
end Go.EV
