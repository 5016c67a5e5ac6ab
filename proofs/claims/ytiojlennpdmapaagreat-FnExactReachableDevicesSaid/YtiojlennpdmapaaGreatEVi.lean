/-
  THE EVALUATOR's KIT, ninth part: the steps of 'pur' and 'stpM' are sound. Plain theorems over any program; the conditions stand in each.
-/
import Derived.Test.YtiojlennpdmapaaGreatEVh
set_option linter.unusedVariables false
set_option linter.unusedSimpArgs false
namespace Go.EV
open Go.RowKit Go.VK
variable {U : Uni} {Y : Lay U} {TI : List (Nat × TInfo)} {P : Program} {g : GI} {E : Env g}
section
variable {s : St U} {a : Act} {w : World} {β : List Tr} {α : Type}

theorem mo_int (r : Rel Y.C E s a w β) {op : Op} {k : IntKind} {n : Int} (h : ∀ E' : VK.Env P g, MOp E' (brS s false) op (.int k n)) : MO P Y.C E s a w β op (.l (.int k n)) := mo_of r false h (fun v hv => m_int hv)
theorem mo_bool (r : Rel Y.C E s a w β) {op : Op} {b : Bool} (h : ∀ E' : VK.Env P g, MOp E' (brS s false) op (.bool b)) : MO P Y.C E s a w β op (.l (.bool b)) := mo_of r false h (fun v hv => m_bool hv)
theorem mo_str (r : Rel Y.C E s a w β) {op : Op} {z : ByteArray} (h : ∀ E' : VK.Env P g, MOp E' (brS s false) op (.str z)) : MO P Y.C E s a w β op (.l (.str z)) := mo_of r false h (fun v hv => m_str hv)

theorem binI_sound (r : Rel Y.C E s a w β) {b : BinOp} {t u : TypeId} {x y : Operand} {k : IntKind} {m n : Int} {z : Lf U} (hx : opd s x = .l (.int k m)) (hy : opd s y = .l (.int k n)) (h : binI b k m n = some z) : MO P Y.C E s a w β (.binOp b t x y u) (.l z) := by
  cases b <;> simp only [binI, Option.some.injEq, reduceCtorEq] at h <;> subst h
  · exact mo_int r fun _ => add (ev_int hx) (ev_int hy)
  · exact mo_int r fun _ => sub (ev_int hx) (ev_int hy)
  · exact mo_int r fun _ => mul (ev_int hx) (ev_int hy)
  · exact mo_int r fun _ => bitand (ev_int hx) (ev_int hy)
  · exact mo_int r fun _ => bitor (ev_int hx) (ev_int hy)
  · exact mo_int r fun _ => bitxor (ev_int hx) (ev_int hy)
  · exact mo_bool r fun _ => eql (ev_int hx) (ev_int hy)
  · exact mo_bool r fun _ => neq (ev_int hx) (ev_int hy)
  · exact mo_bool r fun _ => lss (ev_int hx) (ev_int hy)
  · exact mo_bool r fun _ => leq (ev_int hx) (ev_int hy)
  · exact mo_bool r fun _ => gtr (ev_int hx) (ev_int hy)
  · exact mo_bool r fun _ => geq (ev_int hx) (ev_int hy)
theorem binS_sound (r : Rel Y.C E s a w β) {b : BinOp} {t u : TypeId} {x y : Operand} {m n : ByteArray} {z : Lf U} (hx : opd s x = .l (.str m)) (hy : opd s y = .l (.str n)) (h : binS b m n = some z) : MO P Y.C E s a w β (.binOp b t x y u) (.l z) := by
  cases b <;> simp only [binS, Option.some.injEq, reduceCtorEq] at h <;> subst h
  · exact mo_bool r fun _ => seq_ (ev_str hx) (ev_str hy)
  · exact mo_bool r fun _ => sne (ev_str hx) (ev_str hy)
theorem bin_sound (hTI : tiOk P TI = true) (r : Rel Y.C E s a w β) {b : BinOp} {t u : TypeId} {x y : Operand} {z : Lf U} (h : bin TI b t (opd s x) (opd s y) = some z) : MO P Y.C E s a w β (.binOp b t x y u) (.l z) := by
  generalize hx : opd s x = vx at h
  generalize hy : opd s y = vy at h
  unfold bin at h
  split at h
  · split at h
    · rename_i he; subst he; exact binI_sound r hx hy h
    · cases h
  · exact binS_sound r hx hy h
  · split at h
    · rename_i i k z' hf
      have ht := (ti_bool (tiOk_at hTI hf) rfl).1
      split at h
      · simp only [Option.some.injEq] at h; subst h; exact mo_bool r fun _ => beq_ ht (ev_bool hx) (ev_bool hy)
      · simp only [Option.some.injEq] at h; subst h; exact mo_bool r fun _ => bne_ ht (ev_bool hx) (ev_bool hy)
      · cases h
    · cases h
  · cases h

theorem toArray_two {xs : Array Operand} {x y : Operand} (h : xs.toList = [x, y]) : xs = #[x, y] := by apply Array.ext'; simpa using h
theorem toArray_one {α : Type} {xs : Array α} {x : α} (h : xs.toList = [x]) : xs = #[x] := by apply Array.ext'; simpa using h
theorem pur_sound (hTI : tiOk P TI = true) (r : Rel Y.C E s a w β) {op : Op} {x : Sv U} (h : pur Y TI s op = some x) : MO P Y.C E s a w β op x := by
  unfold pur at h
  split at h
  · simp only [Option.some.injEq] at h; subst h
    exact fun o ho => ⟨_, fun w' _ => by simp [execOp, ho], opr_mean r⟩
  · simp only [Option.some.injEq] at h; subst h
    exact fun o ho => ⟨_, fun w' _ => by simp [execOp, ho], opr_mean r⟩
  · rename_i c y z
    split at h
    · rename_i b hc
      have hcv : a.eval c = .bool b := sv_l r hc
      cases b with
      | true =>
        simp only [cond_true, Option.some.injEq] at h; subst h
        exact fun o ho => ⟨_, fun w' _ => by simp [execOp, ho, hcv, asBool], opr_mean r⟩
      | false =>
        simp only [cond_false, Option.some.injEq] at h; subst h
        exact fun o ho => ⟨_, fun w' _ => by simp [execOp, ho, hcv, asBool], opr_mean r⟩
    · cases h
  · rename_i u t y
    split at h
    · rename_i b hy
      simp only [Option.some.injEq] at h; subst h; exact mo_bool r fun _ => not_ (ev_bool hy)
    · rename_i k n hy
      simp only [Option.some.injEq] at h; subst h; exact mo_int r fun _ => neg_ (ev_int hy)
    · cases h
  · rename_i t u y
    split at h
    · rename_i k1 i1 z1 j i2 z2 k n h1 h2 h3
      simp only [Option.some.injEq] at h; subst h
      exact mo_int r fun _ => cnv (by rw [(ti_int (tiOk_at hTI h1) rfl).1]; rfl) (ti_int (tiOk_at hTI h2) rfl).1 (ev_int h3)
    · cases h
  · rename_i t y f
    split at h
    · rename_i fs i z p h1 h2
      split at h
      · rename_i off ft n h3
        split at h
        · rename_i q h4
          simp only [Option.some.injEq] at h; subst h
          have hfb := (ti_st (tiOk_at hTI h1) rfl).2.1
          simp only [fld, nth_eq] at h3
          have h5 := (fsB_at hfb h3).1
          rw [Nat.zero_add] at h5
          obtain ⟨v', q1, q2⟩ := fldAddr_mean r h5 (sv_l r h2) h4
          exact fun o ho => ⟨v', fun w' _ => by simp [execOp, ho, q1], q2⟩
        · cases h
      · cases h
    · cases h
  · rename_i t y
    split at h
    · rename_i i p h1 h2
      obtain ⟨p', v', q1, q2, q3⟩ := load_mean r (tiOk_at hTI h1) (sv_l r h2) h
      exact fun o ho => ⟨v', fun w' he => by simp [execOp, ho, q1, Instr.loadAt, Instr.sureAddr, q2 w' he], q3⟩
    · cases h
  · rename_i t y f
    split at h
    · rename_i fs i z cs h1 h2
      split at h
      · rename_i off ft n h3
        split at h
        · rename_i j h4
          have hfb := (ti_st (tiOk_at hTI h1) rfl).2.1
          simp only [fld, nth_eq] at h3
          have h5 := (fsB_at hfb h3).2.1
          rw [Nat.zero_add] at h5
          obtain ⟨vs, q1, q2⟩ := sv_a r (opd_a h2)
          obtain ⟨v', q3, q4⟩ := part_cut (tiOk_at hTI h4) h q2
          exact fun o ho => ⟨v', fun w' _ => by simp only [execOp, ho, q1, fld_run h5, q3, Sem.run_bind, Sem.run_pure, Result.andThen_ok, Sem.run_map], q4⟩
        · cases h
      · cases h
    · cases h
  · rename_i t ps
    split at h
    · rename_i fs k z h1
      split at h
      · rename_i cs h2
        simp only [Option.some.injEq] at h; subst h
        have hti := tiOk_at hTI h1
        obtain ⟨_, _, pls, k1, k2⟩ := ti_st hti rfl
        obtain ⟨j, zv, k3, k4, k5⟩ := ti_zero hti
        obtain ⟨res, k6, k7⟩ := bldF_run r k2 h2 zv.cells (kzs_mean k5)
        refine fun o ho => ⟨.agg res, fun w' _ => ?_, res.toList, by simp, k7⟩
        unfold plcOf at k1
        cases hu : P.underlying t with
        | none => simp [hu] at k1
        | some d =>
          cases d <;> simp [hu] at k1
          rename_i fds
          have hm := plcL_run (w := w') k1
          have hm' : (fds.mapM fun f => (Prod.mk f.offset <$> sizeOf f.type : Sem (Nat × Nat))).run P w' = .ok pls.toArray w' := by
            rw [← Array.toArray_toList (xs := fds), List.mapM_toArray]
            simp only [Sem.run_map, hm, Result.andThen_ok]
            try rfl
          simp [execOp, ho, Instr.build, zeroValue, typeInfo, k3, k4, run_underlying hu, hm']
          have k6' : Instr.fill (fun i => pls[i]?) zv.cells (ps.toList.map fun x => (x.1, a.eval x.2)) = some res := by simpa using k6
          simp [k6']
      · cases h
    · cases h
  · rename_i y i
    split at h
    · rename_i xs h1
      split at h
      · rename_i c h2
        simp only [Option.some.injEq] at h; subst h
        rw [nth_eq] at h2
        have hm := opr_mean r (x := y)
        rw [opd_t h1] at hm
        obtain ⟨vs, q1, q2, q3⟩ := hm
        have hl : i < vs.length := by rw [q2]; exact lt_of_some h2
        exact fun o ho => ⟨vs[i], fun w' _ => by simp [execOp, ho, q1, Instr.extract, hl], cpSv_mean (q3 i _ c (List.getElem?_eq_getElem hl) h2)⟩
      · cases h
    · cases h
  · rename_i xa ats
    split at h
    · rename_i y t hxa hats
      rw [toArray_one hxa, toArray_one hats]
      split at h
      · rename_i e ek eb i z p h1 h2
        have hs := (ti_sl (tiOk_at hTI h1) rfl).1
        split at h
        · cases h
        · rename_i hns
          cases hl : lenOf s.m p with
          | none => simp [hl] at h
          | some q =>
            simp only [hl, Option.some.injEq] at h; subst h
            cases p with
            | nil =>
              simp only [lenOf, Option.some.injEq] at hl; subst hl
              have hv : ∀ E' : VK.Env P g, VK.Ev E' (brS s false) y .nil := fun E' => by
                have : vw s.m false (opr s y) = .nil := by
                  unfold opd at h2
                  cases ho : opr s y with
                  | l z =>
                    simp only [ho, Sv.l.injEq] at h2
                    cases z with
                    | nil => rfl
                    | nat a => simp only [rsv, nth_eq] at h2; cases hn : s.m.ns[a]? <;> simp [hn] at h2
                    | lt a n => simp only [rsv, nth_eq] at h2; cases hn : s.m.ns[a]? <;> simp [hn] at h2
                    | _ => simp [rsv] at h2
                  | _ => simp [ho] at h2
                rw [← this]; exact opr_ev
              exact mo_int r fun E' => lenn hs (hv E')
            | str z => exact absurd rfl (hns z)
            | _ =>
              simp only [lenOf] at hl
              split at hl
              · rename_i τ l hr
                simp only [Option.some.injEq] at hl; subst hl
                exact mo_int r fun _ => lenm hs (ev_sl h2 hr)
              · cases hl
      · rename_i i z q h1 h2
        simp only [Option.some.injEq] at h; subst h
        exact mo_int r fun _ => lenS (ti_str (tiOk_at hTI h1) rfl).1 (ev_str h2)
      · cases h
    · cases h
  · rename_i xa ats
    split at h
    · rename_i y z hxa
      rw [toArray_two hxa]
      split at h
      · rename_i k m k' n h1 h2
        split at h
        · rename_i he; subst he
          simp only [Option.some.injEq] at h; subst h
          exact mo_int r fun _ => mn2 (ev_int h1) (ev_int h2)
        · cases h
      · cases h
    · cases h
  · rename_i xa ats
    split at h
    · rename_i y z hxa
      rw [toArray_two hxa]
      split at h
      · rename_i k m k' n h1 h2
        split at h
        · rename_i he; subst he
          simp only [Option.some.injEq] at h; subst h
          exact mo_int r fun _ => mx2 (ev_int h1) (ev_int h2)
        · cases h
      · cases h
    · cases h
  · cases h
end
end Go.EV
