/-
  THE EVALUATOR's KIT, eleventh part: 'stpM' is sound. Plain theorems over any program; the conditions stand in each.
-/
import Derived.Test.YtiojlennpdmapaaGreatEVj
set_option linter.unusedVariables false
set_option linter.unusedSimpArgs false
namespace Go.EV
open Go.RowKit Go.VK
variable {U : Uni} {Y : Lay U} {TI : List (Nat × TInfo)} {P : Program} {g : GI} {E : Env g}
section
variable {s : St U} {a : Act} {w : World} {β : List Tr} {α : Type}

theorem lt_mean (r : Rel Y.C E s a w β) {x y : Operand} {c : Nat} {k : IntKind} {m n : Int} {t u : TypeId} (hc : opr s x = .l (.nat c)) (hx : opd s x = .l (.int k m)) (hy : opd s y = .l (.int k n)) : MO P Y.C E s a w β (.binOp .lss t x y u) (.l (.lt c n)) := fun o ho => by
  obtain ⟨v, h1, h2⟩ := mo_bool (P := P) r (fun _ => lss (t := t) (u := u) (ev_int hx) (ev_int hy)) o ho
  refine ⟨v, h1, ?_⟩
  have hm := opr_mean r (x := x)
  rw [hc] at hm
  obtain ⟨i, f, k1, k2, k3⟩ := hm
  have hk : k = .i64 ∧ m = (i : Int) := by
    have := (sv_l r hx).1
    rw [k2] at this; injection this with e1 e2; exact ⟨e1.symm, e2.symm⟩
  obtain ⟨rfl, rfl⟩ := hk
  have hn := (sv_l r hy).2.2
  exact ⟨i, f, k1, h2, by simpa [IntKind.max, IntKind.signed, IntKind.bits] using hn⟩
theorem oel_mean (r : Rel Y.C E s a w β) {t : TypeId} {e ek eb : Nat} (hsl : slB P t e ek eb = true) {x y : Operand} {i q0 : Nat} {τ : Nat} {d : Bool} {l : List (U.El τ)} {rv cv : Nat} {k : IntKind} {q : Int} {z : U.El τ} (hx : opd s x = .l (.own i q0)) (hy : opd s y = .l (.int k q))
    (ho : s.m.o[i]? = some ⟨.tree τ d l, rv, cv⟩) (hr : rv = q0) (hk : U.K τ = ek) (hz : atq l q = some z) : MO P Y.C E s a w β (.indexAddr t x y) (.l (.oel i cv τ q z 0)) := fun o hop => by
  obtain ⟨hu, ii, zz, hii, hzz, hik, hib, hzk, hk0⟩ := slB_spec hsl
  obtain ⟨h0, hq⟩ := atq_some hz
  have hm := sv_l r hx
  obtain ⟨_, e', t', k1, k2, k3⟩ := hm
  rw [ho] at k1; injection k1 with k1; subst k1
  have hv := k3 hr
  have hyv : a.eval y = .int k q := (sv_l r hy).1
  have hok := r.hp.ok i t' _ k2 ho
  obtain ⟨_, xs, c1, _⟩ := hok
  have hlt : q.toNat < l.length := lt_of_some hq
  rcases ownsRow_root c1 with ⟨_, b2, _⟩ | ⟨b, cur, b1, b2, _⟩
  · omega
  · have hval : a.eval x = .slice (some ⟨b, 0, none⟩) l.length t'.c := by rw [hv]; simp [Tr.val, b1, b2]
    refine ⟨.pointer (some (Addr.add ⟨b, 0, none⟩ (q.toNat * ek))), fun w' _ => ?_, ⟨⟨(r.hp.vers i _ ho).2, rfl⟩, ⟨.tree τ d l, rv, cv⟩, t', ho, k2, fun _ => ⟨d, l, b, rfl, h0, hq, b1, ?_⟩⟩⟩
    · have hmn : q.toNat < l.length := hlt
      simp [execOp, hop, hval, hyv, Instr.indexAt, asIntOf, run_underlying hu, sizeOf, typeInfo, hii, hik, h0, hmn]
      intro hh; exfalso; omega
    · rw [add_flat, hk]; simp

theorem b2s_mean (hTI : tiOk P TI = true) (r : Rel Y.C E s a w β) {ta tb : TypeId} {x : Operand} {ek eb k1 k2 k3 : Nat} {z1 z2 z3 : List Kz} {p : Lf U} {l : List (U.El Y.bt)} (h1 : fnd TI ta = some ⟨.sl Y.bt ek eb, k1, z1⟩) (h2 : fnd TI tb = some ⟨.str, k2, z2⟩) (h4 : fnd TI Y.bt = some ⟨.int .u8, k3, z3⟩)
    (hx : opd s x = .l p) (hr : rdl s.m p = some (.sl Y.bt l)) (hg : l.length ≤ 68719476736) : MO P Y.C E s a w β (.convert ta tb x) (.l (.str (bstr (l.map Y.bi)))) := by
  have hK : U.K Y.bt = 1 := by rw [← Y.C.hlen Y.bt (Y.be 0), Y.hb]; rfl
  have henc : ∀ x, U.enc Y.bt x = [V.int .u8 (Y.bi x)] := fun x => by rw [← Y.C.hcel, Y.hb]; rfl
  have hmap : l.map (U.enc Y.bt) = (l.map Y.bi).map fun n => [V.int .u8 n] := by rw [List.map_map]; exact List.map_congr_left fun x _ => henc x
  refine mo_of r false (fun E' => b2s (slB_spec (ti_sl (tiOk_at hTI h1) rfl).1).1 (ti_int (tiOk_at hTI h4) rfl).1 (ti_str (tiOk_at hTI h2) rfl).1 (ns := l.map Y.bi) (by rw [List.length_map]; unfold maxLen; omega) ?_) fun v hv => m_str hv
  have := ev_sl (E' := E') hx hr
  rw [hK, hmap] at this
  exact this
theorem stpM_sound (hTI : tiOk P TI = true) (r : Rel Y.C E s a w β) {op : Op} {K : Sv U → Option α} {z : α} (h : stpM Y TI s op K = some z) : ∃ x, K x = some z ∧ MO P Y.C E s a w β op x := by
  unfold stpM at h
  split at h
  · rename_i b t x y u
    generalize hx : opd s x = vx at h
    generalize hy : opd s y = vy at h
    split at h
    · rename_i k m k' n
      split at h
      · split at h
        · rename_i he; subst he
          split at h
          · rename_i c hc; exact ⟨_, h, lt_mean r hc hx hy⟩
          · exact ⟨_, h, mo_bool r fun _ => lss (ev_int hx) (ev_int hy)⟩
        · cases h
      · split at h
        · rename_i he; subst he
          obtain ⟨hg, h⟩ := gd_some h
          exact ⟨_, h, mo_int r fun _ => quo hg (ev_int hx) (ev_int hy)⟩
        · cases h
      · split at h
        · rename_i he; subst he
          obtain ⟨hg, h⟩ := gd_some h
          exact ⟨_, h, mo_int r fun _ => rem hg (ev_int hx) (ev_int hy)⟩
        · cases h
      · obtain ⟨hg, h⟩ := gd_some h
        exact ⟨_, h, mo_int r fun _ => shl_ hg (ev_int hx) (ev_int hy)⟩
      · obtain ⟨hg, h⟩ := gd_some h
        exact ⟨_, h, mo_int r fun _ => shr_ hg (ev_int hx) (ev_int hy)⟩
      · split at h
        · rename_i he; subst he
          split at h
          · rename_i z' hz; exact ⟨_, h, binI_sound r hx hy hz⟩
          · cases h
        · cases h
    · rename_i m n
      split at h
      · obtain ⟨hg, h⟩ := gd_some h
        exact ⟨_, h, mo_str r fun _ => sadd hg (ev_str hx) (ev_str hy)⟩
      · split at h
        · rename_i z' hz; exact ⟨_, h, binS_sound r hx hy hz⟩
        · cases h
    · split at h
      · rename_i z' hz
        refine ⟨_, h, bin_sound hTI r ?_⟩
        rw [hx, hy]; exact hz
      · cases h
  · rename_i t x y
    split at h
    · rename_i e ek eb k zz p kk q h1 h2 h3
      have hsl := (ti_sl (tiOk_at hTI h1) rfl).1
      split at h
      · rename_i τ l
        cases hoe : okE (U := U) e ek τ with
        | false => simp [hoe] at h
        | true =>
          simp only [hoe, cond_true] at h
          simp only [okE, Bool.and_eq_true] at hoe
          have he : e = τ := Nat.eq_of_beq_eq_true hoe.1
          have hk : U.K τ = ek := Nat.eq_of_beq_eq_true hoe.2
          subst he; subst hk
          obtain ⟨c, hc, h⟩ := bd_some h
          refine ⟨_, h, mo_of r true (fun _ => ixq hc hsl (ev_pl h2) (ev_int h3 true)) fun v hv => ?_⟩
          show Rd w (E.X β) [] v (.elem ((U.enc e c).drop 0))
          rw [List.drop_zero]
          exact hv.conv (Nat.le_refl _) (fun b _ hb => ⟨rfl, hb⟩) (fun _ _ _ h => h) (fun _ _ h => h)
      · rename_i i q0
        split at h
        · rename_i τ d l rv cv ho
          rw [nth_eq] at ho
          cases hoe : (Nat.beq rv q0 && okE (U := U) e ek τ) with
          | false => rw [hoe] at h; cases h
          | true =>
            rw [hoe] at h
            simp only [cond_true] at h
            simp only [okE, Bool.and_eq_true] at hoe
            obtain ⟨c, hc, h⟩ := bd_some h
            exact ⟨_, h, oel_mean r hsl h2 h3 ho (Nat.eq_of_beq_eq_true hoe.1) (Nat.eq_of_beq_eq_true hoe.2.2) hc⟩
        · cases h
      · cases h
    · cases h
  · rename_i t x y
    split at h
    · rename_i k zz z' kk q h1 h2 h3
      obtain ⟨c, hc, h⟩ := bd_some h
      exact ⟨_, h, mo_int r fun _ => sidx hc (ti_str (tiOk_at hTI h1) rfl).1 (ev_str h2) (ev_int h3)⟩
    · cases h
  · exact slice_sound hTI r (by unfold stpM; exact h)
  · rename_i ta tb x
    split at h
    · rename_i e ek eb k1 z1 k2 z2 p h1 h2 h3
      split at h
      · rename_i τ l k3 z3 hr h4
        split at h
        · rename_i l' hs
          obtain ⟨rfl, hl⟩ := slq_some hs
          have hl := eq_of_heq hl; subst hl
          cases hb : Nat.beq e Y.bt with
          | false => rw [hb] at h; cases h
          | true =>
            rw [hb] at h
            obtain ⟨hg, h⟩ := gd_some h
            have he := Nat.eq_of_beq_eq_true hb
            subst he
            refine ⟨_, h, b2s_mean hTI r h1 h2 h4 h3 hr hg⟩
        · cases h
      · cases h
    · split at h
      · rename_i x' hx
        exact ⟨x', h, pur_sound hTI r hx⟩
      · cases h
  · split at h
    · rename_i x hx
      exact ⟨x, h, pur_sound hTI r hx⟩
    · cases h
end
end Go.EV
