/-
  THE EVALUATOR's KIT, twenty-eighth part: functions whose results are fresh. Plain theorems over any program; the conditions stand in each.
-/
import Derived.Test.YtiojlennpdmapaaGreatEWa
set_option linter.unusedVariables false
set_option linter.unusedSimpArgs false
namespace Go.EV
open Go.RowKit Go.VK
variable {U : Uni} {Y : Lay U} {TI : List (Nat × TInfo)} {FZ : List (Nat × Sum U)} {P : Program} {g : GI} {E : Env g}

section
variable {s : St U} {a : Act} {w w0 : World} {β : List Tr} {C : Cod U}
theorem ownL_cons {m : Mm U} {x : Lf U} {xs : List (Lf U)} {l : List Nat} (h : ownL m (x :: xs) = some l) : ∃ l1 l2, l = l1 ++ l2 ∧ ownL m [x] = some l1 ∧ ownL m xs = some l2 := by
  cases x with
  | own i r =>
    simp only [ownL] at h ⊢
    cases ho : nth m.o i with
    | none => rw [ho] at h; cases h
    | some e =>
      obtain ⟨ob, rv, cv⟩ := e
      cases ob with
      | tree τ d ll =>
        rw [ho] at h
        simp only at h
        cases hb : (Nat.beq rv r && d) with
        | false => rw [hb] at h; cases h
        | true =>
          rw [hb] at h
          simp only [cond_true] at h
          cases hx : ownL m xs with
          | none => rw [hx] at h; cases h
          | some l2 =>
            rw [hx] at h
            have := Option.some.inj h; subst this
            exact ⟨[i], l2, rfl, by simp [hb], rfl⟩
      | _ => rw [ho] at h; cases h
  | sl => cases h
  | bor => cases h
  | inn => cases h
  | _ => exact ⟨[], l, rfl, rfl, h⟩
theorem own_leaf (H : Hp C E s.m β w) {kd : Kd} {x y : Lf U} {l : List Nat} {v : Value} (h : ownL s.m [x] = some l) (hr : rdn s.m kd x = some y) (hm : x.mean C w (E.X β) β s.m v) (hK : ∀ τ, kd = .sl τ → 0 < U.K τ) : Ow C w (fun _ => False) true v y (blks β l) := by
  have hb0 : blks β [] = [] := rfl
  have flat : freeL x = true → rdl s.m x = some y → l = [] → (∀ τ ll, y ≠ .sl τ ll) → Ow C w (fun _ => False) true v y (blks β l) := fun hf hr hl hns => by
    obtain ⟨k1, k2⟩ := rdl_mean H hm hr (Z := fun _ => False) (fun _ h => h.elim) (.inl hf)
    subst hl
    rw [hb0]
    cases y with
    | int k n => obtain ⟨rfl, h1, h2⟩ := k2.int_inv; exact .int h1 h2
    | bool b => obtain rfl := k2.bool_inv; exact .bool
    | str z => obtain ⟨rfl, h1⟩ := k2.str_inv; exact .str h1
    | sl τ ll => exact absurd rfl (hns τ ll)
    | _ => cases k1
  cases x with
  | own i r =>
    obtain ⟨_, e, t, h2, h3, h4⟩ := hm
    obtain ⟨ob, rv, cv⟩ := e
    simp only [ownL, nth_eq, h2] at h
    replace hr : rdl s.m (.own i r) = some y := hr
    simp only [rdl, nth_eq, h2] at hr
    cases ob with
    | tree τ d ll =>
      simp only at h hr
      cases hb : (Nat.beq rv r && d) with
      | false => rw [hb] at h; cases h
      | true =>
        rw [hb] at h
        have := Option.some.inj h; subst this
        simp only [Bool.and_eq_true] at hb
        rw [hb.1] at hr
        have := Option.some.inj hr; subst this
        have hd : d = true := hb.2
        subst hd
        rw [h4 (Nat.eq_of_beq_eq_true hb.1)]
        have ho := (Hp.tree H h3 h2 rfl).conv (X' := fun _ => False) (Nat.le_refl _) (fun _ _ h => h.elim) (fun _ _ _ h => h) (fun _ _ => rfl)
        have hbl : blks β [i] = t.all := by simp [blks, h3]
        rw [hbl]; exact ho
    | _ => cases h
  | nil =>
    obtain rfl := hm
    have := Option.some.inj h; subst this
    cases kd with
    | sl τ =>
      have := Option.some.inj (show some (Lf.sl τ []) = some y from hr); subst this
      exact .sl noTr (hK τ rfl) (World.ownsRow_nil w 0 τ (U.K τ)) .n
    | _ => cases hr
  | int k n => have e := Option.some.inj (show some (Lf.int k n) = some y from hr); exact flat rfl hr (Option.some.inj h).symm (fun _ _ e' => by rw [← e] at e'; cases e')
  | bool b => have e := Option.some.inj (show some (Lf.bool b) = some y from hr); exact flat rfl hr (Option.some.inj h).symm (fun _ _ e' => by rw [← e] at e'; cases e')
  | str b => have e := Option.some.inj (show some (Lf.str b) = some y from hr); exact flat rfl hr (Option.some.inj h).symm (fun _ _ e' => by rw [← e] at e'; cases e')
  | nat c =>
    refine flat rfl hr (Option.some.inj h).symm (fun τ ll e' => ?_)
    subst e'
    replace hr : rdl s.m (.nat c) = some (.sl τ ll) := hr
    simp only [rdl] at hr
    split at hr <;> cases hr
  | lt c n =>
    refine flat rfl hr (Option.some.inj h).symm (fun τ ll e' => ?_)
    subst e'
    replace hr : rdl s.m (.lt c n) = some (.sl τ ll) := hr
    simp only [rdl] at hr
    split at hr <;> cases hr
  | sl => cases h
  | bor => cases h
  | inn => cases h
  | _ => cases hr
theorem own_leaves (H : Hp C E s.m β w) : ∀ (ks : List Kd) {xs ys : List (Lf U)} {l : List Nat} {vs : List Value}, rds s.m ks xs = some ys → ownL s.m xs = some l → Ms C w (E.X β) β s.m vs xs → (∀ kd ∈ ks, ∀ τ, kd = .sl τ → 0 < U.K τ) → OwL C w (fun _ => False) true vs ys (blks β l)
  | [], [], ys, l, vs, h, hl, hM, _ => by
    have := Option.some.inj h; subst this
    have := Option.some.inj hl; subst this
    have : vs = [] := List.eq_nil_of_length_eq_zero hM.1
    subst this; exact .n
  | [], _ :: _, _, _, _, h, _, _, _ => by cases h
  | _ :: _, [], _, _, _, h, _, _, _ => by cases h
  | kd :: ks, x :: xs, ys, l, vs, h, hl, hM, hK => by
    obtain ⟨y, ys', h1, h2, rfl⟩ := rds_cons h
    obtain ⟨l1, l2, rfl, h3, h4⟩ := ownL_cons hl
    cases vs with
    | nil => have := hM.1; simp at this
    | cons v vs =>
      rw [blks_app]
      exact .c (own_leaf H h3 h1 (hM.2 0 v x rfl rfl) (hK kd (by simp))) (own_leaves H ks h2 h4 ⟨by have := hM.1; simpa using this, fun i u c p q => hM.2 (i + 1) u c (by simpa using p) (by simpa using q)⟩ (fun kd' hk => hK kd' (by simp [hk])))
theorem own_val (hY : LayOk Y) (H : Hp Y.C E s.m β w) {kd : Kd} {x : Sv U} {z : kd.ty U} {v : Value} {cs : List (Lf U)} {l : List Nat} (hm : x.mean Y.C w (E.X β) β s.m v) (hp : parts x = some cs) (hl : ownL s.m cs = some l) (h : svTy Y s.m kd x = some z) (hK : ∀ τ, kd = .sl τ → 0 < U.K τ) : OwP Y.C w v (blks β l) (toCp Y kd z) := by
  have leaf : ∀ {y : Lf U}, x = .l y → (∀ T, kd ≠ .st T) → (match rdn s.m kd y with | some q => lfTy kd q | none => none) = some z → OwP Y.C w v (blks β l) (toCp Y kd z) := fun {y} hx hkd h0 => by
    subst hx
    have := Option.some.inj hp; subst this
    cases hr : rdn s.m kd y with
    | none => rw [hr] at h0; cases h0
    | some q =>
      rw [hr] at h0
      have hq := lfTy_some (show lfTy kd q = some z from h0)
      have ho := own_leaf H hl hr hm hK
      rw [hq] at ho
      cases kd with
      | st T => exact absurd rfl (hkd T)
      | _ => exact ⟨_, rfl, ho⟩
  cases kd with
  | st T =>
    cases x with
    | a cs' =>
      have := Option.some.inj hp; subst this
      have h' : (match rds s.m (Y.kd T) cs' with | some ds => Y.C.bld T ds | none => none) = some z := h
      cases hr : rds s.m (Y.kd T) cs' with
      | none => rw [hr] at h'; cases h'
      | some ds =>
        rw [hr] at h'
        obtain ⟨vs, rfl, hM⟩ := hm
        have ho := own_leaves H _ hr hl hM (fun kd hk τ e => hY.pos T τ (e ▸ hk))
        rw [Y.C.hmk T ds z h'] at ho
        exact ⟨vs, rfl, ho⟩
    | l y =>
      have h' : (match rdn s.m (Kd.st T) y with | some q => lfTy (Kd.st T) q | none => none) = some z := h
      cases hr : rdn s.m (Kd.st T) y with
      | none => rw [hr] at h'; cases h'
      | some q => rw [hr] at h'; cases q <;> cases h'
    | t y => cases h
  | int k => cases x with
    | l y => exact leaf rfl (by simp) h
    | _ => cases h
  | bool => cases x with
    | l y => exact leaf rfl (by simp) h
    | _ => cases h
  | str => cases x with
    | l y => exact leaf rfl (by simp) h
    | _ => cases h
  | sl τ => cases x with
    | l y => exact leaf rfl (by simp) h
    | _ => cases h
theorem own_vals (hY : LayOk Y) (H : Hp Y.C E s.m β w) (ks : List Kd) : ∀ {xs : List (Sv U)} {z : Tup U ks} {vs : List Value} {l : List Nat}, svsTy Y s.m ks xs = some z → ownS s.m xs = some l → vs.length = xs.length → (∀ (i : Nat) (v : Value) (x : Sv U), vs[i]? = some v → xs[i]? = some x → x.mean Y.C w (E.X β) β s.m v) → (∀ kd ∈ ks, ∀ τ, kd = .sl τ → 0 < U.K τ) → OwPs Y.C w vs (toCps Y ks z) (blks β l) := by
  induction ks with
  | nil =>
    intro xs z vs l h hl hlen hm hK
    cases xs with
    | nil =>
      have := Option.some.inj hl; subst this
      have : vs = [] := List.eq_nil_of_length_eq_zero hlen
      subst this; exact .n
    | cons => cases h
  | cons k ks ih =>
    intro xs z vs l h hl hlen hm hK
    cases xs with
    | nil => cases ks <;> cases h
    | cons x xs =>
      cases vs with
      | nil => simp at hlen
      | cons v vs =>
        simp only [ownS] at hl
        cases hp : parts x with
        | none => rw [hp] at hl; cases hl
        | some cs =>
          rw [hp] at hl
          simp only at hl
          cases h1 : ownL s.m cs with
          | none => rw [h1] at hl; cases hl
          | some l1 =>
            cases h2 : ownS s.m xs with
            | none => rw [h1, h2] at hl; cases hl
            | some l2 =>
              rw [h1, h2] at hl
              have := Option.some.inj hl; subst this
              rw [blks_app]
              cases ks with
              | nil =>
                cases xs with
                | cons x' xs => cases h
                | nil =>
                  have hvs : vs = [] := List.eq_nil_of_length_eq_zero (by simpa using hlen)
                  subst hvs
                  have := Option.some.inj h2; subst this
                  exact .c (own_val hY H (hm 0 v x rfl rfl) hp h1 (show svTy Y s.m k x = some z from h) (hK k (by simp))) .n
              | cons k' ks' =>
                replace h : (match svTy Y s.m k x with | some a => (match svsTy Y s.m (k' :: ks') xs with | some b => some (a, b) | none => none) | none => none) = some (show k.ty U × Tup U (k' :: ks') from z) := h
                cases g1 : svTy Y s.m k x with
                | none => rw [g1] at h; cases h
                | some z1 =>
                  cases g2 : svsTy Y s.m (k' :: ks') xs with
                  | none => rw [g1, g2] at h; cases h
                  | some z2 =>
                    rw [g1, g2] at h
                    have := Option.some.inj h; subst this
                    exact .c (own_val hY H (hm 0 v x rfl rfl) hp h1 g1 (hK k (by simp))) (ih g2 h2 (by simpa using hlen) (fun i u c p q => hm (i + 1) u c (by simpa using p) (by simpa using q)) (fun kd hk => hK kd (by simp [hk])))

theorem fin_fresh (G : Good P g Y TI FZ) (r : Rel Y.C E s a w β) (hEY : ∀ b, ¬ E.Y0 b) {fn : Func} {l : List ResultVar} (hf : fn.results = l.toArray) {ks : List Kd} {z : Tup U ks} (h : fin Y TI true ks l s = some z) : ∃ v B, (results fn a.tmps).run P w = .ok v w ∧ B.Nodup ∧ (∀ b ∈ B, E.w0.heap.size ≤ b) ∧ OwR Y.C w v (toCps Y ks z) B := by
  unfold fin at h
  cases h1 : resVs TI s l with
  | none => rw [h1] at h; cases h
  | some xs =>
    rw [h1] at h
    simp only [cond_true] at h
    cases h2 : ownS s.m xs with
    | none => rw [h2] at h; cases h
    | some ids =>
      rw [h2] at h
      simp only at h
      cases hb : (dist ids && posKs (U := U) ks) with
      | false => rw [hb] at h; cases h
      | true =>
        rw [hb] at h
        simp only [cond_true] at h
        simp only [Bool.and_eq_true] at hb
        obtain ⟨vs, k1, k2, k3⟩ := resVs_mean G.ti r h1
        have ho := own_vals G.lay r.hp ks h h2 k2 k3 (posKs_spec hb.2)
        refine ⟨_, blks β ids, results_run hf k1, blks_nd r.hp (dist_iff.1 hb.1), fun b hbb => ?_, ?_⟩
        · obtain ⟨j, _, u, hu, hub⟩ := blks_in hbb
          exact (r.hp.new j u b hu hub).1.resolve_right (hEY b)
        · generalize toCps Y ks z = cps at ho ⊢
          generalize blks β ids = B0 at ho ⊢
          clear h k1 k3 h2 h1 k2
          cases ho with
          | n => exact ⟨[], rfl, .n⟩
          | @c v x B B' vs xs' hv hr =>
            cases hr with
            | n => rw [List.append_nil]; exact hv
            | @c v2 x2 B2 B3 vs2 xs2 hv2 hr2 =>
              rw [dif_neg (by simp)]
              exact ⟨_, rfl, .c hv (.c hv2 hr2)⟩
end

/-- A function whose text the evaluator has gone through meets its contract: the results are fresh. -/
theorem evF_fspec (G : Good P g Y TI FZ) (hm : P.follows .mixedOrders = true) {f : FuncId} {fn : Func} {cd : Code} {n : Nat} {l : List ResultVar} {ar rs : List Kd} {an : An} {z : Tup U ar} {q : Tup U rs} (hf : P.funcs[f]? = some fn) (hb : fn.body = some cd) (hn : fn.ntmps = n) (hl : fn.results = l.toArray)
    (hE : ∀ args w, (callFunc f args).run P w = .ok (.enter f args) w) (hlen : (toCps Y ar z).length ≤ n) (h : evF Y TI FZ an cd n ar rs true l z = some q) : FSpec P g Y.C f ((toCps Y ar z).map cpV) (toCps Y rs q) := by
  refine ⟨hE, fun w X0 vs hG hX0 hvs => calls_of_wp hf hb ?_⟩
  let E : Env g := ⟨X0, fun _ => False, w, hX0, fun _ h => h.elim, fun _ _ h => h, fun w' hw => g.st w w' hG (hw.ext fun _ h => h), []⟩
  have r0 := enter_rel (Y := Y) hG hX0 hvs hlen E rfl (fun _ h => h) rfl rfl
  have done : ∀ s' a' w' β', fin Y TI true rs l s' = some q → Rel Y.C E s' a' w' β' → a'.defers = [] ∧ ∃ v, (results fn a'.tmps).run P w' = .ok v w' ∧ (∃ v' B, Ending.returned v = .returned v' ∧ Ext w w' ∧ B.Nodup ∧ (∀ b ∈ B, w.heap.size ≤ b) ∧ OwR Y.C w' v' (toCps Y rs q) B) := fun s' a' w' β' hq r => by
    obtain ⟨v, B, k1, k2, k3, k4⟩ := fin_fresh G r (fun _ h => h) hl hq
    exact ⟨r.defers, v, k1, v, B, rfl, r.hp.ext.ext fun _ h => h, k2, k3, k4⟩
  rw [hn]
  exact ev_sound (rgn_sound G hm) 1000 an cd _ _ _ _ _ q (fun _ => True) (by
    have : ∀ c : Code, WC (fun _ => True) c := fun c => by
      induction c with
      | seq a b h1 h2 => exact ⟨h1, h2⟩
      | cond c a b h1 h2 => exact ⟨fun _ _ => trivial, h1, h2⟩
      | block id c h => exact h
      | loop c h => exact h
      | region id os d => exact fun _ _ _ _ => trivial
      | _ => trivial
    exact this cd) (AW.true an) h _ (fun s' a' w' β' _ hq r => done s' a' w' β' hq r) (fun i s' a' w' β' _ hq r => by cases hq) (fun s' a' w' β' _ hq r => done s' a' w' β' hq r) _ _ _ r0

theorem toCps_len : ∀ (ks : List Kd) (z : Tup U ks), (toCps Y ks z).length = ks.length
  | [], _ => rfl
  | [k], _ => rfl
  | k :: k' :: ks, z => by
    show (toCps Y (k' :: ks) z.2).length + 1 = _
    rw [toCps_len (k' :: ks)]; rfl
theorem good_cons {f : FuncId} {S : Sum U} (h : SumOk P g Y f S) (G : Good P g Y TI FZ) : Good P g Y TI ((f, S) :: FZ) := ⟨G.ti, G.lay, fun f' S' hm => by
  rcases List.mem_cons.1 hm with e | e
  · injection e with e1 e2; subst e1; subst e2; exact h
  · exact G.fs f' S' e⟩
/-- The contract that the evaluator gives. -/
theorem sum_ok (G : Good P g Y TI FZ) (hm : P.follows .mixedOrders = true) {f : FuncId} {fn : Func} {cd : Code} {n : Nat} {l : List ResultVar} {S : Sum U} {an : Tup U S.ar → An} (hf : P.funcs[f]? = some fn) (hb : fn.body = some cd) (hn : fn.ntmps = n) (hl : fn.results = l.toArray)
    (hE : ∀ args w, (callFunc f args).run P w = .ok (.enter f args) w) (hlen : S.ar.length ≤ n) (hwt : S.wt = false) (h : ∀ a r, S.m a = some r → evF Y TI FZ (an a) cd n S.ar S.rs S.fr l a = some r) : SumOk P g Y f S := fun a r hr => by
  have h' := h a r hr
  refine ⟨fun _ hfr => ?_, fun _ hfr => ?_, fun hh => by rw [hwt] at hh; cases hh⟩
  · rw [hfr] at h'
    exact evF_spec G hm hf hb hn hl hE (by rw [toCps_len]; exact hlen) h'
  · rw [hfr] at h'
    exact evF_fspec G hm hf hb hn hl hE (by rw [toCps_len]; exact hlen) h'
end Go.EV
