/-
  THE EVALUATOR's KIT: functions that write their first argument meet their contracts. Plain theorems over any program; the conditions stand in each.
-/
import Derived.Test.YtiojlennpdmapaaGreatEWb
set_option linter.unusedVariables false
set_option linter.unusedSimpArgs false
namespace Go.EV
open Go.RowKit Go.VK
variable {U : Uni} {Y : Lay U} {TI : List (Nat × TInfo)} {FZ : List (Nat × Sum U)} {P : Program} {g : GI} {E : Env g}
section
variable {s : St U} {a : Act} {w w0 : World} {β : List Tr} {C : Cod U}

/-- The roots among an argument's cells. -/
def pinsOf : List Value → List (Lf U) → List (Nat × Nat × Value)
  | v :: vs, .own i r :: cs => (i, r, v) :: pinsOf vs cs
  | _ :: vs, _ :: cs => pinsOf vs cs
  | _, _ => []
def Lf.plain : Lf U → Bool
  | .int .. | .bool _ | .str _ | .own .. => true
  | _ => false
theorem ownC_plain {k : Nat} : ∀ {cs : List (Lf U)} (n : Nat), (∀ c ∈ cs, c.isData = true) → ∀ c ∈ (ownC k n cs).1, c.plain = true
  | [], n, _, c, h => by simp [ownC] at h
  | x :: xs, n, hd, c, h => by
    have hx := hd x (by simp)
    have hxs : ∀ c ∈ xs, c.isData = true := fun c hc => hd c (by simp [hc])
    cases x with
    | sl τ l =>
      simp only [ownC, List.mem_cons] at h
      rcases h with rfl | h
      · rfl
      · exact ownC_plain _ hxs c h
    | int k' m => simp only [ownC, List.mem_cons] at h; rcases h with rfl | h; rfl; exact ownC_plain _ hxs c h
    | bool b => simp only [ownC, List.mem_cons] at h; rcases h with rfl | h; rfl; exact ownC_plain _ hxs c h
    | str b => simp only [ownC, List.mem_cons] at h; rcases h with rfl | h; rfl; exact ownC_plain _ hxs c h
    | _ => cases hx
/-- Roots that stay known. -/
theorem pins_ms {X X' : Nat → Prop} {w w' : World} {β β' : List Tr} {m m' : Mm U} : ∀ {cs : List (Lf U)} {vs : List Value}, (∀ c ∈ cs, c.plain = true) → Ms C w X β m vs cs → (∀ x ∈ pinsOf vs cs, (Lf.own x.1 x.2.1 : Lf U).mean C w' X' β' m' x.2.2) → Ms C w' X' β' m' vs cs
  | [], vs, _, h, _ => ⟨h.1, fun i v c _ h2 => by simp at h2⟩
  | c :: cs, [], _, h, _ => by have := h.1; simp at this
  | c :: cs, v :: vs, hp, h, hpin => by
    have h0 := h.2 0 v c rfl rfl
    have ht : Ms C w X β m vs cs := ⟨by have := h.1; simpa using this, fun i u x p q => h.2 (i + 1) u x (by simpa using p) (by simpa using q)⟩
    have hc := hp c (by simp)
    have key : c.mean C w' X' β' m' v ∧ ∀ x ∈ pinsOf vs cs, (Lf.own x.1 x.2.1 : Lf U).mean C w' X' β' m' x.2.2 := by
      cases c with
      | own i r => exact ⟨hpin (i, r, v) (by simp [pinsOf]), fun x hx => hpin x (by simp [pinsOf, hx])⟩
      | int k n => exact ⟨h0, fun x hx => hpin x (by simpa [pinsOf] using hx)⟩
      | bool b => exact ⟨h0, fun x hx => hpin x (by simpa [pinsOf] using hx)⟩
      | str b => exact ⟨h0, fun x hx => hpin x (by simpa [pinsOf] using hx)⟩
      | _ => cases hc
    have hr := pins_ms (cs := cs) (vs := vs) (fun x hx => hp x (by simp [hx])) ht key.2
    refine ⟨by simp [hr.1], fun i u x p q => ?_⟩
    cases i with
    | zero => simp at p q; subst p; subst q; exact key.1
    | succ i => exact hr.2 i u x (by simpa using p) (by simpa using q)
theorem pins_in {X : Nat → Prop} {m : Mm U} : ∀ {cs : List (Lf U)} {vs : List Value}, Ms C w X β m vs cs → ∀ x ∈ pinsOf vs cs, (Lf.own x.1 x.2.1 : Lf U).mean C w X β m x.2.2
  | [], vs, _, x, hx => by cases vs <;> simp [pinsOf] at hx
  | c :: cs, [], h, _, _ => by have := h.1; simp at this
  | c :: cs, v :: vs, h, x, hx => by
    have h0 := h.2 0 v c rfl rfl
    have ht : Ms C w X β m vs cs := ⟨by have := h.1; simpa using this, fun i u x p q => h.2 (i + 1) u x (by simpa using p) (by simpa using q)⟩
    cases c with
    | own i r =>
      simp only [pinsOf, List.mem_cons] at hx
      rcases hx with rfl | hx
      · exact h0
      · exact pins_in ht x hx
    | _ => exact pins_in ht x (by simpa [pinsOf] using hx)
theorem OwP.lt {v : Value} {B : List Nat} {x : Bool × List (Lf U)} (h : OwP C w v B x) : ∀ b ∈ B, b < w.heap.size := by
  obtain ⟨b, cs⟩ := x
  cases b with
  | true => obtain ⟨vs, _, h⟩ := h; exact h.lt
  | false => obtain ⟨c, _, h⟩ := h; exact h.lt

/-- A function whose text the evaluator has gone through meets its contract: it writes its first argument. -/
theorem evM_mspec (G : Good P g Y TI FZ) (hm : P.follows .mixedOrders = true) {f : FuncId} {fn : Func} {cd : Code} {n : Nat} {l : List ResultVar} {kd : Kd} {an : An} {z q : Tup U [kd, .int .i64]} (hf : P.funcs[f]? = some fn) (hb : fn.body = some cd) (hn : fn.ntmps = n) (hl : fn.results = l.toArray)
    (hE : ∀ args w, (callFunc f args).run P w = .ok (.enter f args) w) (hlen : 2 ≤ n) (h : evM Y TI FZ an cd n kd l z = some q) : MSpec P g Y.C f (toCp Y kd z.1).1 (toCp Y kd z.1).2 (toCp Y kd q.1).2 (cpV (toCp Y (.int .i64) z.2)) q.2 := by
  obtain ⟨z, k⟩ := z
  change kd.ty U at z
  change Int at k
  obtain ⟨q, kq⟩ := q
  change kd.ty U at q
  change Int at kq
  refine ⟨hE, fun w v v1 B hnd hG hO hR => calls_of_wp hf hb ?_⟩
  obtain ⟨rfl, hk1, hk2⟩ := (show Rd w (fun _ => False) [] v1 (.int .i64 k) from hR).int_inv
  have hlt := hO.lt
  have hPs : OwPs Y.C w [v] [toCp Y kd z] B := by simpa using OwPs.c (show OwP Y.C w v B (toCp Y kd z) from hO) .n
  obtain ⟨ts, a1, a2, a3, a4⟩ := ownCs_spec (k := 0) 0 hPs
  obtain ⟨b, cs, hcp⟩ : ∃ b cs, toCp Y kd z = (b, cs) := ⟨_, _, rfl⟩
  obtain ⟨cells, objs, hcl⟩ : ∃ cells objs, ownC (U := U) 0 0 cs = (cells, objs) := ⟨_, _, rfl⟩
  have hq0 : ownCs (U := U) 0 0 [toCp Y kd z] = ([(b, cells)], objs) := by rw [hcp]; simp only [ownCs, hcl, List.append_nil]
  rw [hq0] at a1 a3 a4
  have hplain : ∀ c ∈ cells, c.plain = true := by
    have := ownC_plain (k := 0) (cs := cs) 0 (fun c hc => (toCp_ok (Y := Y) (k := kd) (x := z)).1 c (by rw [hcp]; exact hc))
    rw [hcl] at this; exact this
  have plainX : ∀ {X X' : Nat → Prop} {w : World} {β : List Tr} {m : Mm U} {vs : List Value}, Ms Y.C w X β m vs cells → Ms Y.C w X' β m vs cells := fun {X X' w β m vs} h => ⟨h.1, fun i u c p q => by
    have h1 := h.2 i u c p q
    have h2 := hplain c (List.mem_of_getElem? q)
    cases c with
    | int k n => exact h1
    | bool b => exact h1
    | str b => exact h1
    | own i r => exact h1
    | _ => cases h2⟩
  let m0 : Mm U := ⟨objs, 0, []⟩
  have hMp0 := (a4 (fun _ => True) ts m0 (Nat.le_refl _) (fun j e t p q => ⟨by simpa using p, by simpa using q⟩)).2 0 v (b, cells) rfl rfl
  -- the argument's cells
  obtain ⟨vs, hM0, hMp⟩ : ∃ vs : List Value, Ms Y.C w (fun _ => True) ts m0 vs cells ∧ ∀ {w' : World} {X : Nat → Prop} {β' : List Tr} {m' : Mm U}, Ms Y.C w' X β' m' vs cells → (cpSv (b, cells)).mean Y.C w' X β' m' v := by
    cases b with
    | true =>
      obtain ⟨vs, e, h1⟩ := hMp0
      exact ⟨vs, h1, fun {w' X β' m'} h => ⟨vs, e, h⟩⟩
    | false =>
      obtain ⟨c, e, h1⟩ := hMp0
      subst e
      refine ⟨[v], ⟨rfl, fun i u x p q => ?_⟩, fun {w' X β' m'} h => h.2 0 v c rfl rfl⟩
      cases i with
      | zero => simp at p q; subst p; subst q; exact h1
      | succ i => simp at p
  have hparts : parts (cpSv (U := U) (b, cells)) = some cells := by
    cases b with
    | true => rfl
    | false =>
      obtain ⟨c, e, h1⟩ := hMp0
      subst e; rfl
  let E : Env g := ⟨fun _ => False, (· ∈ B), w, fun _ h => h.elim, hlt, fun _ h => h.elim, hG, pinsOf vs cells⟩
  have htB : ∀ (i : Nat) (t : Tr), ts[i]? = some t → ∀ x ∈ t.all, x ∈ B := fun i t ht x hx => by
    rw [← a2]; exact List.mem_flatten.2 ⟨_, List.mem_map.2 ⟨_, List.mem_of_getElem? ht, rfl⟩, hx⟩
  have hndt : (ts.map Tr.all).flatten.Nodup := by rw [a2]; exact hnd
  have Hh : Hp Y.C E m0 ts w := by
    refine ⟨Bel.refl _, a1, fun i e he => ?_, fun a i h => by simp [m0] at h, fun i t x ht hx => ⟨.inr (htB i t ht x hx), hlt x (htB i t ht x hx)⟩, fun i j t u x hij ht hu hx hxu => ?_, fun i t ht => ?_, fun i t e ht he => ?_, fun x hx => pins_in (plainX hM0) x hx⟩
    · have hl : i < ts.length := by rw [a1]; exact lt_of_some he
      have := a3 i e _ he (List.getElem?_eq_getElem hl)
      rw [this.1, this.2.1]; exact ⟨Nat.le_refl _, Nat.le_refl _⟩
    · have hp := (List.pairwise_flatten.1 hndt).2
      rw [List.pairwise_map] at hp
      have hp := List.pairwise_iff_getElem.1 hp
      obtain ⟨l1, e1⟩ := List.getElem?_eq_some_iff.1 ht
      obtain ⟨l2, e2⟩ := List.getElem?_eq_some_iff.1 hu
      rcases Nat.lt_or_gt_of_ne hij with h | h
      · exact hp i j l1 l2 h x (by rw [e1]; exact hx) x (by rw [e2]; exact hxu) rfl
      · exact hp j i l2 l1 h x (by rw [e2]; exact hxu) x (by rw [e1]; exact hx) rfl
    · exact (List.pairwise_flatten.1 hndt).1 _ (List.mem_map.2 ⟨t, List.mem_of_getElem? ht, rfl⟩)
    · obtain ⟨_, _, τ, L, xs, c1, c2, c3, c4⟩ := a3 i e t he ht
      rw [c1]
      exact ⟨c2, xs, c3, c4.anyX rfl⟩
  have hini : iniM Y n kd z k = ⟨[cpSv (b, cells), .l (.int .i64 k)] ++ List.replicate (n - 2) (.l .any), m0, []⟩ := by
    simp only [iniM, hq0, List.map_cons, List.map_nil, len_eq]
    rfl
  have r0 : Rel Y.C E (iniM Y n kd z k) { tmps := #[v, .int .i64 k] ++ Array.replicate (n - 2) undef, defers := [] } w ts := by
    rw [hini]
    refine ⟨Hh, rfl, by simp; omega, fun m x hx => ?_⟩
    match m with
    | 0 =>
      have : cpSv (b, cells) = x := by simpa using hx
      subst this
      have hv : (#[v, Value.int .i64 k] ++ Array.replicate (n - 2) undef).getD 0 undef = v := by simp [Array.getD_eq_getD_getElem?, Array.getElem?_append]
      simp only [hv]
      exact hMp (plainX hM0)
    | 1 =>
      have : (Sv.l (.int .i64 k) : Sv U) = x := by simpa using hx
      subst this
      have hv : (#[v, Value.int .i64 k] ++ Array.replicate (n - 2) undef).getD 1 undef = .int .i64 k := by simp [Array.getD_eq_getD_getElem?, Array.getElem?_append]
      simp only [hv]
      exact ⟨rfl, hk1, hk2⟩
    | m + 2 =>
      have hx' : (List.replicate (n - 2) (Sv.l .any : Sv U))[m]? = some x := by simpa using hx
      have := List.mem_of_getElem? hx'
      simp at this
      rw [this.2]; trivial
  have done : ∀ s' a' w' β', finM Y TI kd z l s' = some (q, kq) → Rel Y.C E s' a' w' β' → a'.defers = [] ∧ ∃ v', (results fn a'.tmps).run P w' = .ok v' w' ∧ (Ending.returned v' = .returned (.int .i64 kq) ∧ (IntKind.i64.min ≤ kq ∧ kq ≤ IntKind.i64.max) ∧ Bel (· ∈ B) w w' ∧ ∃ B', B'.Nodup ∧ (∀ x ∈ B', x ∈ B ∨ w.heap.size ≤ x) ∧ OwP Y.C w' v B' ((toCp Y kd z).1, (toCp Y kd q).2)) := fun s' a' w' β' hq r => by
    unfold finM at hq
    rw [hq0] at hq
    split at hq
    · rename_i x hres
      split at hq
      · rename_i k' y hk' hy
        have hy : cpSv (b, cells) = y := by simpa using hy
        subst hy
        split at hq
        · rename_i ids a' ho ha
          cases hb : (dist ids && posKs (U := U) [kd]) with
          | false => rw [hb] at hq; cases hq
          | true =>
            rw [hb] at hq
            have hq := Option.some.inj hq
            injection hq with hq1 hq2
            subst hq1; subst hq2
            simp only [Bool.and_eq_true] at hb
            obtain ⟨us, k1, k2, k3⟩ := resVs_mean G.ti r hres
            match us, k2, k1, k3 with
            | [u], _, k1, k3 =>
              have hu := svTy_mean r (Z := fun _ => False) (k3 0 u x rfl rfl) hk' (fun _ h => h.elim) (.inr fun _ _ _ _ _ h => h)
              obtain ⟨rfl, h1, h2⟩ := (show Rd w' (fun _ => False) [] u (.int .i64 k') from hu).int_inv
              refine ⟨r.defers, _, results_run hl k1, rfl, ⟨h1, h2⟩, r.hp.ext, ?_⟩
              have hMs : Ms Y.C w' (E.X β') β' s'.m vs cells := pins_ms hplain hM0 (fun x hx => r.hp.pin x hx)
              simp only [ownS, hparts] at ho
              cases hol : ownL s'.m cells with
              | none => rw [hol] at ho; cases ho
              | some l1 =>
                rw [hol] at ho
                have := Option.some.inj ho; subst this
                have hov := own_val G.lay r.hp (hMp hMs) hparts hol ha (fun τ e => posKs_spec hb.2 kd (by simp) τ e)
                refine ⟨blks β' l1, ?_, fun x hx => ?_, ?_⟩
                · exact blks_nd r.hp (by have := dist_iff.1 hb.1; simpa using this)
                · obtain ⟨j, _, t, ht, hxt⟩ := blks_in hx
                  exact ((r.hp.new j t x ht hxt).1).symm
                · have e1 : (toCp Y kd z).1 = (toCp Y kd (show kd.ty U from a')).1 := by cases kd <;> rfl
                  rw [e1]
                  exact hov
        · cases hq
      · cases hq
    · cases hq
  rw [hn]
  have e0 : (#[v, Value.int .i64 k] : Array Value).size = 2 := rfl
  exact ev_sound (rgn_sound G hm) 1000 an cd _ _ _ _ _ (q, kq) (fun _ => True) (by
    have : ∀ c : Code, WC (fun _ => True) c := fun c => by
      induction c with
      | seq a b h1 h2 => exact ⟨h1, h2⟩
      | cond c a b h1 h2 => exact ⟨fun _ _ => trivial, h1, h2⟩
      | block id c h => exact h
      | loop c h => exact h
      | region id os d => exact fun _ _ _ _ => trivial
      | _ => trivial
    exact this cd) (AW.true an) h _ (fun s' a' w' β' _ hq r => done s' a' w' β' hq r) (fun i s' a' w' β' _ hq r => by cases hq) (fun s' a' w' β' _ hq r => done s' a' w' β' hq r) _ _ _ r0

/-- The contract that the evaluator gives to a function that writes its first argument. -/
theorem sum_wt (G : Good P g Y TI FZ) (hm : P.follows .mixedOrders = true) {f : FuncId} {fn : Func} {cd : Code} {n : Nat} {l : List ResultVar} {kd : Kd} {m : Tup U [kd, .int .i64] → Option (Tup U [kd, .int .i64])} {an : Tup U [kd, .int .i64] → An} (hf : P.funcs[f]? = some fn) (hb : fn.body = some cd) (hn : fn.ntmps = n) (hl : fn.results = l.toArray)
    (hE : ∀ args w, (callFunc f args).run P w = .ok (.enter f args) w) (hlen : 2 ≤ n) (h : ∀ a r, m a = some r → evM Y TI FZ (an a) cd n kd l a = some r) : SumOk P g Y f ⟨[kd, .int .i64], [kd, .int .i64], false, true, m⟩ := fun a r hr => by
  have h' := h a r hr
  refine ⟨fun hh => (by cases hh), fun hh => (by cases hh), fun _ b cs u b' ds b'' k e1 e2 => ?_⟩
  have e1 : [toCp Y kd a.1, toCp Y (.int .i64) a.2] = [(b, cs), u] := e1
  have e2 : [toCp Y kd r.1, toCp Y (.int .i64) r.2] = [(b', ds), (b'', [.int .i64 k])] := e2
  simp only [List.cons.injEq, and_true] at e1 e2
  have e3 : (false, [Lf.int (U := U) .i64 (show Int from r.2)]) = (b'', [Lf.int (U := U) .i64 k]) := e2.2
  injection e3 with _ e3
  injection e3 with e3 _
  injection e3 with _ e3
  have hs := evM_mspec G hm hf hb hn hl hE hlen h'
  have e4 : toCp Y kd (show kd.ty U from a.1) = (b, cs) := e1.1
  have e5 : toCp Y kd (show kd.ty U from r.1) = (b', ds) := e2.1
  rw [← e1.2, ← e3]
  have e6 : (toCp Y kd (show kd.ty U from a.1)).1 = b := by rw [e4]
  have e7 : (toCp Y kd (show kd.ty U from a.1)).2 = cs := by rw [e4]
  have e8 : (toCp Y kd (show kd.ty U from r.1)).2 = ds := by rw [e5]
  rw [← e6, ← e7, ← e8]
  exact hs
end
end Go.EV
namespace Go.VK
theorem gd_use {α : Type} {c : Prop} [Decidable c] {x y : Option α} {r : α} (h : c → y = x) (hr : gd c x = some r) : y = some r := by
  unfold gd at hr
  split at hr
  · rename_i hc; rw [h hc]; exact hr
  · cases hr
end Go.VK
