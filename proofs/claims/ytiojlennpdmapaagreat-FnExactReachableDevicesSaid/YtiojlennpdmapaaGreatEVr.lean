/-
  THE EVALUATOR's KIT, eighteenth part: calls by contract; all operations. Plain theorems over any program; the conditions stand in each.
-/
import Derived.Test.YtiojlennpdmapaaGreatEVq
set_option linter.unusedVariables false
set_option linter.unusedSimpArgs false
namespace Go.EV
open Go.RowKit Go.VK
variable {U : Uni} {Y : Lay U} {TI : List (Nat × TInfo)} {P : Program} {g : GI} {E : Env g}
section
variable {s : St U} {a : Act} {w w' : World} {β : List Tr} {α : Type} {C : Cod U}

mutual
theorem Ow.anyX {X X' : Nat → Prop} {d : Bool} (hd : d = true) : ∀ {v : Value} {x : Lf U} {B : List Nat}, Ow C w X d v x B → Ow C w X' d v x B
  | _, _, _, .int h1 h2 => .int h1 h2
  | _, _, _, .bool => .bool
  | _, _, _, .str h => .str h
  | _, _, _, .fz h0 _ => by rw [hd] at h0; cases h0
  | _, _, _, .sl t hk hown hc => .sl t hk hown (OwL.anyX hd hc)
theorem OwL.anyX {X X' : Nat → Prop} {d : Bool} (hd : d = true) : ∀ {vs : List Value} {xs : List (Lf U)} {B : List Nat}, OwL C w X d vs xs B → OwL C w X' d vs xs B
  | _, _, _, .n => .n
  | _, _, _, .c h hr => .c (Ow.anyX hd h) (OwL.anyX hd hr)
end

/-- A leaf that data are read as. -/
theorem leaf_mean {X Z : Nat → Prop} {m : Mm U} {v : Value} {c : Lf U} (hc : c.isData = true) (h : Rd w Z [] v c.toV) (hX : (∀ b, X b → Z b) ∨ ∀ τ l, c ≠ .sl τ l) : c.mean C w X β m v := by
  cases c with
  | int k n => exact h.int_inv
  | bool b => exact h.bool_inv
  | str b => exact h.str_inv
  | sl τ l =>
    rcases hX with hX | hX
    · exact Rd.conv h (Nat.le_refl _) (fun b _ hb => hX b hb) (fun _ _ _ h => h) (fun _ _ h => h)
    · exact absurd rfl (hX τ l)
  | _ => cases hc
def CpOk (x : Bool × List (Lf U)) : Prop := (∀ c ∈ x.2, c.isData = true) ∧ (x.1 = false → ∃ c, x.2 = [c])
theorem cp_mean {X Z : Nat → Prop} {m : Mm U} {v : Value} {x : Bool × List (Lf U)} (hx : CpOk x) (h : Rd w Z [] v (cpV x)) (hX : (∀ b, X b → Z b) ∨ ∀ c ∈ x.2, ∀ τ l, c ≠ .sl τ l) : Mp C w X β m v x := by
  obtain ⟨b, cs⟩ := x
  cases b with
  | false =>
    obtain ⟨c, rfl⟩ := hx.2 rfl
    exact ⟨c, rfl, leaf_mean (hx.1 c (by simp)) h (hX.imp id fun h => h c (by simp))⟩
  | true =>
    obtain ⟨vs, rfl, h2, h3⟩ := Rd.agg_inv (show Rd w Z [] v (.agg (cs.map Lf.toV)) from h)
    refine ⟨vs.toList, by simp, by simpa using h2, fun i u c p q => ?_⟩
    exact leaf_mean (hx.1 c (List.mem_of_getElem? q)) (h3 i u _ (by simpa using p) (by rw [List.getElem?_map, q]; rfl)) (hX.imp id fun h => h c (List.mem_of_getElem? q))
theorem toCp_ok {k : Kd} {x : k.ty U} : CpOk (toCp Y k x) := by
  cases k with
  | st T => exact ⟨Y.C.hdat T x, fun h => by cases h⟩
  | _ => exact ⟨fun c hc => by simp only [toCp, List.mem_singleton] at hc; subst hc; rfl, fun _ => ⟨_, rfl⟩⟩
theorem toCps_ok (ks : List Kd) : ∀ (z : Tup U ks), ∀ x ∈ toCps Y ks z, CpOk x := by
  induction ks with
  | nil => intro z x hx; simp [toCps] at hx
  | cons k ks ih =>
    intro z x hx
    cases ks with
    | nil => simp only [toCps, List.mem_singleton] at hx; subst hx; exact toCp_ok
    | cons k' ks =>
      simp only [toCps, List.mem_cons] at hx
      rcases hx with rfl | hx
      · exact toCp_ok
      · exact ih z.2 x hx
theorem flatK_cp (hY : LayOk Y) {k : Kd} (h : flatK Y k = true) {x : k.ty U} : ∀ c ∈ (toCp Y k x).2, ∀ τ l, c ≠ .sl τ l := by
  cases k with
  | st T => exact fun c hc => flatT_cel hY h hc
  | sl τ => cases h
  | _ => intro c hc τ l e; simp only [toCp, List.mem_singleton] at hc; rw [hc] at e; cases e
theorem flatKs_cons {k : Kd} {ks : List Kd} (h : flatKs Y (k :: ks) = true) : flatK Y k = true ∧ flatKs Y ks = true := by
  have e : flatKs Y (k :: ks) = cond (flatK Y k) (flatKs Y ks) false := rfl
  rw [e] at h
  cases hk : flatK Y k with
  | true => rw [hk] at h; exact ⟨rfl, h⟩
  | false => rw [hk] at h; cases h
theorem flatKs_cps (hY : LayOk Y) (ks : List Kd) : ∀ (z : Tup U ks), flatKs Y ks = true → ∀ x ∈ toCps Y ks z, ∀ c ∈ x.2, ∀ τ l, c ≠ .sl τ l := by
  induction ks with
  | nil => intro z _ x hx; simp [toCps] at hx
  | cons k ks ih =>
    intro z h x hx
    obtain ⟨h1, h2⟩ := flatKs_cons h
    cases ks with
    | nil => simp only [toCps, List.mem_singleton] at hx; subst hx; exact flatK_cp hY h1
    | cons k' ks =>
      simp only [toCps, List.mem_cons] at hx
      rcases hx with rfl | hx
      · exact flatK_cp hY h1
      · exact ih z.2 h2 x hx
/-- A result that reads as data. -/
theorem res_mean {X Z : Nat → Prop} {m : Mm U} {v : Value} {cps : List (Bool × List (Lf U))} (hc : ∀ x ∈ cps, CpOk x) (h : Rd w Z [] v (tupOf (cps.map cpV))) (hX : (∀ b, X b → Z b) ∨ ∀ x ∈ cps, ∀ c ∈ x.2, ∀ τ l, c ≠ .sl τ l) : (cpsSv cps).mean C w X β m v := by
  have many : (∀ x, cps ≠ [x]) → (Sv.t cps : Sv U).mean C w X β m v := fun hn => by
    have e : tupOf (cps.map cpV) = .tup (cps.map cpV) := by
      match cps, hn with
      | [], _ => rfl
      | [x], hn => exact absurd rfl (hn x)
      | _ :: _ :: _, _ => rfl
    rw [e] at h
    obtain ⟨vs, rfl, h2, h3⟩ := h.tup_inv
    refine ⟨vs.toList, by simp, by simpa using h2, fun i u x p q => ?_⟩
    have hm := List.mem_of_getElem? q
    exact cp_mean (hc x hm) (h3 i u _ (by simpa using p) (by rw [List.getElem?_map, q]; rfl)) (hX.imp id fun h => h x hm)
  match cps, many, hc, h, hX with
  | [], many, _, _, _ => exact many (by simp)
  | [x], _, hc, h, hX => exact cpSv_mean (cp_mean (hc x (by simp)) h (hX.imp id fun h => h x (by simp)))
  | _ :: _ :: _, many, _, _, _ => exact many (by simp)

theorem X0_free (r : Rel C E s a w β) : ∀ (i : Nat) (t : Tr) (b : Nat), β[i]? = some t → b ∈ t.all → ¬ E.X0 b := fun i t b ht hb hx => by
  rcases (r.hp.new i t b ht hb).1 with h | h
  · have := E.h0 b hx; omega
  · exact E.hXY b hx h
theorem args_eval {xa : Array Operand} : ∀ (i : Nat) (v : Value) (x : Sv U), (xa.toList.map a.eval)[i]? = some v → (xa.toList.map (opd s))[i]? = some x → ∃ y, v = a.eval y ∧ x = opd s y := fun i v x p q => by
  rw [List.getElem?_map] at p q
  cases h : xa.toList[i]? with
  | none => simp [h] at p
  | some y => simp only [h, Option.map_some, Option.some.injEq] at p q; exact ⟨y, p.symm, q.symm⟩
theorem call_enter {f : FuncId} {xa : Array Operand} {ats : Array TypeId} {o : Oper} (ho : o.op = .call { callee := .value (.func f), args := xa, argTypes := ats }) (h : ∀ args w, (callFunc f args).run P w = .ok (.enter f args) w) : (execOp a.eval o).run P w = .ok (.enter f (xa.toList.map a.eval).toArray) w :=
  enter_run (xs := xa.toList) (by rw [ho]) h

theorem callPlain_sound (hY : LayOk Y) (r : Rel Y.C E s a w β) {o : Oper} {f : FuncId} {xa : Array Operand} {ats : Array TypeId} {S : Sum U} {z : Tup U S.ar} {q : Tup U S.rs} (ho : o.op = .call { callee := .value (.func f), args := xa, argTypes := ats })
    (hS : SumOk P g Y f S) (hz : svsTy Y s.m S.ar (xa.toList.map (opd s)) = some z) (hmk : S.wt = false) (hfr : S.fr = false) (hff : flatKs Y S.rs = true ∨ freeVs (xa.toList.map (opd s)) = true) (hq : S.m z = some q) :
    SO P Y.C E a w o (cpsSv (toCps Y S.rs q)) s true := fun K Q hK => by
  have hsp := (hS z q hq).1 hmk hfr
  have hm : ∀ (i : Nat) (v : Value) (x : Sv U), (xa.toList.map a.eval)[i]? = some v → (xa.toList.map (opd s))[i]? = some x → x.mean Y.C w (E.X β) β s.m v := fun i v x p q => by
    obtain ⟨y, rfl, rfl⟩ := args_eval i v x p q; exact opd_mean r
  have go : ∀ (Z : Nat → Prop), (∀ b, Z b → E.X β b) → (freeVs (xa.toList.map (opd s)) = true ∨ ∀ (i : Nat) (t : Tr) (b : Nat), β[i]? = some t → b ∈ t.all → ¬ Z b) → ((∀ b, E.X β b → Z b) ∨ flatKs Y S.rs = true) → o.wp P a w K Q := fun Z hZ hf hX => by
    have hrd := svsTy_mean r hZ _ hz (by simp) hm hf
    refine wpc (call_enter ho hsp.1) (R' := fun v w' => Rd w' Z [] v (tupOf ((toCps Y S.rs q).map cpV)) ∧ Ext w w') ((hsp.2 w Z _ r.hp.gw (fun b hb => r.hp.X_lt b (hZ b hb)) hrd).mono ?_) ?_
    · rintro e w' ⟨v, r', e1, rfl, e3, e4⟩; exact ⟨v, e1, e3, e4⟩
    · rintro v w' ⟨h3, h4⟩
      exact hK v w' β (r.ext h4) (fun _ => res_mean (toCps_ok _ q) h3 (hX.imp id fun h => flatKs_cps hY _ q h)) (fun _ => h4)
  rcases hff with hff | hff
  · exact go E.X0 (fun b hb => .inl hb) (.inr (X0_free r)) (.inr hff)
  · exact go (E.X β) (fun _ h => h) (.inl hff) (.inl fun _ h => h)

/-- Fresh cells become trees. -/
theorem ownC_spec {k : Nat} : ∀ {vs : List Value} {cs : List (Lf U)} {B : List Nat} (n : Nat), OwL C w (fun _ => False) true vs cs B →
    ∃ ts : List Tr, ts.length = (ownC k n cs).2.length ∧ (ts.map Tr.all).flatten = B ∧ (∀ (j : Nat) (e : EO U) (t : Tr), (ownC k n cs).2[j]? = some e → ts[j]? = some t → e.rv = k ∧ e.cv = k ∧ ∃ τ l xs, e.ob = .tree τ true l ∧ 0 < U.K τ ∧ w.ownsRow 0 τ (U.K τ) t.val l.length xs ∧ OwL C w (fun _ => False) true xs (l.map (C.cel τ)).flatten t.bs) ∧
      ∀ (X : Nat → Prop) (β' : List Tr) (m' : Mm U), k ≤ m'.k → (∀ (j : Nat) (e : EO U) (t : Tr), (ownC k n cs).2[j]? = some e → ts[j]? = some t → m'.o[n + j]? = some e ∧ β'[n + j]? = some t) → Ms C w X β' m' vs (ownC k n cs).1
  | _, _, _, n, .n => ⟨[], rfl, rfl, by simp [ownC], fun _ _ _ _ _ => ⟨rfl, by simp⟩⟩
  | _, _, _, n, .c (v := v) (x := x) (vs := vs) (xs := xs) h hr => by
    have flat : ∀ {y : Lf U} {B : List Nat}, Ow C w (fun _ => False) true v y B → (∀ τ l, y ≠ .sl τ l) → B = [] ∧ ∀ (X : Nat → Prop) (β' : List Tr) (m' : Mm U), y.mean C w X β' m' v := fun {y B} h hn => by
      cases h with
      | int h1 h2 => exact ⟨rfl, fun _ _ _ => ⟨rfl, h1, h2⟩⟩
      | bool => exact ⟨rfl, fun _ _ _ => rfl⟩
      | str h9 => exact ⟨rfl, fun _ _ _ => ⟨rfl, h9⟩⟩
      | fz => exact absurd rfl (hn _ _)
      | sl => exact absurd rfl (hn _ _)
    by_cases hs : ∃ τ l, x = .sl τ l
    · obtain ⟨τ, l, rfl⟩ := hs
      cases h with
      | fz h0 => cases h0
      | sl t hk hown hc =>
        obtain ⟨ts, k1, k2, k3, k4⟩ := ownC_spec (k := k) (Nat.succ n) hr
        refine ⟨t :: ts, by simp [ownC, k1], by simp [k2], fun j e t' p q => ?_, fun X β' m' hkm hm => ?_⟩
        · cases j with
          | zero =>
            simp only [ownC, List.getElem?_cons_zero, Option.some.injEq] at p q
            subst p; subst q
            exact ⟨rfl, rfl, τ, l, _, rfl, hk, hown, hc⟩
          | succ j => exact k3 j e t' (by simpa [ownC] using p) (by simpa using q)
        · have h0 := hm 0 ⟨.tree τ true l, k, k⟩ t (by simp [ownC]) rfl
          have hr' := k4 X β' m' hkm (fun j e t' p q => by
            have := hm (j + 1) e t' (by simpa [ownC] using p) (by simpa using q)
            rw [show n + (j + 1) = Nat.succ n + j by omega] at this; exact this)
          have e1 : (ownC k n (.sl τ l :: xs)).1 = .own n k :: (ownC k (Nat.succ n) xs).1 := rfl
          rw [e1]
          refine ⟨by simp [hr'.1], fun i u c p q => ?_⟩
          cases i with
          | zero =>
            simp at p q; subst p; subst q
            exact ⟨⟨hkm, rfl⟩, _, t, h0.1, h0.2, fun _ => rfl⟩
          | succ i => exact hr'.2 i u c (by simpa using p) (by simpa using q)
    · have hn : ∀ τ l, x ≠ .sl τ l := fun τ l e => hs ⟨τ, l, e⟩
      obtain ⟨rfl, hm0⟩ := flat h hn
      obtain ⟨ts, k1, k2, k3, k4⟩ := ownC_spec (k := k) n hr
      have e1 : ownC k n (x :: xs) = (x :: (ownC k n xs).1, (ownC k n xs).2) := by
        cases x <;> first | rfl | exact absurd rfl (hn _ _)
      rw [e1]
      refine ⟨ts, k1, by simpa using k2, k3, fun X β' m' hkm hm => ?_⟩
      have hr' := k4 X β' m' hkm hm
      refine ⟨by simp [hr'.1], fun i u c p q => ?_⟩
      cases i with
      | zero => simp at p q; subst p; subst q; exact hm0 X β' m'
      | succ i => exact hr'.2 i u c (by simpa using p) (by simpa using q)
theorem ownCs_spec {k : Nat} : ∀ {vs : List Value} {cps : List (Bool × List (Lf U))} {B : List Nat} (n : Nat), OwPs C w vs cps B →
    ∃ ts : List Tr, ts.length = (ownCs k n cps).2.length ∧ (ts.map Tr.all).flatten = B ∧ (∀ (j : Nat) (e : EO U) (t : Tr), (ownCs k n cps).2[j]? = some e → ts[j]? = some t → e.rv = k ∧ e.cv = k ∧ ∃ τ l xs, e.ob = .tree τ true l ∧ 0 < U.K τ ∧ w.ownsRow 0 τ (U.K τ) t.val l.length xs ∧ OwL C w (fun _ => False) true xs (l.map (C.cel τ)).flatten t.bs) ∧
      ∀ (X : Nat → Prop) (β' : List Tr) (m' : Mm U), k ≤ m'.k → (∀ (j : Nat) (e : EO U) (t : Tr), (ownCs k n cps).2[j]? = some e → ts[j]? = some t → m'.o[n + j]? = some e ∧ β'[n + j]? = some t) →
        vs.length = (ownCs k n cps).1.length ∧ ∀ (i : Nat) (v : Value) (x : Bool × List (Lf U)), vs[i]? = some v → (ownCs k n cps).1[i]? = some x → Mp C w X β' m' v x
  | _, _, _, n, .n => ⟨[], rfl, rfl, by simp [ownCs], fun _ _ _ _ _ => ⟨rfl, by simp⟩⟩
  | _, _, _, n, .c (v := v) (x := x) (B := B0) (vs := vs) (xs := xs) h hr => by
    obtain ⟨b, cs⟩ := x
    -- the first component
    have h1 : ∃ us : List Value, OwL C w (fun _ => False) true us cs B0 ∧ ∀ (X : Nat → Prop) (β' : List Tr) (m' : Mm U) (cs' : List (Lf U)), Ms C w X β' m' us cs' → cs'.length = cs.length → Mp C w X β' m' v (b, cs') := by
      cases b with
      | true =>
        obtain ⟨us, rfl, hu⟩ := h
        exact ⟨us, hu, fun _ _ _ cs' hM _ => ⟨us, rfl, hM⟩⟩
      | false =>
        obtain ⟨c, rfl, hc⟩ := h
        refine ⟨[v], by simpa using OwL.c hc .n, fun X β' m' cs' hM hl => ?_⟩
        match cs', hl with
        | [c'], _ => exact ⟨c', rfl, hM.2 0 v c' rfl rfl⟩
    obtain ⟨us, hu, hMp⟩ := h1
    obtain ⟨t1, a1, a2, a3, a4⟩ := ownC_spec (k := k) n hu
    obtain ⟨t2, b1, b2, b3, b4⟩ := ownCs_spec (k := k) (n + (ownC k n cs).2.length) hr
    have e1 : ownCs k n ((b, cs) :: xs) = ((b, (ownC k n cs).1) :: (ownCs k (n + (ownC k n cs).2.length) xs).1, (ownC k n cs).2 ++ (ownCs k (n + (ownC k n cs).2.length) xs).2) := by
      simp only [ownCs, len_eq]
    rw [e1]
    refine ⟨t1 ++ t2, by simp [a1, b1], by simp [a2, b2], fun j e t p q => ?_, fun X β' m' hkm hm => ?_⟩
    · by_cases hj : j < (ownC k n cs).2.length
      · rw [List.getElem?_append_left hj] at p
        rw [List.getElem?_append_left (by omega)] at q
        exact a3 j e t p q
      · rw [List.getElem?_append_right (by omega)] at p
        rw [List.getElem?_append_right (by omega), a1] at q
        exact b3 _ e t p q
    · have m1 := a4 X β' m' hkm (fun j e t p q => by
        have hj := lt_of_some p
        exact hm j e t (by rw [List.getElem?_append_left hj]; exact p) (by rw [List.getElem?_append_left (by omega)]; exact q))
      have m2 := b4 X β' m' hkm (fun j e t p q => by
        have := hm ((ownC k n cs).2.length + j) e t (by rw [List.getElem?_append_right (by omega)]; simpa using p) (by rw [List.getElem?_append_right (by omega), a1]; simpa using q)
        rw [show n + ((ownC k n cs).2.length + j) = n + (ownC k n cs).2.length + j by omega] at this; exact this)
      refine ⟨by simp [m2.1], fun i u x p q => ?_⟩
      cases i with
      | zero =>
        simp at p q; subst p; subst q
        exact hMp X β' m' _ m1 (by rw [← m1.1, hu.len])
      | succ i => exact m2.2 i u x (by simpa using p) (by simpa using q)
theorem fresh_result {v : Value} {cps : List (Bool × List (Lf U))} {B : List Nat} {k n : Nat} (h : OwR C w v cps B) :
    ∃ ts : List Tr, ts.length = (ownCs k n cps).2.length ∧ (ts.map Tr.all).flatten = B ∧ (∀ (j : Nat) (e : EO U) (t : Tr), (ownCs k n cps).2[j]? = some e → ts[j]? = some t → e.rv = k ∧ e.cv = k ∧ ∃ τ l xs, e.ob = .tree τ true l ∧ 0 < U.K τ ∧ w.ownsRow 0 τ (U.K τ) t.val l.length xs ∧ OwL C w (fun _ => False) true xs (l.map (C.cel τ)).flatten t.bs) ∧
      ∀ (X : Nat → Prop) (β' : List Tr) (m' : Mm U), k ≤ m'.k → (∀ (j : Nat) (e : EO U) (t : Tr), (ownCs k n cps).2[j]? = some e → ts[j]? = some t → m'.o[n + j]? = some e ∧ β'[n + j]? = some t) → (cpsSv (ownCs k n cps).1).mean C w X β' m' v := by
  have many : (∀ x, cps ≠ [x]) → (∃ vs : List Value, v = .tuple vs.toArray ∧ OwPs C w vs cps B) → ∃ ts : List Tr, ts.length = (ownCs k n cps).2.length ∧ (ts.map Tr.all).flatten = B ∧ (∀ (j : Nat) (e : EO U) (t : Tr), (ownCs k n cps).2[j]? = some e → ts[j]? = some t → e.rv = k ∧ e.cv = k ∧ ∃ τ l xs, e.ob = .tree τ true l ∧ 0 < U.K τ ∧ w.ownsRow 0 τ (U.K τ) t.val l.length xs ∧ OwL C w (fun _ => False) true xs (l.map (C.cel τ)).flatten t.bs) ∧
      ∀ (X : Nat → Prop) (β' : List Tr) (m' : Mm U), k ≤ m'.k → (∀ (j : Nat) (e : EO U) (t : Tr), (ownCs k n cps).2[j]? = some e → ts[j]? = some t → m'.o[n + j]? = some e ∧ β'[n + j]? = some t) → (cpsSv (ownCs k n cps).1).mean C w X β' m' v := fun hn ⟨vs, hv, ho⟩ => by
    obtain ⟨ts, a1, a2, a3, a4⟩ := ownCs_spec (k := k) n ho
    refine ⟨ts, a1, a2, a3, fun X β' m' hk hm => ?_⟩
    obtain ⟨m1, m2⟩ := a4 X β' m' hk hm
    have hl : vs.length = cps.length := by
      have : ∀ {vs : List Value} {cps : List (Bool × List (Lf U))} {B : List Nat}, OwPs C w vs cps B → vs.length = cps.length := by
        intro vs cps B h
        induction h with
        | n => rfl
        | c _ _ ih => simp [ih]
      exact this ho
    have e : cpsSv (ownCs k n cps).1 = .t (ownCs k n cps).1 := by
      have hlen : (ownCs k n cps).1.length ≠ 1 := by
        rw [← m1, hl]
        intro h1
        match cps, hn, h1 with
        | [x], hn, _ => exact hn x rfl
      generalize (ownCs k n cps).1 = ys at hlen
      match ys, hlen with
      | [], _ => rfl
      | [_], h => exact absurd rfl h
      | _ :: _ :: _, _ => rfl
    rw [e]
    exact ⟨vs, hv, m1, m2⟩
  match cps, many, h with
  | [], many, h => exact many (by simp) h
  | [x], _, h =>
    have h1 : OwPs C w [v] [x] B := by simpa using OwPs.c (h : OwP C w v B x) .n
    obtain ⟨ts, a1, a2, a3, a4⟩ := ownCs_spec (k := k) n h1
    refine ⟨ts, a1, a2, a3, fun X β' m' hk hm => ?_⟩
    obtain ⟨m1, m2⟩ := a4 X β' m' hk hm
    obtain ⟨b, cs⟩ := x
    have e1 : (ownCs k n [(b, cs)]).1 = [(b, (ownC k n cs).1)] := rfl
    rw [e1] at m2 ⊢
    exact cpSv_mean (m2 0 v _ rfl rfl)
  | _ :: _ :: _, many, h => exact many (by simp) h

theorem callFresh_sound (r : Rel Y.C E s a w β) {o : Oper} {f : FuncId} {xa : Array Operand} {ats : Array TypeId} {S : Sum U} {z : Tup U S.ar} {q : Tup U S.rs} (ho : o.op = .call { callee := .value (.func f), args := xa, argTypes := ats })
    (hS : SumOk P g Y f S) (hz : svsTy Y s.m S.ar (xa.toList.map (opd s)) = some z) (hmk : S.wt = false) (hfr : S.fr = true) (hq : S.m z = some q) :
    SO P Y.C E a w o (cpsSv (ownCs s.m.k (len s.m.o) (toCps Y S.rs q)).1) ⟨s.t, ⟨s.m.o ++ (ownCs s.m.k (len s.m.o) (toCps Y S.rs q)).2, s.m.k, s.m.ns⟩, s.fr⟩ true := fun K Q hK => by
  have hsp := (hS z q hq).2.1 hmk hfr
  have hm : ∀ (i : Nat) (v : Value) (x : Sv U), (xa.toList.map a.eval)[i]? = some v → (xa.toList.map (opd s))[i]? = some x → x.mean Y.C w (E.X β) β s.m v := fun i v x p q => by
    obtain ⟨y, rfl, rfl⟩ := args_eval i v x p q; exact opd_mean r
  have hrd := svsTy_mean r (Z := E.X0) (fun b hb => .inl hb) S.ar hz (by simp) hm (.inr (X0_free r))
  refine wpc (call_enter ho hsp.1) (R' := fun v w' => ∃ B, Ext w w' ∧ B.Nodup ∧ (∀ b ∈ B, w.heap.size ≤ b) ∧ OwR Y.C w' v (toCps Y S.rs q) B) ((hsp.2 w E.X0 _ r.hp.gw (fun b hb => r.hp.X_lt b (.inl hb)) hrd).mono ?_) ?_
  · rintro e w' ⟨v, B, e1, e2⟩; exact ⟨v, e1, B, e2⟩
  · rintro v w' ⟨B, he, hnd, hfresh, hR⟩
    obtain ⟨ts, a1, a2, a3, a4⟩ := fresh_result (k := s.m.k) (n := len s.m.o) hR
    generalize hes : (ownCs s.m.k (len s.m.o) (toCps Y S.rs q)).2 = es at a1 a3 a4 hK
    have hz1 : (es.zip ts).map (·.1) = es := List.map_fst_zip (by omega)
    have hz2 : (es.zip ts).map (·.2) = ts := List.map_snd_zip (by omega)
    have hget : ∀ x ∈ es.zip ts, ∃ j, es[j]? = some x.1 ∧ ts[j]? = some x.2 := fun x hx => by
      obtain ⟨j, hj⟩ := List.mem_iff_getElem?.1 hx
      rw [List.getElem?_zip_eq_some] at hj
      exact ⟨j, hj⟩
    have hB : ∀ x ∈ es.zip ts, ∀ b ∈ x.2.all, b ∈ B := fun x hx b hb => by
      obtain ⟨j, _, hj⟩ := hget x hx
      rw [← a2]
      exact List.mem_flatten.2 ⟨_, List.mem_map.2 ⟨_, List.mem_of_getElem? hj, rfl⟩, hb⟩
    have r1 := r.add he (es.zip ts) (fun x hx => by
        obtain ⟨j, h1, h2⟩ := hget x hx
        have := a3 j x.1 x.2 h1 h2
        rw [this.1, this.2.1]; exact ⟨Nat.le_refl _, Nat.le_refl _⟩)
      (fun x hx b hb => by
        obtain ⟨j, h1, h2⟩ := hget x hx
        refine ⟨hfresh b (hB x hx b hb), ?_⟩
        obtain ⟨_, _, τ, l, xs, _, c2, c3, c4⟩ := a3 j x.1 x.2 h1 h2
        have ho : Ow Y.C w' (fun _ => False) true x.2.val (.sl τ l) x.2.all := .sl x.2 c2 c3 c4
        exact ho.lt b hb)
      (by
        have e : ((es.zip ts).map fun x => x.2.all) = ts.map Tr.all := by
          have := congrArg (List.map Tr.all) hz2
          rw [List.map_map] at this; exact this
        rw [e, a2]; exact hnd)
      (fun hev x hx => by
        obtain ⟨j, h1, h2⟩ := hget x hx
        obtain ⟨_, _, τ, l, xs, c1, c2, c3, c4⟩ := a3 j x.1 x.2 h1 h2
        rw [c1]
        exact ⟨c2, xs, c3, c4.anyX rfl⟩)
    rw [hz1, hz2] at r1
    refine hK v w' _ r1 (fun _ => a4 _ _ _ (Nat.le_refl _) (fun j e t p q => ?_)) (fun _ => he)
    rw [len_eq]
    refine ⟨by rw [List.getElem?_append_right (Nat.le_add_right _ _), Nat.add_sub_cancel_left]; exact p, ?_⟩
    rw [← r.hp.len, List.getElem?_append_right (Nat.le_add_right _ _), Nat.add_sub_cancel_left]; exact q
end
end Go.EV
