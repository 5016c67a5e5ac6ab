/-
  THE EVALUATOR's KIT, twenty-second part: the state behind a join: its objects. Plain theorems over any program; the conditions stand in each.
-/
import Derived.Test.YtiojlennpdmapaaGreatEVu
set_option linter.unusedVariables false
set_option linter.unusedSimpArgs false
namespace Go.EV
open Go.RowKit Go.VK
variable {U : Uni} {Y : Lay U} {P : Program} {g : GI} {E : Env g}

/-! ### Data of a template, one by one -/
def Dhd : {x : DI} → {xs : List DI} → Dat U (x :: xs) → x.ty U
  | _, [], d => d
  | _, _ :: _, d => d.1
def Dtl : {x : DI} → {xs : List DI} → Dat U (x :: xs) → Dat U xs
  | _, [], _ => ()
  | _, _ :: _, d => d.2
theorem gets_cons {s : St U} {x : DI} {xs : List DI} {d : Dat U (x :: xs)} (h : gets Y s (x :: xs) = some d) : get1 Y s x = some (Dhd d) ∧ gets Y s xs = some (Dtl d) := by
  cases xs with
  | nil => exact ⟨h, rfl⟩
  | cons x' xs =>
    simp only [gets] at h
    cases h1 : get1 Y s x with
    | none => rw [h1] at h; cases h
    | some a =>
      cases h2 : gets Y s (x' :: xs) with
      | none => rw [h1, h2] at h; cases h
      | some b => rw [h1, h2] at h; have := Option.some.inj h; subst this; exact ⟨rfl, rfl⟩
theorem putT_cons {k : Nat} {x : DI} {xs : List DI} {d : Dat U (x :: xs)} {o : List (EO U)} : putT k (x :: xs) d o = putT k xs (Dtl d) (putT1 k x (Dhd d) o) := by
  cases xs with
  | nil => rfl
  | cons => rfl
theorem sets_cons {k n : Nat} {x : DI} {xs : List DI} {d : Dat U (x :: xs)} {s : St U} : sets Y k n s (x :: xs) d = sets Y k (nxt n x) (set1 Y k n s x (Dhd d)) xs (Dtl d) := by
  cases xs with
  | nil => rfl
  | cons => rfl

/-! ### Cells that are forgotten -/
theorem forC_len {k : Nat} : ∀ {l : List (Nat × Nat)} {o : List (EO U)}, (forC k l o).length = o.length
  | [], o => rfl
  | x :: l, o => by
    have e : forC k (x :: l) o = match nth (forC k l o) x.1 with | some ⟨.box T cs vs, _, _⟩ => upd (forC k l o) x.1 ⟨.box T (upd cs x.2 .any) (upd vs x.2 k), k, k⟩ | _ => forC k l o := rfl
    rw [e]
    split
    · rw [upd_eq, List.length_set]; exact forC_len
    · exact forC_len
theorem forC_get {k : Nat} {o : List (EO U)} {j : Nat} {e : EO U} (he : o[j]? = some e) : ∀ (l : List (Nat × Nat)), ∃ e', (forC k l o)[j]? = some e' ∧ ((e.ob.isBox = false ∨ hasB j l = false) → e' = e) ∧
    (∀ T cs vs, e.ob = .box T cs vs → ∃ cs' vs', e'.ob = .box T cs' vs' ∧ cs'.length = cs.length ∧ vs'.length = vs.length ∧ (hasB j l = true → e'.rv = k ∧ e'.cv = k) ∧
      ∀ i, (hasA j i l = true → ∀ c, cs'[i]? = some c → c = .any) ∧ (hasA j i l = true → ∀ v, vs'[i]? = some v → v = k) ∧ (hasA j i l = false → cs'[i]? = cs[i]? ∧ vs'[i]? = vs[i]?))
  | [] => ⟨e, he, fun _ => rfl, fun T cs vs h => ⟨cs, vs, h, rfl, rfl, fun h => (by cases h), fun i => ⟨fun h => (by cases h), fun h => (by cases h), fun _ => ⟨rfl, rfl⟩⟩⟩⟩
  | (b, p) :: l => by
    obtain ⟨e1, h1, h2, h3⟩ := forC_get he l
    have e0 : forC k ((b, p) :: l) o = match nth (forC k l o) b with | some ⟨.box T cs vs, _, _⟩ => upd (forC k l o) b ⟨.box T (upd cs p .any) (upd vs p k), k, k⟩ | _ => forC k l o := rfl
    have eB : hasB j ((b, p) :: l) = cond (Nat.beq b j) true (hasB j l) := rfl
    have eA : ∀ i, hasA j i ((b, p) :: l) = cond (Nat.beq b j && Nat.beq p i) true (hasA j i l) := fun _ => rfl
    rw [e0, eB]
    simp only [eA]
    by_cases hb : b = j
    · subst hb
      have hbb : Nat.beq b b = true := Nat.beq_refl b
      rw [nth_eq, h1, hbb]
      obtain ⟨ob, rv, cv⟩ := e1
      cases ob with
      | box T1 cs1 vs1 =>
        refine ⟨⟨.box T1 (upd cs1 p .any) (upd vs1 p k), k, k⟩, by show (upd (forC k l o) b _)[b]? = _; rw [upd_eq, List.getElem?_set_self (lt_of_some h1)], fun h => ?_, fun T cs vs h => ?_⟩
        · rcases h with h | h
          · have := h2 (.inl h); subst this; cases h
          · cases h
        · obtain ⟨cs', vs', k1, k2, k3, k4, k5⟩ := h3 T cs vs h
          injection k1 with q1 q2 q3; subst q1; subst q2; subst q3
          refine ⟨_, _, rfl, by rw [upd_eq, List.length_set, k2], by rw [upd_eq, List.length_set, k3], fun _ => ⟨rfl, rfl⟩, fun i => ?_⟩
          by_cases hp : p = i
          · subst hp
            have hpp : Nat.beq p p = true := Nat.beq_refl p
            simp only [hpp, Bool.and_self, cond_true]
            refine ⟨fun _ c hc => ?_, fun _ v hv => ?_, fun h => by cases h⟩
            · rw [upd_eq] at hc
              have hl : p < cs1.length := by have := lt_of_some hc; simpa using this
              rw [List.getElem?_set_self hl] at hc; exact (Option.some.inj hc).symm
            · rw [upd_eq] at hv
              have hl : p < vs1.length := by have := lt_of_some hv; simpa using this
              rw [List.getElem?_set_self hl] at hv; exact (Option.some.inj hv).symm
          · have hpp : Nat.beq p i = false := by
              cases hq : Nat.beq p i with
              | false => rfl
              | true => exact absurd (Nat.eq_of_beq_eq_true hq) hp
            simp only [hpp, Bool.and_false, cond_false]
            rw [upd_eq, upd_eq, List.getElem?_set_ne hp, List.getElem?_set_ne hp]
            exact k5 i
      | dead =>
        refine ⟨_, h1, fun h => ?_, fun T cs vs h => ?_⟩
        · refine h2 (.inl ?_)
          cases ho : e.ob with
          | box T cs vs => obtain ⟨_, _, k1, _⟩ := h3 T cs vs ho; cases k1
          | _ => rfl
        · obtain ⟨_, _, k1, _⟩ := h3 T cs vs h; cases k1
      | tree =>
        refine ⟨_, h1, fun h => ?_, fun T cs vs h => ?_⟩
        · refine h2 (.inl ?_)
          cases ho : e.ob with
          | box T cs vs => obtain ⟨_, _, k1, _⟩ := h3 T cs vs ho; cases k1
          | _ => rfl
        · obtain ⟨_, _, k1, _⟩ := h3 T cs vs h; cases k1
    · have hbb : Nat.beq b j = false := by
        cases hq : Nat.beq b j with
        | false => rfl
        | true => exact absurd (Nat.eq_of_beq_eq_true hq) hb
      simp only [hbb, Bool.false_and, cond_false]
      refine ⟨e1, ?_, h2, h3⟩
      split
      · rw [upd_eq, List.getElem?_set_ne hb]; exact h1
      · exact h1

/-! ### The state before, with all that turns taken out -/
theorem chkC_spec {cs : List (Nat × Nat)} {k b : Nat} : ∀ {j : Nat} {vs : List Nat}, chkC cs k b j vs = true → ∀ (i v : Nat), vs[i]? = some v → v ≤ k ∨ hasA b (j + i) cs = true
  | j, [], _, i, v, h => by simp at h
  | j, x :: vs, h, i, v, hv => by
    simp only [chkC, Bool.and_eq_true, Bool.or_eq_true] at h
    cases i with
    | zero => simp at hv; subst hv; exact h.1.imp Nat.le_of_ble_eq_true id
    | succ i =>
      have := chkC_spec h.2 i v (by simpa using hv)
      rwa [show Nat.succ j + i = j + (i + 1) by omega] at this
theorem chkO_spec {cs : List (Nat × Nat)} {dd : List Nat} {k : Nat} : ∀ {i : Nat} {es es' : List (EO U)}, chkO cs dd k i es es' = true → ∀ (j : Nat) (e : EO U), es[j]? = some e → ∃ e', es'[j]? = some e' ∧ (e'.cv ≤ k ∨ (i + j) ∈ dd ∨ ∃ T c vs, e'.ob = .box T c vs ∧ hasB (i + j) cs = true ∧ ∀ (p v : Nat), vs[p]? = some v → v ≤ k ∨ hasA (i + j) p cs = true)
  | i, [], es', _, j, e, h => by simp at h
  | i, x :: es, [], h, j, e, he => by cases h
  | i, x :: es, y :: es', h, j, e, he => by
    simp only [chkO, Bool.and_eq_true, Bool.or_eq_true] at h
    cases j with
    | zero =>
      refine ⟨y, rfl, ?_⟩
      rcases h.1 with h1 | h1 | h1
      · exact .inl (Nat.le_of_ble_eq_true h1)
      · exact .inr (.inl (memb_iff.1 h1))
      · refine .inr (.inr ?_)
        obtain ⟨ob, rv, cv⟩ := y
        cases ob with
        | box T c vs =>
          simp only [Bool.and_eq_true] at h1
          exact ⟨T, c, vs, rfl, h1.1, fun p v hv => by have := chkC_spec h1.2 p v hv; rwa [Nat.zero_add] at this⟩
        | _ => cases h1
    | succ j =>
      obtain ⟨e', q1, q2⟩ := chkO_spec h.2 j e (by simpa using he)
      rw [show Nat.succ i + j = i + (j + 1) by omega] at q2
      exact ⟨e', by simpa using q1, q2⟩

def sg0 (dd : List Nat) (N : Nat) : List (Option Nat) := (List.range N).map fun j => if j ∈ dd then none else some j
theorem sg0_len {dd : List Nat} {N : Nat} : (sg0 dd N).length = N := by simp [sg0]
theorem sg0_get {dd : List Nat} {N j : Nat} {q : Option Nat} (h : (sg0 dd N)[j]? = some q) : j < N ∧ ((j ∈ dd ∧ q = none) ∨ (j ∉ dd ∧ q = some j)) := by
  have hl : j < N := by have := lt_of_some h; rwa [sg0_len] at this
  refine ⟨hl, ?_⟩
  rw [sg0, List.getElem?_map, List.getElem?_range hl] at h
  simp only [Option.map_some, Option.some.injEq] at h
  by_cases hd : j ∈ dd
  · rw [if_pos hd] at h; exact .inl ⟨hd, h.symm⟩
  · rw [if_neg hd] at h; exact .inr ⟨hd, h.symm⟩

/-- What holds while trees are put in. -/
structure Inv (N M K k : Nat) (m : Mm U) (σ : List (Option Nat)) (o : List (EO U)) : Prop where
  len : σ.length = o.length
  ge : N ≤ o.length
  inj : ∀ (j j' i : Nat), σ[j]? = some (some i) → σ[j']? = some (some i) → j = j'
  ver : ∀ (i : Nat) (e : EO U), o[i]? = some e → e.rv ≤ k ∧ e.cv ≤ k
  src : ∀ (j : Nat) (q : Option Nat) (e' : EO U), σ[j]? = some q → o[j]? = some e' → Src N M K m q j e'

section
variable {C : Cod U} {b s : St U} {a a0 : Act} {w w0 : World} {β β0 : List Tr} {D : Nat → Prop}
theorem Rel.obd (r : Rel C E b a0 w0 β0) {j : Nat} {e : EO U} (h : b.m.o[j]? = some e) : e.ob.bd b.m.o.length b.m.ns.length b.m.k := by
  obtain ⟨t, ht⟩ := r.hp.tr h
  have := r.hp.ok j t e ht h
  generalize e.ob = x at this ⊢
  cases x with
  | box T cs vs => obtain ⟨_, b', vs', _, _, _, h4⟩ := this; exact h4.bd
  | _ => trivial
theorem inv0 (rb : Rel C E b a0 w0 β0) (hag : Am b.m s.m) {cs : List (Nat × Nat)} {dd : List Nat} (hc : chkO cs dd b.m.k 0 b.m.o s.m.o = true) :
    Inv b.m.o.length b.m.ns.length b.m.k (Nat.succ b.m.k) s.m (sg0 dd b.m.o.length) (forC (Nat.succ b.m.k) cs (kil (Nat.succ b.m.k) dd b.m.o)) := by
  have hlen : (forC (Nat.succ b.m.k) cs (kil (Nat.succ b.m.k) dd b.m.o)).length = b.m.o.length := by rw [forC_len, kil_len]
  refine ⟨by rw [sg0_len, hlen], by rw [hlen]; exact Nat.le_refl _, fun j j' i h1 h2 => ?_, fun j e' he' => ?_, fun j q e' hq he' => ?_⟩
  · obtain ⟨_, h1⟩ := sg0_get h1
    obtain ⟨_, h2⟩ := sg0_get h2
    rcases h1 with ⟨_, h1⟩ | ⟨_, h1⟩
    · cases h1
    · rcases h2 with ⟨_, h2⟩ | ⟨_, h2⟩
      · cases h2
      · exact (Option.some.inj h1).symm.trans (Option.some.inj h2)
  · have hl : j < b.m.o.length := by have := lt_of_some he'; rwa [hlen] at this
    by_cases hd : j ∈ dd
    · obtain ⟨e1, h1, h2, _⟩ := forC_get (k := Nat.succ b.m.k) (kil_in (k := Nat.succ b.m.k) hd hl) cs
      rw [he'] at h1; have := Option.some.inj h1; subst this
      rw [h2 (.inl rfl)]; exact ⟨Nat.le_refl _, Nat.le_refl _⟩
    · have h0 := kil_out (k := Nat.succ b.m.k) (o := b.m.o) hd
      rw [List.getElem?_eq_getElem hl] at h0
      have hv := rb.hp.vers j _ (List.getElem?_eq_getElem hl)
      obtain ⟨e1, h1, h2, h3⟩ := forC_get (k := Nat.succ b.m.k) h0 cs
      rw [he'] at h1; have := Option.some.inj h1; subst this
      by_cases hk : (b.m.o[j]).ob.isBox = false ∨ hasB j cs = false
      · rw [h2 hk]; exact ⟨Nat.le_succ_of_le hv.1, Nat.le_succ_of_le hv.2⟩
      · cases ho : (b.m.o[j]).ob with
        | box T c vs =>
          obtain ⟨_, _, _, _, _, h4, _⟩ := h3 T c vs ho
          have hB : hasB j cs = true := by
            cases hh : hasB j cs with
            | true => rfl
            | false => exact absurd (.inr hh) hk
          obtain ⟨q1, q2⟩ := h4 hB
          rw [q1, q2]; exact ⟨Nat.le_refl _, Nat.le_refl _⟩
        | _ => exact absurd (.inl (by rw [ho]; rfl)) hk
  · obtain ⟨hl, hq⟩ := sg0_get hq
    rcases hq with ⟨hd, rfl⟩ | ⟨hd, rfl⟩
    · obtain ⟨e1, h1, h2, _⟩ := forC_get (k := Nat.succ b.m.k) (kil_in (k := Nat.succ b.m.k) hd hl) cs
      rw [he'] at h1; have := Option.some.inj h1; subst this
      rw [h2 (.inl rfl)]
      exact .dead rfl ⟨Nat.lt_succ_self _, Nat.lt_succ_self _⟩
    · have hb : b.m.o[j]? = some b.m.o[j] := List.getElem?_eq_getElem hl
      have h0 : (kil (Nat.succ b.m.k) dd b.m.o)[j]? = some b.m.o[j] := by rw [kil_out hd]; exact hb
      obtain ⟨e1, h1, h2, h3⟩ := forC_get (k := Nat.succ b.m.k) h0 cs
      rw [he'] at h1; have := Option.some.inj h1; subst this
      obtain ⟨es, hs1, hs2⟩ := chkO_spec hc j _ hb
      rw [Nat.zero_add] at hs2
      obtain ⟨am1, am2, am3⟩ := hag.o j _ es hb hs1
      by_cases hk : (b.m.o[j]).ob.isBox = false ∨ hasB j cs = false
      · have he := h2 hk
        rw [he]
        refine .keep rfl ?_ (rb.obd hb)
        rcases hs2 with h | h | ⟨T, c, vs, h, h', _⟩
        · rw [← am1 h]; exact hs1
        · exact absurd h hd
        · rcases hk with hk | hk
          · rw [am2 (by rw [h]; rfl)] at hk; cases hk
          · rw [h'] at hk; cases hk
      · have hB : hasB j cs = true := by
          cases hh : hasB j cs with
          | true => rfl
          | false => exact absurd (.inr hh) hk
        cases ho : (b.m.o[j]).ob with
        | box T c vs =>
          obtain ⟨cs', vs', k1, k2, k3, k4, k5⟩ := h3 T c vs ho
          obtain ⟨q1, q2⟩ := k4 hB
          have hbl : c.length = vs.length := rb.boxLen (b := j) (T := T) (rv := (b.m.o[j]).rv) (cv := (b.m.o[j]).cv) (by rw [hb, ← ho])
          have hbd := rb.obd hb
          rw [ho] at hbd
          have hv : b.m.k < e'.rv ∧ b.m.k < e'.cv := by rw [q1, q2]; exact ⟨Nat.lt_succ_self _, Nat.lt_succ_self _⟩
          have cell : ∀ (cS : List (Lf U)), (∀ (i : Nat), hasA j i cs = false → i < c.length → cS[i]? = c[i]?) → ∀ (i : Nat) (x : Lf U), cs'[i]? = some x → x = .any ∨ (cS[i]? = some x ∧ x.bd b.m.o.length b.m.ns.length b.m.k) := fun cS hS i x hx => by
            cases hA : hasA j i cs with
            | true => exact .inl ((k5 i).1 hA x hx)
            | false =>
              have h5 := ((k5 i).2.2 hA).1
              rw [hx] at h5
              have hil : i < c.length := lt_of_some h5.symm
              exact .inr ⟨(hS i hA hil).trans h5.symm, hbd x (List.mem_of_getElem? h5.symm)⟩
          rcases hs2 with h | h | ⟨T1, c1, vs1, h, _, h'⟩
          · have e1 := am1 h
            exact .box rfl hs1 (by rw [e1]; exact ho) k1 k2 (by rw [k2, k3, hbl]) (cell c (fun _ _ _ => rfl)) hv
          · exact absurd h hd
          · obtain ⟨p1, p2, p3, p4⟩ := am3 T c vs T1 c1 vs1 ho h
            refine .box rfl hs1 (by rw [h, p1]) k1 (by rw [k2, p2]) (by rw [k2, k3, hbl]) (cell c1 (fun i hA hil => ?_)) hv
            have hvl : i < vs1.length := by rw [p3, ← hbl]; exact hil
            rcases h' i _ (List.getElem?_eq_getElem hvl) with h'' | h''
            · exact (p4 i _ (List.getElem?_eq_getElem hvl) h'').1
            · rw [hA] at h''; cases h''
        | _ => exact absurd (.inl (by rw [ho]; rfl)) hk

/-! ### Trees are put in -/
def sgm : List (Option Nat × Option Nat) → List (Option Nat) → List (Option Nat)
  | [], σ => σ
  | (some i, x) :: q, σ => sgm q (σ.set i x)
  | (none, x) :: q, σ => sgm q (σ ++ [x])
/-- Where the template's trees stand, and what they are. -/
def Plc (k : Nat) (σ : List (Option Nat)) (o : List (EO U)) (s : St U) : Nat → List DI → Prop
  | _, [] => True
  | n, .tr l i τ d :: xs => (∃ v q e, lkp s l = some v ∧ treeAt s.m τ d v = some q ∧ σ[i]? = some q.1 ∧ o[i]? = some e ∧ e.rv = k) ∧ Plc k σ o s n xs
  | n, .nt l τ d :: xs => (∃ v q e, lkp s l = some v ∧ treeAt s.m τ d v = some q ∧ σ[n]? = some q.1 ∧ o[n]? = some e ∧ e.rv = k) ∧ Plc k σ o s (Nat.succ n) xs
  | n, _ :: xs => Plc k σ o s n xs
theorem snds_cons {x : Option Nat × Option Nat} {q : List (Option Nat × Option Nat)} : snds (x :: q) = (match x.2 with | some i => i :: snds q | none => snds q) := by
  obtain ⟨x1, x2⟩ := x
  cases x2 <;> rfl
theorem treeAt_src {m : Mm U} {N M K k : Nat} {τ : Nat} {d : Bool} {v : Sv U} {q : Option Nat × List (U.El τ)} (h : treeAt m τ d v = some q) (hk : K < k) {j : Nat} : Src N M K m q.1 j ⟨.tree τ d q.2, k, k⟩ := by
  unfold treeAt at h
  split at h
  · cases hb : Nat.ble 1 (U.K τ) with
    | false => rw [hb] at h; cases h
    | true =>
      rw [hb] at h
      have := Option.some.inj h; subst this
      exact .nil rfl rfl (Nat.le_of_ble_eq_true hb) ⟨hk, hk⟩
  · rename_i i r
    rw [nth_eq] at h
    split at h
    · rename_i τ' d' l rv cv he
      cases hb : (Nat.beq rv r && (d' || !d)) with
      | false => rw [hb] at h; cases h
      | true =>
        rw [hb] at h
        simp only [cond_true] at h
        cases hq : slq τ τ' l with
        | none => rw [hq] at h; cases h
        | some l' =>
          rw [hq] at h
          have := Option.some.inj h; subst this
          obtain ⟨rfl, hl⟩ := slq_some hq
          have hl := eq_of_heq hl; subst hl
          simp only [Bool.and_eq_true, Bool.or_eq_true] at hb
          refine .tree rfl he rfl (fun hd => ?_) rfl ⟨hk, hk⟩
          rcases hb.2 with h | h
          · exact h
          · rw [hd] at h; cases h
    · cases h
  · cases h

theorem tiAt_src {m : Mm U} {N M K k i : Nat} {τ : Nat} {d : Bool} {l : List (U.El τ)} (h : tiAt m i τ d = some l) (hk : K < k) : Src N M K m (some i) i ⟨.tree τ d l, 0, k⟩ := by
  unfold tiAt at h
  rw [nth_eq] at h
  split at h
  · rename_i τ' d' l' rv cv he
    cases hb : (Nat.beq rv 0 && (d' || !d)) with
    | false => rw [hb] at h; cases h
    | true =>
      rw [hb] at h
      simp only [cond_true] at h
      obtain ⟨rfl, hl⟩ := slq_some h
      have hl := eq_of_heq hl; subst hl
      simp only [Bool.and_eq_true, Bool.or_eq_true] at hb
      refine .ti rfl he rfl (fun hd => ?_) rfl (Nat.eq_of_beq_eq_true hb.1).symm hk
      rcases hb.2 with h | h
      · exact h
      · rw [hd] at h; cases h
  · cases h
theorem Inv.set {N M K k : Nat} {m : Mm U} {σ : List (Option Nat)} {o : List (EO U)} (h : Inv N M K k m σ o) {i : Nat} {q : Option Nat} {e : EO U} (hq : ∀ x, q = some x → ∀ j : Nat, σ[j]? ≠ some (some x)) (hv : e.rv ≤ k ∧ e.cv ≤ k) (hs : Src N M K m q i e) : Inv N M K k m (σ.set i q) (o.set i e) := by
  refine ⟨by simp [h.len], by simpa using h.ge, fun j j' x h1 h2 => ?_, fun j e' he => ?_, fun j q' e' h1 h2 => ?_⟩
  · by_cases hj : i = j
    · by_cases hj' : i = j'
      · exact hj.symm.trans hj'
      · subst hj
        rw [List.getElem?_set_ne hj'] at h2
        have hl : i < σ.length := by have := lt_of_some h1; simpa using this
        rw [List.getElem?_set_self hl] at h1
        exact absurd h2 (hq x (Option.some.inj h1) j')
    · rw [List.getElem?_set_ne hj] at h1
      by_cases hj' : i = j'
      · subst hj'
        have hl : i < σ.length := by have := lt_of_some h2; simpa using this
        rw [List.getElem?_set_self hl] at h2
        exact absurd h1 (hq x (Option.some.inj h2) j)
      · rw [List.getElem?_set_ne hj'] at h2; exact h.inj j j' x h1 h2
  · by_cases hj : i = j
    · subst hj
      have hl : i < o.length := by have := lt_of_some he; simpa using this
      rw [List.getElem?_set_self hl] at he
      have := Option.some.inj he; subst this; exact hv
    · rw [List.getElem?_set_ne hj] at he; exact h.ver j e' he
  · by_cases hj : i = j
    · subst hj
      have hl : i < o.length := by have := lt_of_some h2; simpa using this
      rw [List.getElem?_set_self (by rw [h.len]; exact hl)] at h1
      rw [List.getElem?_set_self hl] at h2
      have := Option.some.inj h1; subst this
      have := Option.some.inj h2; subst this
      exact hs
    · rw [List.getElem?_set_ne hj] at h1 h2; exact h.src j q' e' h1 h2
theorem Inv.app {N M K k : Nat} {m : Mm U} {σ : List (Option Nat)} {o : List (EO U)} (h : Inv N M K k m σ o) {q : Option Nat} {e : EO U} (hq : ∀ x, q = some x → ∀ j : Nat, σ[j]? ≠ some (some x)) (hv : e.rv ≤ k ∧ e.cv ≤ k) (hs : Src N M K m q o.length e) : Inv N M K k m (σ ++ [q]) (o ++ [e]) := by
  have hσ : ∀ (j : Nat) (x : Option Nat), (σ ++ [q])[j]? = some x → (σ[j]? = some x) ∨ (j = o.length ∧ x = q) := fun j x hx => by
    by_cases hl : j < σ.length
    · rw [List.getElem?_append_left hl] at hx; exact .inl hx
    · rw [List.getElem?_append_right (by omega)] at hx
      cases hz : j - σ.length with
      | zero => rw [hz] at hx; simp at hx; exact .inr ⟨by have := h.len; omega, hx.symm⟩
      | succ n => rw [hz] at hx; simp at hx
  have ho : ∀ (j : Nat) (x : EO U), (o ++ [e])[j]? = some x → (o[j]? = some x) ∨ (j = o.length ∧ x = e) := fun j x hx => by
    by_cases hl : j < o.length
    · rw [List.getElem?_append_left hl] at hx; exact .inl hx
    · rw [List.getElem?_append_right (by omega)] at hx
      cases hz : j - o.length with
      | zero => rw [hz] at hx; simp at hx; exact .inr ⟨by omega, hx.symm⟩
      | succ n => rw [hz] at hx; simp at hx
  refine ⟨by simp [h.len], by have := h.ge; simp; omega, fun j j' x h1 h2 => ?_, fun j e' he => ?_, fun j q' e' h1 h2 => ?_⟩
  · rcases hσ j _ h1 with h1 | ⟨e1, h1⟩ <;> rcases hσ j' _ h2 with h2 | ⟨e2, h2⟩
    · exact h.inj j j' x h1 h2
    · exact absurd h1 (hq x h2.symm j)
    · exact absurd h2 (hq x h1.symm j')
    · exact e1.trans e2.symm
  · rcases ho j _ he with h1 | ⟨_, rfl⟩
    · exact h.ver j e' h1
    · exact hv
  · rcases hσ j _ h1 with h1 | ⟨e1, rfl⟩ <;> rcases ho j _ h2 with h2 | ⟨e2, rfl⟩
    · exact h.src j q' e' h1 h2
    · have := lt_of_some h1; have := h.len; omega
    · have := lt_of_some h2; omega
    · subst e1; exact hs

theorem Plc.mono {k : Nat} {σ σ' : List (Option Nat)} {o o' : List (EO U)} {s : St U} : ∀ {xs : List DI} {n : Nat}, (∀ i ∈ trsOf xs, o'[i]? = o[i]? ∧ σ'[i]? = σ[i]?) → (∀ i, n ≤ i → o'[i]? = o[i]? ∧ σ'[i]? = σ[i]?) → Plc k σ o s n xs → Plc k σ' o' s n xs
  | [], _, _, _, h => h
  | .tr l i τ d :: xs, n, h1, h2, ⟨⟨v, q, e, a1, a2, a3, a4, a5⟩, h⟩ => by
    obtain ⟨b1, b2⟩ := h1 i (by simp [trsOf])
    exact ⟨⟨v, q, e, a1, a2, b2.trans a3, b1.trans a4, a5⟩, Plc.mono (fun j hj => h1 j (by simp [trsOf, hj])) h2 h⟩
  | .nt l τ d :: xs, n, h1, h2, ⟨⟨v, q, e, a1, a2, a3, a4, a5⟩, h⟩ => by
    obtain ⟨b1, b2⟩ := h2 n (Nat.le_refl _)
    exact ⟨⟨v, q, e, a1, a2, b2.trans a3, b1.trans a4, a5⟩, Plc.mono (fun j hj => h1 j (by simpa [trsOf] using hj)) (fun i hi => h2 i (by omega)) h⟩
  | .ti i τ d :: xs, n, h1, h2, h => Plc.mono (xs := xs) (n := n) (fun j hj => h1 j (by simp [trsOf, hj])) h2 h
  | .dat l kd :: xs, n, h1, h2, h => Plc.mono (xs := xs) (n := n) (fun j hj => h1 j (by simpa [trsOf] using hj)) h2 h
  | .nat l :: xs, n, h1, h2, h => Plc.mono (xs := xs) (n := n) (fun j hj => h1 j (by simpa [trsOf] using hj)) h2 h

theorem putT_inv {N M K k : Nat} {s : St U} (hk : K < k) : ∀ (xs : List DI) (q : List (Option Nat × Option Nat)) (d : Dat U xs) (σ : List (Option Nat)) (o : List (EO U)), srcs s xs = some q → gets Y s xs = some d → Inv N M K k s.m σ o → (∀ i ∈ snds q, ∀ j : Nat, σ[j]? ≠ some (some i)) → (snds q).Nodup → (∀ i ∈ trsOf xs, i < o.length) → (trsOf xs).Nodup →
    Inv N M K k s.m (sgm q σ) (putT k xs d o) ∧ Plc k (sgm q σ) (putT k xs d o) s o.length xs ∧ (∀ j, j < o.length → j ∉ trsOf xs → (putT k xs d o)[j]? = o[j]? ∧ (sgm q σ)[j]? = σ[j]?)
  | [], q, d, σ, o, hq, _, hI, _, _, _, _ => by
    have := Option.some.inj hq; subst this
    exact ⟨hI, trivial, fun _ _ _ => ⟨rfl, rfl⟩⟩
  | .dat l kd :: xs, q, d, σ, o, hq, hg, hI, h1, h2, h3, h4 => by
    rw [putT_cons]
    exact putT_inv hk xs q (Dtl d) σ o hq (gets_cons hg).2 hI h1 h2 h3 h4
  | .nat l :: xs, q, d, σ, o, hq, hg, hI, h1, h2, h3, h4 => by
    rw [putT_cons]
    exact putT_inv hk xs q (Dtl d) σ o hq (gets_cons hg).2 hI h1 h2 h3 h4
  | .ti i τ b :: xs, q, d, σ, o, hq, hg, hI, h1, h2, h3, h4 => by
    obtain ⟨g1, g2⟩ := gets_cons hg
    simp only [srcs] at hq
    simp only [get1] at g1
    cases hr : srcs s xs with
    | none => rw [hr] at hq; cases hq
    | some r =>
      rw [hr] at hq
      have := Option.some.inj hq; subst this
      rw [putT_cons]
      have hi : i < o.length := h3 i (by simp [trsOf])
      have e1 : putT1 k (.ti i τ b) (Dhd d) o = o.set i ⟨.tree τ b (Dhd d), 0, k⟩ := upd_eq _ _ _
      rw [e1]
      rw [snds_cons] at h1 h2
      simp only at h1 h2
      have hI' := hI.set (i := i) (q := some i) (e := ⟨.tree τ b (Dhd d), 0, k⟩) (fun x hx j => h1 x (by rw [Option.some.inj hx]; simp) j) ⟨Nat.zero_le _, Nat.le_refl _⟩ (tiAt_src g1 hk)
      obtain ⟨n1, n2⟩ := List.nodup_cons.1 (show (i :: trsOf xs).Nodup from h4)
      have hnx : ∀ x ∈ snds r, ∀ j : Nat, (σ.set i (some i))[j]? ≠ some (some x) := fun x hx j hj => by
        by_cases hij : i = j
        · subst hij
          rw [List.getElem?_set_self (by rw [hI.len]; exact hi)] at hj
          have hj := Option.some.inj (Option.some.inj hj)
          subst hj
          exact (List.nodup_cons.1 h2).1 hx
        · rw [List.getElem?_set_ne hij] at hj
          exact h1 x (by simp [hx]) j hj
      obtain ⟨p1, p2, p3⟩ := putT_inv hk xs r (Dtl d) (σ.set i (some i)) _ hr g2 hI' hnx (List.nodup_cons.1 h2).2 (fun j hj => by rw [List.length_set]; exact h3 j (by simp [trsOf, hj])) n2
      rw [List.length_set] at p2 p3
      refine ⟨p1, p2, fun j hj hjn => ?_⟩
      have hjn : j ≠ i ∧ j ∉ trsOf xs := by simpa [trsOf] using hjn
      obtain ⟨q1, q2⟩ := p3 j hj hjn.2
      exact ⟨by rw [q1, List.getElem?_set_ne (Ne.symm hjn.1)], by show (sgm r (σ.set i (some i)))[j]? = _; rw [q2, List.getElem?_set_ne (Ne.symm hjn.1)]⟩
  | .tr l i τ b :: xs, q, d, σ, o, hq, hg, hI, h1, h2, h3, h4 => by
    obtain ⟨g1, g2⟩ := gets_cons hg
    simp only [srcs] at hq
    simp only [get1] at g1
    cases hv : lkp s l with
    | none => rw [hv] at hq; cases hq
    | some v =>
      rw [hv] at hq g1
      simp only at hq g1
      cases ht : treeAt s.m τ b v with
      | none => rw [ht] at hq; cases hq
      | some t =>
        rw [ht] at hq g1
        simp only at hq g1
        cases hr : srcs s xs with
        | none => rw [hr] at hq; cases hq
        | some r =>
          rw [hr] at hq
          have := Option.some.inj hq; subst this
          have hd : t.2 = Dhd d := Option.some.inj g1
          rw [putT_cons]
          have hi : i < o.length := h3 i (by simp [trsOf])
          have e1 : putT1 k (.tr l i τ b) (Dhd d) o = o.set i ⟨.tree τ b t.2, k, k⟩ := by rw [hd]; exact upd_eq _ _ _
          rw [e1]
          rw [snds_cons] at h1 h2
          have hsub : ∀ x ∈ snds r, x ∈ (match t.1 with | some i => i :: snds r | none => snds r) := fun x hx => by cases t.1 <;> simp [hx]
          have hI' := hI.set (i := i) (q := t.1) (e := ⟨.tree τ b t.2, k, k⟩) (fun x hx j => h1 x (by simp only [hx]; simp) j) ⟨Nat.le_refl _, Nat.le_refl _⟩ (treeAt_src ht hk)
          obtain ⟨n1, n2⟩ := List.nodup_cons.1 (show (i :: trsOf xs).Nodup from h4)
          have hnx : ∀ x ∈ snds r, ∀ j : Nat, (σ.set i t.1)[j]? ≠ some (some x) := fun x hx j hj => by
            by_cases hij : i = j
            · subst hij
              rw [List.getElem?_set_self (by rw [hI.len]; exact hi)] at hj
              have hj := Option.some.inj hj
              simp only [hj] at h2
              exact (List.nodup_cons.1 h2).1 hx
            · rw [List.getElem?_set_ne hij] at hj
              exact h1 x (hsub x hx) j hj
          have hnd : (snds r).Nodup := by
            cases ht1 : t.1 with
            | none => simp only [ht1] at h2; exact h2
            | some x => simp only [ht1] at h2; exact (List.nodup_cons.1 h2).2
          obtain ⟨p1, p2, p3⟩ := putT_inv hk xs r (Dtl d) (σ.set i t.1) _ hr g2 hI' hnx hnd (fun j hj => by rw [List.length_set]; exact h3 j (by simp [trsOf, hj])) n2
          rw [List.length_set] at p2 p3
          refine ⟨p1, ⟨⟨v, t, ⟨.tree τ b t.2, k, k⟩, hv, ht, ?_, ?_, rfl⟩, p2⟩, fun j hj hjn => ?_⟩
          · show (sgm r (σ.set i t.1))[i]? = _
            rw [(p3 i hi n1).2, List.getElem?_set_self (by rw [hI.len]; exact hi)]
          · rw [(p3 i hi n1).1, List.getElem?_set_self hi]
          · have hjn : j ≠ i ∧ j ∉ trsOf xs := by simpa [trsOf] using hjn
            obtain ⟨q1, q2⟩ := p3 j hj hjn.2
            exact ⟨by rw [q1, List.getElem?_set_ne (Ne.symm hjn.1)], by show (sgm r (σ.set i t.1))[j]? = _; rw [q2, List.getElem?_set_ne (Ne.symm hjn.1)]⟩
  | .nt l τ b :: xs, q, d, σ, o, hq, hg, hI, h1, h2, h3, h4 => by
    obtain ⟨g1, g2⟩ := gets_cons hg
    simp only [srcs] at hq
    simp only [get1] at g1
    cases hv : lkp s l with
    | none => rw [hv] at hq; cases hq
    | some v =>
      rw [hv] at hq g1
      simp only at hq g1
      cases ht : treeAt s.m τ b v with
      | none => rw [ht] at hq; cases hq
      | some t =>
        rw [ht] at hq g1
        simp only at hq g1
        cases hr : srcs s xs with
        | none => rw [hr] at hq; cases hq
        | some r =>
          rw [hr] at hq
          have := Option.some.inj hq; subst this
          have hd : t.2 = Dhd d := Option.some.inj g1
          rw [putT_cons]
          have e1 : putT1 k (.nt l τ b) (Dhd d) o = o ++ [⟨.tree τ b t.2, k, k⟩] := by rw [hd]; rfl
          rw [e1]
          rw [snds_cons] at h1 h2
          have hsub : ∀ x ∈ snds r, x ∈ (match t.1 with | some i => i :: snds r | none => snds r) := fun x hx => by cases t.1 <;> simp [hx]
          have hI' := hI.app (q := t.1) (e := ⟨.tree τ b t.2, k, k⟩) (fun x hx j => h1 x (by simp only [hx]; simp) j) ⟨Nat.le_refl _, Nat.le_refl _⟩ (treeAt_src ht hk)
          have n2 : (trsOf xs).Nodup := h4
          have hol : (σ ++ [t.1])[o.length]? = some t.1 := by rw [← hI.len]; simp
          have hnx : ∀ x ∈ snds r, ∀ j : Nat, (σ ++ [t.1])[j]? ≠ some (some x) := fun x hx j hj => by
            by_cases hl : j < σ.length
            · rw [List.getElem?_append_left hl] at hj
              exact h1 x (hsub x hx) j hj
            · rw [List.getElem?_append_right (by omega)] at hj
              cases hz : j - σ.length with
              | zero =>
                rw [hz] at hj
                have hj : t.1 = some x := by simpa using hj
                simp only [hj] at h2
                exact (List.nodup_cons.1 h2).1 hx
              | succ n => rw [hz] at hj; simp at hj
          have hnd : (snds r).Nodup := by
            cases ht1 : t.1 with
            | none => simp only [ht1] at h2; exact h2
            | some x => simp only [ht1] at h2; exact (List.nodup_cons.1 h2).2
          obtain ⟨p1, p2, p3⟩ := putT_inv hk xs r (Dtl d) (σ ++ [t.1]) _ hr g2 hI' hnx hnd (fun j hj => by have := h3 j (by simpa [trsOf] using hj); simp; omega) n2
          rw [show (o ++ [(⟨.tree τ b t.2, k, k⟩ : EO U)]).length = Nat.succ o.length by simp] at p2 p3
          have n1 : o.length ∉ trsOf xs := fun hh => by have := h3 _ (show o.length ∈ trsOf (.nt l τ b :: xs) from hh); omega
          refine ⟨p1, ⟨⟨v, t, ⟨.tree τ b t.2, k, k⟩, hv, ht, ?_, ?_, rfl⟩, p2⟩, fun j hj hjn => ?_⟩
          · show (sgm r (σ ++ [t.1]))[o.length]? = _
            rw [(p3 _ (Nat.lt_succ_self _) n1).2, hol]
          · rw [(p3 _ (Nat.lt_succ_self _) n1).1]; simp
          · obtain ⟨q1, q2⟩ := p3 j (Nat.lt_succ_of_lt hj) hjn
            refine ⟨by rw [q1, List.getElem?_append_left hj], ?_⟩
            show (sgm r (σ ++ [t.1]))[j]? = _
            rw [q2, List.getElem?_append_left (by rw [hI.len]; exact hj)]
end
end Go.EV
