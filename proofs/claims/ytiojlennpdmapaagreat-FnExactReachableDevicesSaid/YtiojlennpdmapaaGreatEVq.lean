/-
  THE EVALUATOR's KIT, seventeenth part: counters, arguments, calls by contract. Plain theorems over any program; the conditions stand in each.
-/
import Derived.Test.YtiojlennpdmapaaGreatEVp
set_option linter.unusedVariables false
set_option linter.unusedSimpArgs false
namespace Go.EV
open Go.RowKit Go.VK
variable {U : Uni} {Y : Lay U} {TI : List (Nat × TInfo)} {P : Program} {g : GI} {E : Env g}

/-! ### Contracts -/
def cpV : Bool × List (Lf U) → V
  | (true, cs) => .agg (cs.map Lf.toV)
  | (false, [x]) => x.toV
  | _ => .any
def OwP (C : Cod U) (w : World) (v : Value) (B : List Nat) : Bool × List (Lf U) → Prop
  | (true, cs) => ∃ vs : List Value, v = .agg vs.toArray ∧ OwL C w (fun _ => False) true vs cs B
  | (false, cs) => ∃ c, cs = [c] ∧ Ow C w (fun _ => False) true v c B
inductive OwPs (C : Cod U) (w : World) : List Value → List (Bool × List (Lf U)) → List Nat → Prop
  | n : OwPs C w [] [] []
  | c {v : Value} {x : Bool × List (Lf U)} {B B' : List Nat} {vs : List Value} {xs : List (Bool × List (Lf U))} (h : OwP C w v B x) (hr : OwPs C w vs xs B') : OwPs C w (v :: vs) (x :: xs) (B ++ B')
def OwR (C : Cod U) (w : World) (v : Value) (cps : List (Bool × List (Lf U))) (B : List Nat) : Prop :=
  match cps with
  | [x] => OwP C w v B x
  | xs => ∃ vs : List Value, v = .tuple vs.toArray ∧ OwPs C w vs xs B
/-- A contract whose result is fresh: each of its slices lies in a block of its own that was not there. -/
def FSpec (P : Program) (g : GI) (C : Cod U) (f : FuncId) (Us : List V) (cps : List (Bool × List (Lf U))) : Prop :=
  (∀ args w, (callFunc f args).run P w = .ok (.enter f args) w) ∧
  ∀ (w : World) (X : Nat → Prop) (vs : List Value), g.G w → (∀ b, X b → b < w.heap.size) → RdL w X vs Us →
    Calls P f vs.toArray w fun e w' => ∃ v B, e = .returned v ∧ Ext w w' ∧ B.Nodup ∧ (∀ b ∈ B, w.heap.size ≤ b) ∧ OwR C w' v cps B
/-- A contract of a function that writes its first argument, all of whose slices are handed over. -/
def MSpec (P : Program) (g : GI) (C : Cod U) (f : FuncId) (b : Bool) (cs ds : List (Lf U)) (u : V) (k : Int) : Prop :=
  (∀ args w, (callFunc f args).run P w = .ok (.enter f args) w) ∧
  ∀ (w : World) (v v1 : Value) (B : List Nat), B.Nodup → (∀ w', Bel (· ∈ B) w w' → g.G w') → OwP C w v B (b, cs) → Rd w (fun _ => False) [] v1 u →
    Calls P f #[v, v1] w fun e w' => e = .returned (.int .i64 k) ∧ (IntKind.i64.min ≤ k ∧ k ≤ IntKind.i64.max) ∧ Bel (· ∈ B) w w' ∧ ∃ B', B'.Nodup ∧ (∀ x ∈ B', x ∈ B ∨ w.heap.size ≤ x) ∧ OwP C w' v B' (b, ds)
/-- What a contract says. -/
def SumOk (P : Program) (g : GI) (Y : Lay U) (f : FuncId) (S : Sum U) : Prop :=
  ∀ (a : Tup U S.ar) (r : Tup U S.rs), S.m a = some r →
    (S.wt = false → S.fr = false → VK.Spec P g f ((toCps Y S.ar a).map cpV) (fun v => v = tupOf ((toCps Y S.rs r).map cpV))) ∧ (S.wt = false → S.fr = true → FSpec P g Y.C f ((toCps Y S.ar a).map cpV) (toCps Y S.rs r)) ∧
    (S.wt = true → ∀ b cs u b' ds b'' k, toCps Y S.ar a = [(b, cs), u] → toCps Y S.rs r = [(b', ds), (b'', [.int .i64 k])] → MSpec P g Y.C f b cs ds (cpV u) k)

section
variable {s : St U} {a : Act} {w w' : World} {β : List Tr} {α : Type}

/-- Other counters. -/
theorem Rel.cntr {C : Cod U} (r : Rel C E s a w β) {ns' : List (Nat × Bool)} (hn : ∀ (a i : Nat) (f : Bool), s.m.ns[a]? = some (i, f) → ∃ f', ns'[a]? = some (i, f')) (hc : ∀ (a i : Nat), ns'[a]? = some (i, true) → (i : Int) + 1 ≤ 9223372036854775807) :
    Rel C E ⟨s.t, ⟨s.m.o, s.m.k, ns'⟩, s.fr⟩ a w β := by
  obtain ⟨h1, h2⟩ := r.hp.step (s' := ⟨s.m.o, s.m.k, ns'⟩) (β' := β) (w' := w) (fun _ => False) (fun _ => False) (Nat.le_refl _) hn hc r.hp.len (Nat.le_refl _) (Nat.le_refl _) rfl rfl rfl (fun _ _ _ => rfl) (fun _ h => h.elim) (fun _ _ _ => ⟨rfl, rfl⟩)
    (fun j t b hj ht _ => by rcases hj with h | h; exact h.elim; have := lt_of_some ht; rw [r.hp.len] at this; omega)
    (fun i j t u b hi hj _ ht _ _ => by rcases hi with h | h; exact h.elim; have := lt_of_some ht; rw [r.hp.len] at this; omega)
    (fun j t hj ht => by rcases hj with h | h; exact h.elim; have := lt_of_some ht; rw [r.hp.len] at this; omega)
    (fun j e hj he => by rcases hj with h | h; exact h.elim; have := lt_of_some he; simp only at this; omega)
    (fun _ _ _ _ _ h => h.elim)
    (fun _ j t e hj ht _ => by rcases hj with h | h; exact h.elim; have := lt_of_some ht; rw [r.hp.len] at this; omega)
  exact r.go h1 h2

/-- What an operation does that makes and writes no memory. -/
def PO (P : Program) (C : Cod U) (E : Env g) (a : Act) (w : World) (β : List Tr) (o : Oper) (x : Sv U) (s' : St U) : Prop :=
  ∃ v, (∀ w', Ext w w' → (execOp a.eval o).run P w' = .ok (.value v) w') ∧ Rel C E s' a w β ∧ x.mean C w (E.X β) β s'.m v
theorem SO.of_po {C : Cod U} {o : Oper} {x : Sv U} {s' : St U} (h : PO P C E a w β o x s') : SO P C E a w o x s' true := fun K Q hK => by
  obtain ⟨v, h1, h2, h3⟩ := h
  exact wpo (.inl (h1 w (Ext.refl w))) (hK v w β h2 (fun _ => h3) (fun _ => Ext.refl w))
theorem inc_sound (r : Rel Y.C E s a w β) {o : Oper} {t u : TypeId} {x : Operand} {n : Int} {c i : Nat} (ho : o.op = .binOp .add t x (.const (.int .i64 n)) u) (hn : n = 1) (hx : opr s x = .l (.nat c)) (hc : s.m.ns[c]? = some (i, true)) :
    PO P Y.C E a w β o (.l (.nat (len s.m.ns))) ⟨s.t, ⟨s.m.o, s.m.k, s.m.ns ++ [(Nat.succ i, false)]⟩, s.fr⟩ := by
  subst hn
  have hcn := r.hp.cnt c i hc
  have hm := opr_mean r (x := x)
  rw [hx] at hm
  obtain ⟨i', f, k1, k2, k3⟩ := hm
  rw [hc] at k1
  injection k1 with k1; injection k1 with k1 _; subst k1
  have r1 : Rel Y.C E ⟨s.t, ⟨s.m.o, s.m.k, s.m.ns ++ [(Nat.succ i, false)]⟩, s.fr⟩ a w β := r.cntr (fun a' j f' h => ⟨f', by rw [List.getElem?_append_left (lt_of_some h)]; exact h⟩) (fun a' j h => by
    by_cases hl : a' < s.m.ns.length
    · rw [List.getElem?_append_left hl] at h; exact r.hp.cnt a' j h
    · rw [List.getElem?_append_right (by omega)] at h
      cases hq : a' - s.m.ns.length with
      | zero => rw [hq] at h; simp at h
      | succ q => rw [hq] at h; simp at h)
  have hw : IntKind.i64.wrap ((i : Int) + 1) = ((Nat.succ i : Nat) : Int) := by rw [IntKind.wrap_i64]; omega
  have hx' : opd s x = .l (.int .i64 (i : Int)) := by unfold opd; rw [hx]; simp only [rsv, nth_eq, hc]
  have hy' : opd s (.const (.int .i64 (1 : Int))) = .l (.int .i64 (1 : Int)) := rfl
  obtain ⟨v, h1, h2⟩ := mo_int (P := P) r (fun _ => add (t := t) (u := u) (ev_int hx') (ev_int hy')) o ho
  have hv : v = .int .i64 ((Nat.succ i : Nat) : Int) := by rw [← hw]; exact h2.1
  exact ⟨v, h1, r1, Nat.succ i, false, by rw [len_eq]; simp, hv, by omega⟩

/-! ### Arguments -/
theorem lfTy_some {kd : Kd} {x : Lf U} {v : kd.ty U} (h : lfTy kd x = some v) : x = toLf kd v := by
  cases kd with
  | int k =>
    cases x with
    | int k' n =>
      have h' : (if k' = k then some n else none) = some (show Int from v) := h
      split at h'
      · rename_i e; subst e; have := Option.some.inj h'; subst this; rfl
      · cases h'
    | _ => cases h
  | bool =>
    cases x with
    | bool b => have h' : some b = some (show Bool from v) := h; have := Option.some.inj h'; subst this; rfl
    | _ => cases h
  | str =>
    cases x with
    | str b => have h' : some b = some (show ByteArray from v) := h; have := Option.some.inj h'; subst this; rfl
    | _ => cases h
  | sl τ =>
    cases x with
    | sl τ' l => exact slq_val (show slq τ τ' l = some v from h)
    | _ => cases h
  | st T => cases x <;> cases h
theorem rdn_mean {C : Cod U} (H : Hp C E s.m β w) {v : Value} {x y : Lf U} {kd : Kd} (hm : x.mean C w (E.X β) β s.m v) (h : rdn s.m kd x = some y) {Z : Nat → Prop} (hZ : ∀ b, Z b → E.X β b) (hZt : freeL x = true ∨ ∀ (i : Nat) (t : Tr) (b : Nat), β[i]? = some t → b ∈ t.all → ¬ Z b) :
    y.isData = true ∧ Rd w Z [] v y.toV := by
  by_cases hx : x = .nil
  · subst hx
    obtain rfl := hm
    cases kd with
    | sl τ => simp only [rdn, Option.some.injEq] at h; subst h; exact ⟨rfl, .slice0 (Nat.zero_le _)⟩
    | _ => cases h
  · have h' : rdl s.m x = some y := by
      cases x <;> first | exact absurd rfl hx | exact h
    exact rdl_mean H hm h' hZ hZt
theorem rds_cons {m : Mm U} {kd : Kd} {ks : List Kd} {x : Lf U} {xs ys : List (Lf U)} (h : rds m (kd :: ks) (x :: xs) = some ys) : ∃ y ys', rdn m kd x = some y ∧ rds m ks xs = some ys' ∧ ys = y :: ys' := by
  simp only [rds] at h
  cases h1 : rdn m kd x with
  | none => rw [h1] at h; cases h
  | some y =>
    cases h2 : rds m ks xs with
    | none => rw [h1, h2] at h; cases h
    | some ys' => rw [h1, h2] at h; exact ⟨y, ys', rfl, rfl, (Option.some.inj h).symm⟩
theorem rds_mean {C : Cod U} (H : Hp C E s.m β w) {Z : Nat → Prop} (hZ : ∀ b, Z b → E.X β b) (ks : List Kd) : ∀ {xs ys : List (Lf U)} {vs : List Value}, rds s.m ks xs = some ys → Ms C w (E.X β) β s.m vs xs → (freeLs xs = true ∨ ∀ (i : Nat) (t : Tr) (b : Nat), β[i]? = some t → b ∈ t.all → ¬ Z b) →
    vs.length = ys.length ∧ ∀ (i : Nat) (v : Value) (y : Lf U), vs[i]? = some v → ys[i]? = some y → Rd w Z [] v y.toV := by
  induction ks with
  | nil =>
    intro xs ys vs h hM _
    cases xs with
    | nil =>
      have e : ys = [] := (Option.some.inj h).symm
      have : vs = [] := List.eq_nil_of_length_eq_zero hM.1
      subst this; subst e; simp
    | cons x xs => cases h
  | cons kd ks ih =>
    intro xs ys vs h hM hf
    cases xs with
    | nil => cases h
    | cons x xs =>
      obtain ⟨y, ys', h1, h2, rfl⟩ := rds_cons h
      cases vs with
      | nil => have := hM.1; simp at this
      | cons v vs =>
        have hf1 : freeL x = true ∨ ∀ (i : Nat) (t : Tr) (b : Nat), β[i]? = some t → b ∈ t.all → ¬ Z b := hf.imp (fun h => by simp only [freeLs, Bool.and_eq_true] at h; exact h.1) id
        have hf2 : freeLs xs = true ∨ ∀ (i : Nat) (t : Tr) (b : Nat), β[i]? = some t → b ∈ t.all → ¬ Z b := hf.imp (fun h => by simp only [freeLs, Bool.and_eq_true] at h; exact h.2) id
        have k1 := (rdn_mean H (hM.2 0 v x rfl rfl) h1 hZ hf1).2
        have k2 := ih h2 ⟨by have := hM.1; simpa using this, fun i u c p q => hM.2 (i + 1) u c (by simpa using p) (by simpa using q)⟩ hf2
        refine ⟨by simp [k2.1], fun i u c p q => ?_⟩
        cases i with
        | zero => simp at p q; subst p; subst q; exact k1
        | succ i => exact k2.2 i u c (by simpa using p) (by simpa using q)
theorem svTy_mean (r : Rel Y.C E s a w β) {kd : Kd} {x : Sv U} {v : Value} {z : kd.ty U} {Z : Nat → Prop} (hm : x.mean Y.C w (E.X β) β s.m v) (h : svTy Y s.m kd x = some z) (hZ : ∀ b, Z b → E.X β b) (hf : freeV x = true ∨ ∀ (i : Nat) (t : Tr) (b : Nat), β[i]? = some t → b ∈ t.all → ¬ Z b) :
    Rd w Z [] v (cpV (toCp Y kd z)) := by
  have leaf : ∀ {y : Lf U}, x = .l y → (∀ T, kd ≠ .st T) → (match rdn s.m kd y with | some q => lfTy kd q | none => none) = some z → Rd w Z [] v (cpV (toCp Y kd z)) := fun {y} hx hkd h0 => by
    subst hx
    cases hr : rdn s.m kd y with
    | none => rw [hr] at h0; cases h0
    | some q =>
      rw [hr] at h0
      have hq := lfTy_some (show lfTy kd q = some z from h0)
      have := (rdn_mean r.hp hm hr hZ (hf.imp (fun h => h) id)).2
      rw [hq] at this
      cases kd with
      | st T => exact absurd rfl (hkd T)
      | _ => exact this
  cases kd with
  | st T =>
    cases x with
    | a cs =>
      have h' : (match rds s.m (Y.kd T) cs with | some ds => Y.C.bld T ds | none => none) = some z := h
      cases hr : rds s.m (Y.kd T) cs with
      | none => rw [hr] at h'; cases h'
      | some ds =>
        rw [hr] at h'
        obtain ⟨vs, rfl, hM⟩ := hm
        have hrd := rds_mean r.hp hZ _ hr hM (hf.imp (fun h => h) id)
        rw [Y.C.hmk T ds z h'] at hrd
        simp only [toCp, cpV]
        refine .agg (by simp [hrd.1]) (fun i u c p q => ?_)
        rw [List.getElem?_map] at q
        cases hc : (Y.C.cel T z)[i]? with
        | none => simp [hc] at q
        | some c' =>
          simp only [hc, Option.map_some, Option.some.injEq] at q
          subst q
          exact hrd.2 i u c' (by simpa using p) hc
    | l y =>
      have h' : (match rdn s.m (.st T) y with | some q => lfTy (.st T) q | none => none) = some z := h
      cases hr : rdn s.m (.st T) y with
      | none => rw [hr] at h'; cases h'
      | some q => rw [hr] at h'; cases q <;> cases h'
    | t xs => cases h
  | int k => cases x with
    | l y => exact leaf rfl (by simp) h
    | _ => cases h
  | bool => cases x with
    | l y => exact leaf rfl (by simp) h
    | _ => cases h
  | str => cases x with
    | l y => exact leaf rfl (by simp) h
    | _ => cases h
  | sl τ => cases x with
    | l y => exact leaf rfl (by simp) h
    | _ => cases h
theorem svsTy_mean (r : Rel Y.C E s a w β) {Z : Nat → Prop} (hZ : ∀ b, Z b → E.X β b) (ks : List Kd) : ∀ {xs : List (Sv U)} {vs : List Value} {z : Tup U ks}, svsTy Y s.m ks xs = some z → vs.length = xs.length → (∀ (i : Nat) (v : Value) (x : Sv U), vs[i]? = some v → xs[i]? = some x → x.mean Y.C w (E.X β) β s.m v) →
    (freeVs xs = true ∨ ∀ (i : Nat) (t : Tr) (b : Nat), β[i]? = some t → b ∈ t.all → ¬ Z b) → RdL w Z vs ((toCps Y ks z).map cpV) := by
  induction ks with
  | nil =>
    intro xs vs z h hl _ _
    cases xs with
    | nil =>
      have : vs = [] := List.eq_nil_of_length_eq_zero hl
      subst this; exact ⟨rfl, by simp⟩
    | cons x xs => cases h
  | cons k ks ih =>
    intro xs vs z h hl hm hf
    cases xs with
    | nil => cases ks <;> cases h
    | cons x xs =>
      cases vs with
      | nil => simp at hl
      | cons v vs =>
        have hf1 : freeV x = true ∨ ∀ (i : Nat) (t : Tr) (b : Nat), β[i]? = some t → b ∈ t.all → ¬ Z b := hf.imp (fun h => by simp only [freeVs, Bool.and_eq_true] at h; exact h.1) id
        have hf2 : freeVs xs = true ∨ ∀ (i : Nat) (t : Tr) (b : Nat), β[i]? = some t → b ∈ t.all → ¬ Z b := hf.imp (fun h => by simp only [freeVs, Bool.and_eq_true] at h; exact h.2) id
        cases ks with
        | nil =>
          cases xs with
          | cons y ys => cases h
          | nil =>
            have e : vs = [] := List.eq_nil_of_length_eq_zero (by simpa using hl)
            subst e
            have k1 := svTy_mean r (hm 0 v x rfl rfl) (show svTy Y s.m k x = some z from h) hZ hf1
            refine ⟨rfl, fun i u W p q => ?_⟩
            cases i with
            | zero => simp [toCps] at p q; subst p; subst q; exact k1
            | succ i => simp at p
        | cons k' ks =>
          have h' : (match svTy Y s.m k x with
            | some a => match svsTy Y s.m (k' :: ks) xs with
              | some b => some ((a, b) : Tup U (k :: k' :: ks))
              | none => none
            | none => none) = some z := h
          cases h1 : svTy Y s.m k x with
          | none => rw [h1] at h'; cases h'
          | some z1 =>
            cases h2 : svsTy Y s.m (k' :: ks) xs with
            | none => rw [h1, h2] at h'; cases h'
            | some z2 =>
              rw [h1, h2] at h'
              have e := (Option.some.inj h').symm
              subst e
              have k1 := svTy_mean r (hm 0 v x rfl rfl) h1 hZ hf1
              have k2 := ih h2 (by simpa using hl) (fun i v x p q => hm (i + 1) v x (by simpa using p) (by simpa using q)) hf2
              refine ⟨by simp [toCps, k2.1], fun i u W p q => ?_⟩
              cases i with
              | zero => simp [toCps] at p q; subst p; subst q; exact k1
              | succ i => exact k2.2 i u W (by simpa using p) (by simpa [toCps] using q)
end
end Go.EV
