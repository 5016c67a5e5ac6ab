/-
  THE VALUE KIT, fifth part: code. A walk's rules on symbolic states: sequences, tests, loops, regions in the text's order and regions that draw their order, calls by contract, the entry and the return. Theorems over any program; the conditions stand in each.
-/
import Derived.Test.YtiojlennpdmapaaGreatVKd
import Derived.Deep.RegionHeld3
set_option linter.unusedVariables false
namespace Go.VK
open Go.RowKit
variable {P : Program} {g : GI}

/-! ### Contracts -/
def RdL (w : World) (X : Nat → Prop) (vs : List Value) (Us : List V) : Prop := vs.length = Us.length ∧ ∀ (i : Nat) (v : Value) (U : V), vs[i]? = some v → Us[i]? = some U → Rd w X [] v U
/-- Called with values that read as Us, the function returns a value that reads as some r of R; what was there before has not turned; what the caller keeps to itself is not in the result. -/
def Spec (P : Program) (g : GI) (f : FuncId) (Us : List V) (R : V → Prop) : Prop :=
  (∀ args w, (callFunc f args).run P w = .ok (.enter f args) w) ∧
  ∀ (w : World) (X : Nat → Prop) (vs : List Value), g.G w → (∀ b, X b → b < w.heap.size) → RdL w X vs Us →
    Calls P f vs.toArray w fun e w' => ∃ v r, e = .returned v ∧ R r ∧ Rd w' X [] v r ∧ Ext w w'

section
variable {E : Env P g} {s : S}

/-! ### Regions in the text's order -/
def RF (E : Env P g) (ops : Array Oper) (l : List Oper) (F : S → Prop) (s : S) : Prop :=
  ∀ Q : Exit → Act → World → Prop, (∀ s' a w, F s' → Rel E s' a w → Q .normal a w) → ∀ a w, Rel E s a w → wpList P ops Q l a w

theorem e {ops : Array Oper} {F : S → Prop} (h : F s) : RF E ops [] F s := fun Q hQ a w r => hQ s a w h r

theorem wpo {o : Oper} {K : Act → World → Prop} {Q : Exit → Act → World → Prop} {a : Act} {w w' : World} {v : Value} (h : (execOp a.eval o).run P w = .ok (.value v) w' ∨ ((execOp a.eval o).run P w = .ok .skip w' ∧ v = undef)) (hk : K (a.put o.dst v) w') : o.wp P a w K Q := by
  unfold Oper.wp
  rcases h with h | ⟨h, rfl⟩ <;> rw [h] <;> exact hk

theorem m {ops : Array Oper} {F : S → Prop} {rest : List Oper} {d ty : Nat} {op : Op} {pos : String} {af : Array Edge} {U : V} {t' : List V} (h : MOp E s op U) (hu : Upd s.t d U t') (hr : RF E ops rest F ⟨t', s.o⟩) :
    RF E ops (⟨some d, op, ty, pos, af, none⟩ :: rest) F s := fun Q hQ a w ⟨β, r⟩ => by
  obtain ⟨v, h1, h2⟩ := h β a w r ⟨some d, op, ty, pos, af, none⟩ rfl
  exact wpList_plain rfl fun K hK => wpo (.inl (h1 w (Ext.refl w))) (hK _ _ (hr Q hQ _ _ ⟨β, r.put h2 hu⟩))
theorem k {ops : Array Oper} {F : S → Prop} {rest : List Oper} {d : Option Nat} {ty : Nat} {op : Op} {pos : String} {af : Array Edge} {s' : S} {b : Bool} (h : SOp E s op d s' b) (hr : RF E ops rest F s') :
    RF E ops (⟨d, op, ty, pos, af, none⟩ :: rest) F s := fun Q hQ a w ⟨β, r⟩ => by
  obtain ⟨v, w', β', h1, h2, _⟩ := h β a w r ⟨d, op, ty, pos, af, none⟩ rfl rfl
  exact wpList_plain rfl fun K hK => wpo h1 (hK _ _ (hr Q hQ _ _ ⟨β', h2⟩))

/-! ### Guards -/
theorem yielded_of {ops : List Oper} {j : Nat} {oj : Oper} {dj : Nat} {b : Bool} {β : List Tr} {a : Act} {w : World} (r : RelB E s β a w) (hj : At ops j oj) (hd : oj.dst = some dj) (hv : At s.t dj (.bool b)) : yielded ops.toArray a.tmps j = some b := by
  have h1 := (r.tmps dj _ hv.get).bool_inv
  have hlt : dj < a.tmps.size := by rw [r.tsz]; exact (List.getElem?_eq_some_iff.1 hv.get).1
  have h2 : a.tmps[dj]? = some (.bool b) := by
    rw [Array.getD_eq_getD_getElem?, Array.getElem?_eq_getElem hlt] at h1
    rw [Array.getElem?_eq_getElem hlt]; exact congrArg some h1
  simp [yielded, hj.get, hd, h2]
/-- A guarded operation whose guard was itself passed over. -/
theorem put_any {β : List Tr} {a : Act} {w : World} (r : RelB E s β a w) {n : Nat} {U : V} {t' : List V} {b : Bool} (hv : At s.t n (.bool b)) (hb : b = true ∨ b = false) (hu : Upd s.t n U t') (hU : U = .bool b) : RelB E ⟨t', s.o⟩ β a w where
  ext := r.ext
  defers := r.defers
  tsz := by rw [hu.eq.1]; simpa using r.tsz
  tmps m V hm := by
    simp only [hu.eq.1] at hm
    by_cases he : n = m
    · subst he
      rw [List.getElem?_set_self (by have := hu.eq.2; omega)] at hm
      injection hm with hm
      rw [← hm, hU]; exact r.tmps n _ hv.get
    · rw [List.getElem?_set_ne he] at hm
      exact r.tmps m V hm
  blen := r.blen
  new := r.new
  dist := r.dist
  objs := r.objs
/-- Part on a test's outcome, which is written into its slot. -/
theorem sp {ops : Array Oper} {l : List Oper} {F : S → Prop} {n : Nat} {b : Bool} {t1 t2 : List V} (hv : At s.t n (.bool b)) (h1 : Upd s.t n (.bool true) t1) (h2 : Upd s.t n (.bool false) t2)
    (ht : b = true → RF E ops l F ⟨t1, s.o⟩) (hf : b = false → RF E ops l F ⟨t2, s.o⟩) : RF E ops l F s := fun Q hQ a w ⟨β, r⟩ => by
  cases b with
  | true => exact ht rfl Q hQ a w ⟨β, put_any r hv (.inl rfl) h1 rfl⟩
  | false => exact hf rfl Q hQ a w ⟨β, put_any r hv (.inr rfl) h2 rfl⟩

/-! ### Code -/
def QX (E : Env P g) (Q : Exit → Act → World → Prop) (e : Exit) (s : S) : Prop := ∀ a w, Rel E s a w → Q e a w
def CW (E : Env P g) (c : Code) (N : S → Prop) (X : Nat → S → Prop) (R : S → Prop) (s : S) : Prop :=
  ∀ Q : Exit → Act → World → Prop, (∀ s', N s' → QX E Q .normal s') → (∀ i s', X i s' → QX E Q (.exit i) s') → (∀ s', R s' → QX E Q .ret s') → ∀ a w, Rel E s a w → c.wp P Q a w

variable {N : S → Prop} {X : Nat → S → Prop} {R : S → Prop}

theorem skp (h : N s) : CW E .skip N X R s := fun Q hN _ _ a w r => wp_skip (hN s h a w r)
theorem ex {id : Nat} (h : X id s) : CW E (.exit id) N X R s := fun Q _ hX _ a w r => wp_exit (hX id s h a w r)
theorem x1 {id : Nat} {A : Prop} {B : Prop} (h : A) : (if id = id then A else B) := by rw [if_pos rfl]; exact h
theorem x2 {i j : Nat} {A : Prop} {B : Prop} (hij : (i == j) = false) (h : B) : (if i = j then A else B) := by rw [if_neg (by simpa using hij)]; exact h

/-- What holds of one state holds of another: the way at a loop's head. -/
def Le (E : Env P g) (s s' : S) : Prop := ∀ a w, Rel E s a w → Rel E s' a w
theorem Le.refl : Le E s s := fun _ _ h => h
/-! ### Calls -/
inductive EvL (E : Env P g) (s : S) : List Operand → List V → Prop
  | n : EvL E s [] []
  | c {x : Operand} {U : V} {xs : List Operand} {Us : List V} (h : Ev E s x U) (hp : U.plain = true) (hr : EvL E s xs Us) : EvL E s (x :: xs) (U :: Us)
theorem EvL.rd {xs : List Operand} {Us : List V} (h : EvL E s xs Us) {β : List Tr} {a : Act} {w : World} (r : RelB E s β a w) : RdL w (E.X β) (xs.map a.eval) Us := by
  induction h with
  | n => exact ⟨rfl, by simp⟩
  | @c x U xs Us h hp hr ih =>
    refine ⟨by simp [ih.1], fun i v W h1 h2 => ?_⟩
    cases i with
    | zero => simp at h1 h2; subst h1; subst h2; exact (h β a w r).unmark hp
    | succ i => exact ih.2 i v W (by simpa using h1) (by simpa using h2)
theorem X_lt {β : List Tr} {a : Act} {w : World} (r : RelB E s β a w) (b : Nat) (h : E.X β b) : b < w.heap.size := by
  rcases h with h | ⟨t, ht, hb⟩
  · exact Nat.lt_of_lt_of_le (E.h0 b h) r.ext.size
  · obtain ⟨i, hi⟩ := List.mem_iff_getElem?.1 ht
    exact (r.new i t b hi hb).2

theorem enter_run {f : FuncId} {xs : List Operand} {ats : Array TypeId} {a : Act} {w : World} {o : Oper} (ho : o.op = .call { callee := .value (.func f), args := xs.toArray, argTypes := ats })
    (h : ∀ args w, (callFunc f args).run P w = .ok (.enter f args) w) : (execOp a.eval o).run P w = .ok (.enter f (xs.map a.eval).toArray) w := by
  simp [execOp, ho, resolve, Act.eval, Deferred.ofValue, invoke, h]

/-- What the call leaves. -/
def COp (E : Env P g) (s : S) (op : Op) (R : V → Prop) : Prop :=
  ∀ (β : List Tr) (a : Act) (w : World), RelB E s β a w → ∀ o : Oper, o.op = op → ∃ f args, (execOp a.eval o).run P w = .ok (.enter f args) w ∧
    Calls P f args w fun e w' => ∃ v r, e = .returned v ∧ R r ∧ Rd w' (E.X β) β v r ∧ Ext w w'
theorem call {f : FuncId} {xs : List Operand} {ats : Array TypeId} {Us : List V} {R' : V → Prop} (hs : Spec P g f Us R') (ha : EvL E s xs Us) : COp E s (.call { callee := .value (.func f), args := xs.toArray, argTypes := ats }) R' := fun β a w r o ho =>
  ⟨f, _, enter_run ho hs.1, (hs.2 w (E.X β) _ r.gw (X_lt r) (ha.rd r)).mono fun e w' ⟨v, r', h1, h2, h3, h4⟩ => ⟨v, r', h1, h2, h3.conv (Nat.le_refl _) (fun _ _ h => h) (fun _ _ _ h => h) (fun _ _ h => by simp at h), h4⟩⟩

theorem wpc {o : Oper} {K : Act → World → Prop} {Q : Exit → Act → World → Prop} {a : Act} {w : World} {f : FuncId} {args : Array Value} {R' : Value → World → Prop} (h : (execOp a.eval o).run P w = .ok (.enter f args) w)
    (hc : Calls P f args w fun e w' => ∃ v, e = .returned v ∧ R' v w') (hk : ∀ v w', R' v w' → K (a.put o.dst v) w') : o.wp P a w K Q := by
  unfold Oper.wp
  rw [h]
  refine Calls.mono hc ?_
  rintro e w' ⟨v, rfl, h⟩
  exact hk v w' h
/-- A call whose result is just r0. -/
theorem c {ops : Array Oper} {F : S → Prop} {rest : List Oper} {d ty : Nat} {op : Op} {pos : String} {af : Array Edge} {r0 : V} {t' : List V} (h : COp E s op (fun r => r = r0)) (hu : Upd s.t d r0 t') (hr : RF E ops rest F ⟨t', s.o⟩) :
    RF E ops (⟨some d, op, ty, pos, af, none⟩ :: rest) F s := fun Q hQ a w ⟨β, r⟩ => by
  obtain ⟨f, args, h1, h2⟩ := h β a w r ⟨some d, op, ty, pos, af, none⟩ rfl
  refine wpList_plain rfl fun K hK => wpc h1 (R' := fun v w' => Rd w' (E.X β) β v r0 ∧ Ext w w') (h2.mono ?_) ?_
  · rintro e w' ⟨v, r', e1, rfl, e3, e4⟩; exact ⟨v, e1, e3, e4⟩
  · rintro v w' ⟨h3, h4⟩
    exact hK _ _ (hr Q hQ _ _ ⟨β, (r.extend h4).put h3 hu⟩)
/-! ### Regions that draw their order -/
/-! Orders in which one operation (a0) may turn the walk's own memory: behind it nothing is taken ahead of its turn. -/
section orders
variable {md : Region.Mode} {ops : Array Oper}
def nyet (a0 : Option Nat) (listed : Array Bool) : Bool := match a0 with | none => true | some a => !listed.getD a false
def wpAnyG (P : Program) (md : Region.Mode) (ops : Array Oper) (a0 : Option Nat) (Q : Exit → Act → World → Prop) (S : World → Prop) : Nat → Array Bool → Act → World → Prop
  | 0, listed, a, w => Region.ready md ops listed = [] ∧ Q .normal a w
  | fuel + 1, listed, a, w =>
    (Region.ready md ops listed = [] → Q .normal a w) ∧
    ∀ i ∈ Region.ready md ops listed, wpOp P ops Q i (fun a' w' => (nyet a0 (listed.setIfInBounds i true) = true → S w') ∧ wpAnyG P md ops a0 Q S fuel (listed.setIfInBounds i true) a' w') a w
def Dn (md : Region.Mode) (ops : Array Oper) (listed : Array Bool) : Prop := ∀ (j : Nat) (oj : Oper), ops[j]? = some oj → listed.getD j true = true → ∀ e ∈ oj.after, Region.binds md e = true → listed.getD e.on false = true
def reqB (md : Region.Mode) (ops : Array Oper) : Nat → Nat → Nat → Bool
  | 0, _, _ => false
  | f + 1, cur, i => match ops[cur]? with | none => false | some o => o.after.any fun e => Region.binds md e && (e.on == i || reqB md ops f e.on i)
theorem Dn.set {listed : Array Bool} (h : Dn md ops listed) {i : Nat} (hi : i ∈ Region.ready md ops listed) : Dn md ops (listed.setIfInBounds i true) := fun j oj hj hl e he hb => by
  refine getD_set_true ?_
  by_cases hji : j = i
  · subst hji
    obtain ⟨_, o, ho, hall⟩ := mem_ready.1 hi
    rw [hj] at ho; injection ho with ho; subst ho
    exact hall e he hb
  · rw [getD_set_ne true (Ne.symm hji)] at hl
    exact h j oj hj hl e he hb
theorem getD_in {l : Array Bool} {i : Nat} (h : l.getD i true = false) : l.getD i false = false := by
  rcases Nat.lt_or_ge i l.size with h' | h'
  · simpa [h'] using h
  · simp [Array.getElem?_eq_none h'] at h
theorem reqB_spec {listed : Array Bool} (h : Dn md ops listed) {i : Nat} (hi : listed.getD i true = false) : ∀ (f cur : Nat), reqB md ops f cur i = true → listed.getD cur true = false
  | 0, _, hr => by simp [reqB] at hr
  | f + 1, cur, hr => by
    simp only [reqB] at hr
    cases ho : ops[cur]? with
    | none => simp [ho] at hr
    | some o =>
      simp only [ho, Array.any_eq_true', Bool.and_eq_true, Bool.or_eq_true, beq_iff_eq] at hr
      obtain ⟨e, he, hb, hor⟩ := hr
      cases hc : listed.getD cur true with
      | false => rfl
      | true =>
        have h1 := h cur o ho hc e he hb
        rcases hor with rfl | hor
        · rw [getD_in hi] at h1; cases h1
        · have h2 := reqB_spec h hi f e.on hor
          rw [getD_in h2] at h1; cases h1
theorem wpAny_of_G {P : Program} {a0 : Option Nat} {Q : Exit → Act → World → Prop} {S : World → Prop} : ∀ (fuel : Nat) (listed : Array Bool) (a : Act) (w : World), wpAnyG P md ops a0 Q S fuel listed a w → wpAny P md ops Q fuel listed a w
  | 0, _, _, _, h => h
  | fuel + 1, _, _, _, h => ⟨h.1, fun i hi => wpOp_mono (fun a' w' h' => wpAny_of_G fuel _ a' w' h'.2) (h.2 i hi)⟩
theorem wpAnyG_mono {P : Program} {a0 : Option Nat} {Q : Exit → Act → World → Prop} {S S' : World → Prop} (hS : ∀ w, S w → S' w) : ∀ (fuel : Nat) (listed : Array Bool) (a : Act) (w : World), wpAnyG P md ops a0 Q S fuel listed a w → wpAnyG P md ops a0 Q S' fuel listed a w
  | 0, _, _, _, h => h
  | fuel + 1, _, _, _, h => ⟨h.1, fun i hi => wpOp_mono (fun a' w' h' => ⟨fun hn => hS w' (h'.1 hn), wpAnyG_mono hS fuel _ a' w' h'.2⟩) (h.2 i hi)⟩
theorem nyet_set {a0 : Option Nat} {listed : Array Bool} {i : Nat} (h : nyet a0 listed = false) : nyet a0 (listed.setIfInBounds i true) = false := by
  cases a0 with
  | none => cases h
  | some a =>
    simp only [nyet, Bool.not_eq_false'] at h ⊢
    exact getD_set_true h
theorem wpAnyG_free {P : Program} {a0 : Option Nat} {Q : Exit → Act → World → Prop} {S S' : World → Prop} : ∀ (fuel : Nat) (listed : Array Bool) (a : Act) (w : World), nyet a0 listed = false → wpAnyG P md ops a0 Q S fuel listed a w → wpAnyG P md ops a0 Q S' fuel listed a w
  | 0, _, _, _, _, h => h
  | fuel + 1, _, _, _, hn, h => ⟨h.1, fun i hi => wpOp_mono (fun a' w' h' => ⟨fun hy => (by rw [nyet_set hn] at hy; cases hy), wpAnyG_free fuel _ a' w' (nyet_set hn) h'.2⟩) (h.2 i hi)⟩
theorem wpAnyG_first {P : Program} {a0 : Option Nat} {Q : Exit → Act → World → Prop} {S : World → Prop} {i : Nat} {oi : Oper} {v : Value} (hi : ops[i]? = some oi) (hsel : ∀ (j : Nat) (o : Oper) cs b, ops[j]? = some o → o.op ≠ .select cs b)
    (hQ : ∀ c a w, Q (.panic c) (a.put oi.dst v) w → Q (.panic c) a w) (hne : a0 ≠ some i) (hbar : ∀ listed, Dn md ops listed → listed.getD i true = false → nyet a0 listed = true) :
    ∀ (fuel : Nat) (listed : Array Bool) (a : Act) (w : World),
      (∀ j oj, ops[j]? = some oj → j ≠ i → listed.getD j true = false → (∀ e ∈ oj.after, Region.binds md e = true → e.on ≠ i) → oi.apart ops oj = true) →
      Dn md ops listed → i ∈ Region.ready md ops listed → YieldsIf P ops S oi v a → S w →
      wpAnyG P md ops a0 Q S fuel (listed.setIfInBounds i true) (a.put oi.dst v) w → wpAnyG P md ops a0 Q S (fuel + 1) listed a w := by
  intro fuel
  induction fuel with
  | zero =>
    intro listed a w _ _ hr hy hS H
    refine ⟨fun h => (by rw [h] at hr; cases hr), fun j hj => ?_⟩
    by_cases hji : j = i
    · subst hji; exact hy.wpOp hi hS ⟨fun _ => hS, H⟩
    · have := ready_mono hj hji
      rw [H.1] at this
      cases this
  | succ fuel ih =>
    intro listed a w hfree hD hr hy hS H
    refine ⟨fun h => (by rw [h] at hr; cases hr), fun j hj => ?_⟩
    by_cases hji : j = i
    · subst hji; exact hy.wpOp hi hS ⟨fun _ => hS, H⟩
    · have h1 := H.2 j (ready_mono hj hji)
      obtain ⟨hjun, oj, hoj, hall⟩ := mem_ready.1 hj
      have hnot : ∀ e ∈ oj.after, Region.binds md e = true → e.on ≠ i := fun e he hb heq => by
        have h1 := hall e he hb
        have h0 := (mem_ready.1 hr).1
        rw [heq, getD_in h0] at h1
        cases h1
      have h2 := wpOp_putIf hoj (hfree j oj hoj hji hjun hnot) (fun cs b => hsel i oi cs b hi) (fun cs b => hsel j oj cs b hoj) hQ hy h1
      have hfree' : ∀ k ok, ops[k]? = some ok → k ≠ i → (listed.setIfInBounds j true).getD k true = false →
          (∀ e ∈ ok.after, Region.binds md e = true → e.on ≠ i) → oi.apart ops ok = true := fun k ok hk hki hun hno => by
        refine hfree k ok hk hki ?_ hno
        by_cases hjk : j = k
        · subst hjk; exact hjun
        · rw [getD_set_ne true hjk] at hun; exact hun
      have hD' := hD.set hj
      have hun' : (listed.setIfInBounds j true).getD i true = false := by rw [getD_set_ne true hji]; exact (mem_ready.1 hr).1
      have hny : nyet a0 ((listed.setIfInBounds i true).setIfInBounds j true) = true := by
        have := hbar _ hD' hun'
        cases a0 with
        | none => rfl
        | some a =>
          have hai : i ≠ a := fun e => hne (by rw [e])
          rw [Array.setIfInBounds_comm _ _ (Ne.symm hji)]
          simp only [nyet] at this ⊢
          rwa [getD_set_ne false hai]
      refine wpOp_mono (fun a' w' h3 => ⟨fun _ => h3.2.1 hny, ih (listed.setIfInBounds j true) a' w' hfree' hD' (ready_mono hr (Ne.symm hji)) h3.1 (h3.2.1 hny) ?_⟩) h2
      rw [Array.setIfInBounds_comm _ _ hji]
      exact h3.2.2
theorem nyet_ne {a0 : Option Nat} {listed : Array Bool} {i : Nat} (hne : a0 ≠ some i) : nyet a0 (listed.setIfInBounds i true) = nyet a0 listed := by
  cases a0 with
  | none => rfl
  | some a =>
    have hai : i ≠ a := fun e => hne (by rw [e])
    simp only [nyet]
    rw [getD_set_ne false hai]
def isMv : Op → Bool
  | .move _ => true
  | .assign _ => true
  | _ => false
def reqM (md : Region.Mode) (ops : Array Oper) (b i : Nat) : Bool := reqB md ops 40 b i || (match ops[i]? with | some o => isMv o.op | none => false)
theorem isMv_all {P : Program} {o : Oper} (h : isMv o.op = true) {a : Act} {w : World} {v : Value} (hr : (execOp a.eval o).run P w = .ok (.value v) w) (w' : World) : (execOp a.eval o).run P w' = .ok (.value v) w' := by
  cases ho : o.op <;> simp [ho, isMv] at h <;> (simp [execOp, ho] at hr ⊢; exact hr)
theorem wpAnyG_first0 {P : Program} {a0 : Option Nat} {Q : Exit → Act → World → Prop} {S : World → Prop} {i : Nat} {oi : Oper} {v : Value} (hi : ops[i]? = some oi) (hsel : ∀ (j : Nat) (o : Oper) cs b, ops[j]? = some o → o.op ≠ .select cs b)
    (hQ : ∀ c a w, Q (.panic c) (a.put oi.dst v) w → Q (.panic c) a w) (hne : a0 ≠ some i) :
    ∀ (fuel : Nat) (listed : Array Bool) (a : Act) (w : World),
      (∀ j oj, ops[j]? = some oj → j ≠ i → listed.getD j true = false → (∀ e ∈ oj.after, Region.binds md e = true → e.on ≠ i) → oi.apart ops oj = true) →
      i ∈ Region.ready md ops listed → YieldsIf P ops (fun _ => True) oi v a → (nyet a0 listed = true → S w) →
      wpAnyG P md ops a0 Q S fuel (listed.setIfInBounds i true) (a.put oi.dst v) w → wpAnyG P md ops a0 Q S (fuel + 1) listed a w := by
  intro fuel
  induction fuel with
  | zero =>
    intro listed a w _ hr hy hS H
    refine ⟨fun h => (by rw [h] at hr; cases hr), fun j hj => ?_⟩
    by_cases hji : j = i
    · subst hji; exact hy.wpOp hi trivial ⟨fun hn => hS (by rw [← hn]; exact (nyet_ne hne).symm), H⟩
    · have := ready_mono hj hji
      rw [H.1] at this
      cases this
  | succ fuel ih =>
    intro listed a w hfree hr hy hS H
    refine ⟨fun h => (by rw [h] at hr; cases hr), fun j hj => ?_⟩
    by_cases hji : j = i
    · subst hji; exact hy.wpOp hi trivial ⟨fun hn => hS (by rw [← hn]; exact (nyet_ne hne).symm), H⟩
    · have h1 := H.2 j (ready_mono hj hji)
      obtain ⟨hjun, oj, hoj, hall⟩ := mem_ready.1 hj
      have hnot : ∀ e ∈ oj.after, Region.binds md e = true → e.on ≠ i := fun e he hb heq => by
        have h1 := hall e he hb
        have h0 := (mem_ready.1 hr).1
        rw [heq, getD_in h0] at h1
        cases h1
      have h2 := wpOp_putIf hoj (hfree j oj hoj hji hjun hnot) (fun cs b => hsel i oi cs b hi) (fun cs b => hsel j oj cs b hoj) hQ hy h1
      have hfree' : ∀ k ok, ops[k]? = some ok → k ≠ i → (listed.setIfInBounds j true).getD k true = false →
          (∀ e ∈ ok.after, Region.binds md e = true → e.on ≠ i) → oi.apart ops ok = true := fun k ok hk hki hun hno => by
        refine hfree k ok hk hki ?_ hno
        by_cases hjk : j = k
        · subst hjk; exact hjun
        · rw [getD_set_ne true hjk] at hun; exact hun
      have hny : nyet a0 ((listed.setIfInBounds i true).setIfInBounds j true) = nyet a0 (listed.setIfInBounds j true) := by
        rw [Array.setIfInBounds_comm _ _ (Ne.symm hji)]; exact nyet_ne hne
      refine wpOp_mono (fun a' w' h3 => ⟨fun hn => h3.2.1 (hny.trans hn), ih (listed.setIfInBounds j true) a' w' hfree' (ready_mono hr (Ne.symm hji)) h3.1 (fun hn => h3.2.1 (hny.trans hn)) ?_⟩) h2
      rw [Array.setIfInBounds_comm _ _ hji]
      exact h3.2.2
theorem wpAnyG_take {P : Program} {a0 : Option Nat} {Q : Exit → Act → World → Prop} {S : World → Prop} {i : Nat} {oi : Oper} {v : Value} {fuel : Nat} {listed : Array Bool} {a : Act} {w : World} (hi : ops[i]? = some oi)
    (hs : Region.noSelect ops = true) (hf : Region.free md ops listed i = true) (hr : (Region.ready md ops listed).contains i = true) (ha : (match a0 with | none => true | some b => b != i && reqM md ops b i) = true) (hD : Dn md ops listed)
    (hQ : ∀ c a w, Q (.panic c) (a.put oi.dst v) w → Q (.panic c) a w) (hy : YieldsIf P ops S oi v a) (hS : S w)
    (h : wpAnyG P md ops a0 Q S fuel (listed.setIfInBounds i true) (a.put oi.dst v) w) : wpAnyG P md ops a0 Q S (fuel + 1) listed a w := by
  cases a0 with
  | none => exact wpAnyG_first hi (Region.noSelect_spec hs) hQ (by simp) (fun _ _ _ => rfl) fuel listed a w (Region.free_spec hi hf) hD (by simpa using hr) hy hS h
  | some b =>
    simp only [Bool.and_eq_true, reqM, Bool.or_eq_true, hi] at ha
    have hne : some b ≠ some i := fun e => by injection e with e; subst e; simp at ha
    rcases ha.2 with ha | ha
    · refine wpAnyG_first hi (Region.noSelect_spec hs) hQ hne (fun listed hD hun => ?_) fuel listed a w (Region.free_spec hi hf) hD (by simpa using hr) hy hS h
      simp only [nyet, Bool.not_eq_true']
      exact getD_in (reqB_spec hD hun 40 b ha)
    · refine wpAnyG_first0 hi (Region.noSelect_spec hs) hQ hne fuel listed a w (Region.free_spec hi hf) (by simpa using hr) (hy.imp (fun ⟨h1, h2⟩ => ⟨h1, fun w' _ => isMv_all ha (h2 w hS) w'⟩) id) (fun _ => hS) h
theorem wpAnyG_all {P : Program} {a0 : Option Nat} {Q : Exit → Act → World → Prop} {S : World → Prop} {rs : List Nat} {fuel : Nat} {listed : Array Bool} {a : Act} {w : World} (hr : Region.ready md ops listed = rs) (hne : rs ≠ [])
    (h : ∀ i ∈ rs, wpOp P ops Q i (fun a' w' => (nyet a0 (listed.setIfInBounds i true) = true → S w') ∧ wpAnyG P md ops a0 Q S fuel (listed.setIfInBounds i true) a' w') a w) : wpAnyG P md ops a0 Q S (fuel + 1) listed a w :=
  ⟨fun h0 => absurd (hr ▸ h0) hne, hr ▸ h⟩
theorem wpAnyG_done {P : Program} {a0 : Option Nat} {Q : Exit → Act → World → Prop} {S : World → Prop} {listed : Array Bool} {a : Act} {w : World} (hr : Region.ready md ops listed = []) (h : Q .normal a w) :
    ∀ fuel, wpAnyG P md ops a0 Q S fuel listed a w
  | 0 => ⟨hr, h⟩
  | _ + 1 => ⟨fun _ => h, by rw [hr]; simp⟩
end orders

def chk (ops : Array Oper) (a0 : Option Nat) : List (Nat × Bool) → Array Bool → Bool
  | [], listed => (Region.ready .any ops listed).isEmpty
  | (i, true) :: r, listed => Region.free .any ops listed i && (Region.ready .any ops listed).contains i && (match a0 with | none => true | some b => b != i && reqM .any ops b i) && chk ops a0 r (listed.setIfInBounds i true)
  | (i, false) :: r, listed => (Region.ready .any ops listed == [i]) && (a0 != some i || !nyet a0 (listed.setIfInBounds i true)) && chk ops a0 r (listed.setIfInBounds i true)
def chkAll (ops : Array Oper) (a0 : Option Nat) (ord : List (Nat × Bool)) : Bool := Region.noSelect ops && ord.length == ops.size && chk ops a0 ord (Array.replicate ops.size false)
variable {a0 : Option Nat}

def RO (E : Env P g) (ops : Array Oper) (a0 : Option Nat) (ord : List (Nat × Bool)) (F : S → Prop) (s : S) : Prop :=
  Region.noSelect ops = true → ∀ Q : Exit → Act → World → Prop, (∀ s' a w, F s' → Rel E s' a w → Q .normal a w) → ∀ (listed : Array Bool), (Dn .any ops listed ∧ chk ops a0 ord listed = true) → ∀ a w, Rel E s a w → wpAnyG P .any ops a0 (NoPanic Q) (Ext w) ord.length listed a w

/-- A guarded operation that is passed over. -/
theorem os {ops : List Oper} {ord : List (Nat × Bool)} {F : S → Prop} {i d ty j dj : Nat} {oj : Oper} {b cc : Bool} {op : Op} {pos : String} {af : Array Edge} {t' : List V} (hi : At ops i ⟨some d, op, ty, pos, af, some (j, cc)⟩) (hj : At ops j oj) (hd : oj.dst = some dj) (hv : At s.t dj (.bool b)) (hb : (b == cc) = false) (hu : Upd s.t d .und t') (hr : RO E ops.toArray a0 ord F ⟨t', s.o⟩) :
    RO E ops.toArray a0 ((i, true) :: ord) F s := fun hs Q hQ listed hc a w ⟨β, r⟩ => by
  obtain ⟨hD, hc⟩ := hc
  simp only [chk, Bool.and_eq_true] at hc
  have hD' := hD.set (by simpa using hc.1.1.2)
  refine wpAnyG_take (i := i) (oi := ⟨some d, op, ty, pos, af, some (j, cc)⟩) (v := undef) (by simpa using hi.get) hs hc.1.1.1 hc.1.1.2 hc.1.2 hD (fun _ _ _ h => h) (.inr ⟨by simp [Region.wanted, yielded_of r hj hd hv]; intro e; subst e; simp at hb, rfl⟩) (Ext.refl w) ?_
  exact hr hs Q hQ _ ⟨hD', hc.2⟩ _ _ ⟨β, r.put .und hu⟩
theorem rd {id : Nat} {l : List Oper} (a0 : Option Nat) (ord : List (Nat × Bool)) (hm : P.follows .mixedOrders = true) (hc : chkAll l.toArray a0 ord = true) (h : RO E l.toArray a0 ord N s) : CW E (.region id l.toArray true) N X R s := fun Q hN hX hR a w ⟨β, r⟩ => by
  simp only [chkAll, Bool.and_eq_true, beq_iff_eq] at hc
  refine wp_region_noPanic (wp_region_any hm (wpAny_of_G (a0 := a0) (S := Ext w.drew) _ _ _ _ ?_))
  have := h hc.1.1 Q (fun s' a w h' r' => hN s' h' a w r') _ ⟨fun j oj hj hl => (by
    have hlt := (Array.getElem?_eq_some_iff.1 hj).1
    rw [Array.getD_eq_getD_getElem?, Array.getElem?_replicate, if_pos hlt] at hl
    cases hl), hc.2⟩ a w.drew ⟨β, r.extend (Ext.drew w)⟩
  rw [hc.1.2] at this
  exact this
/-- Behind a step that may turn the walk's own memory: each next step must be the only one that may come up. -/
def chz (ops : Array Oper) : List Nat → Array Bool → Bool
  | [], listed => (Region.ready .any ops listed).isEmpty
  | i :: r, listed => (Region.ready .any ops listed == [i]) && chz ops r (listed.setIfInBounds i true)
def RZ (E : Env P g) (ops : Array Oper) (ord : List Nat) (F : S → Prop) (s : S) : Prop :=
  ∀ Q : Exit → Act → World → Prop, (∀ s' a w, F s' → Rel E s' a w → Q .normal a w) → ∀ (listed : Array Bool), chz ops ord listed = true → ∀ a w, Rel E s a w → wpAny P .any ops (NoPanic Q) ord.length listed a w
theorem anyOne {P : Program} {md : Region.Mode} {ops : Array Oper} {Q : Exit → Act → World → Prop} {i fuel : Nat} {listed : Array Bool} {a : Act} {w : World} (hr : Region.ready md ops listed = [i])
    (h : wpOp P ops Q i (fun a' w' => wpAny P md ops Q fuel (listed.setIfInBounds i true) a' w') a w) : wpAny P md ops Q (fuel + 1) listed a w :=
  ⟨fun h0 => (by rw [hr] at h0; cases h0), fun j hj => (by rw [hr] at hj; simp at hj; subst hj; exact h)⟩
theorem zc {ops : List Oper} {ord : List Nat} {F : S → Prop} {i d ty : Nat} {op : Op} {pos : String} {af : Array Edge} {r0 : V} {t' : List V} (hi : At ops i ⟨some d, op, ty, pos, af, none⟩) (h : COp E s op (fun r => r = r0)) (hu : Upd s.t d r0 t') (hr : RZ E ops.toArray ord F ⟨t', s.o⟩) : RZ E ops.toArray (i :: ord) F s := fun Q hQ listed hc a w ⟨β, r⟩ => by
  obtain ⟨f, args, h1, h2⟩ := h β a w r ⟨some d, op, ty, pos, af, none⟩ rfl
  simp only [chz, Bool.and_eq_true, beq_iff_eq] at hc
  have hg : ops.toArray[i]? = some ⟨some d, op, ty, pos, af, none⟩ := by simpa using hi.get
  refine anyOne hc.1 (wpOp_step hg fun K hK => ?_)
  rw [if_pos (by simp [Region.wanted])]
  refine wpc h1 (R' := fun v w' => Rd w' (E.X β) β v r0 ∧ Ext w w') (h2.mono ?_) ?_
  · rintro e w' ⟨v, r', e1, rfl, e3, e4⟩; exact ⟨v, e1, e3, e4⟩
  · rintro v w' ⟨h3, h4⟩
    exact hK _ _ (hr Q hQ _ hc.2 _ _ ⟨β, (r.extend h4).put h3 hu⟩)
theorem hz0 {ops : Array Oper} {a0 : Option Nat} (listed : Array Bool) (h : chk ops a0 [] listed = true) : chz ops (([] : List (Nat × Bool)).map Prod.fst) listed = true := h
theorem hzs {ops : Array Oper} {a0 : Option Nat} {i : Nat} {r : List (Nat × Bool)} (hr : ∀ listed, chk ops a0 r listed = true → chz ops (r.map Prod.fst) listed = true) (listed : Array Bool) (h : chk ops a0 ((i, false) :: r) listed = true) : chz ops (((i, false) :: r).map Prod.fst) listed = true := by
  simp only [chk, Bool.and_eq_true] at h
  simp only [List.map_cons, chz, Bool.and_eq_true]
  exact ⟨h.1.1, hr _ h.2⟩

/-! ### The entry and the return -/
/-- What may stand in a result for what a slot holds: the walk's own rows become data. -/
inductive Cv (s : S) : V → V → Prop
  | p {U : V} (h : U.plain = true) : Cv s U U
  | o {i T k : Nat} {es : List (List V)} (h : At s.o i (.row T k es)) : Cv s (.own i) (.slice k es)
  | n {k : Nat} : Cv s .nil (.slice k [])
  | a {cs ds : List V} (hl : cs.length = ds.length) (h : ∀ (i : Nat) (c d : V), cs[i]? = some c → ds[i]? = some d → Cv s c d) : Cv s (.agg cs) (.agg ds)
inductive CvL (s : S) : List V → List V → Prop
  | n : CvL s [] []
  | c {x y : V} {xs ys : List V} (h : Cv s x y) (hr : CvL s xs ys) : CvL s (x :: xs) (y :: ys)
theorem CvL.spec {xs ys : List V} (h : CvL s xs ys) : xs.length = ys.length ∧ ∀ (i : Nat) (c d : V), xs[i]? = some c → ys[i]? = some d → Cv s c d := by
  induction h with
  | n => simp
  | c h hr ih => refine ⟨by simp [ih.1], fun i c d h1 h2 => ?_⟩; cases i with
    | zero => simp at h1 h2; subst h1; subst h2; exact h
    | succ i => exact ih.2 i c d (by simpa using h1) (by simpa using h2)
theorem Cv.l {cs ds : List V} (h : CvL s cs ds) : Cv s (.agg cs) (.agg ds) := .a h.spec.1 h.spec.2

theorem own_rd {β : List Tr} {a : Act} {w : World} (r : RelB E s β a w) {i T k : Nat} {es : List (List V)} {t : Tr} (hb : β[i]? = some t) (hi : At s.o i (.row T k es)) {X0 : Nat → Prop} (hX : ∀ b, X0 b → E.X β b) (hX0 : ∀ b, t.b = some b → ¬ X0 b) : Rd w X0 [] t.val (.slice k es) := by
  obtain ⟨h1, h2, xs, h3, h4⟩ := r.objs i t _ hb hi.get
  rcases h3.2 with ⟨h5, h6⟩ | ⟨gg, cap, cur, h5, _, h6, h7, h8, h9, h10⟩
  · rw [h5]
    have : es = [] := List.eq_nil_of_length_eq_zero h6
    subst this
    exact .slice0 (Nat.zero_le _)
  · rw [h5]
    have htb : t.b = some gg := by
      cases hb' : t.b with
      | none => simp [Tr.val, hb'] at h5
      | some b => simp [Tr.val, hb'] at h5; rw [h5.1]
    cases es with
    | nil => exact .slice0 h8
    | cons e0 es' =>
      refine .slice (val := fun i j => xs.getD (i * k + j) undef) rfl (by simp) h7 h8 (hX0 gg htb) (Array.getElem?_eq_some_iff.1 h6).1 h2 (fun i' j e d k1 k2 => ?_) (fun i' j e d k1 k2 => ?_)
      · obtain ⟨v, k3, _, _⟩ := h4 i' j e d k1 k2
        rw [h3.cells (g := gg) (by rw [h5]; rfl) _ v k3]
        simp [List.getD, k3]
      · obtain ⟨v, k3, _, k5⟩ := h4 i' j e d k1 k2
        simp only [List.getD, k3, Option.getD_some]
        exact k5.conv (Nat.le_refl _) (fun b _ hb => hX b hb) (fun _ _ _ h => h) (fun _ _ h => by simp at h)

theorem Cv.rd {U U' : V} (h : Cv s U U') {β : List Tr} {a : Act} {w : World} (r : RelB E s β a w) : ∀ {v : Value}, Rd w (E.X β) β v U → Rd w E.X0 [] v U' := by
  induction h with
  | p h => exact fun hv => (hv.unmark (β' := []) h).conv (Nat.le_refl _) (fun b _ hb => .inl hb) (fun _ _ _ h => h) (fun _ _ h => h)
  | o h =>
    intro v hv
    obtain ⟨t, h1, rfl⟩ := hv.own_inv
    exact own_rd r h1 h (fun b hb => .inl hb) (fun b hb hx => by have := (r.new _ t b h1 hb).1; have := E.h0 b hx; omega)
  | n => intro v hv; rw [hv.nil_inv]; exact .slice0 (Nat.zero_le _)
  | a hl h ih =>
    intro v hv
    obtain ⟨vs, rfl, k2, k3⟩ := hv.agg_inv
    refine .agg (by rw [k2, hl]) (fun i v d h1 h2 => ?_)
    have hlt : i < vs.size := (Array.getElem?_eq_some_iff.1 h1).1
    exact ih i _ d (List.getElem?_eq_getElem (by rw [← k2]; exact hlt)) h2 (k3 i v _ h1 (List.getElem?_eq_getElem _))

/-- What a return's slots come to. -/
inductive Rs (E : Env P g) (s : S) : List ResultVar → List V → Prop
  | n : Rs E s [] []
  | t {n : Nat} {U U' : V} {l : List ResultVar} {Us : List V} (h : At s.t n U) (hc : Cv s U U') (hr : Rs E s l Us) : Rs E s (.tmp n :: l) (U' :: Us)
  | a {n i T m : Nat} {cs ds : List V} {l : List ResultVar} {Us : List V} (h : At s.t n (.box i 0)) (ht : aggB P T m = true) (hi : At s.o i (.box T cs)) (hl : cs.length = m) (hc : CvL s cs ds) (hr : Rs E s l Us) : Rs E s (.cell n T :: l) (.agg ds :: Us)
  | b {n i T : Nat} {U U' : V} {l : List ResultVar} {Us : List V} (h : At s.t n (.box i 0)) (ht : oneB P T = true) (hi : At s.o i (.box T [U])) (hc : Cv s U U') (hr : Rs E s l Us) : Rs E s (.cell n T :: l) (U' :: Us)

def resM (P : Program) (w : World) (tmps : Array Value) (x : ResultVar) : Sem Value := match x with
  | .tmp t => pure (tmps.getD t undef)
  | .cell a t => do loadVar t (← asAddr (tmps.getD a undef))

theorem Rs.run {l : List ResultVar} {Us : List V} (h : Rs E s l Us) {β : List Tr} {a : Act} {w : World} (r : RelB E s β a w) :
    ∃ vs : List Value, (l.mapM (resM P w a.tmps)).run P w = .ok vs w ∧ vs.length = Us.length ∧ ∀ (i : Nat) (v : Value) (U : V), vs[i]? = some v → Us[i]? = some U → Rd w E.X0 [] v U := by
  have cons : ∀ {x : ResultVar} {v : Value} {U : V} {l : List ResultVar} {Us : List V}, (resM P w a.tmps x).run P w = .ok v w → Rd w E.X0 [] v U →
      (∃ vs : List Value, (l.mapM (resM P w a.tmps)).run P w = .ok vs w ∧ vs.length = Us.length ∧ ∀ (i : Nat) (v : Value) (U : V), vs[i]? = some v → Us[i]? = some U → Rd w E.X0 [] v U) →
      ∃ vs : List Value, ((x :: l).mapM (resM P w a.tmps)).run P w = .ok vs w ∧ vs.length = (U :: Us).length ∧ ∀ (i : Nat) (v : Value) (W : V), vs[i]? = some v → (U :: Us)[i]? = some W → Rd w E.X0 [] v W := by
    rintro x v U l Us h1 h2 ⟨vs, h3, h4, h5⟩
    refine ⟨v :: vs, by simp [List.mapM_cons, h1, h3], by simp [h4], fun i v' W k1 k2 => ?_⟩
    cases i with
    | zero => simp at k1 k2; subst k1; subst k2; exact h2
    | succ i => exact h5 i v' W (by simpa using k1) (by simpa using k2)
  induction h with
  | n => exact ⟨[], rfl, rfl, by simp⟩
  | t h hc hr ih => exact cons (by simp [resM]) (hc.rd r (r.tmps _ _ h.get)) ih
  | @a n i T m cs ds l Us h ht hi hl hc hr ih =>
    obtain ⟨tr, b, h1, h2, h3⟩ := (r.tmps _ _ h.get).box_inv
    obtain ⟨vs, k1, k2, k3⟩ := box_cells r hi h1 h2
    refine cons (v := .agg vs.toArray) ?_ ((Cv.l hc).rd r (.agg (by simpa using k2) (fun i v c h5 h6 => k3 i v c (by simpa using h5) h6))) ih
    have := loadVar_agg (P := P) (w := w) (t := T) (vs := vs) (by rw [k2, hl]; exact ht) (a := ⟨b, 0, none⟩) (fun j v hj => by
      rw [add_flat, cell_of_row w b _ _ T (0, 0) k1]
      simpa using hj)
    simp only [resM, h3, asAddr, Sem.run_bind, Sem.run_pure, Result.andThen_ok, this]
  | @b n i T U U' l Us h ht hi hc hr ih =>
    obtain ⟨tr, b, h1, h2, h3⟩ := (r.tmps _ _ h.get).box_inv
    obtain ⟨vs, k1, k2, k3⟩ := box_cells r hi h1 h2
    match vs, k2 with
    | [v], _ =>
      refine cons (v := v) ?_ (hc.rd r (k3 0 v U rfl rfl)) ih
      have hcell : w.cell? ⟨b, 0, none⟩ = some v := by rw [cell_of_row w b 0 _ T (0, 0) k1]; rfl
      simp only [resM, h3, asAddr, Sem.run_bind, Sem.run_pure, Result.andThen_ok, loadVar_one ht hcell]

def tupOf : List V → V
  | [U] => U
  | Us => .tup Us

/-- The function's return: its results read as r. -/
def Ret (E : Env P g) (l : List ResultVar) (R : V → Prop) (s : S) : Prop := ∃ Us r, Rs E s l Us ∧ r = tupOf Us ∧ R r
theorem ret_run {fn : Func} {l : List ResultVar} (hf : fn.results = l.toArray) {Us : List V} {r : V} (h : Rs E s l Us) (hU : r = tupOf Us) {β : List Tr} {a : Act} {w : World} (rr : RelB E s β a w) :
    ∃ v, (results fn a.tmps).run P w = .ok v w ∧ Rd w E.X0 [] v r := by
  obtain ⟨vs, h1, h2, h3⟩ := h.run rr
  have hm : (results fn a.tmps).run P w = .ok (if h : vs.toArray.size = 1 then vs.toArray[0] else .tuple vs.toArray) w := by
    have e1 : results fn a.tmps = (do
        let vs ← fn.results.mapM (resM P w a.tmps)
        pure (if h : vs.size = 1 then vs[0] else .tuple vs)) := rfl
    rw [e1, hf, List.mapM_toArray]
    simp only [Sem.run_bind, Sem.run_map, h1, Result.andThen_ok, Sem.run_pure]
  refine ⟨_, hm, ?_⟩
  subst hU
  clear h h1 hm
  match Us, vs, h2, h3 with
  | [U], [v], _, h3 => exact h3 0 v U rfl rfl
  | [], [], _, _ => exact .tup rfl (by simp)
  | U :: U' :: Us, v :: v' :: vs, h2, h3 =>
    rw [dif_neg (by simp)]
    exact .tup (by simpa using h2) (fun i v c h5 h6 => h3 i v c (by simpa using h5) h6)

/-- A function meets its contract. -/
theorem enter {f : FuncId} {fn : Func} {cd : Code} {n : Nat} {l : List ResultVar} {Us : List V} {R' : V → Prop} (hf : P.funcs[f]? = some fn) (hb : fn.body = some cd) (hn : fn.ntmps = n) (hl : fn.results = l.toArray)
    (hE : ∀ args w, (callFunc f args).run P w = .ok (.enter f args) w)
    (h : ∀ E : Env P g, CW E cd (Ret E l R') (fun _ _ => False) (Ret E l R') ⟨Us ++ List.replicate (n - Us.length) .any, []⟩) : Spec P g f Us R' := by
  refine ⟨hE, fun w X0 vs hG hX0 hvs => calls_of_wp hf hb ?_⟩
  let E : Env P g := ⟨X0, w, hX0, hG⟩
  have rb : RelB E ⟨Us ++ List.replicate (n - Us.length) .any, []⟩ [] { tmps := vs.toArray ++ Array.replicate (fn.ntmps - vs.toArray.size) undef, defers := [] } w := by
    refine { ext := Ext.refl w, defers := rfl, tsz := ?_, tmps := fun m U hm => ?_, blen := rfl, new := by simp, dist := by simp, objs := by simp }
    · simp [hn, hvs.1]
    · by_cases hlt : m < Us.length
      · simp only at hm
        rw [List.getElem?_append_left hlt] at hm
        have hv : (vs.toArray ++ Array.replicate (fn.ntmps - vs.toArray.size) undef).getD m undef = vs[m]'(by rw [hvs.1]; exact hlt) := by
          rw [Array.getD_eq_getD_getElem?, Array.getElem?_append_left (by simpa [hvs.1] using hlt)]
          simp [List.getElem?_eq_getElem (show m < vs.length by rw [hvs.1]; exact hlt)]
        rw [hv]
        exact (hvs.2 m _ U (List.getElem?_eq_getElem _) hm).conv (Nat.le_refl _) (fun b _ hb => by
          rcases hb with hb | ⟨t, ht, _⟩
          · exact hb
          · simp at ht) (fun _ _ _ h => h) (fun _ _ h => h)
      · simp only at hm
        rw [List.getElem?_append_right (by omega)] at hm
        have := List.mem_of_getElem? hm
        simp at this
        rw [this.2]; exact .any
  have fin : ∀ s', Ret E l R' s' → ∀ a w', Rel E s' a w' → a.defers = [] ∧ ∃ v, (results fn a.tmps).run P w' = .ok v w' ∧ (∃ v' r, Ending.returned v = .returned v' ∧ R' r ∧ Rd w' X0 [] v' r ∧ Ext w w') := by
    rintro s' ⟨Us', r, h1, h2, h3⟩ a w' ⟨β, rr⟩
    obtain ⟨v, k1, k2⟩ := ret_run hl h1 h2 rr
    exact ⟨rr.defers, v, k1, v, r, rfl, h3, k2, rr.ext⟩
  exact h E _ (fun s' h' a w' r => fin s' h' a w' r) (fun i s' h' => h'.elim) (fun s' h' a w' r => fin s' h' a w' r) _ _ ⟨[], rb⟩
end
end Go.VK
