/-
  THE VALUE KIT, first part: data that Go values stand for, what it means that a value reads as a datum in a world, the symbolic state of a walk. Plain definitions and theorems over any program; no condition.
-/
import Derived.Below
import Derived.OrdersHeld
import Derived.Laws.AppendOwn
import Derived.Laws.OwnMore
import Derived.Laws.MakeOwn
import Derived.KernelRfl
set_option linter.unusedVariables false
namespace Go.VK
open Go.RowKit

/-- What a value stands for. 'slice k es': a slice that is never written from here on, its elements of k cells each; 'nil': the nil slice; 'box', 'own', 'oel': the walk's own memory; 'elem cs': a pointer at cells that are never written, which read as cs. -/
inductive V where
  | int (k : IntKind) (n : Int)
  | bool (b : Bool)
  | str (s : ByteArray)
  | slice (k : Nat) (es : List (List V))
  | nil
  | agg (cs : List V)
  | tup (vs : List V)
  | box (i off : Nat)
  | elem (cs : List V)
  | own (i : Nat)
  | oel (i off : Nat)
  | und
  | any

/-- A row of the walk's own: its block (none: nil), length, capacity. -/
structure Tr where
  b : Option Nat
  n : Nat
  c : Nat
def Tr.val (t : Tr) : Value := .slice (t.b.map fun b => ⟨b, 0, none⟩) t.n t.c

def Ext (w w' : World) : Prop := Below w.heap.size w w'
theorem Ext.refl (w : World) : Ext w w := Below.refl _ _
theorem Ext.trans {a b c : World} (h : Ext a b) (k : Ext b c) : Ext a c := Below.trans h (Below.mono k h.size)
theorem Ext.cell {w w' : World} (h : Ext w w') {p : Addr} {u : Value} (hc : w.cell? p = some u) : w'.cell? p = some u :=
  (Below.cell h (World.block_lt_of_cell? w p hc)).trans hc
theorem Ext.heap {w w' : World} (h : Ext w w') {b : Nat} {o : Obj} (hb : w.heap[b]? = some o) : w'.heap[b]? = some o :=
  (h.block b (Array.getElem?_eq_some_iff.1 hb).1).trans hb
theorem Ext.drew (w : World) : Ext w w.drew := (Below.refl _ _).drew
theorem Ext.alloc (w : World) (o : Obj) : Ext w (w.alloc o) := (Below.refl _ _).alloc (Nat.le_refl _) o

inductive Rd (w : World) (X : Nat → Prop) : List Tr → Value → V → Prop
  | int {β : List Tr} {k : IntKind} {n : Int} (h1 : k.min ≤ n) (h2 : n ≤ k.max) : Rd w X β (.int k n) (.int k n)
  | bool {β : List Tr} {b : Bool} : Rd w X β (.bool b) (.bool b)
  | str {β : List Tr} {s : ByteArray} (h : s.size ≤ maxLen) : Rd w X β (.string s) (.str s)
  | slice0 {β : List Tr} {A : Option Addr} {c k : Nat} (h : c ≤ maxLen) : Rd w X β (.slice A 0 c) (.slice k [])
  | slice {β : List Tr} {a : Addr} {n c k : Nat} {es : List (List V)} {val : Nat → Nat → Value} (hn : n = es.length) (hpos : 0 < es.length) (hc : n ≤ c) (hm : c ≤ maxLen)
      (hX : ¬ X a.block) (hb : a.block < w.heap.size) (hk : ∀ e ∈ es, e.length = k)
      (hcell : ∀ (i j : Nat) (e : List V) (d : V), es[i]? = some e → e[j]? = some d → w.cell? (a.add (i * k + j)) = some (val i j))
      (hrd : ∀ (i j : Nat) (e : List V) (d : V), es[i]? = some e → e[j]? = some d → Rd w X [] (val i j) d) : Rd w X β (.slice (some a) n c) (.slice k es)
  | nil {β : List Tr} : Rd w X β (.slice none 0 0) .nil
  | agg {β : List Tr} {vs : Array Value} {cs : List V} (hl : vs.size = cs.length) (h : ∀ (i : Nat) (v : Value) (c : V), vs[i]? = some v → cs[i]? = some c → Rd w X β v c) : Rd w X β (.agg vs) (.agg cs)
  | tup {β : List Tr} {vs : Array Value} {cs : List V} (hl : vs.size = cs.length) (h : ∀ (i : Nat) (v : Value) (c : V), vs[i]? = some v → cs[i]? = some c → Rd w X β v c) : Rd w X β (.tuple vs) (.tup cs)
  | box {β : List Tr} {i off b : Nat} {t : Tr} (h : β[i]? = some t) (hb : t.b = some b) : Rd w X β (.pointer (some ⟨b, off, none⟩)) (.box i off)
  | elem {β : List Tr} {a : Addr} {cs : List V} {val : Nat → Value} (hX : ¬ X a.block) (hb : a.block < w.heap.size)
      (hcell : ∀ (j : Nat) (d : V), cs[j]? = some d → w.cell? (a.add j) = some (val j))
      (hrd : ∀ (j : Nat) (d : V), cs[j]? = some d → Rd w X [] (val j) d) : Rd w X β (.pointer (some a)) (.elem cs)
  | own {β : List Tr} {i : Nat} {t : Tr} (h : β[i]? = some t) : Rd w X β t.val (.own i)
  | oel {β : List Tr} {i off b : Nat} {t : Tr} (h : β[i]? = some t) (hb : t.b = some b) : Rd w X β (.pointer (some ⟨b, off, none⟩)) (.oel i off)
  | und {β : List Tr} : Rd w X β undef .und
  | any {β : List Tr} {v : Value} : Rd w X β v .any

/-- A reading in another world, with other marks. -/
theorem Rd.conv {w w' : World} {X X' : Nat → Prop} {β : List Tr} {v : Value} {U : V} (h : Rd w X β v U) (hsz : w.heap.size ≤ w'.heap.size)
    (hX : ∀ b, b < w.heap.size → X' b → X b) (hcell : ∀ (p : Addr) (u : Value), ¬ X p.block → w.cell? p = some u → w'.cell? p = some u) :
    ∀ {β' : List Tr}, (∀ (i : Nat) (t : Tr), β[i]? = some t → β'[i]? = some t) → Rd w' X' β' v U := by
  induction h with
  | int h1 h2 => exact fun _ => .int h1 h2
  | bool => exact fun _ => .bool
  | str h => exact fun _ => .str h
  | slice0 h => exact fun _ => .slice0 h
  | @slice β a n c k es val hn hpos hc hm hXa hb hk hce hrd ih =>
    intro β' _
    refine .slice (val := val) hn hpos hc hm (fun h => hXa (hX _ hb h)) (Nat.lt_of_lt_of_le hb hsz) hk (fun i j e d h1 h2 => hcell _ _ ?_ (hce i j e d h1 h2)) (fun i j e d h1 h2 => ih i j e d h1 h2 (fun _ _ h => h))
    have : (a.add (i * k + j)).block = a.block := by unfold Addr.add; split <;> rfl
    rw [this]; exact hXa
  | nil => exact fun _ => .nil
  | agg hl _ ih => exact fun hβ => .agg hl (fun i v c h1 h2 => ih i v c h1 h2 hβ)
  | tup hl _ ih => exact fun hβ => .tup hl (fun i v c h1 h2 => ih i v c h1 h2 hβ)
  | box h hb => exact fun hβ => .box (hβ _ _ h) hb
  | @elem β a cs val hXa hb hce hrd ih =>
    intro β' _
    refine .elem (val := val) (fun h => hXa (hX _ hb h)) (Nat.lt_of_lt_of_le hb hsz) (fun j d h => hcell _ _ ?_ (hce j d h)) (fun j d h => ih j d h (fun _ _ h => h))
    have : (a.add j).block = a.block := by unfold Addr.add; split <;> rfl
    rw [this]; exact hXa
  | own h => exact fun hβ => .own (hβ _ _ h)
  | oel h hb => exact fun hβ => .oel (hβ _ _ h) hb
  | und => exact fun _ => .und
  | any => exact fun _ => .any

theorem Rd.ext {w w' : World} {X : Nat → Prop} {β : List Tr} {v : Value} {U : V} (h : Rd w X β v U) (he : Ext w w') : Rd w' X β v U :=
  h.conv he.size (fun _ _ h => h) (fun _ _ _ hc => he.cell hc) (fun _ _ h => h)

/-- A datum that names none of the walk's own memory. -/
def V.plain : V → Bool
  | .int .. | .bool _ | .str _ | .slice .. | .nil => true
  | .agg cs => allPlain cs
  | .tup cs => allPlain cs
  | _ => false
  where allPlain : List V → Bool
  | [] => true
  | c :: cs => c.plain && allPlain cs

theorem V.allPlain_get {cs : List V} (h : V.plain.allPlain cs = true) : ∀ (i : Nat) (c : V), cs[i]? = some c → c.plain = true := by
  induction cs with
  | nil => intro i c hc; simp at hc
  | cons x xs ih =>
    simp only [V.plain.allPlain, Bool.and_eq_true] at h
    intro i c hc
    cases i with
    | zero => simp at hc; rw [← hc]; exact h.1
    | succ i => exact ih h.2 i c (by simpa using hc)

theorem Rd.unmark {w : World} {X : Nat → Prop} {β : List Tr} {v : Value} {U : V} (h : Rd w X β v U) : U.plain = true → ∀ {β' : List Tr}, Rd w X β' v U := by
  induction h with
  | int h1 h2 => exact fun _ _ => .int h1 h2
  | bool => exact fun _ _ => .bool
  | str h => exact fun _ _ => .str h
  | slice0 h => exact fun _ _ => .slice0 h
  | slice hn hpos hc hm hXa hb hk hce hrd ih => exact fun _ _ => .slice hn hpos hc hm hXa hb hk hce hrd
  | nil => exact fun _ _ => .nil
  | agg hl _ ih => exact fun hp β' => .agg hl (fun i v c h1 h2 => ih i v c h1 h2 (V.allPlain_get (by simpa [V.plain] using hp) i c h2))
  | tup hl _ ih => exact fun hp β' => .tup hl (fun i v c h1 h2 => ih i v c h1 h2 (V.allPlain_get (by simpa [V.plain] using hp) i c h2))
  | _ => intro hp; simp [V.plain] at hp

/-! ### The state of a walk -/
inductive Ob where
  | box (T : TypeId) (cs : List V)
  | row (T : TypeId) (k : Nat) (es : List (List V))

structure S where
  t : List V
  o : List Ob

structure GI where
  G : World → Prop
  st : ∀ w w', G w → Ext w w' → G w'

/-- Where the walk is: the world in which the function was entered, the blocks that its caller keeps to itself. -/
structure Env (P : Program) (g : GI) where
  X0 : Nat → Prop
  w0 : World
  h0 : ∀ b, X0 b → b < w0.heap.size
  hg : g.G w0

def Ob.ok (w : World) (X : Nat → Prop) (β : List Tr) (t : Tr) : Ob → Prop
  | .box T cs => ∃ (b : Nat) (vs : List Value), t.b = some b ∧ w.heap[b]? = some (.cells vs.toArray T (0, 0)) ∧ vs.length = cs.length ∧
      ∀ (i : Nat) (v : Value) (c : V), vs[i]? = some v → cs[i]? = some c → Rd w X β v c
  | .row T k es => 0 < k ∧ (∀ e ∈ es, e.length = k) ∧ ∃ xs : List Value, w.ownsRow 0 T k t.val es.length xs ∧
      ∀ (i j : Nat) (e : List V) (d : V), es[i]? = some e → e[j]? = some d → ∃ v, xs[i * k + j]? = some v ∧ v.oneCell' = true ∧ Rd w X [] v d

section
variable {P : Program} {g : GI}
def Env.X (E : Env P g) (β : List Tr) (b : Nat) : Prop := E.X0 b ∨ ∃ t ∈ β, t.b = some b

structure RelB (E : Env P g) (s : S) (β : List Tr) (a : Act) (w : World) : Prop where
  ext : Ext E.w0 w
  defers : a.defers = []
  tsz : a.tmps.size = s.t.length
  tmps : ∀ (n : Nat) (U : V), s.t[n]? = some U → Rd w (E.X β) β (a.tmps.getD n undef) U
  blen : β.length = s.o.length
  new : ∀ (i : Nat) (t : Tr) (b : Nat), β[i]? = some t → t.b = some b → E.w0.heap.size ≤ b ∧ b < w.heap.size
  dist : ∀ (i j : Nat) (t u : Tr) (b : Nat), i ≠ j → β[i]? = some t → β[j]? = some u → t.b = some b → u.b ≠ some b
  objs : ∀ (i : Nat) (t : Tr) (o : Ob), β[i]? = some t → s.o[i]? = some o → o.ok w (E.X β) β t

def Rel (E : Env P g) (s : S) (a : Act) (w : World) : Prop := ∃ β, RelB E s β a w

theorem Ob.ok.ext {w w' : World} {X : Nat → Prop} {β : List Tr} {t : Tr} {o : Ob} (h : o.ok w X β t) (he : Ext w w') : o.ok w' X β t := by
  cases o with
  | box T cs =>
    obtain ⟨b, vs, hb, hh, hl, hr⟩ := h
    exact ⟨b, vs, hb, he.heap hh, hl, fun i v c h1 h2 => (hr i v c h1 h2).ext he⟩
  | row T k es =>
    obtain ⟨h1, h2, xs, h3, h4⟩ := h
    refine ⟨h1, h2, xs, ?_, fun i j e d k1 k2 => let ⟨v, k3, k4, k5⟩ := h4 i j e d k1 k2; ⟨v, k3, k4, k5.ext he⟩⟩
    obtain ⟨a1, a2⟩ := h3
    refine ⟨a1, a2.imp id ?_⟩
    rintro ⟨gg, cap, cur, c1, c2, c3, c4⟩
    exact ⟨gg, cap, cur, c1, c2, he.heap c3, c4⟩

theorem RelB.extend {E : Env P g} {s : S} {β : List Tr} {a : Act} {w w' : World} (h : RelB E s β a w) (he : Ext w w') : RelB E s β a w' where
  ext := h.ext.trans he
  defers := h.defers
  tsz := h.tsz
  tmps n U hn := (h.tmps n U hn).ext he
  blen := h.blen
  new i t b h1 h2 := ⟨(h.new i t b h1 h2).1, Nat.lt_of_lt_of_le (h.new i t b h1 h2).2 he.size⟩
  dist := h.dist
  objs i t o h1 h2 := (h.objs i t o h1 h2).ext he

/-- A slot gets a value. -/
inductive Upd : List V → Nat → V → List V → Prop
  | z {x y : V} {l : List V} : Upd (x :: l) 0 y (y :: l)
  | s {x y : V} {l l' : List V} {n : Nat} (h : Upd l n y l') : Upd (x :: l) (n + 1) y (x :: l')
theorem Upd.eq {l l' : List V} {n : Nat} {y : V} (h : Upd l n y l') : l' = l.set n y ∧ n < l.length := by
  induction h with
  | z => simp
  | s _ ih => simp [ih.1, ih.2]

theorem getD_set {α : Type} (l : Array α) (n m : Nat) (x d : α) (hn : n < l.size) : (l.setIfInBounds n x).getD m d = if n = m then x else l.getD m d := by
  simp only [Array.getD_eq_getD_getElem?, Array.getElem?_setIfInBounds]
  split
  · rename_i h; subst h; rfl
  · rfl

theorem RelB.put {E : Env P g} {s : S} {β : List Tr} {a : Act} {w : World} (h : RelB E s β a w) {n : Nat} {v : Value} {U : V} {l' : List V} (hr : Rd w (E.X β) β v U) (hu : Upd s.t n U l') :
    RelB E ⟨l', s.o⟩ β (a.put (some n) v) w where
  ext := h.ext
  defers := h.defers
  tsz := by rw [hu.eq.1]; simpa [Act.put] using h.tsz
  tmps m U' hm := by
    have hn : n < a.tmps.size := by rw [h.tsz]; exact hu.eq.2
    simp only [Act.put]
    rw [getD_set _ _ _ _ _ hn]
    simp only [hu.eq.1] at hm
    split
    · rename_i he; subst he
      rw [List.getElem?_set_self (by have := hu.eq.2; omega)] at hm
      injection hm with hm
      rw [← hm]; exact hr
    · rename_i he
      rw [List.getElem?_set_ne he] at hm
      exact h.tmps m U' hm
  blen := h.blen
  new := h.new
  dist := h.dist
  objs := h.objs

theorem RelB.gw {E : Env P g} {s : S} {β : List Tr} {a : Act} {w : World} (h : RelB E s β a w) : g.G w := g.st _ _ E.hg h.ext

/-! ### Places in lists -/
inductive At {α : Type} : List α → Nat → α → Prop
  | z {x : α} {l : List α} : At (x :: l) 0 x
  | s {x y : α} {l : List α} {n : Nat} (h : At l n y) : At (x :: l) (n + 1) y
theorem At.get {α : Type} {l : List α} {n : Nat} {x : α} (h : At l n x) : l[n]? = some x := by
  induction h with
  | z => rfl
  | s _ ih => simpa using ih

/-- What an operand yields. -/
def Ev (E : Env P g) (s : S) (x : Operand) (U : V) : Prop := ∀ (β : List Tr) (a : Act) (w : World), RelB E s β a w → Rd w (E.X β) β (a.eval x) U
theorem Ev.t {E : Env P g} {s : S} {n : Nat} {U : V} (h : At s.t n U) : Ev E s (.tmp n) U := fun β a w r => r.tmps n U h.get
theorem Ev.i {E : Env P g} {s : S} {k : IntKind} {n : Int} (h : decide (k.min ≤ n ∧ n ≤ k.max) = true) : Ev E s (.const (.int k n)) (.int k n) :=
  fun _ _ _ _ => .int (of_decide_eq_true h).1 (of_decide_eq_true h).2
theorem Ev.b {E : Env P g} {s : S} {b : Bool} : Ev E s (.const (.bool b)) (.bool b) := fun _ _ _ _ => .bool
theorem Ev.s {E : Env P g} {s : S} {x : ByteArray} (h : decide (x.size ≤ 1000) = true) : Ev E s (.const (.string x)) (.str x) := fun _ _ _ _ => .str (by have := of_decide_eq_true h; unfold maxLen; omega)
theorem Ev.n {E : Env P g} {s : S} : Ev E s (.const (.slice none 0 0)) .nil := fun _ _ _ _ => .nil
end
end Go.VK
