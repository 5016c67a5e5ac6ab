/-
  THE EVALUATOR's KIT, second part: what slots mean, what holds of a run's memory, and how both go on when memory is made or written. Plain theorems over any program; the conditions stand in each.
-/
import Derived.Test.YtiojlennpdmapaaGreatEVa
set_option linter.unusedVariables false
set_option linter.unusedSimpArgs false
namespace Go.EV
open Go.RowKit Go.VK
variable {U : Uni} {C : Cod U}

def Lf.mean (C : Cod U) (w : World) (X : Nat → Prop) (β : List Tr) (s : Mm U) (v : Value) : Lf U → Prop
  | .int kd n => v = .int kd n ∧ kd.min ≤ n ∧ n ≤ kd.max
  | .bool b => v = .bool b
  | .str z => v = .string z ∧ z.size ≤ maxLen
  | .nat a => ∃ i f, s.ns[a]? = some (i, f) ∧ v = .int .i64 (i : Int) ∧ (i : Int) ≤ 9223372036854775807
  | .lt a m => ∃ i f, s.ns[a]? = some (i, f) ∧ v = .bool (decide ((i : Int) < m)) ∧ m ≤ 9223372036854775807
  | .sl τ l => Rd w X [] v (.slice (U.K τ) (l.map (U.enc τ)))
  | .nil => v = .slice none 0 0
  | .own i r => (r ≤ s.k ∧ v.oneCell' = true) ∧ ∃ e t, s.o[i]? = some e ∧ β[i]? = some t ∧ (e.rv = r → v = t.val)
  | .bor i c τ l => (c ≤ s.k ∧ v.oneCell' = true) ∧ ∃ e t, s.o[i]? = some e ∧ β[i]? = some t ∧ (e.cv = c → Rd w (fun b => X b ∧ b ∉ t.all) [] v (.slice (U.K τ) (l.map (U.enc τ))))
  | .inn i c τ q z j τ' l => (c ≤ s.k ∧ v.oneCell' = true) ∧ ∃ e t, s.o[i]? = some e ∧ β[i]? = some t ∧ (e.cv = c → ∃ d L xs, e.ob = .tree τ d L ∧ 0 ≤ q ∧ L[q.toNat]? = some z ∧ (C.cel τ z)[j]? = some (.sl τ' l) ∧ w.ownsRow 0 τ (U.K τ) t.val L.length xs ∧ xs[q.toNat * U.K τ + j]? = some v)
  | .box i off => v.oneCell' = true ∧ ∃ e t, s.o[i]? = some e ∧ β[i]? = some t ∧ (e.ob.isBox = true → ∃ b, t.b = some b ∧ v = .pointer (some ⟨b, off, none⟩))
  | .ptr τ z off => Rd w X [] v (.elem ((U.enc τ z).drop off))
  | .oel i c τ q z off => (c ≤ s.k ∧ v.oneCell' = true) ∧ ∃ e t, s.o[i]? = some e ∧ β[i]? = some t ∧ (e.cv = c → ∃ d L b, e.ob = .tree τ d L ∧ 0 ≤ q ∧ L[q.toNat]? = some z ∧ t.b = some b ∧ v = .pointer (some ⟨b, q.toNat * U.K τ + off, none⟩))
  | .und => v = undef
  | .any => True

/-- Cell by cell. -/
def Ms (C : Cod U) (w : World) (X : Nat → Prop) (β : List Tr) (s : Mm U) (vs : List Value) (cs : List (Lf U)) : Prop :=
  vs.length = cs.length ∧ ∀ (i : Nat) (v : Value) (c : Lf U), vs[i]? = some v → cs[i]? = some c → c.mean C w X β s v
def Mp (C : Cod U) (w : World) (X : Nat → Prop) (β : List Tr) (s : Mm U) (v : Value) : Bool × List (Lf U) → Prop
  | (false, cs) => ∃ c, cs = [c] ∧ c.mean C w X β s v
  | (true, cs) => ∃ vs : List Value, v = .agg vs.toArray ∧ Ms C w X β s vs cs
def Sv.mean (C : Cod U) (w : World) (X : Nat → Prop) (β : List Tr) (s : Mm U) (v : Value) : Sv U → Prop
  | .l x => x.mean C w X β s v
  | .a cs => ∃ vs : List Value, v = .agg vs.toArray ∧ Ms C w X β s vs cs
  | .t xs => ∃ vs : List Value, v = .tuple vs.toArray ∧ vs.length = xs.length ∧ ∀ (i : Nat) (v : Value) (x : Bool × List (Lf U)), vs[i]? = some v → xs[i]? = some x → Mp C w X β s v x

/-- What a leaf names lies below these bounds: objects, counters, versions. -/
def Lf.bd (N M K : Nat) : Lf U → Prop
  | .own i r => i < N ∧ r ≤ K
  | .bor i c _ _ => i < N ∧ c ≤ K
  | .inn i c _ _ _ _ _ _ => i < N ∧ c ≤ K
  | .box i _ => i < N
  | .oel i c _ _ _ _ => i < N ∧ c ≤ K
  | .nat a => a < M
  | .lt a _ => a < M
  | _ => True
def Sv.bd (N M K : Nat) : Sv U → Prop
  | .l x => x.bd N M K
  | .a cs => ∀ c ∈ cs, c.bd N M K
  | .t xs => ∀ x ∈ xs, ∀ c ∈ x.2, c.bd N M K
/-- From one moment to a later one, for what names the first N objects and M counters and versions up to K. -/
structure Evo (w w' : World) (X X' : Nat → Prop) (β β' : List Tr) (s s' : Mm U) (N M K : Nat) : Prop where
  sz : w.heap.size ≤ w'.heap.size
  hX : ∀ b, b < w.heap.size → X' b → X b
  hc : ∀ (p : Addr) (u : Value), ¬ X p.block → w.cell? p = some u → w'.cell? p = some u
  hk : K ≤ s'.k
  hn : ∀ (a i : Nat) (f : Bool), a < M → s.ns[a]? = some (i, f) → ∃ f', s'.ns[a]? = some (i, f')
  ho : ∀ (i : Nat) (e : EO U) (t : Tr), i < N → s.o[i]? = some e → β[i]? = some t → ∃ e' t', s'.o[i]? = some e' ∧ β'[i]? = some t' ∧ (e'.rv ≤ K → e'.rv = e.rv ∧ t'.val = t.val) ∧
    (e'.cv ≤ K → e'.cv = e.cv ∧ e'.ob = e.ob ∧ t' = t ∧ ∀ b ∈ t.all, w'.heap[b]? = w.heap[b]?) ∧ (e'.ob.isBox = true → e.ob.isBox = true ∧ t'.b = t.b)

section
variable {w w' : World} {X X' : Nat → Prop} {β β' : List Tr} {s s' : Mm U} {N M K : Nat}
theorem lt_of_some {α : Type} {l : List α} {i : Nat} {x : α} (h : l[i]? = some x) : i < l.length := (List.getElem?_eq_some_iff.1 h).1
theorem Lf.mean_bd {v : Value} {x : Lf U} (hm : x.mean C w X β s v) : x.bd s.o.length s.ns.length s.k := by
  cases x with
  | own i r => obtain ⟨h1, e, t, h2, _⟩ := hm; exact ⟨lt_of_some h2, h1.1⟩
  | bor i c τ l => obtain ⟨h1, e, t, h2, _⟩ := hm; exact ⟨lt_of_some h2, h1.1⟩
  | inn i c τ q z j τ' l => obtain ⟨h1, e, t, h2, _⟩ := hm; exact ⟨lt_of_some h2, h1.1⟩
  | oel i c τ q z off => obtain ⟨h1, e, t, h2, _⟩ := hm; exact ⟨lt_of_some h2, h1.1⟩
  | box i off => obtain ⟨_, e, t, h2, _⟩ := hm; exact lt_of_some h2
  | nat a => obtain ⟨i, f, h2, _⟩ := hm; exact lt_of_some h2
  | lt a m => obtain ⟨i, f, h2, _⟩ := hm; exact lt_of_some h2
  | _ => trivial
theorem Ms.bd {vs : List Value} {cs : List (Lf U)} (hm : Ms C w X β s vs cs) : ∀ c ∈ cs, c.bd s.o.length s.ns.length s.k := fun c hc => by
  obtain ⟨i, hi⟩ := List.mem_iff_getElem?.1 hc
  have hl : i < vs.length := by rw [hm.1]; exact lt_of_some hi
  exact Lf.mean_bd (hm.2 i _ c (List.getElem?_eq_getElem hl) hi)
theorem Sv.mean_bd {v : Value} {x : Sv U} (hm : x.mean C w X β s v) : x.bd s.o.length s.ns.length s.k := by
  cases x with
  | l x => exact Lf.mean_bd hm
  | a cs => obtain ⟨vs, _, h⟩ := hm; exact h.bd
  | t xs =>
    obtain ⟨vs, _, h2, h3⟩ := hm
    intro x hx c hc
    obtain ⟨i, hi⟩ := List.mem_iff_getElem?.1 hx
    have hl : i < vs.length := by rw [h2]; exact lt_of_some hi
    have := h3 i _ x (List.getElem?_eq_getElem hl) hi
    obtain ⟨b, cs⟩ := x
    cases b with
    | false => obtain ⟨c', rfl, h⟩ := this; simp at hc; subst hc; exact Lf.mean_bd h
    | true => obtain ⟨vs, _, h⟩ := this; exact h.bd c hc
theorem Lf.mean_evo (h : Evo w w' X X' β β' s s' N M K) {v : Value} {x : Lf U} (hb : x.bd N M K) (hm : x.mean C w X β s v) : x.mean C w' X' β' s' v := by
  cases x with
  | int => exact hm
  | bool => exact hm
  | str => exact hm
  | nil => exact hm
  | nat a => obtain ⟨i, f, h1, h2⟩ := hm; obtain ⟨f', h3⟩ := h.hn a i f hb h1; exact ⟨i, f', h3, h2⟩
  | lt a m => obtain ⟨i, f, h1, h2⟩ := hm; obtain ⟨f', h3⟩ := h.hn a i f hb h1; exact ⟨i, f', h3, h2⟩
  | und => exact hm
  | any => trivial
  | sl τ l => exact Rd.conv hm h.sz h.hX h.hc (fun _ _ h => h)
  | ptr τ z off => exact Rd.conv hm h.sz h.hX h.hc (fun _ _ h => h)
  | own i r =>
    obtain ⟨h1, e, t, h2, h3, h4⟩ := hm
    obtain ⟨e', t', g1, g2, g3, _⟩ := h.ho i e t hb.1 h2 h3
    refine ⟨⟨Nat.le_trans hb.2 h.hk, h1.2⟩, e', t', g1, g2, fun hr => ?_⟩
    obtain ⟨q1, q2⟩ := g3 (hr ▸ hb.2)
    rw [q2]; exact h4 (q1.symm.trans hr)
  | bor i c τ l =>
    obtain ⟨h1, e, t, h2, h3, h4⟩ := hm
    obtain ⟨e', t', g1, g2, _, g3, _⟩ := h.ho i e t hb.1 h2 h3
    refine ⟨⟨Nat.le_trans hb.2 h.hk, h1.2⟩, e', t', g1, g2, fun hr => ?_⟩
    obtain ⟨q1, _, q3, q4⟩ := g3 (hr ▸ hb.2)
    subst q3
    refine (h4 (q1.symm.trans hr)).conv h.sz (fun b hb ⟨k1, k2⟩ => ⟨h.hX b hb k1, k2⟩) (fun p u hp hc => ?_) (fun _ _ h => h)
    by_cases hx : X p.block
    · have : p.block ∈ t'.all := Classical.byContradiction fun hn => hp ⟨hx, hn⟩
      rw [World.cell?_of_block (q4 _ this)]; exact hc
    · exact h.hc p u hx hc
  | inn i c τ q z j τ' l =>
    obtain ⟨h1, e, t, h2, h3, h4⟩ := hm
    obtain ⟨e', t', g1, g2, _, g3, _⟩ := h.ho i e t hb.1 h2 h3
    refine ⟨⟨Nat.le_trans hb.2 h.hk, h1.2⟩, e', t', g1, g2, fun hr => ?_⟩
    obtain ⟨q1, q2, q3, q4⟩ := g3 (hr ▸ hb.2)
    subst q3
    obtain ⟨d, L, xs, a1, a2, a3, a4, a5, a6⟩ := h4 (q1.symm.trans hr)
    exact ⟨d, L, xs, q2.trans a1, a2, a3, a4, ownsRow_conv a5 (fun b hb => q4 b (Tr.root hb)), a6⟩
  | box i off =>
    obtain ⟨h1, e, t, h2, h3, h4⟩ := hm
    obtain ⟨e', t', g1, g2, _, _, g3⟩ := h.ho i e t hb h2 h3
    refine ⟨h1, e', t', g1, g2, fun hr => ?_⟩
    obtain ⟨q1, q2⟩ := g3 hr
    rw [q2]; exact h4 q1
  | oel i c τ q z off =>
    obtain ⟨h1, e, t, h2, h3, h4⟩ := hm
    obtain ⟨e', t', g1, g2, _, g3, _⟩ := h.ho i e t hb.1 h2 h3
    refine ⟨⟨Nat.le_trans hb.2 h.hk, h1.2⟩, e', t', g1, g2, fun hr => ?_⟩
    obtain ⟨q1, q2, q3, q4⟩ := g3 (hr ▸ hb.2)
    subst q3
    obtain ⟨d, L, b, a1, a2⟩ := h4 (q1.symm.trans hr)
    exact ⟨d, L, b, q2.trans a1, a2⟩
theorem Ms.evo (h : Evo w w' X X' β β' s s' N M K) {vs : List Value} {cs : List (Lf U)} (hb : ∀ c ∈ cs, c.bd N M K) (hm : Ms C w X β s vs cs) : Ms C w' X' β' s' vs cs :=
  ⟨hm.1, fun i v c h1 h2 => Lf.mean_evo h (hb c (List.mem_of_getElem? h2)) (hm.2 i v c h1 h2)⟩
theorem Mp.evo (h : Evo w w' X X' β β' s s' N M K) {v : Value} {x : Bool × List (Lf U)} (hb : ∀ c ∈ x.2, c.bd N M K) (hm : Mp C w X β s v x) : Mp C w' X' β' s' v x := by
  obtain ⟨b, cs⟩ := x
  cases b with
  | false => obtain ⟨c, rfl, h2⟩ := hm; exact ⟨c, rfl, Lf.mean_evo h (hb c (by simp)) h2⟩
  | true => obtain ⟨vs, h1, h2⟩ := hm; exact ⟨vs, h1, h2.evo h hb⟩
theorem Sv.mean_evo (h : Evo w w' X X' β β' s s' N M K) {v : Value} {x : Sv U} (hb : x.bd N M K) (hm : x.mean C w X β s v) : x.mean C w' X' β' s' v := by
  cases x with
  | l x => exact Lf.mean_evo h hb hm
  | a cs => obtain ⟨vs, h1, h2⟩ := hm; exact ⟨vs, h1, h2.evo h hb⟩
  | t xs => obtain ⟨vs, h1, h2, h3⟩ := hm; exact ⟨vs, h1, h2, fun i v x a b => (h3 i v x a b).evo h (hb x (List.mem_of_getElem? b))⟩
/-- In the usual case: all that is named. -/
theorem Sv.mean_go (h : Evo w w' X X' β β' s s' s.o.length s.ns.length s.k) {v : Value} {x : Sv U} (hm : x.mean C w X β s v) : x.mean C w' X' β' s' v := Sv.mean_evo h (Sv.mean_bd hm) hm
theorem Lf.mean_go (h : Evo w w' X X' β β' s s' s.o.length s.ns.length s.k) {v : Value} {x : Lf U} (hm : x.mean C w X β s v) : x.mean C w' X' β' s' v := Lf.mean_evo h (Lf.mean_bd hm) hm
theorem Ms.go (h : Evo w w' X X' β β' s s' s.o.length s.ns.length s.k) {vs : List Value} {cs : List (Lf U)} (hm : Ms C w X β s vs cs) : Ms C w' X' β' s' vs cs := Ms.evo h hm.bd hm
end

/-! ### The memory -/
/-- Nothing has turned that was there, but for the blocks Y. -/
structure Bel (Y : Nat → Prop) (w w' : World) : Prop where
  os : w'.os = w.os
  tape : w'.tape = w.tape
  output : w'.output = w.output
  size : w.heap.size ≤ w'.heap.size
  block : ∀ b, b < w.heap.size → ¬ Y b → w'.heap[b]? = w.heap[b]?
theorem Bel.refl {Y : Nat → Prop} (w : World) : Bel Y w w := ⟨rfl, rfl, rfl, Nat.le_refl _, fun _ _ _ => rfl⟩
theorem Bel.trans {Y : Nat → Prop} {a b c : World} (h : Bel Y a b) (k : Bel Y b c) : Bel Y a c :=
  ⟨k.os.trans h.os, k.tape.trans h.tape, k.output.trans h.output, Nat.le_trans h.size k.size, fun i hi hy => (k.block i (Nat.lt_of_lt_of_le hi h.size) hy).trans (h.block i hi hy)⟩
theorem Bel.of_ext {w w' : World} (h : Ext w w') {Y : Nat → Prop} : Bel Y w w' := ⟨h.os, h.tape, h.output, h.size, fun b hb _ => h.block b hb⟩
theorem Bel.ext {w w' : World} {Y : Nat → Prop} (h : Bel Y w w') (hy : ∀ b, ¬ Y b) : Ext w w' := ⟨h.os, h.tape, h.output, h.size, fun b hb => h.block b hb (hy b)⟩

/-- Where the run is: the world in which the function was entered, the blocks that its caller keeps to itself (X0), those that it hands over to be written (Y0), roots that are to be known to the end (object, version, value). -/
structure Env (g : GI) where
  X0 : Nat → Prop
  Y0 : Nat → Prop
  w0 : World
  h0 : ∀ b, X0 b → b < w0.heap.size
  hY : ∀ b, Y0 b → b < w0.heap.size
  hXY : ∀ b, X0 b → ¬ Y0 b
  hg : ∀ w, Bel Y0 w0 w → g.G w
  pin : List (Nat × Nat × Value)

variable {g : GI}
def Env.X (E : Env g) (β : List Tr) (b : Nat) : Prop := E.X0 b ∨ E.Y0 b ∨ ∃ t ∈ β, b ∈ t.all

def Ob.ok (C : Cod U) (w : World) (X : Nat → Prop) (β : List Tr) (s : Mm U) (t : Tr) : Ob U → Prop
  | .dead => True
  | .box T cs us => cs.length = us.length ∧ ∃ b vs, t.b = some b ∧ t.bs = [] ∧ w.heap[b]? = some (.cells vs.toArray T (0, 0)) ∧ Ms C w X β s vs cs
  | .tree τ d l => 0 < U.K τ ∧ ∃ xs, w.ownsRow 0 τ (U.K τ) t.val l.length xs ∧ OwL C w X d xs (l.map (C.cel τ)).flatten t.bs

structure Hp (C : Cod U) (E : Env g) (s : Mm U) (β : List Tr) (w : World) : Prop where
  ext : Bel E.Y0 E.w0 w
  len : β.length = s.o.length
  vers : ∀ (i : Nat) (e : EO U), s.o[i]? = some e → e.rv ≤ s.k ∧ e.cv ≤ s.k
  cnt : ∀ (a i : Nat), s.ns[a]? = some (i, true) → (i : Int) + 1 ≤ 9223372036854775807
  new : ∀ (i : Nat) (t : Tr) (b : Nat), β[i]? = some t → b ∈ t.all → (E.w0.heap.size ≤ b ∨ E.Y0 b) ∧ b < w.heap.size
  dist : ∀ (i j : Nat) (t u : Tr) (b : Nat), i ≠ j → β[i]? = some t → β[j]? = some u → b ∈ t.all → b ∉ u.all
  nd : ∀ (i : Nat) (t : Tr), β[i]? = some t → t.all.Nodup
  ok : ∀ (i : Nat) (t : Tr) (e : EO U), β[i]? = some t → s.o[i]? = some e → e.ob.ok C w (E.X β) β s t
  pin : ∀ x ∈ E.pin, (Lf.own x.1 x.2.1 : Lf U).mean C w (E.X β) β s x.2.2

section
variable {E : Env g} {s s' : Mm U} {β β' : List Tr} {w w' : World}
theorem Hp.gw (H : Hp C E s β w) : g.G w := E.hg w H.ext
theorem Hp.X_lt (H : Hp C E s β w) (b : Nat) (h : E.X β b) : b < w.heap.size := by
  rcases h with h | h | ⟨t, ht, hb⟩
  · exact Nat.lt_of_lt_of_le (E.h0 b h) H.ext.size
  · exact Nat.lt_of_lt_of_le (E.hY b h) H.ext.size
  · obtain ⟨i, hi⟩ := List.mem_iff_getElem?.1 ht
    exact (H.new i t b hi hb).2
theorem Hp.tr (H : Hp C E s β w) {i : Nat} {e : EO U} (h : s.o[i]? = some e) : ∃ t, β[i]? = some t :=
  ⟨_, List.getElem?_eq_getElem (by rw [H.len]; exact (List.getElem?_eq_some_iff.1 h).1)⟩
theorem Ob.ok_evo (h : Evo w w' (E.X β) (E.X β') β β' s s' s.o.length s.ns.length s.k) {t : Tr} {x : Ob U} (hok : x.ok C w (E.X β) β s t) (hh : ∀ b ∈ t.all, w'.heap[b]? = w.heap[b]?) : x.ok C w' (E.X β') β' s' t := by
  cases x with
  | dead => trivial
  | box T cs us =>
    obtain ⟨h0, b, vs, h1, h2, h3, h4⟩ := hok
    exact ⟨h0, b, vs, h1, h2, by rw [hh b (Tr.root h1)]; exact h3, h4.go h⟩
  | tree τ d l =>
    obtain ⟨h1, xs, h2, h3⟩ := hok
    exact ⟨h1, xs, ownsRow_conv h2 (fun b hb => hh b (Tr.root hb)), h3.conv h.sz h.hX h.hc (fun b hb => hh b (by simp [Tr.all, hb]))⟩

/-- A step: the objects I turn (in their own blocks D), new ones come behind; all others stay. -/
theorem Hp.step (H : Hp C E s β w) (I D : Nat → Prop) (hk : s.k ≤ s'.k) (hn : ∀ (a i : Nat) (f : Bool), s.ns[a]? = some (i, f) → ∃ f', s'.ns[a]? = some (i, f')) (hcnt : ∀ (a i : Nat), s'.ns[a]? = some (i, true) → (i : Int) + 1 ≤ 9223372036854775807) (hlen : β'.length = s'.o.length) (hge : s.o.length ≤ s'.o.length) (hsz : w.heap.size ≤ w'.heap.size) (hos : w'.os = w.os) (htape : w'.tape = w.tape) (hout : w'.output = w.output)
    (hheap : ∀ b, b < w.heap.size → ¬ D b → w'.heap[b]? = w.heap[b]?) (hD : ∀ b, D b → ∃ i t, I i ∧ β[i]? = some t ∧ b ∈ t.all)
    (hsame : ∀ i, ¬ I i → i < s.o.length → s'.o[i]? = s.o[i]? ∧ β'[i]? = β[i]?)
    (hnew : ∀ (j : Nat) (t : Tr) (b : Nat), (I j ∨ s.o.length ≤ j) → β'[j]? = some t → b ∈ t.all → b < w'.heap.size ∧ (w.heap.size ≤ b ∨ ∃ i u, I i ∧ β[i]? = some u ∧ b ∈ u.all))
    (hdist : ∀ (i j : Nat) (t u : Tr) (b : Nat), (I i ∨ s.o.length ≤ i) → (I j ∨ s.o.length ≤ j) → i ≠ j → β'[i]? = some t → β'[j]? = some u → b ∈ t.all → b ∉ u.all)
    (hnd : ∀ (j : Nat) (t : Tr), (I j ∨ s.o.length ≤ j) → β'[j]? = some t → t.all.Nodup)
    (hver : ∀ (j : Nat) (e : EO U), (I j ∨ s.o.length ≤ j) → s'.o[j]? = some e → e.rv ≤ s'.k ∧ e.cv ≤ s'.k)
    (hI : ∀ (i : Nat) (e e' : EO U) (t t' : Tr), I i → s.o[i]? = some e → s'.o[i]? = some e' → β[i]? = some t → β'[i]? = some t' → (e'.rv ≤ s.k → e'.rv = e.rv ∧ t'.val = t.val) ∧ s.k < e'.cv ∧ (e'.ob.isBox = true → e.ob.isBox = true ∧ t'.b = t.b))
    (hok : Evo w w' (E.X β) (E.X β') β β' s s' s.o.length s.ns.length s.k → ∀ (j : Nat) (t : Tr) (e : EO U), (I j ∨ s.o.length ≤ j) → β'[j]? = some t → s'.o[j]? = some e → e.ob.ok C w' (E.X β') β' s' t) :
    Hp C E s' β' w' ∧ Evo w w' (E.X β) (E.X β') β β' s s' s.o.length s.ns.length s.k := by
  have hcase : ∀ j, (I j ∨ s.o.length ≤ j) ∨ (¬ I j ∧ j < s.o.length) := fun j => by
    by_cases h : I j
    · exact .inl (.inl h)
    · by_cases h2 : s.o.length ≤ j
      · exact .inl (.inr h2)
      · exact .inr ⟨h, by omega⟩
  have hX : ∀ b, b < w.heap.size → E.X β' b → E.X β b := by
    rintro b hb (h | h | ⟨t, ht, htb⟩)
    · exact .inl h
    · exact .inr (.inl h)
    · obtain ⟨j, hj⟩ := List.mem_iff_getElem?.1 ht
      rcases hcase j with hc | ⟨hn, hl⟩
      · rcases (hnew j t b hc hj htb).2 with h | ⟨i, u, _, hu, hub⟩
        · omega
        · exact .inr (.inr ⟨u, List.mem_of_getElem? hu, hub⟩)
      · rw [(hsame j hn hl).2] at hj
        exact .inr (.inr ⟨t, List.mem_of_getElem? hj, htb⟩)
  have hDX : ∀ b, D b → E.X β b := fun b hb => by
    obtain ⟨i, t, _, h2, h3⟩ := hD b hb
    exact .inr (.inr ⟨t, List.mem_of_getElem? h2, h3⟩)
  have hkeep : ∀ (i : Nat) (t : Tr), ¬ I i → β[i]? = some t → ∀ b ∈ t.all, w'.heap[b]? = w.heap[b]? := fun i t hi ht b hb =>
    hheap b (H.new i t b ht hb).2 (fun hd => by
      obtain ⟨j, u, hj, hu, hub⟩ := hD b hd
      exact H.dist i j t u b (fun e => hi (e ▸ hj)) ht hu hb hub)
  have hevo : Evo w w' (E.X β) (E.X β') β β' s s' s.o.length s.ns.length s.k := by
    refine ⟨hsz, hX, fun p u hp hc => ?_, hk, fun a i f _ h => hn a i f h, fun i e t _ he ht => ?_⟩
    · have hlt := World.block_lt_of_cell? w p hc
      rw [World.cell?_of_block (hheap p.block hlt (fun hd => hp (hDX _ hd)))]; exact hc
    · have hil : i < s.o.length := (List.getElem?_eq_some_iff.1 he).1
      by_cases hi : I i
      · have h1 : s'.o[i]? = some (s'.o[i]'(by omega)) := List.getElem?_eq_getElem _
        have h2 : β'[i]? = some (β'[i]'(by omega)) := List.getElem?_eq_getElem _
        obtain ⟨q1, q2, q3⟩ := hI i e _ t _ hi he h1 ht h2
        exact ⟨_, _, h1, h2, q1, fun hc => absurd hc (by omega), q3⟩
      · obtain ⟨h1, h2⟩ := hsame i hi hil
        exact ⟨e, t, h1.trans he, h2.trans ht, fun _ => ⟨rfl, rfl⟩, fun _ => ⟨rfl, rfl, rfl, hkeep i t hi ht⟩, fun h => ⟨h, rfl⟩⟩
  refine ⟨⟨?_, hlen, ?_, hcnt, ?_, ?_, ?_, ?_, fun x hx => Lf.mean_go hevo (H.pin x hx)⟩, hevo⟩
  · refine ⟨hos.trans H.ext.os, htape.trans H.ext.tape, hout.trans H.ext.output, Nat.le_trans H.ext.size hsz, fun b hb hy => ?_⟩
    rw [hheap b (Nat.lt_of_lt_of_le hb H.ext.size) (fun hd => by
      obtain ⟨i, t, _, h2, h3⟩ := hD b hd
      rcases (H.new i t b h2 h3).1 with h | h
      · omega
      · exact hy h)]
    exact H.ext.block b hb hy
  · intro j e he
    rcases hcase j with hc | ⟨hn, hl⟩
    · exact hver j e hc he
    · rw [(hsame j hn hl).1] at he
      have := H.vers j e he
      omega
  · intro j t b ht hb
    rcases hcase j with hc | ⟨hn, hl⟩
    · obtain ⟨h1, h2⟩ := hnew j t b hc ht hb
      refine ⟨?_, h1⟩
      rcases h2 with h | ⟨i, u, _, hu, hub⟩
      · have := H.ext.size; exact .inl (by omega)
      · exact (H.new i u b hu hub).1
    · rw [(hsame j hn hl).2] at ht
      have := H.new j t b ht hb
      exact ⟨this.1, by omega⟩
  · intro i j t u b hij ht hu hb hub
    have aux : ∀ (i j : Nat) (t u : Tr), i ≠ j → (I i ∨ s.o.length ≤ i) → (¬ I j ∧ j < s.o.length) → β'[i]? = some t → β[j]? = some u → b ∈ t.all → b ∈ u.all → False := by
      intro i j t u hij hi hj ht hu hb hub
      rcases (hnew i t b hi ht hb).2 with h | ⟨q, x, hq, hx, hxb⟩
      · have := (H.new j u b hu hub).2; omega
      · exact H.dist q j x u b (fun e => hj.1 (e ▸ hq)) hx hu hxb hub
    rcases hcase i with hi | hi <;> rcases hcase j with hj | hj
    · exact hdist i j t u b hi hj hij ht hu hb hub
    · rw [(hsame j hj.1 hj.2).2] at hu; exact aux i j t u hij hi hj ht hu hb hub
    · rw [(hsame i hi.1 hi.2).2] at ht; exact aux j i u t (Ne.symm hij) hj hi hu ht hub hb
    · rw [(hsame i hi.1 hi.2).2] at ht
      rw [(hsame j hj.1 hj.2).2] at hu
      exact H.dist i j t u b hij ht hu hb hub
  · intro j t ht
    rcases hcase j with hc | ⟨hn, hl⟩
    · exact hnd j t hc ht
    · rw [(hsame j hn hl).2] at ht; exact H.nd j t ht
  · intro j t e ht he
    rcases hcase j with hc | ⟨hn, hl⟩
    · exact hok hevo j t e hc ht he
    · obtain ⟨h1, h2⟩ := hsame j hn hl
      rw [h1] at he; rw [h2] at ht
      exact Ob.ok_evo hevo (H.ok j t e ht he) (hkeep j t hn ht)
end
end Go.EV
