/-
  THE EVALUATOR'S KIT, first part: symbolic values, states, and what it means that a run's memory stands as a state says. Plain definitions and theorems over any program; the conditions stand in each.
-/
import Derived.Test.YtiojlennpdmapaaGreatVKs
set_option linter.unusedVariables false
set_option linter.unusedSimpArgs false
namespace Go.EV
open Go.RowKit Go.VK

/-- The program's data: for each type of elements (by the type's number) a Lean type, the number of cells, the cells. -/
structure Uni where
  El : Nat → Type
  K : Nat → Nat
  enc : (τ : Nat) → El τ → List V

/-- A value of one cell. nat: the int that is the counter a; lt: is the counter a below m?; sl: a slice that is never written from here on; own: the root of a tree; bor: a slice that may lie in a tree, as it stood at a version; inn: the slice in a cell of a tree's element; ptr: a pointer into data that is never written; oel: a pointer into a tree's element. -/
inductive Lf (U : Uni) where
  | int (k : IntKind) (n : Int)
  | bool (b : Bool)
  | str (s : ByteArray)
  | nat (a : Nat)
  | lt (a : Nat) (m : Int)
  | sl (τ : Nat) (l : List (U.El τ))
  | nil
  | own (i r : Nat)
  | bor (i c τ : Nat) (l : List (U.El τ))
  | inn (i c τ : Nat) (q : Int) (z : U.El τ) (j τ' : Nat) (l : List (U.El τ'))
  | box (i off : Nat)
  | ptr (τ : Nat) (z : U.El τ) (off : Nat)
  | oel (i c τ : Nat) (q : Int) (z : U.El τ) (off : Nat)
  | und
  | any

variable {U : Uni}
def Lf.toV : Lf U → V
  | .int k n => .int k n
  | .bool b => .bool b
  | .str s => .str s
  | .sl τ l => .slice (U.K τ) (l.map (U.enc τ))
  | .nil => .nil
  | _ => .any
def Lf.isData : Lf U → Bool
  | .int .. | .bool _ | .str _ | .sl .. => true
  | _ => false

/-- How the data are laid out in cells. -/
structure Cod (U : Uni) where
  cel : (τ : Nat) → U.El τ → List (Lf U)
  bld : (τ : Nat) → List (Lf U) → Option (U.El τ)
  hcel : ∀ τ x, (cel τ x).map Lf.toV = U.enc τ x
  hlen : ∀ τ x, (cel τ x).length = U.K τ
  hdat : ∀ τ x c, c ∈ cel τ x → c.isData = true
  hmk : ∀ τ cs x, bld τ cs = some x → cs = cel τ x

/-- Objects. A box's cells bear versions of their own. -/
inductive Ob (U : Uni) where
  | dead
  | box (T : Nat) (cs : List (Lf U)) (vs : List Nat)
  | tree (τ : Nat) (d : Bool) (l : List (U.El τ))
def Ob.isBox : Ob U → Bool
  | .box .. => true
  | _ => false
structure EO (U : Uni) where
  ob : Ob U
  rv : Nat
  cv : Nat

inductive Sv (U : Uni) where
  | l (x : Lf U)
  | a (cs : List (Lf U))
  | t (xs : List (Bool × List (Lf U)))

/-- The memory: objects, the clock of their versions, counters (true: one more is an int, too). -/
structure Mm (U : Uni) where
  o : List (EO U)
  k : Nat
  ns : List (Nat × Bool)
structure St (U : Uni) where
  t : List (Sv U)
  m : Mm U
  fr : List (List (Sv U))

/-- A row of the run's own, with the blocks of all that hangs on it. -/
structure Tr where
  b : Option Nat
  n : Nat
  c : Nat
  bs : List Nat
def Tr.val (t : Tr) : Value := .slice (t.b.map fun b => ⟨b, 0, none⟩) t.n t.c
def Tr.all (t : Tr) : List Nat := t.b.toList ++ t.bs

/-! ### Trees -/
mutual
/-- The value is a datum whose slices lie in just the blocks B, one block for each slice (d: all of them; otherwise some may be data that are never written). -/
inductive Ow (C : Cod U) (w : World) (X : Nat → Prop) (d : Bool) : Value → Lf U → List Nat → Prop
  | int {k : IntKind} {n : Int} (h1 : k.min ≤ n) (h2 : n ≤ k.max) : Ow C w X d (.int k n) (.int k n) []
  | bool {b : Bool} : Ow C w X d (.bool b) (.bool b) []
  | str {s : ByteArray} (h : s.size ≤ maxLen) : Ow C w X d (.string s) (.str s) []
  | fz {v : Value} {τ : Nat} {l : List (U.El τ)} (hd : d = false) (h : Rd w X [] v (.slice (U.K τ) (l.map (U.enc τ)))) : Ow C w X d v (.sl τ l) []
  | sl {τ : Nat} {l : List (U.El τ)} {xs : List Value} (t : Tr) (hk : 0 < U.K τ) (hown : w.ownsRow 0 τ (U.K τ) t.val l.length xs) (hc : OwL C w X d xs (l.map (C.cel τ)).flatten t.bs) : Ow C w X d t.val (.sl τ l) t.all
inductive OwL (C : Cod U) (w : World) (X : Nat → Prop) (d : Bool) : List Value → List (Lf U) → List Nat → Prop
  | n : OwL C w X d [] [] []
  | c {v : Value} {x : Lf U} {B B' : List Nat} {vs : List Value} {xs : List (Lf U)} (h : Ow C w X d v x B) (hr : OwL C w X d vs xs B') : OwL C w X d (v :: vs) (x :: xs) (B ++ B')
end

variable {C : Cod U}
theorem Tr.root {t : Tr} {b : Nat} (h : t.b = some b) : b ∈ t.all := by simp [Tr.all, h]
theorem ownsRow_conv {w w' : World} {T k n : Nat} {t : Tr} {xs : List Value} (h : w.ownsRow 0 T k t.val n xs) (hh : ∀ b, t.b = some b → w'.heap[b]? = w.heap[b]?) : w'.ownsRow 0 T k t.val n xs := by
  refine ⟨h.1, h.2.imp id ?_⟩
  rintro ⟨gg, cap, cur, c1, c2, c3, c4⟩
  refine ⟨gg, cap, cur, c1, c2, ?_, c4⟩
  rw [hh gg ?_]
  · exact c3
  · cases hb : t.b with
    | none => simp [Tr.val, hb] at c1
    | some b => simp [Tr.val, hb] at c1; rw [c1.1]

section
variable {w w' : World} {X X' : Nat → Prop}
mutual
theorem Ow.conv {d : Bool} (hsz : w.heap.size ≤ w'.heap.size) (hX : ∀ b, b < w.heap.size → X' b → X b) (hcell : ∀ (p : Addr) (u : Value), ¬ X p.block → w.cell? p = some u → w'.cell? p = some u) :
    ∀ {v : Value} {x : Lf U} {B : List Nat}, Ow C w X d v x B → (∀ b ∈ B, w'.heap[b]? = w.heap[b]?) → Ow C w' X' d v x B
  | _, _, _, .int h1 h2, _ => .int h1 h2
  | _, _, _, .bool, _ => .bool
  | _, _, _, .str h, _ => .str h
  | _, _, _, .fz hd h, _ => .fz hd (h.conv hsz hX hcell (fun _ _ h => h))
  | _, _, _, .sl t hk hown hc, hh => .sl t hk (ownsRow_conv hown fun b hb => hh b (Tr.root hb)) (OwL.conv hsz hX hcell hc fun b hb => hh b (by simp [Tr.all, hb]))
theorem OwL.conv {d : Bool} (hsz : w.heap.size ≤ w'.heap.size) (hX : ∀ b, b < w.heap.size → X' b → X b) (hcell : ∀ (p : Addr) (u : Value), ¬ X p.block → w.cell? p = some u → w'.cell? p = some u) :
    ∀ {vs : List Value} {xs : List (Lf U)} {B : List Nat}, OwL C w X d vs xs B → (∀ b ∈ B, w'.heap[b]? = w.heap[b]?) → OwL C w' X' d vs xs B
  | _, _, _, .n, _ => .n
  | _, _, _, .c h hr, hh => .c (Ow.conv hsz hX hcell h fun b hb => hh b (by simp [hb])) (OwL.conv hsz hX hcell hr fun b hb => hh b (by simp [hb]))
end
mutual
theorem Ow.soft {d : Bool} : ∀ {v : Value} {x : Lf U} {B : List Nat}, Ow C w X d v x B → Ow C w X false v x B
  | _, _, _, .int h1 h2 => .int h1 h2
  | _, _, _, .bool => .bool
  | _, _, _, .str h => .str h
  | _, _, _, .fz hd h => .fz rfl h
  | _, _, _, .sl t hk hown hc => .sl t hk hown (OwL.soft hc)
theorem OwL.soft {d : Bool} : ∀ {vs : List Value} {xs : List (Lf U)} {B : List Nat}, OwL C w X d vs xs B → OwL C w X false vs xs B
  | _, _, _, .n => .n
  | _, _, _, .c h hr => .c (Ow.soft h) (OwL.soft hr)
end
theorem OwL.split {d : Bool} : ∀ {vs : List Value} {xs ys : List (Lf U)} {B : List Nat}, OwL C w X d vs (xs ++ ys) B → ∃ v1 v2 B1 B2, vs = v1 ++ v2 ∧ B = B1 ++ B2 ∧ OwL C w X d v1 xs B1 ∧ OwL C w X d v2 ys B2
  | vs, [], ys, B, h => ⟨[], vs, [], B, rfl, rfl, .n, h⟩
  | _, x :: xs, ys, _, .c h hr => by
    obtain ⟨v1, v2, B1, B2, rfl, rfl, h1, h2⟩ := OwL.split hr
    exact ⟨_ :: v1, v2, _, B2, rfl, by rw [List.append_assoc], .c h h1, h2⟩
theorem OwL.app {d : Bool} : ∀ {v1 v2 : List Value} {xs ys : List (Lf U)} {B1 B2 : List Nat}, OwL C w X d v1 xs B1 → OwL C w X d v2 ys B2 → OwL C w X d (v1 ++ v2) (xs ++ ys) (B1 ++ B2)
  | _, _, _, _, _, _, .n, h => h
  | _, _, _, _, _, _, .c h hr, h2 => by rw [List.append_assoc]; exact .c h (OwL.app hr h2)
theorem OwL.len {d : Bool} : ∀ {vs : List Value} {xs : List (Lf U)} {B : List Nat}, OwL C w X d vs xs B → vs.length = xs.length
  | _, _, _, .n => rfl
  | _, _, _, .c _ hr => by simp [OwL.len hr]
theorem Ow.one {d : Bool} {v : Value} {x : Lf U} {B : List Nat} (h : Ow C w X d v x B) : v.oneCell' = true := by
  cases h with
  | int => rfl
  | bool => rfl
  | str => rfl
  | fz _ h => exact Rd.one h rfl
  | sl => rfl
theorem OwL.ones {d : Bool} : ∀ {vs : List Value} {xs : List (Lf U)} {B : List Nat}, OwL C w X d vs xs B → ∀ v ∈ vs, v.oneCell' = true
  | _, _, _, .n, v, hv => by simp at hv
  | _, _, _, .c h hr, v, hv => by
    rcases List.mem_cons.1 hv with rfl | hv
    · exact h.one
    · exact OwL.ones hr v hv
mutual
theorem Ow.lt {d : Bool} : ∀ {v : Value} {x : Lf U} {B : List Nat}, Ow C w X d v x B → ∀ b ∈ B, b < w.heap.size
  | _, _, _, .int _ _, b, hb => by simp at hb
  | _, _, _, .bool, b, hb => by simp at hb
  | _, _, _, .str _, b, hb => by simp at hb
  | _, _, _, .fz _ _, b, hb => by simp at hb
  | _, _, _, .sl t hk hown hc, b, hb => by
    simp only [Tr.all, List.mem_append, Option.mem_toList] at hb
    rcases hb with hb | hb
    · have hb : t.b = some b := hb
      rcases hown.2 with ⟨h5, _⟩ | ⟨gg, cap, cur, h5, _, h6, _⟩
      · simp [Tr.val, hb] at h5
      · simp [Tr.val, hb] at h5
        rw [h5.1]; exact (Array.getElem?_eq_some_iff.1 h6).1
    · exact OwL.lt hc b hb
theorem OwL.lt {d : Bool} : ∀ {vs : List Value} {xs : List (Lf U)} {B : List Nat}, OwL C w X d vs xs B → ∀ b ∈ B, b < w.heap.size
  | _, _, _, .n, b, hb => by simp at hb
  | _, _, _, .c h hr, b, hb => by
    rcases List.mem_append.1 hb with hb | hb
    · exact Ow.lt h b hb
    · exact OwL.lt hr b hb
end
end

/-- In a list of rows of k cells each, the cells of one. -/
theorem flat_at {α β : Type} {f : α → List β} {k : Nat} (hk : ∀ x, (f x).length = k) : ∀ {l : List α} {i : Nat} {x : α}, l[i]? = some x → ∃ l1 l2, l = l1 ++ x :: l2 ∧ l1.length = i ∧ (l.map f).flatten = (l1.map f).flatten ++ (f x ++ (l2.map f).flatten) ∧ (l1.map f).flatten.length = i * k
  | [], i, x, h => by simp at h
  | y :: l, 0, x, h => by simp at h; subst h; exact ⟨[], l, rfl, rfl, rfl, by simp⟩
  | y :: l, i + 1, x, h => by
    obtain ⟨l1, l2, h1, h2, h3, h4⟩ := flat_at hk (l := l) (i := i) (x := x) (by simpa using h)
    refine ⟨y :: l1, l2, by rw [h1]; rfl, by simp [h2], ?_, ?_⟩
    · simp only [List.map_cons, List.flatten_cons, h3, List.append_assoc]
    · simp only [List.map_cons, List.flatten_cons, List.length_append, h4, hk]; rw [Nat.add_mul]; omega
theorem flat_len {α β : Type} {f : α → List β} {k : Nat} (hk : ∀ x, (f x).length = k) : ∀ {l : List α}, (l.map f).flatten.length = l.length * k
  | [] => by simp
  | y :: l => by simp only [List.map_cons, List.flatten_cons, List.length_append, flat_len hk (l := l), hk, List.length_cons, Nat.add_mul]; omega

theorem ownsRow_cell {w : World} {T k n : Nat} {t : Tr} {xs : List Value} (h : w.ownsRow 0 T k t.val n xs) {b : Nat} (hb : t.b = some b) {i : Nat} {v : Value} (hv : xs[i]? = some v) : w.cell? (Addr.add ⟨b, 0, none⟩ i) = some v := by
  exact h.cells (g := b) (by simp [Tr.val, hb, Value.ownBlock]) i v hv
theorem ownsRow_root {w : World} {T k n : Nat} {t : Tr} {xs : List Value} (h : w.ownsRow 0 T k t.val n xs) : (t.b = none ∧ n = 0 ∧ xs = [] ∧ t.n = 0 ∧ t.c = 0) ∨ ∃ b cur, t.b = some b ∧ t.n = n ∧ n ≤ t.c ∧ t.c ≤ maxLen ∧ w.heap[b]? = some (.cells cur T (0, 0)) ∧ cur.size = t.c * k ∧ cur.toList.take (n * k) = xs := by
  rcases h.2 with ⟨h5, h6⟩ | ⟨gg, cap, cur, h5, _, h6, h7, h8, h9, h10⟩
  · left
    cases hb : t.b with
    | some b => simp [Tr.val, hb] at h5
    | none =>
      simp [Tr.val, hb] at h5
      refine ⟨rfl, h6, List.eq_nil_of_length_eq_zero ?_, h5.1, h5.2⟩
      rw [h.1, h6]; simp
  · right
    cases hb : t.b with
    | none => simp [Tr.val, hb] at h5
    | some b =>
      simp [Tr.val, hb] at h5
      obtain ⟨q1, q2, q3⟩ := h5
      subst q1; subst q2; subst q3
      exact ⟨_, cur, rfl, rfl, h7, h8, h6, h9, h10⟩

/-- A tree read as data, where none of its blocks is marked. -/
theorem Lf.toV_data {x : Lf U} (h : x.isData = true) : x.toV.one = true := by cases x <;> simp_all [Lf.isData, Lf.toV, V.one]
mutual
theorem Ow.rd {w : World} {X Z : Nat → Prop} {d : Bool} (hZ : ∀ b, Z b → X b) : ∀ {v : Value} {x : Lf U} {B : List Nat}, Ow C w X d v x B → (∀ b ∈ B, ¬ Z b) → Rd w Z [] v x.toV
  | _, _, _, .int h1 h2, _ => .int h1 h2
  | _, _, _, .bool, _ => .bool
  | _, _, _, .str h, _ => .str h
  | _, _, _, .fz hd h, _ => h.conv (Nat.le_refl _) (fun b _ hb => hZ b hb) (fun _ _ _ h => h) (fun _ _ h => h)
  | _, _, _, .sl (τ := τ) (l := l) (xs := xs) t hk hown hc, hh => by
    have hcells := OwL.rd hZ hc (fun b hb => hh b (by simp [Tr.all, hb]))
    have hxl := hcells.1
    simp only [Lf.toV]
    rcases ownsRow_root hown with ⟨h1, h2, h3, h4, h5⟩ | ⟨b, cur, h1, h2, h3, h4, h5, h6, h7⟩
    · have : l = [] := List.eq_nil_of_length_eq_zero h2
      subst this
      simp only [Tr.val, h1, h4, h5]
      exact .slice0 (Nat.zero_le _)
    · simp only [Tr.val, h1, h2, Option.map_some]
      cases hl : l with
      | nil => exact .slice0 (by omega)
      | cons z0 l0 =>
        rw [← hl]
        have key : ∀ (i j : Nat) (e : List V) (dd : V), (l.map (U.enc τ))[i]? = some e → e[j]? = some dd → ∃ u, xs[i * U.K τ + j]? = some u ∧ Rd w Z [] u dd := fun i j e dd k1 k2 => by
          rw [List.getElem?_map] at k1
          cases hz : l[i]? with
          | none => simp [hz] at k1
          | some z =>
            simp only [hz, Option.map_some, Option.some.injEq] at k1
            subst k1
            obtain ⟨l1, l2, g1, g2, g3, g4⟩ := flat_at (C.hlen τ) hz
            rw [← C.hcel, List.getElem?_map] at k2
            cases hx : (C.cel τ z)[j]? with
            | none => simp [hx] at k2
            | some x =>
              simp only [hx, Option.map_some, Option.some.injEq] at k2
              subst k2
              have hin : (l.map (C.cel τ)).flatten[i * U.K τ + j]? = some x := by
                rw [g3, ← g4, List.getElem?_append_right (Nat.le_add_right _ _), Nat.add_sub_cancel_left, List.getElem?_append_left (List.getElem?_eq_some_iff.1 hx).1]
                exact hx
              have hlt : i * U.K τ + j < xs.length := by rw [hxl]; exact (List.getElem?_eq_some_iff.1 hin).1
              exact ⟨_, List.getElem?_eq_getElem hlt, hcells.2 _ _ _ (List.getElem?_eq_getElem hlt) hin⟩
        refine .slice (val := fun i j => xs.getD (i * U.K τ + j) undef) (by simp) (by simp [hl]) h3 h4 (hh b (Tr.root h1)) (Array.getElem?_eq_some_iff.1 h5).1 (fun e he => ?_) (fun i j e dd k1 k2 => ?_) (fun i j e dd k1 k2 => ?_)
        · obtain ⟨z, _, rfl⟩ := List.mem_map.1 he
          rw [← C.hcel, List.length_map, C.hlen]
        · obtain ⟨u, k3, k4⟩ := key i j e dd k1 k2
          rw [ownsRow_cell hown h1 k3]
          simp [List.getD, k3]
        · obtain ⟨u, k3, k4⟩ := key i j e dd k1 k2
          simp only [List.getD, k3, Option.getD_some]
          exact k4
theorem OwL.rd {w : World} {X Z : Nat → Prop} {d : Bool} (hZ : ∀ b, Z b → X b) : ∀ {vs : List Value} {xs : List (Lf U)} {B : List Nat}, OwL C w X d vs xs B → (∀ b ∈ B, ¬ Z b) → vs.length = xs.length ∧ ∀ (i : Nat) (v : Value) (x : Lf U), vs[i]? = some v → xs[i]? = some x → Rd w Z [] v x.toV
  | _, _, _, .n, _ => by simp
  | _, _, _, .c h hr, hh => by
    have ih := OwL.rd hZ hr (fun b hb => hh b (by simp [hb]))
    have h0 := Ow.rd hZ h (fun b hb => hh b (by simp [hb]))
    refine ⟨by simp [ih.1], fun i v x h1 h2 => ?_⟩
    cases i with
    | zero => simp at h1 h2; subst h1; subst h2; exact h0
    | succ i => exact ih.2 i v x (by simpa using h1) (by simpa using h2)
end
end Go.EV
