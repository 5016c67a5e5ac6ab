/-
  THE VALUE KIT, tenth part: from a row's reading of an argument to a datum of the value kit. Plain definitions and theorems over any program.
-/
import Derived.Test.YtiojlennpdmapaaGreatVKh
import Derived.Carry
import Derived.ChangeArms
import Derived.DataElems
import Derived.DataReads
import Derived.ChangeOld
import Derived.WideShapes
import Derived.ChangeShapes
import Derived.Lib.LaidU8
set_option linter.unusedVariables false
namespace Go.VK
open Go.RowKit Go.WideShapes Go.ChangeShapes
variable {P : Program}

/-- These cells read as these data. -/
def RepC (w : World) (cs : List Value) (us : List V) : Prop :=
  cs.length = us.length ∧ ∀ (i : Nat) (v : Value) (c : V), cs[i]? = some v → us[i]? = some c → Rd w (fun _ => False) [] v c

/-- Whatever the row's reader reads at type t, holds a datum of α, laid out in cells by f. -/
def HasData (P : Program) (t : TypeId) (α : Type) (f : α → List V) : Prop :=
  ∀ (w : World) (H : Type) (enc : TypeId × Value → H) (sp : Nat → Bool) (held : Bool) (fuel : Nat) (cs : List Value) (x : DataW H × List MemPlace),
    DataW.trod enc P w 0 sp held fuel t cs = some x → ∃ a : α, RepC w cs (f a)

theorem rep1 {w : World} {v : Value} {c : V} (h : Rd w (fun _ => False) [] v c) : RepC w [v] [c] :=
  ⟨rfl, fun i v' c' h1 h2 => by
    cases i with
    | zero => simp at h1 h2; subst h1; subst h2; exact h
    | succ i => simp at h1⟩

theorem hd_int {t : TypeId} (ht : P.underlying t = some (.int .i64)) : HasData P t Int iV := by
  intro w H enc sp held fuel cs x h
  obtain ⟨n, rfl, _, hwf⟩ := DataW.trod_int ht h
  simp only [Lit.wf, Bool.and_eq_true, decide_eq_true_eq] at hwf
  exact ⟨n, rep1 (.int hwf.1 hwf.2)⟩
theorem hd_u8 {t : TypeId} (ht : P.underlying t = some (.int .u8)) : HasData P t Int y8 := by
  intro w H enc sp held fuel cs x h
  obtain ⟨n, rfl, _, hwf⟩ := DataW.trod_int ht h
  simp only [Lit.wf, Bool.and_eq_true, decide_eq_true_eq] at hwf
  exact ⟨n, rep1 (.int hwf.1 hwf.2)⟩
theorem hd_bool {t : TypeId} (ht : P.underlying t = some .bool) : HasData P t Bool bV := by
  intro w H enc sp held fuel cs x h
  obtain ⟨b, rfl, _⟩ := DataW.trod_bool ht h
  exact ⟨b, rep1 .bool⟩
theorem hd_str {t : TypeId} (ht : P.underlying t = some .string) : HasData P t ByteArray sV := by
  intro w H enc sp held fuel cs x h
  obtain ⟨s, rfl, _, hs⟩ := DataW.trod_string ht h
  exact ⟨s, rep1 (.str hs)⟩

theorem choice {α : Type} {p : Nat → α → Prop} : ∀ (n : Nat), (∀ i, i < n → ∃ a, p i a) → ∃ l : List α, l.length = n ∧ ∀ i a, l[i]? = some a → p i a
  | 0, _ => ⟨[], rfl, by simp⟩
  | n + 1, h => by
    obtain ⟨l, h1, h2⟩ := choice n (fun i hi => h i (by omega))
    obtain ⟨a, ha⟩ := h n (by omega)
    refine ⟨l ++ [a], by simp [h1], fun i b hb => ?_⟩
    by_cases hi : i < n
    · rw [List.getElem?_append_left (by omega)] at hb; exact h2 i b hb
    · rw [List.getElem?_append_right (by omega)] at hb
      have : i = n := by
        have := (List.getElem?_eq_some_iff.1 hb).1
        simp at this; omega
      subst this
      simp [h1] at hb; subst hb; exact ha

theorem cells_at {w : World} {a : Addr} {n : Nat} {cs : List Value} (h : w.cells? 0 a n = some cs) : cs.length = n ∧ ∀ j v, cs[j]? = some v → w.cell? (a.add j) = some v := by
  unfold World.cells? at h
  rw [if_pos (Nat.zero_le _)] at h
  have hl : cs.length = n := by simpa using mapM_some_length h
  refine ⟨hl, fun j v hv => ?_⟩
  have hj : j < n := by rw [← hl]; exact (List.getElem?_eq_some_iff.1 hv).1
  rw [← hv]
  exact mapM_some_get h j j (by simp [hj])

theorem hd_slice {t e k : Nat} {α : Type} {f : α → List V} (ht : P.underlying t = some (.slice e)) (hk : P.cellsOf e = k) (h0 : 0 < k) (hf : ∀ a, (f a).length = k) (h : HasData P e α f) :
    HasData P t (List α) (fun l => [.slice k (l.map f)]) := by
  intro w H enc sp held fuel cs x hx
  rcases DataW.trod_slice ht hx with ⟨rfl, _⟩ | ⟨a, len, cap, elems, rest, n, _, rfl, _, _, h3, h4, h5, h6, _, _⟩
  · exact ⟨[], rep1 (.slice0 (Nat.zero_le _))⟩
  · have hc : ∀ i, i < len → ∃ b : α, ∃ cs, w.cells? 0 (a.add (i * k)) k = some cs ∧ RepC w cs (f b) := by
      intro i hi
      have := h6 i hi
      rw [hk, List.getElem?_eq_getElem (by omega)] at this
      obtain ⟨cs, h7, h8⟩ := Option.bind_eq_some_iff.1 this
      obtain ⟨b, hb⟩ := h w H enc sp held n cs _ h8
      exact ⟨b, cs, h7, hb⟩
    obtain ⟨l, hl, hp⟩ := choice len hc
    refine ⟨l, rep1 ?_⟩
    cases hlen : len with
    | zero =>
      have : l = [] := List.eq_nil_of_length_eq_zero (by omega)
      subst this
      exact .slice0 h4
    | succ m =>
      have hget : ∀ (i : Nat) (e : List V), (l.map f)[i]? = some e → ∃ b, e = f b ∧ ∃ cs, w.cells? 0 (a.add (i * k)) k = some cs ∧ RepC w cs (f b) := by
        intro i e he
        rw [List.getElem?_map] at he
        obtain ⟨b, hb, rfl⟩ := Option.map_eq_some_iff.1 he
        exact ⟨b, rfl, hp i b hb⟩
      have hcell : ∀ (i j : Nat) (e : List V) (d : V), (l.map f)[i]? = some e → e[j]? = some d → ∃ v, w.cell? (a.add (i * k + j)) = some v ∧ Rd w (fun _ => False) [] v d := by
        intro i j e d he hd
        obtain ⟨b, rfl, cs, h7, h8, h9⟩ := hget i e he
        obtain ⟨c1, c2⟩ := cells_at h7
        have hj : j < cs.length := by rw [h8]; exact (List.getElem?_eq_some_iff.1 hd).1
        have hv : cs[j]? = some cs[j] := List.getElem?_eq_getElem hj
        refine ⟨cs[j], ?_, h9 j _ d hv hd⟩
        rw [← Addr.add_add]; exact c2 j _ hv
      have hblock : a.block < w.heap.size := by
        obtain ⟨b, cs, h7, _⟩ := hc 0 (by omega)
        have := World.cells?_block h7 h0
        rwa [show (a.add (0 * k)).block = a.block by unfold Addr.add; split <;> rfl] at this
      refine .slice (val := fun i j => (w.cell? (a.add (i * k + j))).getD undef) (by simp [hl, hlen]) (by simp; omega) (by omega) h4 (fun h => h) hblock
        (fun e he => by obtain ⟨b, _, rfl⟩ := List.mem_map.1 he; exact hf b) (fun i j e d he hd => ?_) (fun i j e d he hd => ?_)
      · obtain ⟨v, h7, _⟩ := hcell i j e d he hd
        rw [h7]; rfl
      · obtain ⟨v, h7, h8⟩ := hcell i j e d he hd
        rw [h7]; exact h8

def HasFields (P : Program) (fs : List Field) (off n : Nat) (α : Type) (f : α → List V) : Prop :=
  ∀ (w : World) (H : Type) (enc : TypeId × Value → H) (sp : Nat → Bool) (held : Bool) (fuel : Nat) (cs : List Value), cs.length = off + n →
    (∀ (i : Nat) (fd : Field), fs[i]? = some fd → ∃ y, DataW.trod enc P w 0 sp held fuel fd.type ((cs.drop fd.offset).take (P.cellsOf fd.type)) = some y) → ∃ a : α, RepC w (cs.drop off) (f a)
theorem hf_nil {off : Nat} : HasFields P [] off 0 Unit (fun _ => []) := by
  intro w H enc sp held fuel cs hl _
  refine ⟨(), by simp [hl], fun i v c _ h2 => by simp at h2⟩
theorem hf_cons {fd : Field} {fs : List Field} {off k n : Nat} {α β : Type} {f : α → List V} {g : β → List V} (h : HasData P fd.type α f) (ho : fd.offset = off) (hk : P.cellsOf fd.type = k) (hr : HasFields P fs (off + k) n β g) :
    HasFields P (fd :: fs) off (k + n) (α × β) (fun p => f p.1 ++ g p.2) := by
  intro w H enc sp held fuel cs hl hy
  obtain ⟨y, h1⟩ := hy 0 fd rfl
  rw [ho, hk] at h1
  obtain ⟨a, ha⟩ := h w H enc sp held fuel _ _ h1
  obtain ⟨b, hb⟩ := hr w H enc sp held fuel cs (by omega) (fun i fd' hi => hy (i + 1) fd' (by simpa using hi))
  have hal := ha.1
  have hbl := hb.1
  simp only [List.length_take, List.length_drop, hl] at hal hbl
  have e1 : (f a).length = k := by omega
  refine ⟨(a, b), by simp [hl]; omega, fun i v c h2 h3 => ?_⟩
  replace h3 : (f a ++ g b)[i]? = some c := h3
  by_cases hi : i < k
  · refine ha.2 i v c ?_ (by rw [List.getElem?_append_left (by omega)] at h3; exact h3)
    rw [List.getElem?_take, if_pos hi]; exact h2
  · refine hb.2 (i - k) v c ?_ (by rw [List.getElem?_append_right (by omega), e1] at h3; exact h3)
    rw [List.getElem?_drop] at h2 ⊢
    rw [← h2]; congr 1; omega
theorem hd_struct {t n : Nat} {fs : List Field} {α β : Type} {f : α → List V} {g : β → List V} (ht : P.underlying t = some (.struct fs.toArray)) (hn : P.cellsOf t = n) (h : HasFields P fs 0 n α f) (m : α → β) (hm : ∀ a, g (m a) = f a) : HasData P t β g := by
  intro w H enc sp held fuel cs x hx
  obtain ⟨xs, n', _, _, h3, h4, h5⟩ := DataW.trod_struct ht hx
  obtain ⟨a, ha⟩ := h w H enc sp held n' cs (by rw [h3, hn]; omega) (fun i fd hi => by
    have hi' : fs.toArray[i]? = some fd := by simpa using hi
    have h6 := h5 i fd hi'
    have hlt : i < xs.length := by rw [h4]; exact (Array.getElem?_eq_some_iff.1 hi').1
    exact ⟨_, h6.trans (List.getElem?_eq_getElem hlt)⟩)
  refine ⟨m a, ?_⟩
  rw [hm]
  simpa using ha

/-- An argument of a struct's type. -/
theorem arg_struct {H : Type} {enc : TypeId × Value → H} {t : TypeId} {fs : Array Field} {α : Type} {f : α → List V} (hd : HasData P t α f) (ht : P.underlying t = some (.struct fs)) {W : World} {base : Nat} {sp : Nat → Bool} {held : Bool} {v : Value} {d : DataW H} {p : List MemPlace}
    (hv : Value.okWide P W .any base t v) (h : DataW.Trod enc P W 0 sp held t v d p) : ∃ a, Rd W (fun _ => False) [] v (.agg (f a)) := by
  unfold Value.okWide at hv
  rw [ht] at hv
  obtain ⟨cs, rfl, _, _⟩ := hv
  obtain ⟨fuel, hf⟩ := h
  obtain ⟨a, h1, h2⟩ := hd W H enc sp held fuel _ _ hf
  refine ⟨a, .agg (by simpa [Value.cells] using h1) (fun i v c h3 h4 => h2 i v c (by simpa [Value.cells] using h3) h4)⟩
end Go.VK
