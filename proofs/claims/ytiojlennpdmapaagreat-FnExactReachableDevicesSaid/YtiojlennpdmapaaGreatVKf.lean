/-
  THE VALUE KIT, sixth part: slices that the walk itself makes, appends to and writes; weakening of a state. Theorems over any program; the conditions stand in each.
-/
import Derived.Test.YtiojlennpdmapaaGreatVKe
set_option linter.unusedVariables false
namespace Go.VK
open Go.RowKit
variable {P : Program} {g : GI} {E : Env P g} {s : S}

/-! ### Weakening -/
mutual
inductive VL (ρ : List Nat) (so : List Ob) : V → V → Prop
  | a {U : V} : VL ρ so U .any
  | e {U U' : V} (h : U = U') (hp : U'.plain = true) : VL ρ so U U'
  | el {cs : List V} : VL ρ so (.elem cs) (.elem cs)
  | b {i j off : Nat} (h : At ρ j i) : VL ρ so (.box i off) (.box j off)
  | w {i j : Nat} (h : At ρ j i) : VL ρ so (.own i) (.own j)
  | p {i j off : Nat} (h : At ρ j i) : VL ρ so (.oel i off) (.oel j off)
  | z {i T k : Nat} {es : List (List V)} (h : At so i (.row T k es)) (hd : (ρ.contains i) = false) : VL ρ so (.own i) (.slice k es)
  | n {k : Nat} : VL ρ so .nil (.slice k [])
  | g {cs ds : List V} (h : VLs ρ so cs ds) : VL ρ so (.agg cs) (.agg ds)
inductive VLs (ρ : List Nat) (so : List Ob) : List V → List V → Prop
  | n : VLs ρ so [] []
  | c {x y : V} {xs ys : List V} (h : VL ρ so x y) (hr : VLs ρ so xs ys) : VLs ρ so (x :: xs) (y :: ys)
end
theorem VLs.spec {ρ : List Nat} {so : List Ob} : ∀ {xs ys : List V}, VLs ρ so xs ys → xs.length = ys.length ∧ ∀ (i : Nat) (c d : V), xs[i]? = some c → ys[i]? = some d → VL ρ so c d
  | [], [], .n => by simp
  | x :: xs, y :: ys, .c h hr => by
    have ih := VLs.spec hr
    refine ⟨by simp [ih.1], fun i c d h1 h2 => ?_⟩
    cases i with
    | zero => simp at h1 h2; subst h1; subst h2; exact h
    | succ i => exact ih.2 i c d (by simpa using h1) (by simpa using h2)
inductive OL (ρ : List Nat) (so : List Ob) : List Nat → List Ob → Prop
  | n : OL ρ so [] []
  | b {i T : Nat} {cs ds : List V} {r : List Nat} {os : List Ob} (h : At so i (.box T cs)) (hl : VLs ρ so cs ds) (hr : OL ρ so r os) : OL ρ so (i :: r) (.box T ds :: os)
  | r {i T k : Nat} {es es' : List (List V)} {r : List Nat} {os : List Ob} (h : At so i (.row T k es)) (he : es = es') (hr : OL ρ so r os) : OL ρ so (i :: r) (.row T k es' :: os)
inductive ObL (ρ : List Nat) (so : List Ob) : Ob → Ob → Prop
  | b {T : Nat} {cs ds : List V} (hl : VLs ρ so cs ds) : ObL ρ so (.box T cs) (.box T ds)
  | r {T k : Nat} {es : List (List V)} : ObL ρ so (.row T k es) (.row T k es)
theorem OL.spec {ρ : List Nat} {so : List Ob} {r : List Nat} {os : List Ob} (h : OL ρ so r os) : r.length = os.length ∧ (∀ i ∈ r, i < so.length) ∧ ∀ (j i : Nat) (o' : Ob), r[j]? = some i → os[j]? = some o' → ∃ o, so[i]? = some o ∧ ObL ρ so o o' := by
  induction h with
  | n => simp
  | @b i T cs ds r os h hl hr ih =>
    refine ⟨by simp [ih.1], fun i' hi' => ?_, fun j i' o' h1 h2 => ?_⟩
    · rcases List.mem_cons.1 hi' with rfl | hi'
      · exact (List.getElem?_eq_some_iff.1 h.get).1
      · exact ih.2.1 i' hi'
    · cases j with
      | zero => simp at h1 h2; subst h1; subst h2; exact ⟨_, h.get, .b hl⟩
      | succ j => exact ih.2.2 j i' o' (by simpa using h1) (by simpa using h2)
  | @r i T k es es' r os h he hr ih =>
    subst he
    refine ⟨by simp [ih.1], fun i' hi' => ?_, fun j i' o' h1 h2 => ?_⟩
    · rcases List.mem_cons.1 hi' with rfl | hi'
      · exact (List.getElem?_eq_some_iff.1 h.get).1
      · exact ih.2.1 i' hi'
    · cases j with
      | zero => simp at h1 h2; subst h1; subst h2; exact ⟨_, h.get, .r⟩
      | succ j => exact ih.2.2 j i' o' (by simpa using h1) (by simpa using h2)

theorem VL.rd {β : List Tr} {a : Act} {w : World} (r : RelB E s β a w) {ρ : List Nat} {β' : List Tr} (hβ : ∀ (j i : Nat), ρ[j]? = some i → ∀ t, β[i]? = some t → β'[j]? = some t)
    (hX : ∀ b, E.X β' b → E.X β b) (hfree : ∀ (i : Nat) (t : Tr) (b : Nat), (ρ.contains i) = false → β[i]? = some t → t.b = some b → ¬ E.X β' b) :
    ∀ {U U' : V}, VL ρ s.o U U' → ∀ {v : Value}, Rd w (E.X β) β v U → Rd w (E.X β') β' v U'
  | _, _, .a, _, _ => .any
  | _, _, .e h hp, v, hv => by subst h; exact (hv.unmark (β' := β') hp).conv (Nat.le_refl _) (fun b _ hb => hX b hb) (fun _ _ _ h => h) (fun _ _ h => h)
  | _, _, .el, v, hv => by
    cases hv with
    | elem h1 h2 h3 h4 => exact .elem (fun h => h1 (hX _ h)) h2 h3 (fun j d hd => (h4 j d hd).conv (Nat.le_refl _) (fun b _ hb => hX b hb) (fun _ _ _ h => h) (fun _ _ h => h))
  | _, _, .b h, v, hv => by obtain ⟨t, b, h1, h2, rfl⟩ := hv.box_inv; exact .box (hβ _ _ h.get _ h1) h2
  | _, _, .w h, v, hv => by obtain ⟨t, h1, rfl⟩ := hv.own_inv; exact .own (hβ _ _ h.get _ h1)
  | _, _, .p h, v, hv => by obtain ⟨t, b, h1, h2, rfl⟩ := hv.oel_inv; exact .oel (hβ _ _ h.get _ h1) h2
  | _, _, .z h hd, v, hv => by
    obtain ⟨t, h1, rfl⟩ := hv.own_inv
    exact (own_rd r h1 h hX (fun b hb => hfree _ t b hd h1 hb)).conv (Nat.le_refl _) (fun _ _ h => h) (fun _ _ _ h => h) (fun _ _ h => by simp at h)
  | _, _, .n, v, hv => by rw [hv.nil_inv]; exact .slice0 (Nat.zero_le _)
  | _, _, .g (cs := cs) (ds := ds) h, v, hv => by
    obtain ⟨vs, rfl, k2, k3⟩ := hv.agg_inv
    have hsp := h.spec
    refine .agg (by rw [k2, hsp.1]) (fun i v d h1 h2 => ?_)
    have hlt : i < cs.length := by rw [← k2]; exact (Array.getElem?_eq_some_iff.1 h1).1
    exact go (r := r) (hβ := hβ) (hX := hX) (hfree := hfree) h i v d _ h2 (List.getElem?_eq_getElem hlt) (k3 i v _ h1 (List.getElem?_eq_getElem hlt))
  where go {β : List Tr} {a : Act} {w : World} {r : RelB E s β a w} {ρ : List Nat} {β' : List Tr} {hβ : ∀ (j i : Nat), ρ[j]? = some i → ∀ t, β[i]? = some t → β'[j]? = some t}
    {hX : ∀ b, E.X β' b → E.X β b} {hfree : ∀ (i : Nat) (t : Tr) (b : Nat), (ρ.contains i) = false → β[i]? = some t → t.b = some b → ¬ E.X β' b} :
    ∀ {cs ds : List V}, VLs ρ s.o cs ds → ∀ (i : Nat) (v : Value) (d c : V), ds[i]? = some d → cs[i]? = some c → Rd w (E.X β) β v c → Rd w (E.X β') β' v d
  | _, _, .n, i, v, d, c, h1, _, _ => by simp at h1
  | _, _, .c h hr, 0, v, d, c, h1, h2, h3 => by simp at h1 h2; subst h1; subst h2; exact VL.rd r hβ hX hfree h h3
  | _, _, .c h hr, i + 1, v, d, c, h1, h2, h3 => go (r := r) (hβ := hβ) (hX := hX) (hfree := hfree) hr i v d c (by simpa using h1) (by simpa using h2) h3

/-- A slot is forgotten. -/
theorem RelB.drop {β : List Tr} {a : Act} {w : World} (r : RelB E s β a w) {n : Nat} {t' : List V} (hu : Upd s.t n .any t') : RelB E ⟨t', s.o⟩ β a w where
  ext := r.ext
  defers := r.defers
  tsz := by rw [hu.eq.1]; simpa using r.tsz
  tmps m V hm := by
    simp only [hu.eq.1] at hm
    by_cases he : n = m
    · subst he
      rw [List.getElem?_set_self (by have := hu.eq.2; omega)] at hm
      injection hm with hm
      rw [← hm]; exact .any
    · rw [List.getElem?_set_ne he] at hm
      exact r.tmps m V hm
  blen := r.blen
  new := r.new
  dist := r.dist
  objs := r.objs
end Go.VK
