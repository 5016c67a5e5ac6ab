/-
  THE EVALUATOR's KIT, twenty-first part: a memory under new names: what stays, what is given up, what moves. Plain theorems over any program; the conditions stand in each.
-/
import Derived.Test.YtiojlennpdmapaaGreatEVt
set_option linter.unusedVariables false
set_option linter.unusedSimpArgs false
namespace Go.EV
open Go.RowKit Go.VK
variable {U : Uni} {C : Cod U} {P : Program} {g : GI} {E : Env g}

def Ob.bd (N M K : Nat) : Ob U → Prop
  | .box _ cs _ => ∀ c ∈ cs, c.bd N M K
  | _ => True
/-- The row that a new name has. -/
def srcT (β : List Tr) : Option Nat → Tr
  | some i => match β[i]? with | some t => t | none => noTr
  | none => noTr
/-- What stands under a new name. -/
inductive Src (N M K : Nat) (m : Mm U) (q : Option Nat) (j : Nat) (e' : EO U) : Prop
  | keep (hq : q = some j) (he : m.o[j]? = some e') (hb : e'.ob.bd N M K)
  | box (hq : q = some j) {e : EO U} {T : Nat} {cs cs' : List (Lf U)} {vs vs' : List Nat} (he : m.o[j]? = some e) (h1 : e.ob = .box T cs vs) (h2 : e'.ob = .box T cs' vs') (l1 : cs'.length = cs.length) (l2 : cs'.length = vs'.length) (hc : ∀ (i : Nat) (c : Lf U), cs'[i]? = some c → c = .any ∨ (cs[i]? = some c ∧ c.bd N M K)) (hv : K < e'.rv ∧ K < e'.cv)
  | dead (h : e'.ob = .dead) (hv : K < e'.rv ∧ K < e'.cv)
  | tree {i : Nat} {e : EO U} {τ : Nat} {d d' : Bool} {l : List (U.El τ)} (hq : q = some i) (he : m.o[i]? = some e) (h1 : e.ob = .tree τ d' l) (hd : d = true → d' = true) (h2 : e'.ob = .tree τ d l) (hv : K < e'.rv ∧ K < e'.cv)
  | ti {e : EO U} {τ : Nat} {d d' : Bool} {l : List (U.El τ)} (hq : q = some j) (he : m.o[j]? = some e) (h1 : e.ob = .tree τ d' l) (hd : d = true → d' = true) (h2 : e'.ob = .tree τ d l) (hr : e'.rv = e.rv) (hv : K < e'.cv)
  | nil {τ : Nat} {d : Bool} (hq : q = none) (h2 : e'.ob = .tree τ d []) (hK : 0 < U.K τ) (hv : K < e'.rv ∧ K < e'.cv)

section
variable {m m' : Mm U} {w : World} {β : List Tr} {σ : List (Option Nat)} {N M K : Nat}
theorem srcT_in {q : Option Nat} {b : Nat} (h : b ∈ (srcT β q).all) : ∃ i t, q = some i ∧ β[i]? = some t ∧ srcT β q = t := by
  cases q with
  | none => simp [srcT, noTr_all] at h
  | some i =>
    cases hb : β[i]? with
    | none => simp [srcT, hb, noTr_all] at h
    | some t => exact ⟨i, t, rfl, hb, by simp [srcT, hb]⟩
theorem Hp.ren (H : Hp C E m β w) (hl : σ.length = m'.o.length) (hN : N ≤ m'.o.length) (hinj : ∀ (j j' i : Nat), σ[j]? = some (some i) → σ[j']? = some (some i) → j = j') (hk : K ≤ m'.k)
    (hver : ∀ (i : Nat) (e : EO U), m'.o[i]? = some e → e.rv ≤ m'.k ∧ e.cv ≤ m'.k) (hcnt : ∀ (a i : Nat), m'.ns[a]? = some (i, true) → (i : Int) + 1 ≤ 9223372036854775807)
    (hn : ∀ (a i : Nat) (f : Bool), a < M → m.ns[a]? = some (i, f) → ∃ f', m'.ns[a]? = some (i, f'))
    (hs : ∀ (j : Nat) (q : Option Nat) (e' : EO U), σ[j]? = some q → m'.o[j]? = some e' → Src N M K m q j e') (hpin : ∀ x ∈ E.pin, (Lf.own x.1 x.2.1 : Lf U).bd N M K) :
    Hp C E m' (σ.map (srcT β)) w ∧ Evo w w (E.X β) (E.X (σ.map (srcT β))) β (σ.map (srcT β)) m m' N M K := by
  have hget : ∀ (j : Nat) (t : Tr), (σ.map (srcT β))[j]? = some t → ∃ q, σ[j]? = some q ∧ t = srcT β q := fun j t h => by
    rw [List.getElem?_map] at h
    cases hq : σ[j]? with
    | none => simp [hq] at h
    | some q => simp only [hq, Option.map_some, Option.some.injEq] at h; exact ⟨q, rfl, h.symm⟩
  have hX : ∀ b, E.X (σ.map (srcT β)) b → E.X β b := by
    rintro b (h | h | ⟨t, ht, hb⟩)
    · exact .inl h
    · exact .inr (.inl h)
    · obtain ⟨q, _, rfl⟩ := List.mem_map.1 ht
      obtain ⟨i, t, _, h2, h3⟩ := srcT_in hb
      rw [h3] at hb
      exact .inr (.inr ⟨t, List.mem_of_getElem? h2, hb⟩)
  have hev : Evo w w (E.X β) (E.X (σ.map (srcT β))) β (σ.map (srcT β)) m m' N M K := by
    refine ⟨Nat.le_refl _, fun b _ => hX b, fun _ _ _ h => h, hk, fun a i f ha h => hn a i f ha h, fun i e t hi he ht => ?_⟩
    have hi' : i < m'.o.length := Nat.lt_of_lt_of_le hi hN
    have h1 : m'.o[i]? = some m'.o[i] := List.getElem?_eq_getElem hi'
    have h2 : σ[i]? = some (σ[i]'(by omega)) := List.getElem?_eq_getElem _
    have h3 : (σ.map (srcT β))[i]? = some (srcT β (σ[i]'(by omega))) := by rw [List.getElem?_map, h2]; rfl
    refine ⟨_, _, h1, h3, ?_⟩
    have hsr := hs i _ _ h2 h1
    have big : K < (m'.o[i]).rv ∧ K < (m'.o[i]).cv → (m'.o[i]).ob.isBox = false → ((m'.o[i]).rv ≤ K → (m'.o[i]).rv = e.rv ∧ (srcT β (σ[i]'(by omega))).val = t.val) ∧ ((m'.o[i]).cv ≤ K → (m'.o[i]).cv = e.cv ∧ (m'.o[i]).ob = e.ob ∧ srcT β (σ[i]'(by omega)) = t ∧ ∀ b ∈ t.all, w.heap[b]? = w.heap[b]?) ∧ ((m'.o[i]).ob.isBox = true → e.ob.isBox = true ∧ (srcT β (σ[i]'(by omega))).b = t.b) := fun hv hb =>
      ⟨fun h => absurd h (by omega), fun h => absurd h (by omega), fun h => by rw [hb] at h; cases h⟩
    cases hsr with
    | keep hq he' hb =>
      rw [he] at he'
      have e0 : e = m'.o[i] := Option.some.inj he'
      have e1 : srcT β (σ[i]'(by omega)) = t := by rw [hq]; simp [srcT, ht]
      rw [e1, ← e0]
      exact ⟨fun _ => ⟨rfl, rfl⟩, fun _ => ⟨rfl, rfl, rfl, fun _ _ => rfl⟩, fun h => ⟨h, rfl⟩⟩
    | box hq he' q1 q2 _ _ _ hv =>
      rw [he] at he'
      have e0 := Option.some.inj he'
      have e1 : srcT β (σ[i]'(by omega)) = t := by rw [hq]; simp [srcT, ht]
      rw [e1]
      refine ⟨fun h => absurd h (by omega), fun h => absurd h (by omega), fun _ => ⟨?_, rfl⟩⟩
      rw [e0, q1]; rfl
    | dead h hv => exact big hv (by rw [h]; rfl)
    | tree _ _ _ _ h hv => exact big hv (by rw [h]; rfl)
    | ti hq he' _ _ h hr hv =>
      rw [he] at he'
      have e0 := Option.some.inj he'
      have e1 : srcT β (σ[i]'(by omega)) = t := by rw [hq]; simp [srcT, ht]
      rw [e1, e0]
      exact ⟨fun _ => ⟨hr, rfl⟩, fun h => absurd h (by omega), fun hb => by rw [h] at hb; cases hb⟩
    | nil _ h _ hv => exact big hv (by rw [h]; rfl)
  refine ⟨⟨H.ext, by rw [List.length_map, hl], hver, hcnt, ?_, ?_, ?_, ?_, fun x hx => Lf.mean_evo hev (hpin x hx) (H.pin x hx)⟩, hev⟩
  · intro j t b ht hb
    obtain ⟨q, _, rfl⟩ := hget j t ht
    obtain ⟨i, t, _, h2, h3⟩ := srcT_in hb
    rw [h3] at hb
    exact H.new i t b h2 hb
  · intro j j' t u b hjj ht hu hb hub
    obtain ⟨q, hq, rfl⟩ := hget j t ht
    obtain ⟨q', hq', rfl⟩ := hget j' u hu
    obtain ⟨i, t, e1, h2, h3⟩ := srcT_in hb
    obtain ⟨i', t', e1', h2', h3'⟩ := srcT_in hub
    rw [h3] at hb; rw [h3'] at hub
    refine H.dist i i' t t' b (fun e => hjj ?_) h2 h2' hb hub
    subst e; subst e1; subst e1'
    exact hinj j j' i hq hq'
  · intro j t ht
    obtain ⟨q, hq, rfl⟩ := hget j t ht
    cases q with
    | none => rw [show srcT β none = noTr from rfl, noTr_all]; exact List.nodup_nil
    | some i =>
      cases hb : β[i]? with
      | none => simp [srcT, hb, noTr_all]
      | some t => simp only [srcT, hb]; exact H.nd i t hb
  · intro j t e' ht he'
    obtain ⟨q, hq, rfl⟩ := hget j t ht
    cases hs j q e' hq he' with
    | keep hq he hb =>
      subst hq
      obtain ⟨t, ht⟩ := H.tr he
      simp only [srcT, ht]
      have hok := H.ok j t e' ht he
      generalize e'.ob = x at hok hb ⊢
      cases x with
      | dead => trivial
      | box T cs us =>
        obtain ⟨h0, b, vs, h1, h2, h3, h4⟩ := hok
        exact ⟨h0, b, vs, h1, h2, h3, h4.evo hev hb⟩
      | tree τ d l =>
        obtain ⟨h1, xs, h2, h3⟩ := hok
        exact ⟨h1, xs, h2, h3.conv (Nat.le_refl _) (fun b _ => hX b) (fun _ _ _ h => h) (fun _ _ => rfl)⟩
    | box hq he h1 h2 l1 l2 hc hv =>
      subst hq
      obtain ⟨t, ht⟩ := H.tr he
      simp only [srcT, ht]
      have hok := H.ok j t _ ht he
      rw [h1] at hok
      rw [h2]
      obtain ⟨h0, b, vs, k1, k2, k3, k4⟩ := hok
      refine ⟨l2, b, vs, k1, k2, k3, by rw [k4.1, l1], fun i v c hv hc' => ?_⟩
      rcases hc i c hc' with rfl | ⟨hc1, hc2⟩
      · trivial
      · exact Lf.mean_evo hev hc2 (k4.2 i v c hv hc1)
    | dead h hv => rw [h]; trivial
    | tree hq he h1 hd h2 hv =>
      subst hq
      obtain ⟨t, ht⟩ := H.tr he
      simp only [srcT, ht]
      have hok := H.ok _ t _ ht he
      rw [h1] at hok
      rw [h2]
      obtain ⟨k1, xs, k2, k3⟩ := hok
      exact ⟨k1, xs, k2, (k3.fl hd).conv (Nat.le_refl _) (fun b _ => hX b) (fun _ _ _ h => h) (fun _ _ => rfl)⟩
    | ti hq he h1 hd h2 hr hv =>
      subst hq
      obtain ⟨t, ht⟩ := H.tr he
      simp only [srcT, ht]
      have hok := H.ok _ t _ ht he
      rw [h1] at hok
      rw [h2]
      obtain ⟨k1, xs, k2, k3⟩ := hok
      exact ⟨k1, xs, k2, (k3.fl hd).conv (Nat.le_refl _) (fun b _ => hX b) (fun _ _ _ h => h) (fun _ _ => rfl)⟩
    | nil hq h2 hK hv =>
      subst hq
      rw [h2]
      exact ⟨hK, [], World.ownsRow_nil w 0 _ _, .n⟩
end
end Go.EV
