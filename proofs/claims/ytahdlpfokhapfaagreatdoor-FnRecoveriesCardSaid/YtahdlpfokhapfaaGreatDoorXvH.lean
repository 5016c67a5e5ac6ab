import Derived.Test.YtahdlpfokhapfaaGreatDoorXvL
import Derived.WalkKit
import Derived.Handy
import Derived.BigFrame
import Derived.Maps.Own
import Derived.Maps.Views
/- Printed by wip/tools: models, walks, proofs. -/
set_option linter.unusedVariables false
set_option linter.unusedSimpArgs false
set_option maxRecDepth 100000
set_option maxHeartbeats 4000000
namespace Go.VK
open Go.RowKit Go.Maps Go.Proofs
theorem bH0 : Keyed Tryz.prog 3 := int_keyed Tryz.underlying3
def Np {H : Type} (ix : List Int) (k : Nat) : DataW H := setOf (.lit (.bool true)) ((ix.take k).map fun x => Lit.int .i64 x)
theorem aJd {H : Type} (ix : List Int) : Np (H := H) ix 0 = .map [] := by simp [Np, setOf]
theorem aJe {H : Type} {ix : List Int} {k : Nat} (hk : k < ix.length) : Np (H := H) ix (k + 1) = (Np ix k).put (.int .i64 ix[k]) (.lit (.bool true)) := by
  unfold Np
  rw [List.take_add_one, List.getElem?_eq_getElem hk, List.map_append]
  simp only [Option.toList_some, List.map_cons, List.map_nil]
  rw [setOf_snoc]
theorem aOm {α : Type} {p : Nat → α → Bool} : ∀ (l : List α) (j : Nat), dP p j l = true ↔ ∃ (i : Nat) (hi : i < l.length), p (j + i) l[i] = true := sF
def R64 (x : Int) : Prop := IntKind.i64.min ≤ x ∧ x ≤ IntKind.i64.max
theorem Ws {x : Int} (h1 : -9223372036854775808 ≤ x) (h2 : x ≤ 9223372036854775807) : R64 x := by
  unfold R64; rw [show IntKind.i64.min = -9223372036854775808 by decide, show IntKind.i64.max = 9223372036854775807 by decide]; exact ⟨h1, h2⟩
theorem bG7 {k : Nat} (h : k ≤ 34359738368) : R64 (k : Int) := Ws (by omega) (by omega)
theorem bOg {x : Int} (h : R64 x) : (Lit.int .i64 x).wf = true := by
  unfold R64 at h
  rw [show IntKind.i64.min = -9223372036854775808 by decide, show IntKind.i64.max = 9223372036854775807 by decide] at h
  simp [Lit.wf, h.1, h.2, show IntKind.i64.min = -9223372036854775808 by decide, show IntKind.i64.max = 9223372036854775807 by decide]
theorem bEk : R64 0 := Ws (by decide) (by decide)
theorem bMl : R64 1 := Ws (by decide) (by decide)
theorem bKn (l : List Int) (k a : Int) : R64 (tH l k a) := by
  unfold tH
  cases (decide (k < 0) || decide (k ≥ (l.length : Int))) || dP (Bt (fun q => bJ q 1019) l) 0 l with
  | true => exact bEk
  | false =>
    have key : ∀ (r : List Nat) (w : Int), -1019 < w → w < 1019 → -1019 < r.foldl (p9 l k a) w ∧ r.foldl (p9 l k a) w < 1019 := by
      intro r
      induction r with
      | nil => intro w h1 h2; exact ⟨h1, h2⟩
      | cons j r b =>
        intro w h1 h2
        rw [List.foldl_cons]
        have : -1019 < p9 l k a w j ∧ p9 l k a w j < 1019 := by
          unfold p9
          cases ((j : Int) == k) with
          | true => exact ⟨h1, h2⟩
          | false =>
            have := lI (p := IntKind.i64.wrap ((IntKind.i64.wrap (w * bJ (IntKind.i64.wrap (bJ a 1019 - bJ (l.getD j 0) 1019)) 1019)).tmod 1019 * pW (IntKind.i64.wrap (bJ (l.getD k.toNat 0) 1019 - bJ (l.getD j 0) 1019)))) (q := 1019) (by decide)
            exact ⟨this.1, this.2.1⟩
        exact b _ this.1 this.2
    have := key (List.range l.length) 1 (by decide) (by decide)
    exact Ws (by show -9223372036854775808 ≤ (List.range l.length).foldl (p9 l k a) 1; omega) (by show (List.range l.length).foldl (p9 l k a) 1 ≤ 9223372036854775807; omega)
theorem bEl : ∀ (k : Nat) (b n s : Int), -2039 < s → s < 2039 → -2039 < Ih 2039 k b n s ∧ Ih 2039 k b n s < 2039
  | 0, b, n, s, h1, h2 => ⟨h1, h2⟩
  | k + 1, b, n, s, h1, h2 => by
    unfold Ih
    split
    · refine bEl k _ _ _ ?_ ?_
      · cases n % 2 == 1 with
        | true => exact (lI (p := IntKind.i64.wrap (s * b)) (q := 2039) (by decide)).1
        | false => exact h1
      · cases n % 2 == 1 with
        | true => exact (lI (p := IntKind.i64.wrap (s * b)) (q := 2039) (by decide)).2.1
        | false => exact h2
    · exact ⟨h1, h2⟩
theorem bG8 (g n : Int) : R64 (dJ g n) := by
  unfold dJ
  cases iI g with
  | false => exact bEk
  | true =>
    have := bEl 11 g (bJ n 1019) 1 (by decide) (by decide)
    exact Ws (by simp only [cond_true]; omega) (by simp only [cond_true]; omega)
theorem bG9 (a b : Int) : -2039 < gX a b ∧ gX a b < 2039 := by
  unfold gX
  cases iI a && iI b with
  | false => exact ⟨show (-2039 : Int) < 0 by decide, show (0 : Int) < 2039 by decide⟩
  | true =>
    have := lI (p := IntKind.i64.wrap (a * b)) (q := 2039) (by decide)
    exact ⟨this.1, this.2.1⟩
theorem bEm (ix vs : List Int) (k : Nat) : R64 ((List.range k).foldl (fun o (i : Nat) => gX o (dJ (vs.getD i 0) (tH ix (i : Int) 0))) 1) := by
  cases k with
  | zero => exact bMl
  | succ k =>
    rw [List.range_succ, List.foldl_append]
    have := bG9 ((List.range k).foldl (fun o (i : Nat) => gX o (dJ (vs.getD i 0) (tH ix (i : Int) 0))) 1) (dJ (vs.getD k 0) (tH ix (k : Int) 0))
    exact Ws (by simp only [List.foldl_cons, List.foldl_nil]; omega) (by simp only [List.foldl_cons, List.foldl_nil]; omega)
theorem Dk {l : List Int} {i : Nat} (h : i < l.length) : l.getD i 0 = l[i] := by simp [List.getD, List.getElem?_eq_getElem h]
set_option maxRecDepth 100000 in
theorem bOh (a b c : Int) (w : World) : Calls Tryz.prog 90 #[.int .i64 a, .int .i64 b, .int .i64 c] w fun e w' => e = .returned (.bool (bD a b c)) ∧ w' = w := by
  by_cases h1 : b ≤ a
  · by_cases h2 : a ≤ c
    · go_enter Tryz.func90, Tryz.ntmps90
      go_wp2
      go_ret
      exact ⟨by unfold bD; rw [decide_eq_true h1, decide_eq_true h2]; rfl, rfl⟩
    · go_enter Tryz.func90, Tryz.ntmps90
      go_wp2
      go_ret
      exact ⟨by unfold bD; rw [decide_eq_true h1, decide_eq_false (show ¬ a ≤ c by omega)]; rfl, rfl⟩
  · go_enter Tryz.func90, Tryz.ntmps90
    go_wp2
    go_ret
    exact ⟨by unfold bD; rw [decide_eq_false (show ¬ b ≤ a by omega)]; rfl, rfl⟩
theorem aQi (a : Addr) (j : Nat) : (a.add j).block = a.block := by unfold Addr.add; split <;> rfl
theorem aQj {ix vs : List Int} {n k : Nat} (h1 : ix.length = n) (h2 : vs.length = n) (hk : k < ix.length) (h : mH ix vs k ix[k] = true) : iM ix vs = (0, false) := by
  unfold iM
  rw [show dP (mH ix vs) 0 ix = true from (aOm ix 0).2 ⟨k, hk, by rw [Nat.zero_add]; exact h⟩, Bool.or_true]; rfl
theorem bAs {p : Nat → Int → Bool} {l : List Int} {i : Nat} (hi : i < l.length) (h : dP p 0 (l.take i) = false) (h2 : p (0 + i) l[i] = false) : dP p 0 (l.take (i + 1)) = false := by
  rw [Bool.eq_false_iff, Ne, aOm] at h ⊢
  rintro ⟨k, hk, e⟩
  rw [List.length_take] at hk
  rw [List.getElem_take] at e
  by_cases a : k < i
  · exact h ⟨k, by rw [List.length_take]; omega, by rw [List.getElem_take]; exact e⟩
  · have : k = i := by omega
    subst this
    rw [h2] at e; cases e
theorem bEn {ix vs : List Int} {n : Nat} (h1 : ix.length = n) (h2 : vs.length = n) (h0 : 0 < n) (h : dP (mH ix vs) 0 (ix.take n) = false) : iM ix vs = ((List.range n).foldl (fun o (i : Nat) => gX o (dJ (vs.getD i 0) (tH ix (i : Int) 0))) 1, true) := by
  rw [← h1, List.take_length] at h
  unfold iM aXj
  rw [h, h1, h2, beq_self_eq_true, beq_eq_false_iff_ne.2 (show n ≠ 0 by omega)]; rfl
theorem own_below {w w' : World} {b n : Nat} {D : DataW Unit} (h : w.ownsMap Tryz.prog 3 (plainElem Tryz.prog 4) b n D) (hb : Below w.heap.size w w') : w'.ownsMap Tryz.prog 3 (plainElem Tryz.prog 4) b n D := by
  have a := h.lt
  obtain ⟨es, clock, c, d, e, f⟩ := h
  exact ⟨es, clock, (hb.block b a).trans c, d, e, f⟩
theorem aYb (x : Int) : WideAt.IsKeyLit (.int .i64 x) := by first | trivial | exact rfl | simp [WideAt.IsKeyLit]
theorem bEo {H : Type} {ix : List Int} (j : Nat) : IsMap (Np (H := H) ix j) := (tidy_setOf _ _ (fun x a => by obtain ⟨y, _, rfl⟩ := List.mem_map.1 a; exact aYb y)).isMap
theorem bHa {H : Type} {ix : List Int} : ∀ {k : Nat} (hk : k < ix.length), (Np (H := H) ix k).atKey (.int .i64 ix[k]) (.lit (.bool false)) = .lit (.bool (Bt (fun q => q) ix k ix[k])) := by
  intro k hk
  have key : ∀ j, j ≤ k → (Np (H := H) ix j).atKey (.int .i64 ix[k]) (.lit (.bool false)) = .lit (.bool ((ix.take j).any fun q => q == ix[k])) := by
    intro j
    induction j with
    | zero => intro _; rw [aJd]; rfl
    | succ j a =>
      intro hj
      rw [aJe (show j < ix.length by omega), List.take_add_one, List.getElem?_eq_getElem (show j < ix.length by omega), List.any_append]
      simp only [Option.toList_some, List.any_cons, List.any_nil, Bool.or_false]
      by_cases he : ix[j] = ix[k]
      · rw [he, atKey_put_same (bEo j) (aYb _), beq_self_eq_true, Bool.or_true]
      · rw [atKey_put_other (by simpa using fun h => he h.symm), a (by omega), beq_eq_false_iff_ne.2 he, Bool.or_false]
  exact key k (Nat.le_refl _)
theorem aV3 {v : Value} {x : Bool} {ps : List MemPlace} (hv : plainElem (H := Unit) Tryz.prog 4 v = some (.lit (.bool x), ps)) : v = .bool x := by
  have a : Tryz.prog.underlying 4 = some .bool := Tryz.underlying4
  unfold plainElem at hv
  split at hv
  · simp only [Option.some.injEq, Prod.mk.injEq, DataW.lit.injEq, Lit.bool.injEq] at hv
    rw [hv.1]
  · rename_i e; rw [a] at e; cases e
  · rename_i e; rw [a] at e; cases e
  · cases hv
theorem bAt {wr : World} {b n : Nat} {ix : List Int} {k : Nat} (hown : wr.ownsMap Tryz.prog 3 (plainElem Tryz.prog 4) b n (Np (H := Unit) ix k)) (hk : k < ix.length) (d : (Lit.int .i64 ix[k]).wf = true) :
    (Instr.lookup 280 (.map (some b)) (.int .i64 ix[k]) false).run Tryz.prog wr = .ok (.bool (Bt (fun q => q) ix k ix[k])) wr := by
  have a : keyOf Tryz.prog 3 (.int .i64 ix[k]) = some (.int .i64 ix[k]) := keyOf_int_mk Tryz.underlying3 d
  have f : (zeroValue 4).run Tryz.prog wr = .ok (.bool false) wr := by kernel_rfl
  obtain ⟨v, ps, c, hv⟩ := hown.lookup bH0 Tryz.underlying280 f (plainElem_bool Tryz.underlying4 false) a
  have e : (Np (H := Unit) ix k).atKey (.int .i64 ix[k]) (.lit (.bool false)) = .lit (.bool (Bt (fun q => q) ix k ix[k])) := bHa hk
  rw [e] at hv
  have : v = .bool (Bt (fun q => q) ix k ix[k]) := aV3 hv
  rw [← this]; exact c
set_option maxRecDepth 100000 in
set_option maxHeartbeats 8000000 in
theorem bKo (hGE : ∀ (a : Int) (w : World), R64 a → G0.G w → Calls Tryz.prog 260 #[.int .i64 a] w fun e w' => e = .returned (.bool (iI a)) ∧ Below w.heap.size w w')
    (hPG : ∀ (a b : Int) (w : World), R64 a → R64 b → G0.G w → Calls Tryz.prog 257 #[.int .i64 a, .int .i64 b] w fun e w' => e = .returned (.int .i64 (dJ a b)) ∧ Below w.heap.size w w')
    (hMG : ∀ (a b : Int) (w : World), R64 a → R64 b → G0.G w → Calls Tryz.prog 261 #[.int .i64 a, .int .i64 b] w fun e w' => e = .returned (.int .i64 (gX a b)) ∧ Below w.heap.size w w')
    (a1 a2 : Addr) (n c1 c2 : Nat) (hn : 0 < n) (hn2 : n ≤ 34359738368) (ix vs : List Int) (hl1 : ix.length = n) (hl2 : vs.length = n) (w : World) (hG : G0.G w) (hr1 : ∀ x ∈ ix, R64 x) (hr2 : ∀ x ∈ vs, R64 x) (hb1 : a1.block < w.heap.size) (hb2 : a2.block < w.heap.size)
    (hLW : ∀ (k : Int) (wr : World), R64 k → G0.G wr → Below w.heap.size w wr → Calls Tryz.prog 262 #[.slice (some a1) n c1, .int .i64 k, .int .i64 0] wr fun e w' => e = .returned (.int .i64 (tH ix k 0)) ∧ Below wr.heap.size wr w')
    (hc1 : ∀ j, j < n → w.cell? (a1.add j) = some (.int .i64 (ix.getD j 0))) (hc2 : ∀ j, j < n → w.cell? (a2.add j) = some (.int .i64 (vs.getD j 0))) :
    Calls Tryz.prog 195 #[.slice (some a1) n c1, .slice (some a2) n c2] w fun e w' => e = .returned (.tuple #[.int .i64 (iM ix vs).1, .bool (iM ix vs).2]) ∧ Below w.heap.size w w' := by
  have hmm := @run_makeMap Tryz.prog
  go_enter Tryz.func195, Tryz.ntmps195
  go_wp2
  have hz0 : ((n : Int) == 0) = false := beq_eq_false_iff_ne.2 (by omega)
  simp only [hz0]
  go_loopw [25] (fun i wr => ∃ k : Nat, k ≤ n ∧ i = .int .i64 k ∧ wr.ownsMap Tryz.prog 3 (plainElem Tryz.prog 4) w.heap.size k (Np (H := Unit) ix k) ∧ Below w.heap.size w wr ∧ dP (mH ix vs) 0 (ix.take k) = false)
    (fun i _ => n - (intOf i).toNat)
  case atStart => exact ⟨0, Nat.zero_le _, rfl, by rw [aJd]; exact World.ownsMap_made _ _ _ _, (Below.refl _ _).alloc (Nat.le_refl _) _, rfl⟩
  case round =>
    obtain ⟨k, hk, rfl, hown, hnx, hno⟩ := hrel
    by_cases hkn : k < n
    · have hk1 : k < ix.length := by omega
      have hk2 : k < vs.length := by omega
      have hcx : wr.cell? (a1.add k) = some (.int .i64 ix[k]) := (hnx.cell (by rw [aQi]; exact hb1)).trans ((hc1 k hkn).trans (by rw [Dk hk1]))
      have hcy : wr.cell? (a2.add k) = some (.int .i64 vs[k]) := (hnx.cell (by rw [aQi]; exact hb2)).trans ((hc2 k hkn).trans (by rw [Dk hk2]))
      have hwx := bOg (hr1 _ (List.getElem_mem hk1))
      have hrun := bAt hown hk1 hwx
      have hGr : G0.G wr := G0.st w wr hG hnx
      go_wp2_with fail
      go_call (bOh _ _ _ _) as e w' ⟨he, hw⟩
      subst he; subst hw
      cases hir : bD ix[k] 1 7 with
      | false =>
        go_wp2_with fail
        go_ret2
        exact ⟨by rw [aQj hl1 hl2 hk1 (by unfold mH; rw [hir]; rfl)]; rfl, hnx⟩
      | true =>
        cases hd : Bt (fun q => q) ix k ix[k] with
        | true =>
          rw [hd] at hrun
          go_wp2_with fail
          go_ret2
          exact ⟨by rw [aQj hl1 hl2 hk1 (by unfold mH; rw [hd]; simp)]; rfl, hnx⟩
        | false =>
          rw [hd] at hrun
          go_wp2_with fail
          go_call (hGE vs[k] _ (hr2 _ (List.getElem_mem hk2)) hGr) as e w2 ⟨he, hbw⟩
          subst he
          cases hge : iI vs[k] with
          | false =>
            go_wp2_with fail
            go_ret2
            exact ⟨by rw [aQj hl1 hl2 hk1 (by unfold mH; rw [Dk hk2, hge]; simp)]; rfl, Below.trans hnx (Below.mono hbw hnx.size)⟩
          | true =>
            have hown2 := own_below hown hbw
            have hkey : keyOf Tryz.prog 3 (.int .i64 ix[k]) = some (.int .i64 ix[k]) := keyOf_int_mk Tryz.underlying3 hwx
            go_wp2_with (first
              | (at_mapUpdate; refine wpList_mapUpdate_own _ rfl _ _ _ 280 rfl 3 4 bH0 Tryz.underlying280 (plainElem (H := Unit) Tryz.prog 4) w.heap.size k _ rfl hown2 (by unfold maxLen; omega) _ _ _ rfl rfl hkey _ [] (plainElem_bool Tryz.underlying4 true) ?_; intro w1 hown1 hgrow1)
              | fail)
            go_roundw
            case rel =>
              have hb3 := Below.trans hnx (Below.mono hbw hnx.size)
              refine ⟨k + 1, by omega, by go_num, (aJe hk1).symm ▸ hown1, hb3.grown hgrow1 hb3.size (fun j hj => by cases hj; exact Nat.le_refl _), bAs hk1 hno (by unfold mH; rw [Nat.zero_add, Dk hk2, hge, hir, hd]; rfl)⟩
            case measure => simp [intOf]; omega
    · have hkn2 : k = n := by omega
      subst hkn2
      go_wp2_with fail
      go_loopw [9, 51] (fun o i wr => ∃ k' : Nat, k' ≤ k ∧ i = .int .i64 k' ∧ o = .int .i64 ((List.range k').foldl (fun o (i : Nat) => gX o (dJ (vs.getD i 0) (tH ix (i : Int) 0))) 1) ∧ Below w.heap.size w wr)
        (fun _ i _ => k - (intOf i).toNat)
      case atStart => exact ⟨0, Nat.zero_le _, rfl, rfl, hnx⟩
      case round =>
        obtain ⟨k', hk', rfl, rfl, hnx'⟩ := hrel
        by_cases hkn' : k' < k
        · have hk2 : k' < vs.length := by omega
          have hcy : wr.cell? (a2.add k') = some (.int .i64 vs[k']) := (hnx'.cell (by rw [aQi]; exact hb2)).trans ((hc2 k' hkn').trans (by rw [Dk hk2]))
          have hG1 : G0.G wr := G0.st w wr hG hnx'
          go_wp2_with fail
          go_call (hLW (k' : Int) _ (bG7 (by omega)) hG1 hnx') as e w2 ⟨he, hbw⟩
          subst he
          have hn2 := Below.trans hnx' (Below.mono hbw hnx'.size)
          have hG2 : G0.G w2 := G0.st w w2 hG hn2
          go_wp2_with fail
          go_call (hPG vs[k'] (tH ix (k' : Int) 0) _ (hr2 _ (List.getElem_mem hk2)) (bKn _ _ _) hG2) as e w3 ⟨he, hbw3⟩
          subst he
          have hn3 := Below.trans hn2 (Below.mono hbw3 hn2.size)
          have hG3 : G0.G w3 := G0.st w w3 hG hn3
          go_wp2_with fail
          go_call (hMG _ _ _ (bEm _ _ _) (bG8 _ _) hG3) as e w4 ⟨he, hbw4⟩
          subst he
          have hn4 := Below.trans hn3 (Below.mono hbw4 hn3.size)
          go_wp2_with fail
          go_roundw
          case rel => exact ⟨k' + 1, by omega, by go_num, by rw [List.range_succ, List.foldl_append]; simp [List.getD, List.getElem?_eq_getElem hk2], hn4⟩
          case measure => simp [intOf]; omega
        · have hkk : k' = k := by omega
          subst hkk
          go_wp2_with fail
          go_ret2
          exact ⟨by rw [bEn hl1 hl2 hn hno]; rfl, hnx'⟩
set_option maxRecDepth 100000 in
set_option maxHeartbeats 8000000 in
theorem aV4 (A1 A2 : Option Addr) (n1 n2 c1 c2 : Nat) (h : n1 ≠ n2 ∨ n1 = 0) (w : World) : Calls Tryz.prog 195 #[.slice A1 n1 c1, .slice A2 n2 c2] w fun e w' => e = .returned (.tuple #[.int .i64 0, .bool false]) ∧ Below w.heap.size w w' := by
  by_cases h0 : n1 = n2
  · have h1 : n1 = 0 := by omega
    subst h1; subst h0
    go_enter Tryz.func195, Tryz.ntmps195
    go_wp2_with fail
    go_ret2
    exact ⟨rfl, Below.refl _ _⟩
  · have hne : ((n1 : Int) != (n2 : Int)) = true := by simp; omega
    go_enter Tryz.func195, Tryz.ntmps195
    go_wp2_with fail
    all_goals first
      | (go_ret2; exact ⟨rfl, Below.refl _ _⟩)
      | (exfalso; omega)
theorem bMm {w : World} {X : Nat → Prop} {v : Value} {es : List (List V)} (h : Rd w X [] v (.slice 1 es)) (h0 : 0 < es.length) :
    ∃ a c, v = .slice (some a) es.length c ∧ a.block < w.heap.size ∧ ∀ (i : Nat) (e : List V) (d : V), es[i]? = some e → e[0]? = some d → ∃ u, w.cell? (a.add i) = some u ∧ Rd w X [] u d := by
  cases h with
  | slice0 hc => simp at h0
  | slice hn hpos hc hm hX hb hk hcell hrd =>
    subst hn
    refine ⟨_, _, rfl, hb, fun i e d h1 h2 => ⟨_, ?_, hrd i 0 e d h1 h2⟩⟩
    have := hcell i 0 e d h1 h2
    simpa using this
theorem aYc {w : World} {X : Nat → Prop} {v : Value} {l : List Int} (h : Rd w X [] v (.slice 1 (l.map iV))) (h0 : 0 < l.length) :
    ∃ a c, v = .slice (some a) l.length c ∧ a.block < w.heap.size ∧ (∀ j, j < l.length → w.cell? (a.add j) = some (.int .i64 (l.getD j 0))) ∧ ∀ x ∈ l, R64 x := by
  obtain ⟨a, c, b, d, e⟩ := bMm h (by simpa using h0)
  rw [List.length_map] at b
  have key : ∀ j (hj : j < l.length), w.cell? (a.add j) = some (.int .i64 l[j]) ∧ R64 l[j] := fun j hj => by
    obtain ⟨u, h1, h2⟩ := e j (iV l[j]) (.int .i64 l[j]) (by rw [List.getElem?_map, List.getElem?_eq_getElem hj]; rfl) rfl
    obtain ⟨rfl, f, i⟩ := h2.aAP
    exact ⟨h1, f, i⟩
  refine ⟨a, c, b, d, fun j hj => by rw [Dk hj]; exact (key j hj).1, fun x k => ?_⟩
  obtain ⟨j, hj, rfl⟩ := List.mem_iff_getElem.1 k
  exact (key j hj).2
theorem bAu (J : ∀ args w, (callFunc 195 args).run Tryz.prog w = .ok (.enter 195 args) w)
    (sGE : ∀ a : Int, Spec Tryz.prog G0 260 [.int .i64 a] (fun r => r = .bool (iI a))) (sPG : ∀ a b : Int, Spec Tryz.prog G0 257 [.int .i64 a, .int .i64 b] (fun r => r = .int .i64 (dJ a b)))
    (sMG : ∀ a b : Int, Spec Tryz.prog G0 261 [.int .i64 a, .int .i64 b] (fun r => r = .int .i64 (gX a b)))
    (sLW : ∀ (l : List Int) (k a : Int), l.length ≤ 34359738368 → Spec Tryz.prog G0 262 [.slice 1 (l.map iV), .int .i64 k, .int .i64 a] (fun r => r = .int .i64 (tH l k a)))
    (ix vs : List Int) (h : ix.length ≤ 34359738368 ∧ vs.length ≤ 34359738368) : Spec Tryz.prog G0 195 [.slice 1 (ix.map iV), .slice 1 (vs.map iV)] (fun r => r = .tup [.int .i64 (iM ix vs).1, .bool (iM ix vs).2]) := by
  refine ⟨J, fun w X0 vals K A t => ?_⟩
  obtain ⟨v, u, rfl⟩ : ∃ v u, vals = [v, u] := by
    match vals, t.1 with
    | [v, u], _ => exact ⟨v, u, rfl⟩
  have B := t.2 0 v _ rfl rfl
  have H := t.2 1 u _ rfl rfl
  have one : ∀ {f : FuncId} {a : Int} {q : V} (hs : Spec Tryz.prog G0 f [.int .i64 a] (fun r => r = q)) (w : World), R64 a → G0.G w → Calls Tryz.prog f #[.int .i64 a] w fun e w' => ∃ x, e = .returned x ∧ Rd w' (fun _ => False) [] x q ∧ Ext w w' := fun {f a q} hs w o hg =>
    (hs.2 w (fun _ => False) [.int .i64 a] hg (fun _ h => h.elim) ⟨rfl, fun i v c p q => by
      match i with
      | 0 => simp at p q; subst p; subst q; exact .int o.1 o.2
      | i + 1 => simp at p⟩).mono (fun e w' ⟨x, r, d, m, s, y⟩ => ⟨x, d, by rw [← m]; exact s, y⟩)
  have two : ∀ {f : FuncId} {a b : Int} {q : V} (hs : Spec Tryz.prog G0 f [.int .i64 a, .int .i64 b] (fun r => r = q)) (w : World), R64 a → R64 b → G0.G w → Calls Tryz.prog f #[.int .i64 a, .int .i64 b] w fun e w' => ∃ x, e = .returned x ∧ Rd w' (fun _ => False) [] x q ∧ Ext w w' := fun {f a b q} hs w o hb hg =>
    (hs.2 w (fun _ => False) [.int .i64 a, .int .i64 b] hg (fun _ h => h.elim) ⟨rfl, fun i v c p q => by
      match i with
      | 0 => simp at p q; subst p; subst q; exact .int o.1 o.2
      | 1 => simp at p q; subst p; subst q; exact .int hb.1 hb.2
      | i + 2 => simp at p⟩).mono (fun e w' ⟨x, r, d, m, s, y⟩ => ⟨x, d, by rw [← m]; exact s, y⟩)
  have fin : ∀ {w' : World} (n : Int) (b : Bool), R64 n → Rd w' X0 [] (.tuple #[.int .i64 n, .bool b]) (.tup [.int .i64 n, .bool b]) := fun {w'} n b hn =>
    .tup rfl (fun i v c p q => by
      match i with
      | 0 => simp at p q; subst p; subst q; exact .int hn.1 hn.2
      | 1 => simp at p q; subst p; subst q; exact .bool
      | i + 2 => simp at p)
  by_cases hs : ix.length ≠ vs.length ∨ ix.length = 0
  · obtain ⟨L, z, rfl, _⟩ := B.aAZ
    obtain ⟨M, D, rfl, _⟩ := H.aAZ
    rw [List.length_map, List.length_map]
    have hc : iM ix vs = (0, false) := by
      unfold iM
      have : (!(ix.length == vs.length) || ix.length == 0) = true := by
        rcases hs with hs | hs
        · rw [beq_eq_false_iff_ne.2 hs]; rfl
        · rw [hs]; simp
      rw [this]; rfl
    rw [hc]
    exact (aV4 L M _ _ z D hs w).mono (fun e w' ⟨d, m⟩ => ⟨_, _, d, rfl, fin 0 false (Ws (by decide) (by decide)), m⟩)
  · have hl : ix.length = vs.length ∧ 0 < ix.length := by omega
    obtain ⟨I, z, rfl, b1, N, O⟩ := aYc B hl.2
    obtain ⟨Q, D, rfl, d1, d2, d3⟩ := aYc H (by omega)
    rw [← hl.1]
    have F : R64 (iM ix vs).1 := by
      unfold iM
      cases (!(ix.length == vs.length) || ix.length == 0) || dP (mH ix vs) 0 ix with
      | true => exact bEk
      | false => exact bEm ix vs _
    refine (bKo (fun a w o hg => (one (sGE a) w o hg).mono (fun e w' ⟨x, d, m, s⟩ => ⟨by rw [d, m.aAW], s⟩)) (fun a b w o hb hg => (two (sPG a b) w o hb hg).mono (fun e w' ⟨x, d, m, s⟩ => ⟨by rw [d, m.aAP.1], s⟩)) (fun a b w o hb hg => (two (sMG a b) w o hb hg).mono (fun e w' ⟨x, d, m, s⟩ => ⟨by rw [d, m.aAP.1], s⟩))
      I Q ix.length z D hl.2 h.1 ix vs rfl hl.1.symm w K O d3 b1 d1 (fun k wr hk hg hb => ?_) N (fun j hj => d2 j (by omega))).mono (fun e w' ⟨d, m⟩ => ⟨_, _, d, rfl, fin _ _ F, m⟩)
    refine ((sLW ix k 0 h.1).2 wr X0 [.slice (some I) ix.length z, .int .i64 k, .int .i64 0] hg (fun b hb' => Nat.lt_of_lt_of_le (A b hb') hb.size) ⟨rfl, fun i v c p q => ?_⟩).mono (fun e w' ⟨x, r, d, m, s, y⟩ => ⟨by subst m; rw [d, s.aAP.1], y⟩)
    match i with
    | 0 => simp at p q; subst p; subst q; exact B.ext hb
    | 1 => simp at p q; subst p; subst q; exact .int hk.1 hk.2
    | 2 => simp at p q; subst p; subst q; exact .int (by decide) (by decide)
    | i + 3 => simp at p
end Go.VK
