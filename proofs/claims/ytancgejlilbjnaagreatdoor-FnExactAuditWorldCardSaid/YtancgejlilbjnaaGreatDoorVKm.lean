/-
  THE VALUE KIT, eleventh part: joined strings, appended rows. Plain theorems.
-/
import Derived.Test.YtancgejlilbjnaaGreatDoorVKi
import Derived.Test.YtancgejlilbjnaaGreatDoorVKj
import Derived.Lib.Join
set_option linter.unusedVariables false
namespace Go.VK
open Go.RowKit

def joinB (sep : ByteArray) (l : List ByteArray) : ByteArray := ⟨(Lib.join (l.map (·.data.toList)) sep.data.toList).toArray⟩
theorem joinB_1 (sep x : ByteArray) : joinB sep [x] = x := by
  unfold joinB; simp [Lib.join_one]
theorem joinB_s (sep y : ByteArray) (l : List ByteArray) (h : l ≠ []) : joinB sep (l ++ [y]) = joinB sep l ++ sep ++ y := by
  cases l with
  | nil => exact absurd rfl h
  | cons x r =>
    unfold joinB
    apply ByteArray.ext
    simp only [List.cons_append, List.map_cons, Lib.join_cons, List.map_append, List.map_nil, Lib.joinTail, List.flatten_append, ByteArray.data_append]
    apply Array.toList_inj.1
    simp
theorem size_toList (x : ByteArray) : x.size = x.data.toList.length := (Array.length_toList).symm
/-- strings.Join, over the law of it that is laid at a program. -/
theorem spec_join {P : Program} {g : GI} {F : FuncId} (hE : ∀ args w, (callFunc F args).run P w = .ok (.enter F args) w)
    (hJ : ∀ (bk o c : Nat) (xs : List ByteArray) (sep : ByteArray) (w : World), (∀ (j : Nat) x, xs[j]? = some x → w.cell? ⟨bk, o + j, none⟩ = some (.string x)) → bk < w.heap.size → xs.length ≤ 140737488355328 → xs.length ≤ c → (Lib.join (xs.map (·.data.toList)) sep.data.toList).length ≤ 140737488355328 →
      Calls P F #[.slice (some ⟨bk, o, none⟩) xs.length c, .string sep] w fun e w' => e = .returned (.string ⟨(Lib.join (xs.map (·.data.toList)) sep.data.toList).toArray⟩) ∧ Below w.heap.size w w')
    (l : List ByteArray) (sep : ByteArray) (h0 : l ≠ []) (hsz : (joinB sep l).size ≤ 140737488355328) (hln : l.length ≤ 140737488355328) : Spec P g F [.slice 1 (l.map sV), .str sep] (fun r => r = .str (joinB sep l)) := by
  refine ⟨hE, fun w X0 vs hG hX0 hvs => ?_⟩
  obtain ⟨v, u, rfl⟩ : ∃ v u, vs = [v, u] := by
    match vs, hvs.1 with
    | [v, u], _ => exact ⟨v, u, rfl⟩
  have hu := (hvs.2 1 u _ rfl rfl).str_inv
  obtain ⟨rfl, hu2⟩ := hu
  have hv := hvs.2 0 v _ rfl rfl
  generalize hes : l.map sV = es at hv
  cases hv with
  | slice0 h => exact absurd (List.map_eq_nil_iff.1 hes) h0
  | @slice _ a n c k es val hn hpos hc hm hX hb hk hcell hrd =>
    subst hes
    simp only [List.length_map] at hn
    subst hn
    have hcs : ∀ (j : Nat) x, l[j]? = some x → w.cell? (a.add j) = some (.string x) := by
      intro j x hx
      have e1 : (l.map sV)[j]? = some [V.str x] := by simp [hx, sV]
      have e2 := hcell j 0 _ _ e1 rfl
      obtain ⟨e3, _⟩ := (hrd j 0 _ _ e1 rfl).str_inv
      rw [e3] at e2
      simpa using e2
    obtain ⟨b, o, sp⟩ := a
    have hsp : sp = none := by
      cases l with
      | nil => exact absurd rfl h0
      | cons x r =>
        have := hcs 0 x rfl
        rw [show (⟨b, o, sp⟩ : Addr).add 0 = ⟨b, o, sp⟩ by simp [Addr.add]] at this
        exact Proofs.cell_spot this
    subst hsp
    refine (hJ b o c l sep w (fun j x hx => ?_) hb hln hc (by rw [size_toList] at hsz; exact hsz)).mono ?_
    · rw [← hcs j x hx]; congr 1; unfold Addr.add; split <;> simp_all
    · rintro e w' ⟨rfl, hbel⟩
      exact ⟨_, _, rfl, rfl, .str (by unfold maxLen; unfold joinB at hsz; omega), hbel⟩
end Go.VK
