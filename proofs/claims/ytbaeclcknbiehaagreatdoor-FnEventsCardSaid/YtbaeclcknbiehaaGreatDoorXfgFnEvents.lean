import Derived.Test.YtbaeclcknbiehaaGreatDoorRows
import Derived.Test.YtbaeclcknbiehaaGreatDoorCards
import Derived.Test.YtbaeclcknbiehaaGreatDoorTie
import Derived.Test.YtbaeclcknbiehaaGreatDoorChecked
import Derived.ProofKit
import Derived.OpenShut
import Derived.Below
import Derived.ChangeSame
import Derived.Lay
import Derived.MakeChecks
import Derived.LaidLaws
import Derived.SevenTiedAt
import Derived.Shelf.Vars
/-
  The law FnEvents, closed facts of its row: what the row says of the program is what the program's text says.
-/
set_option linter.unusedVariables false
set_option maxRecDepth 100000
namespace Go.Proofs.YtbaeclcknbiehaaGreatDoor.fnEvents
open Go.ChangeShapes Go.WideShapes Go.ChangeAt Go.RowKit
theorem goesNo {P : Program} {c : OpenClaim} (h : (P.funcs.toList.any Func.goes) = false) (hs : c.start = .entering) : false = c.goesBy P := by
  have h1 : ∀ f : FuncId, ((P.funcs[f]?).any Func.goes) = false := fun f => by
    cases e : P.funcs[f]? with
    | none => rfl
    | some fn => simpa using List.any_eq_false.1 h fn (by simpa using Array.mem_of_getElem? e)
  have h2 : P.funcs.any Func.goes = false := by rw [← Array.any_toList]; exact h
  have h3 : ∀ f, P.goes f = false := fun f => by
    unfold Program.goes
    rw [h2, Bool.and_false, Bool.or_false]
    simp [h1]
  unfold OpenClaim.goesBy Program.goesAt Program.goesFrom
  rw [hs]
  cases P.funcNamed c.func with
  | none => rfl
  | some f => simp [h3]
def rk (T h : Nat) : Nat := Nat.land (Nat.shiftRight T (Nat.mul 5 h)) 31
def rkGo (P : Program) (T : Nat) : Nat → List Func → Bool
  | _, [] => true
  | i, fn :: l => (P.leadsTo fn).all (fun h => Nat.blt (rk T h) (rk T i)) && rkGo P T (i + 1) l
theorem rkGo_at {P : Program} {T : Nat} : ∀ (l : List Func) (i : Nat), rkGo P T i l = true → ∀ (k : Nat) (fn : Func), l[k]? = some fn → ∀ x ∈ P.leadsTo fn, rk T x < rk T (i + k)
  | [], _, _, k, fn, hk, _, _ => by simp at hk
  | f0 :: l, i, h, k, fn, hk, x, hx => by
    unfold rkGo at h
    rw [Bool.and_eq_true] at h
    cases k with
    | zero =>
      obtain rfl : f0 = fn := by simpa using hk
      have := List.all_eq_true.1 h.1 x hx
      simpa [Nat.blt_eq] using this
    | succ k =>
      have := rkGo_at l (i + 1) h.2 k fn (by simpa using hk) x hx
      rwa [show i + 1 + k = i + (k + 1) by omega] at this
theorem clo_rk {P : Program} {T R : Nat} (hP : ∀ g, ∀ x ∈ (P.funcs[g]?).elim [] P.leadsTo, rk T x < rk T g) : ∀ (n : Nat) (todo seen : List FuncId), (∀ x ∈ todo, rk T x ≤ R) → (∀ x ∈ seen, rk T x ≤ R) → ∀ x ∈ P.closureVia n todo seen, rk T x ≤ R
  | 0, todo, seen, _, h2, x, hx => by
    unfold Program.closureVia at hx
    exact h2 x (List.mem_reverse.1 hx)
  | n + 1, [], seen, _, h2, x, hx => by
    unfold Program.closureVia at hx
    exact h2 x (List.mem_reverse.1 hx)
  | n + 1, f :: todo, seen, h1, h2, x, hx => by
    unfold Program.closureVia at hx
    have hf := h1 f List.mem_cons_self
    split at hx
    · exact clo_rk hP n todo seen (fun y hy => h1 y (List.mem_cons_of_mem _ hy)) h2 x hx
    · refine clo_rk hP n _ _ (fun y hy => ?_) (fun y hy => ?_) x hx
      · rcases List.mem_append.1 hy with hy | hy
        · have := hP f y hy; omega
        · exact h1 y (List.mem_cons_of_mem _ hy)
      · rcases List.mem_cons.1 hy with rfl | hy
        · exact hf
        · exact h2 y hy
theorem recNo {P : Program} {f : FuncId} (T : Nat) (hu : P.unfollowed f = false) (h : rkGo P T 0 P.funcs.toList = true) : P.recurses f = false := by
  have hP : ∀ g, ∀ x ∈ (P.funcs[g]?).elim [] P.leadsTo, rk T x < rk T g := fun g x hx => by
    cases e : P.funcs[g]? with
    | none => rw [e] at hx; cases hx
    | some fn =>
      rw [e] at hx
      have := rkGo_at P.funcs.toList 0 h g fn (by simpa using e) x hx
      simpa using this
  unfold Program.recurses
  rw [hu, Bool.false_or, List.any_eq_false]
  intro g _ hg
  obtain ⟨x, hx, hc⟩ := List.any_eq_true.1 hg
  have h1 := hP g x hx
  have h2 : rk T g ≤ rk T x := clo_rk (R := rk T x) hP _ [x] [] (fun y hy => by rw [List.mem_singleton.1 hy]; exact Nat.le_refl _) (fun y hy => absurd hy List.not_mem_nil) g (List.contains_iff_mem.1 hc)
  omega
theorem unf : Tryz.pinned.checked.prog.unfollowed 3 = false := by kernel_rfl
theorem unfE : (Rows.fnEventsRow.unfollowed == Tryz.pinned.checked.prog.unfollowed 3) = true := by
  rw [unf]; rfl
theorem recF : (Rows.fnEventsRow.recurses == Tryz.pinned.checked.prog.recurses 3) = true := by
  rw [recNo 11200547917330300917725635140311315800778167010026658890559609940092583286157505159201524490404246416641950373173489621970356536580798402131145568187030790292310019749888602681193161877114148000647501669274213304695284772346067638715602906179170930131422208110065750624648475241484023808265858666258645581380155626026752792697872672654498111233171355603254661125256066827874648732447722884622675216585340181625487215916061270257956335997256133278780879793945180538666825186070462386709064804271555447781449730621283941176694069420089850666687339865126555541894390647835771554027710811843218685551339956623387956076756047075932981879222385215341369261200199907997621886540762624570587833839168482417773049720267726674556980555512764869145701024768 unf (by kernel_rfl)]; rfl
theorem bt {a b : Bool} (h : a = true) (k : b = true) : (a && b) = true := by rw [h, k]; rfl
set_option maxHeartbeats 4000000 in
theorem closed : joinedFacts Tryz.pinned.checked.prog 3 Tryz.f3 Rows.fnEventsSpec Rows.fnEventsRow = true := by
  unfold joinedFacts
  iterate 31 (refine bt ?_ (by first | with_reducible exact recF | with_reducible exact unfE | as_aux_lemma => kernel_rfl))
  as_aux_lemma => kernel_rfl
theorem fnm : Tryz.pinned.checked.prog.funcNamed Rows.fnEventsRow.func = some 3 := by kernel_rfl
theorem inst : Tryz.f3.isInstance Tryz.pinned.checked.prog Rows.fnEventsRow.origin Rows.fnEventsRow.targs := (of_decide_eq_true (by kernel_rfl))
theorem wrp : Tryz.f3.isWrapper Tryz.pinned.checked.prog Rows.fnEventsRow.wrapper Rows.fnEventsRow.mainSum := (by unfold Func.isWrapper; first | (rw [if_pos (by decide +kernel)]; kernel_rfl) | (rw [if_neg (by decide +kernel)]; exact ⟨rfl, rfl⟩))
theorem tGoes : false = Rows.fnEventsRow.goesBy Tryz.pinned.checked.prog := goesNo (by as_aux_lemma => kernel_rfl) rfl
end Go.Proofs.YtbaeclcknbiehaaGreatDoor.fnEvents
