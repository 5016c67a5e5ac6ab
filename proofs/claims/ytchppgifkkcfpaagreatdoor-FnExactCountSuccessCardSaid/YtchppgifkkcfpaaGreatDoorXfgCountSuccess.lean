import Derived.Test.YtchppgifkkcfpaaGreatDoorRows
import Derived.Test.YtchppgifkkcfpaaGreatDoorCards
import Derived.Test.YtchppgifkkcfpaaGreatDoorChecked
import Derived.ProofKit
import Derived.OpenShut
import Derived.Below
import Derived.ChangeSame
import Derived.Lay
import Derived.MakeChecks
import Derived.LaidLaws
import Derived.SevenTiedAt
import Derived.Shelf.Vars
/-
  The law CountSuccess, closed facts of its row: what the row says of the program is what the program's text says.
-/
set_option linter.unusedVariables false
set_option maxRecDepth 100000
namespace Go.Proofs.YtchppgifkkcfpaaGreatDoor.fnExactCountSuccess
open Go.ChangeShapes Go.WideShapes Go.ChangeAt Go.RowKit
theorem goesNo {P : Program} {c : OpenClaim} (h : (P.funcs.toList.any Func.goes) = false) (hs : c.start = .entering) : false = c.goesBy P := by
  have h1 : ∀ f : FuncId, ((P.funcs[f]?).any Func.goes) = false := fun f => by
    cases e : P.funcs[f]? with
    | none => rfl
    | some fn => simpa using List.any_eq_false.1 h fn (by simpa using Array.mem_of_getElem? e)
  have h2 : P.funcs.any Func.goes = false := by rw [← Array.any_toList]; exact h
  have h3 : ∀ f, P.goes f = false := fun f => by
    unfold Program.goes
    rw [h2, Bool.and_false, Bool.or_false]
    simp [h1]
  unfold OpenClaim.goesBy Program.goesAt Program.goesFrom
  rw [hs]
  cases P.funcNamed c.func with
  | none => rfl
  | some f => simp [h3]
def rk (T h : Nat) : Nat := Nat.land (Nat.shiftRight T (Nat.mul 5 h)) 31
def rkGo (P : Program) (T : Nat) : Nat → List Func → Bool
  | _, [] => true
  | i, fn :: l => (P.leadsTo fn).all (fun h => Nat.blt (rk T h) (rk T i)) && rkGo P T (i + 1) l
theorem rkGo_at {P : Program} {T : Nat} : ∀ (l : List Func) (i : Nat), rkGo P T i l = true → ∀ (k : Nat) (fn : Func), l[k]? = some fn → ∀ x ∈ P.leadsTo fn, rk T x < rk T (i + k)
  | [], _, _, k, fn, hk, _, _ => by simp at hk
  | f0 :: l, i, h, k, fn, hk, x, hx => by
    unfold rkGo at h
    rw [Bool.and_eq_true] at h
    cases k with
    | zero =>
      obtain rfl : f0 = fn := by simpa using hk
      have := List.all_eq_true.1 h.1 x hx
      simpa [Nat.blt_eq] using this
    | succ k =>
      have := rkGo_at l (i + 1) h.2 k fn (by simpa using hk) x hx
      rwa [show i + 1 + k = i + (k + 1) by omega] at this
theorem clo_rk {P : Program} {T R : Nat} (hP : ∀ g, ∀ x ∈ (P.funcs[g]?).elim [] P.leadsTo, rk T x < rk T g) : ∀ (n : Nat) (todo seen : List FuncId), (∀ x ∈ todo, rk T x ≤ R) → (∀ x ∈ seen, rk T x ≤ R) → ∀ x ∈ P.closureVia n todo seen, rk T x ≤ R
  | 0, todo, seen, _, h2, x, hx => by
    unfold Program.closureVia at hx
    exact h2 x (List.mem_reverse.1 hx)
  | n + 1, [], seen, _, h2, x, hx => by
    unfold Program.closureVia at hx
    exact h2 x (List.mem_reverse.1 hx)
  | n + 1, f :: todo, seen, h1, h2, x, hx => by
    unfold Program.closureVia at hx
    have hf := h1 f List.mem_cons_self
    split at hx
    · exact clo_rk hP n todo seen (fun y hy => h1 y (List.mem_cons_of_mem _ hy)) h2 x hx
    · refine clo_rk hP n _ _ (fun y hy => ?_) (fun y hy => ?_) x hx
      · rcases List.mem_append.1 hy with hy | hy
        · have := hP f y hy; omega
        · exact h1 y (List.mem_cons_of_mem _ hy)
      · rcases List.mem_cons.1 hy with rfl | hy
        · exact hf
        · exact h2 y hy
theorem recNo {P : Program} {f : FuncId} (T : Nat) (hu : P.unfollowed f = false) (h : rkGo P T 0 P.funcs.toList = true) : P.recurses f = false := by
  have hP : ∀ g, ∀ x ∈ (P.funcs[g]?).elim [] P.leadsTo, rk T x < rk T g := fun g x hx => by
    cases e : P.funcs[g]? with
    | none => rw [e] at hx; cases hx
    | some fn =>
      rw [e] at hx
      have := rkGo_at P.funcs.toList 0 h g fn (by simpa using e) x hx
      simpa using this
  unfold Program.recurses
  rw [hu, Bool.false_or, List.any_eq_false]
  intro g _ hg
  obtain ⟨x, hx, hc⟩ := List.any_eq_true.1 hg
  have h1 := hP g x hx
  have h2 : rk T g ≤ rk T x := clo_rk (R := rk T x) hP _ [x] [] (fun y hy => by rw [List.mem_singleton.1 hy]; exact Nat.le_refl _) (fun y hy => absurd hy List.not_mem_nil) g (List.contains_iff_mem.1 hc)
  omega
def cloB (A : List (List FuncId)) (n : Nat) : List FuncId → List FuncId → Nat → List FuncId :=
  Nat.rec (motive := fun _ => List FuncId → List FuncId → Nat → List FuncId) (fun _ seen _ => seen.reverse)
    (fun _ ih todo seen b => match todo with
      | [] => seen.reverse
      | f :: todo => cond (Nat.testBit b f) (ih todo seen b) (ih (A.getD f [] ++ todo) (f :: seen) (Nat.lor b (Nat.pow 2 f)))) n
theorem cloB_eq {P : Program} : ∀ (n : Nat) (todo seen : List FuncId) (b : Nat), (∀ f, Nat.testBit b f = seen.contains f) → P.closureVia n todo seen = cloB (P.funcs.toList.map P.leadsTo) n todo seen b
  | 0, _, _, _, _ => by unfold Program.closureVia; rfl
  | n + 1, [], _, _, _ => by unfold Program.closureVia; rfl
  | n + 1, f :: todo, seen, b, h => by
    unfold Program.closureVia
    show _ = cond (Nat.testBit b f) (cloB _ n todo seen b) (cloB _ n ((P.funcs.toList.map P.leadsTo).getD f [] ++ todo) (f :: seen) (Nat.lor b (Nat.pow 2 f)))
    rw [h f]
    cases hc : seen.contains f with
    | true => exact cloB_eq n todo seen b h
    | false =>
      have e : (P.funcs[f]?).elim [] P.leadsTo = (P.funcs.toList.map P.leadsTo).getD f [] := by
        rw [List.getD, List.getElem?_map, Array.getElem?_toList]
        cases P.funcs[f]? <;> rfl
      rw [if_neg (by simp), e]
      refine cloB_eq n _ _ _ fun g => ?_
      show Nat.testBit (b ||| 2 ^ f) g = _
      rw [Nat.testBit_or, Nat.testBit_two_pow, h g, List.contains_cons]
      rw [show (g == f) = decide (f = g) by cases hq : decide (f = g) with
        | true => exact beq_iff_eq.2 (of_decide_eq_true hq).symm
        | false => exact beq_eq_false_iff_ne.2 fun q => of_decide_eq_false hq q.symm]
      exact Bool.or_comm _ _
theorem clo_eq (P : Program) (f : FuncId) : P.closure f = cloB (P.funcs.toList.map P.leadsTo) (1 + ((P.funcs.toList.map P.leadsTo).map fun l => l.length + 1).sum) [f] [] 0 := by
  unfold Program.closure
  rw [List.map_map]
  exact cloB_eq _ _ _ _ fun g => by simp
theorem unfNo {P : Program} (h : (P.funcs.toList.all fun fn => !(match fn.body with | some c => c.unfollowed | none => entryCalls fn)) = true) (f : FuncId) : P.unfollowed f = false := by
  unfold Program.unfollowed
  rw [List.any_eq_false]
  intro g _ hg
  cases e : P.funcs[g]? with
  | none => rw [e] at hg; cases hg
  | some fn =>
    rw [e] at hg
    have h1 := List.all_eq_true.1 h fn (by simpa using Array.mem_of_getElem? e)
    cases hb : fn.body <;> simp [hb] at hg h1 <;> exact absurd (hg.symm.trans h1) (by decide)
theorem unf : Tryz.pinned.checked.prog.unfollowed 3 = false := unfNo (by kernel_rfl) 3
theorem unfE : (Rows.fnExactCountSuccessRow.unfollowed == Tryz.pinned.checked.prog.unfollowed 3) = true := by
  rw [unf]; rfl
theorem recF : (Rows.fnExactCountSuccessRow.recurses == Tryz.pinned.checked.prog.recurses 3) = true := by
  rw [recNo 22815919062260124281242937597666173308300590187709220560790237362098199101261422331030534288999278689878168348597410271306245474746760809927624052949233252185896409619917504627104728831137937175734350333065770250475133142530474762072914493175333373288824510887613219911836515033298723822569863770787675654279279107096581488747594615713244339000567074015543663029950069114552573371749711690395987240776411704585399834240349116429069250394879845382452762245816333774665647099087124968996196899181189494582977259130972123715157312226054218857541888295539720628902898429433093870640703355925009280998450150405063820903743849734906553774474654985027817749792017211620097741588234087314988193267287091165153654171517436361692910017156003984964851250944810122680712307314068387696561740699827546225751547783521604986324356530535336043307762688 unf (by kernel_rfl)]; rfl
theorem cloL : Tryz.pinned.checked.prog.closure 3 = [3,4,12,36,37,61,121,13,14,38,62,122,123,39,63,15,40,64,124,200,65,125,66,16,41,67,17,42,5,7,19,45,83,46,85,84,162,232,20,21,47,86,163,164,48,87,22,49,88,165,233,313,89,166,234,90,23,24,50,91,167,92,25,51,93,8,26,6,18,43,68,126,127,69,128,129,70,130,131,71,132,72,44,73,133,201,135,286,350,214,138,202,287,288,351,203,134,136,137,204,220,219,289,291,353,372,290,352,294,74,139,75,140,143,206,205,292,354,409,153,410,355,411,460,461,413,225,305,366,293,412,462,217,207,414,356,415,463,416,417,221,464,477,487,218,141,142,76,77,81,156,158,227,228,210,298,146,215,306,367,420,418,419,370,368,421,307,360,364,362,369,304,365,363,297,358,422,308,302,303,144,145,208,295,209,211,296,357,361,212,299,359,213,148,147,216,149,157,224,226,150,80,155,222,300,223,301,151,78,152,154,79,82,159,229,309,371,374,425,424,426,466,373,423,465,381,379,478,382,375,428,432,431,427,378,377,376,429,430,160,230,311,310,380,312,161,231,9,27,52,53,94,168,169,235,314,383,433,467,479,480,488,468,481,469,482,489,497,490,491,492,498,315,384,434,470,483,471,484,435,436,316,172,236,237,317,385,99,170,171,238,240,239,243,319,386,241,242,318,250,279,95,173,244,245,320,321,246,174,247,175,176,248,177,249,251,96,178,97,179,182,252,181,180,253,322,266,387,388,323,389,437,438,439,472,390,440,473,485,493,499,500,507,506,508,501,502,509,510,514,515,392,269,336,397,278,442,391,441,330,191,324,393,443,474,444,445,332,475,486,494,503,511,495,504,496,505,512,516,521,524,525,513,517,522,518,519,523,520,262,331,98,100,101,102,183,106,188,189,273,256,326,264,274,339,400,449,450,343,340,401,275,341,342,333,335,276,254,255,325,257,327,395,447,394,446,398,328,396,448,259,258,329,260,186,268,334,270,105,187,271,337,399,272,338,261,103,184,185,263,265,267,104,107,190,277,344,402,403,452,451,454,404,348,453,347,345,476,405,456,459,455,408,407,406,457,458,108,192,281,280,346,282,109,193,10,28,54,110,55,112,111,194,283,29,30,56,113,195,196,57,114,31,58,115,197,284,349,116,198,285,117,32,33,59,118,199,119,34,60,120,11,35] := by
  rw [clo_eq]
  kernel_rfl
theorem inPE : (Rows.fnExactCountSuccessRow.inPlace == Tryz.pinned.checked.prog.inPlace 3) = true := by
  unfold Program.inPlace
  rw [cloL]
  kernel_rfl
theorem namE : (Rows.fnExactCountSuccessRow.named == Tryz.pinned.checked.prog.varsNamed 3) = true := by
  unfold Program.varsNamed
  rw [cloL]
  kernel_rfl
theorem bt {a b : Bool} (h : a = true) (k : b = true) : (a && b) = true := by rw [h, k]; rfl
set_option maxHeartbeats 4000000 in
theorem closed : joinedFacts Tryz.pinned.checked.prog 3 Tryz.f3 Rows.fnExactCountSuccessSpec Rows.fnExactCountSuccessRow = true := by
  unfold joinedFacts
  iterate 31 (refine bt ?_ (by first | with_reducible exact recF | with_reducible exact unfE | with_reducible exact inPE | with_reducible exact namE | as_aux_lemma => kernel_rfl))
  as_aux_lemma => kernel_rfl
theorem fnm : Tryz.pinned.checked.prog.funcNamed Rows.fnExactCountSuccessRow.func = some 3 := by kernel_rfl
theorem inst : Tryz.f3.isInstance Tryz.pinned.checked.prog Rows.fnExactCountSuccessRow.origin Rows.fnExactCountSuccessRow.targs := (of_decide_eq_true (by kernel_rfl))
theorem wrp : Tryz.f3.isWrapper Tryz.pinned.checked.prog Rows.fnExactCountSuccessRow.wrapper Rows.fnExactCountSuccessRow.mainSum := (by unfold Func.isWrapper; first | (rw [if_pos (by decide +kernel)]; kernel_rfl) | (rw [if_neg (by decide +kernel)]; exact ⟨rfl, rfl⟩))
theorem tGoes : false = Rows.fnExactCountSuccessRow.goesBy Tryz.pinned.checked.prog := goesNo (by as_aux_lemma => kernel_rfl) rfl
end Go.Proofs.YtchppgifkkcfpaaGreatDoor.fnExactCountSuccess
