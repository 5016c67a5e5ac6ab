import Derived.Test.YtiojlennpdmapaaGreatEWptoq
import Derived.Test.YtiojlennpdmapaaGreatXzS
/-
  Printed by wip/tools (own work of this part): models of functions, walks over the value kit, and proofs.
-/
set_option linter.unusedVariables false
set_option linter.unusedSimpArgs false
set_option maxRecDepth 100000
set_option maxHeartbeats 4000000
namespace Go.VK
open Go.RowKit Go.Proofs
theorem hstep_range {h v : Int} (h0 : 0 ≤ h) (h1 : h < 2147483647) : 0 ≤ hstep h v ∧ hstep h v < 2147483647 := by
  have hm := modI_range (p := v) (q := 2147483647) (by omega)
  unfold hstep
  generalize modI v 2147483647 = z at *
  have e1 : IntKind.i64.wrap (h * 1000003) = h * 1000003 := wrap64_id (by omega) (by omega)
  have e2 : IntKind.i64.wrap (h * 1000003 + z) = h * 1000003 + z := wrap64_id (by omega) (by omega)
  have e3 : IntKind.i64.wrap (h * 1000003 + z + 13) = h * 1000003 + z + 13 := wrap64_id (by omega) (by omega)
  rw [e1, e2, e3]
  exact ⟨Int.tmod_nonneg _ (by omega), Int.tmod_lt_of_pos _ (by decide)⟩
theorem hashI_range (l : List Int) : 0 ≤ hashI l ∧ hashI l < 2147483647 := by
  unfold hashI
  suffices ∀ (l : List Int) (h : Int), 0 ≤ h → h < 2147483647 → 0 ≤ l.foldl hstep h ∧ l.foldl hstep h < 2147483647 from this l 11 (by omega) (by omega)
  intro l
  induction l with
  | nil => intro h h0 h1; exact ⟨h0, h1⟩
  | cons x xs ih => intro h h0 h1; exact ih _ (hstep_range h0 h1).1 (hstep_range h0 h1).2
theorem keyedI_range (k : Int) (l : List Int) : 0 ≤ keyedI k l ∧ keyedI k l < 2147483647 := hashI_range _
def maxF (a b : Int) : Int := bif decide (b > a) then b else a
def joinF (a : List Int) (r : List (List Int)) : List Int := a ++ r.flatten
def orOneF (n : Int) : Int := bif n == 0 then 1 else n
def keyF (n : Int) : Bool := inR n 1 2147483646
def deriveF (seed : Int) (l : List Int) : Int := orOneF (keyedI seed ([151] ++ l))
def publicF (p : Int) : Int := bif !(keyF p) then 0 else (IntKind.i64.wrap (p * 48271)).tmod 2147483647
def devKeyF (s : D.KeyStore) : Int := deriveF s.Seed [181]
def devPubF (s : D.KeyStore) : Int := publicF (devKeyF s)
def hasF (l : List Int) (x : Int) : Bool := l.any fun e => e == x
def stepDev (s : List Int) (e : D.LogEntry) : List Int :=
  bif e.Kind == 1 then (bif s.contains e.Device then s else s ++ [e.Device]) else bif e.Kind == 2 then s.filter (fun d => d != e.Device) else s
def devicesOfF (log : List D.LogEntry) : List Int := log.foldl stepDev []
def findEntryF (b : D.Bundle) (site handle : Int) : Int := findP (fun e => e.Site == site && e.Handle == handle) 0 b.Entries
theorem stepDev_len (s : List Int) (x : D.LogEntry) : (stepDev s x).length ≤ s.length + 1 := by
  unfold stepDev
  cases x.Kind == 1 with
  | true => cases s.contains x.Device <;> simp
  | false =>
    cases x.Kind == 2 with
    | true => have := List.length_filter_le (fun d => d != x.Device) s; simp; omega
    | false => simp
theorem devicesOf_len (log : List D.LogEntry) : (devicesOfF log).length ≤ log.length := by
  suffices ∀ (l : List D.LogEntry) (s : List Int), (l.foldl stepDev s).length ≤ s.length + l.length from by simpa [devicesOfF] using this log []
  intro l
  induction l with
  | nil => intro s; simp
  | cons x xs ih =>
    intro s
    simp only [List.foldl_cons, List.length_cons]
    have h1 := ih (stepDev s x)
    have h2 : (stepDev s x).length ≤ s.length + 1 := by
      unfold stepDev
      cases x.Kind == 1 with
      | true => cases s.contains x.Device <;> simp
      | false =>
        cases x.Kind == 2 with
        | true => have := List.length_filter_le (fun d => d != x.Device) s; simp; omega
        | false => simp
    omega
theorem maxF_one {n : Int} (h : 0 ≤ n) : maxF 1 n = orOneF n := by
  unfold maxF orOneF
  rcases (show n = 0 ∨ n = 1 ∨ n > 1 by omega) with rfl | rfl | h1
  · rfl
  · rfl
  · have : (n == 0) = false := by simp; omega
    simp [h1, this]
def WOk (w : D.World) : Prop := w.Devices.length ≤ 34359738368 ∧ w.Stolen.length ≤ 34359738368 ∧ w.Cloud.Log.length ≤ 34359738368 ∧ w.Sites.length ≤ 34359738368
instance (w : D.World) : Decidable (WOk w) := inferInstanceAs (Decidable (_ ∧ _))
def hasDevF (w : D.World) (d : Int) : Bool := decide (0 ≤ d) && decide (d < w.Devices.length)
theorem hasDev_in {w : D.World} (h : WOk w) (d : Int) : inR d 0 (IntKind.i64.wrap ((w.Devices.length : Int) - 1)) = hasDevF w d := by
  have := h.1
  rw [wrap64_id (by omega) (by omega)]
  unfold inR hasDevF
  congr 1
  exact decide_eq_decide.2 (by omega)
def devAt (w : D.World) (d : Int) : D.Device := w.Devices.getD d.toNat default
theorem atq_dev {w : D.World} {d : Int} (h : hasDevF w d = true) : atq w.Devices d = some (devAt w d) := by
  simp only [hasDevF, Bool.and_eq_true, decide_eq_true_eq] at h
  rw [atq_int h.1 (by omega)]
  simp [devAt, List.getD, List.getElem?_eq_getElem (show d.toNat < w.Devices.length by omega)]
def inListF (w : D.World) (d : Int) : Bool := hasDevF w d && hasF (devicesOfF w.Cloud.Log) (devPubF (devAt w d).Store)
def reachB (w : D.World) (i : Nat) : Bool := inListF w i && (decide (i < w.Stolen.length) && !w.Stolen.getD i false)
def reachF (w : D.World) : List Int := ((List.range w.Devices.length).filter (reachB w)).map Int.ofNat
theorem reach_min (w : D.World) : (List.range (min w.Devices.length w.Stolen.length)).filter (reachB w) = (List.range w.Devices.length).filter (reachB w) := by
  rcases Nat.le_total w.Devices.length w.Stolen.length with h | h
  · rw [Nat.min_eq_left h]
  · rw [Nat.min_eq_right h]
    obtain ⟨k, hk⟩ := Nat.exists_eq_add_of_le h
    rw [hk, List.range_add, List.filter_append]
    have : ((List.range k).map (w.Stolen.length + ·)).filter (reachB w) = [] := by
      rw [List.filter_eq_nil_iff]
      intro i hi
      obtain ⟨j, _, rfl⟩ := List.mem_map.1 hi
      simp [reachB]
    rw [this, List.append_nil]
theorem WOk.of {w : D.World} (h : w.sz ≤ 1048576) : WOk w := by
  simp only [D.World.sz, D.Cloud.sz] at h
  unfold WOk
  omega
def bytesOk (b : List Int) : Prop := b.length ≤ 34359738368 ∧ b.all (fun z => decide (0 ≤ z) && decide (z ≤ 255)) = true
instance (b : List Int) : Decidable (bytesOk b) := inferInstanceAs (Decidable (_ ∧ _))
def SOk (s : D.Site) : Prop := s.Name.size ≤ 34359738368 ∧ s.Accounts.length ≤ 34359738368 ∧ s.Book.Open.length ≤ 34359738368 ∧ ∀ a ∈ s.Accounts, a.Credentials.length ≤ 34359738368
instance (s : D.Site) : Decidable (SOk s) := inferInstanceAs (Decidable (_ ∧ _))
def WOk2 (w : D.World) : Prop := WOk w ∧ w.Mail.Notices.length ≤ 34359738368 ∧ w.Hosts.length ≤ 34359738368 ∧ ∀ s ∈ w.Sites, SOk s
instance (w : D.World) : Decidable (WOk2 w) := inferInstanceAs (Decidable (_ ∧ _))
theorem le_sum {α : Type} {g : α → Nat} {x : α} : ∀ {l : List α}, x ∈ l → g x ≤ (l.map g).sum
  | y :: r, h => by
    rw [List.map_cons, List.sum_cons]
    rcases List.mem_cons.1 h with rfl | h
    · omega
    · have := le_sum (g := g) h; omega
theorem SOk.of {s : D.Site} (h : s.sz ≤ 1048576) : SOk s := by
  simp only [D.Site.sz] at h
  refine ⟨by omega, by omega, by omega, fun a ha => ?_⟩
  have := le_sum (g := D.Account.sz) ha
  simp only [D.Account.sz] at this h
  omega
theorem WOk2.of {w : D.World} (h : w.sz ≤ 1048576) : WOk2 w := by
  refine ⟨WOk.of h, ?_, ?_, fun s hs => SOk.of ?_⟩
  · simp only [D.World.sz] at h; omega
  · simp only [D.World.sz] at h; omega
  · have := le_sum (g := D.Site.sz) hs
    simp only [D.World.sz] at h; omega
def kless (a b : D.Entry) : Bool := decide (a.Site < b.Site) || (a.Site == b.Site && decide (a.Handle < b.Handle))
def lessF (a : D.Entry) (s h : Int) : Bool := decide (a.Site < s) || (a.Site == s && decide (a.Handle < h))
def newerE (x e : D.Entry) : Bool := decide (x.Version > e.Version) || (x.Version == e.Version && x.Deleted)
def pickE (e x : D.Entry) : D.Entry := bif newerE x e then x else e
def mergeL : List D.Entry → List D.Entry → List D.Entry
  | [], bs => bs
  | a :: xs, [] => a :: xs
  | a :: xs, b :: bs => bif kless a b then a :: mergeL xs (b :: bs) else bif kless b a then b :: mergeL (a :: xs) bs else pickE a b :: mergeL xs bs
termination_by xs bs => xs.length + bs.length
def badE (l : List D.Entry) (i : Nat) (e : D.Entry) : Bool := !inR e.Site 0 2147483646 || (!inR e.Handle 0 1000000 || (!inR e.Version 1 1000000 || (decide ((i : Int) > 0) && !kless (l.getD (i - 1) default) e)))
def bundleOkF (b : D.Bundle) : Bool := decide ((b.Entries.length : Int) ≤ 20) && !anyI (badE b.Entries) 0 b.Entries
def mergeF (a b : D.Bundle) : D.Bundle × Bool := bif bundleOkF a && bundleOkF b then (bif bundleOkF ⟨mergeL a.Entries b.Entries⟩ then (⟨mergeL a.Entries b.Entries⟩, true) else (a, false)) else (a, false)
def setF (b : D.Bundle) (x : D.Entry) : D.Bundle := bif decide (findEntryF b x.Site x.Handle ≥ 0) then ⟨b.Entries.set (findEntryF b x.Site x.Handle).toNat x⟩ else ⟨b.Entries.takeWhile (fun e => lessF e x.Site x.Handle) ++ [x] ++ b.Entries.dropWhile (fun e => lessF e x.Site x.Handle)⟩
theorem kless_iff {a b : D.Entry} : kless a b = true ↔ a.Site < b.Site ∨ (a.Site = b.Site ∧ a.Handle < b.Handle) := by
  simp [kless]
theorem less_kless {a x : D.Entry} : lessF a x.Site x.Handle = kless a x := rfl
theorem kless_trans {a b c : D.Entry} (h : kless a b = true) (k : kless b c = true) : kless a c = true := by
  rw [kless_iff] at *; omega
theorem kless_same {a b : D.Entry} (h : kless a b = false) (k : kless b a = false) : a.Site = b.Site ∧ a.Handle = b.Handle := by
  have h1 : ¬ (a.Site < b.Site ∨ (a.Site = b.Site ∧ a.Handle < b.Handle)) := fun q => by rw [kless_iff.2 q] at h; cases h
  have h2 : ¬ (b.Site < a.Site ∨ (b.Site = a.Site ∧ b.Handle < a.Handle)) := fun q => by rw [kless_iff.2 q] at k; cases k
  omega
theorem kless_key {a b c : D.Entry} (h : a.Site = b.Site ∧ a.Handle = b.Handle) : kless a c = kless b c := by
  unfold kless; rw [h.1, h.2]
theorem kless_key' {a b c : D.Entry} (h : a.Site = b.Site ∧ a.Handle = b.Handle) : kless c a = kless c b := by
  unfold kless; rw [h.1, h.2]
theorem pick_key {a b : D.Entry} (h : a.Site = b.Site ∧ a.Handle = b.Handle) : (pickE a b).Site = b.Site ∧ (pickE a b).Handle = b.Handle := by
  unfold pickE
  cases newerE b a
  · exact h
  · exact ⟨rfl, rfl⟩
theorem pick_or (a b : D.Entry) : pickE a b = a ∨ pickE a b = b := by
  unfold pickE
  cases newerE b a
  · exact .inl rfl
  · exact .inr rfl
theorem merge_nil (l : List D.Entry) : mergeL l [] = l := by cases l <;> rw [mergeL]
theorem merge_nil0 (l : List D.Entry) : mergeL [] l = l := by rw [mergeL]
theorem merge_len : ∀ (n : Nat) (a b : List D.Entry), a.length + b.length ≤ n → (mergeL a b).length ≤ a.length + b.length
  | _, [], b, _ => by rw [merge_nil0]; simp
  | _, a :: xs, [], _ => by rw [merge_nil]; simp
  | 0, a :: xs, b :: bs, h => by simp at h
  | n + 1, a :: xs, b :: bs, h => by
    simp only [List.length_cons] at h
    rw [mergeL]
    cases kless a b with
    | true => have := merge_len n xs (b :: bs) (by simp only [List.length_cons]; omega); simp only [cond_true, List.length_cons] at *; omega
    | false =>
      cases kless b a with
      | true => have := merge_len n (a :: xs) bs (by simp only [List.length_cons]; omega); simp only [cond_false, cond_true, List.length_cons] at *; omega
      | false => have := merge_len n xs bs (by omega); simp only [cond_false, List.length_cons] at *; omega
theorem merge_cons (a b : D.Entry) (xs bs : List D.Entry) : mergeL (a :: xs) (b :: bs) = bif kless a b then a :: mergeL xs (b :: bs) else bif kless b a then b :: mergeL (a :: xs) bs else pickE a b :: mergeL xs bs := by rw [mergeL]
def srt (l : List D.Entry) : Prop := l.Pairwise fun a b => kless a b = true
theorem merge_ins : ∀ (A : List D.Entry) {b : D.Entry} {bs : List D.Entry}, srt (b :: bs) → mergeL (mergeL A [b]) bs = mergeL A (b :: bs)
  | [], b, bs, h => by
    rw [merge_nil0, merge_nil0]
    cases bs with
    | nil => rw [merge_nil]
    | cons c cs => rw [mergeL, (List.pairwise_cons.1 h).1 c (by simp), cond_true, merge_nil0]
  | a :: xs, b, bs, h => by
    have hc := (List.pairwise_cons.1 h).1
    rw [merge_cons a b xs [], merge_cons a b xs bs]
    cases h1 : kless a b with
    | true =>
      simp only [cond_true]
      cases bs with
      | nil => rw [merge_nil]
      | cons c cs => rw [mergeL, kless_trans h1 (hc c (by simp)), cond_true, merge_ins xs h]
    | false =>
      cases h2 : kless b a with
      | true =>
        simp only [cond_true, cond_false]
        rw [merge_nil]
        cases bs with
        | nil => rw [merge_nil, merge_nil]
        | cons c cs => rw [mergeL, hc c (by simp), cond_true]
      | false =>
        simp only [cond_false]
        rw [merge_nil]
        cases bs with
        | nil => rw [merge_nil, merge_nil]
        | cons c cs => rw [mergeL, kless_key (pick_key (kless_same h1 h2)), hc c (by simp), cond_true]
theorem ins_mem : ∀ {l : List D.Entry} {x y : D.Entry}, y ∈ mergeL l [x] → y ∈ l ∨ y = x
  | [], x, y, h => by rw [merge_nil0] at h; simp at h; exact .inr h
  | a :: xs, x, y, h => by
    rw [mergeL] at h
    cases h1 : kless a x with
    | true =>
      rw [h1, cond_true] at h
      rcases List.mem_cons.1 h with rfl | h
      · exact .inl (by simp)
      · exact (ins_mem h).imp (fun h => by simp [h]) id
    | false =>
      rw [h1, cond_false] at h
      cases h2 : kless x a with
      | true =>
        rw [h2, cond_true, merge_nil] at h
        rcases List.mem_cons.1 h with rfl | h
        · exact .inr rfl
        · exact .inl h
      | false =>
        rw [h2, cond_false, merge_nil] at h
        rcases List.mem_cons.1 h with rfl | h
        · rcases pick_or a x with e | e
          · rw [e]; exact .inl (by simp)
          · exact .inr e
        · exact .inl (by simp [h])
theorem ins_srt : ∀ {l : List D.Entry} {x : D.Entry}, srt l → srt (mergeL l [x])
  | [], x, h => by rw [merge_nil0]; exact List.pairwise_singleton _ _
  | a :: xs, x, h => by
    obtain ⟨ha, hs⟩ := List.pairwise_cons.1 h
    rw [mergeL]
    cases h1 : kless a x with
    | true =>
      rw [cond_true]
      refine List.pairwise_cons.2 ⟨fun y hy => ?_, ins_srt hs⟩
      rcases ins_mem hy with hy | rfl
      · exact ha y hy
      · exact h1
    | false =>
      cases h2 : kless x a with
      | true =>
        rw [cond_false, cond_true, merge_nil]
        refine List.pairwise_cons.2 ⟨fun y hy => ?_, h⟩
        rcases List.mem_cons.1 hy with rfl | hy
        · exact h2
        · exact kless_trans h2 (ha y hy)
      | false =>
        rw [cond_false, cond_false, merge_nil]
        have hk := kless_same h1 h2
        refine List.pairwise_cons.2 ⟨fun y hy => ?_, hs⟩
        rw [kless_key (pick_key hk), ← kless_key hk]; exact ha y hy
theorem fold_merge : ∀ (B A : List D.Entry), srt B → B.foldl (fun o x => mergeL o [x]) A = mergeL A B
  | [], A, _ => by rw [merge_nil]; rfl
  | b :: bs, A, h => by rw [List.foldl_cons, fold_merge bs _ (List.pairwise_cons.1 h).2, merge_ins A h]
theorem findP_no {α : Type} {p : α → Bool} : ∀ {l : List α} {i : Nat}, findP p i l < 0 → ∀ y ∈ l, p y = false
  | [], i, _, y, hy => by simp at hy
  | x :: l, i, h, y, hy => by
    simp only [findP] at h
    cases hp : p x with
    | true => rw [hp, cond_true] at h; omega
    | false =>
      rw [hp, cond_false] at h
      rcases List.mem_cons.1 hy with rfl | hy
      · exact hp
      · exact findP_no h y hy
theorem findP_yes {α : Type} {p : α → Bool} : ∀ {l : List α} {i : Nat}, 0 ≤ findP p i l → ∃ l1 e l2, l = l1 ++ e :: l2 ∧ p e = true ∧ findP p i l = ((i + l1.length : Nat) : Int)
  | [], i, h => by simp [findP] at h
  | x :: l, i, h => by
    simp only [findP] at h ⊢
    cases hp : p x with
    | true => exact ⟨[], x, l, rfl, hp, by simp⟩
    | false =>
      rw [hp, cond_false] at h
      obtain ⟨l1, e, l2, h1, h2, h3⟩ := findP_yes h
      exact ⟨x :: l1, e, l2, by rw [h1]; rfl, h2, by rw [cond_false, h3]; simp only [List.length_cons]; omega⟩
theorem ins_new : ∀ {l : List D.Entry} {x : D.Entry}, (∀ y ∈ l, (y.Site == x.Site && y.Handle == x.Handle) = false) → mergeL l [x] = l.takeWhile (fun e => lessF e x.Site x.Handle) ++ [x] ++ l.dropWhile (fun e => lessF e x.Site x.Handle)
  | [], x, _ => by rw [merge_nil0]; rfl
  | a :: xs, x, h => by
    rw [mergeL, List.takeWhile_cons, List.dropWhile_cons, less_kless]
    cases h1 : kless a x with
    | true => simp only [cond_true, if_true]; rw [ins_new (fun y hy => h y (by simp [hy]))]; rfl
    | false =>
      cases h2 : kless x a with
      | true => simp only [cond_false, cond_true]; rw [merge_nil]; rfl
      | false =>
        have := kless_same h1 h2
        have := h a (by simp)
        simp_all
theorem ins_old {e x : D.Entry} {l2 : List D.Entry} (he : (e.Site == x.Site && e.Handle == x.Handle) = true) : ∀ {l1 : List D.Entry}, srt (l1 ++ e :: l2) → mergeL (l1 ++ e :: l2) [x] = l1 ++ pickE e x :: l2
  | [], _ => by
    have hk : e.Site = x.Site ∧ e.Handle = x.Handle := by simpa using he
    have h1 : kless e x = false := by
      cases h : kless e x with
      | false => rfl
      | true => rw [kless_iff] at h; omega
    have h2 : kless x e = false := by
      cases h : kless x e with
      | false => rfl
      | true => rw [kless_iff] at h; omega
    rw [List.nil_append, mergeL, h1, cond_false, h2, cond_false, merge_nil]; rfl
  | a :: l1, h => by
    obtain ⟨ha, hs⟩ := List.pairwise_cons.1 h
    have hk : e.Site = x.Site ∧ e.Handle = x.Handle := by simpa using he
    have h1 : kless a x = true := by rw [← kless_key' hk]; exact ha e (by simp)
    rw [List.cons_append, mergeL, h1, cond_true, ins_old he hs]; rfl
theorem step_ins {l : List D.Entry} {x : D.Entry} (h : srt l) : (bif (decide (findEntryF ⟨l⟩ x.Site x.Handle < 0) || newerE x (l.getD (findEntryF ⟨l⟩ x.Site x.Handle).toNat default)) then (setF ⟨l⟩ x).Entries else l) = mergeL l [x] := by
  unfold setF
  by_cases hf : findEntryF ⟨l⟩ x.Site x.Handle < 0
  · rw [decide_eq_true hf, Bool.true_or, cond_true, show decide (findEntryF ⟨l⟩ x.Site x.Handle ≥ 0) = false from decide_eq_false (by omega), cond_false]
    exact (ins_new (findP_no hf)).symm
  · obtain ⟨l1, e, l2, h1, h2, h3⟩ := findP_yes (show 0 ≤ findP (fun e => e.Site == x.Site && e.Handle == x.Handle) 0 l from by unfold findEntryF at hf; simp only at hf; omega)
    have h3' : findEntryF ⟨l⟩ x.Site x.Handle = (l1.length : Int) := by unfold findEntryF; rw [h3]; simp
    rw [h3', decide_eq_false (by omega), Bool.false_or, show decide ((l1.length : Int) ≥ 0) = true from decide_eq_true (by omega), cond_true, Int.toNat_natCast]
    subst h1
    rw [ins_old h2 h]
    have g : (l1 ++ e :: l2).getD l1.length default = e := by simp [List.getD]
    have st : (l1 ++ e :: l2).set l1.length x = l1 ++ x :: l2 := by simp
    rw [g]
    show (bif newerE x e then (l1 ++ e :: l2).set l1.length x else l1 ++ e :: l2) = _
    rw [st]
    unfold pickE
    cases newerE x e <;> rfl
theorem anyI_no {α : Type} {p : Nat → α → Bool} : ∀ {l : List α} {j : Nat}, anyI p j l = false → ∀ (i : Nat) (hi : i < l.length), p (j + i) l[i] = false
  | [], j, _, i, hi => by simp at hi
  | x :: l, j, h, i, hi => by
    simp only [anyI, Bool.or_eq_false_iff] at h
    cases i with
    | zero => exact h.1
    | succ i => have := anyI_no h.2 i (by simpa using hi); rw [show j + (i + 1) = j + 1 + i by omega]; exact this
theorem ok_srt {b : D.Bundle} (h : bundleOkF b = true) : b.Entries.length ≤ 20 ∧ srt b.Entries := by
  simp only [bundleOkF, Bool.and_eq_true, decide_eq_true_eq, Bool.not_eq_true'] at h
  refine ⟨by omega, ?_⟩
  have adj : ∀ i (hi : i + 1 < b.Entries.length), kless b.Entries[i] b.Entries[i + 1] = true := fun i hi => by
    have := anyI_no h.2 (i + 1) hi
    simp only [badE, Bool.or_eq_false_iff, Nat.zero_add] at this
    have h4 := this.2.2.2
    rw [decide_eq_true (by omega), Bool.true_and] at h4
    have h5 : (b.Entries.getD (i + 1 - 1) default) = b.Entries[i] := by rw [Nat.add_sub_cancel, List.getD, List.getElem?_eq_getElem (by omega), Option.getD_some]
    rw [h5] at h4; simpa using h4
  have far : ∀ d i (hi : i + d + 1 < b.Entries.length), kless b.Entries[i] b.Entries[i + d + 1] = true := fun d => by
    induction d with
    | zero => exact fun i hi => adj i hi
    | succ d ih => exact fun i hi => kless_trans (ih i (by omega)) (adj (i + d + 1) (by omega))
  refine List.pairwise_iff_getElem.2 fun i j hi hj hij => ?_
  obtain ⟨d, rfl⟩ : ∃ d, j = i + d + 1 := ⟨j - i - 1, by omega⟩
  exact far d i hj
def uS (w : D.World) : List Int → List D.Entry → (D.Bundle × Bool) ⊕ List D.Entry
  | [], out => .inr out
  | d :: ds, out => bif (mergeF ⟨out⟩ (devAt w d).Bundle).2 then uS w ds (mergeF ⟨out⟩ (devAt w d).Bundle).1.Entries else .inl (⟨[]⟩, false)
def unionF (w : D.World) : D.Bundle × Bool := match uS w (reachF w) [] with
  | .inl r => r
  | .inr out => (⟨out⟩, true)
theorem merge_ok {a b : D.Bundle} (h : (mergeF a b).2 = true) : bundleOkF (mergeF a b).1 = true := by
  unfold mergeF at h ⊢
  cases h1 : (bundleOkF a && bundleOkF b) with
  | false => rw [h1] at h; cases h
  | true =>
    rw [h1] at h
    rw [cond_true] at h ⊢
    cases h2 : bundleOkF ⟨mergeL a.Entries b.Entries⟩ with
    | false => rw [h2] at h; cases h
    | true => rw [cond_true]; exact h2

end Go.VK
