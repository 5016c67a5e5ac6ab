/-
  Printed by wip/tools (own work of this part): models of functions, walks over the value kit, and proofs.
-/
import Derived.Test.YtpblmeojgboagaaGreatXsGuessesWithin
set_option linter.unusedVariables false
set_option linter.unusedSimpArgs false
set_option maxRecDepth 100000
set_option maxHeartbeats 4000000
namespace Go.VK
open Go.RowKit Go.Proofs
def markF (k : D.Keeper) : Int := IntKind.i64.wrap (IntKind.i64.wrap (k.Epoch * 1000) + k.Guesses)
def guessesWithinF (w : D.World) : Bool := !w.Hosts.any fun h => decide (h.State.Guesses > h.State.Limit) || decide (markF h.State > h.Monotonic)
theorem modI_pos {p q : Int} (h : 1 ≤ q ∧ q ≤ 1000000000000) : 0 ≤ modI p q ∧ modI p q < q := modI_range h
theorem hstep_range {h v : Int} (h0 : 0 ≤ h) (h1 : h < 2147483647) : 0 ≤ hstep h v ∧ hstep h v < 2147483647 := by
  have hm := modI_range (p := v) (q := 2147483647) (by omega)
  unfold hstep
  generalize modI v 2147483647 = z at *
  have e1 : IntKind.i64.wrap (h * 1000003) = h * 1000003 := wrap64_id (by omega) (by omega)
  have e2 : IntKind.i64.wrap (h * 1000003 + z) = h * 1000003 + z := wrap64_id (by omega) (by omega)
  have e3 : IntKind.i64.wrap (h * 1000003 + z + 13) = h * 1000003 + z + 13 := wrap64_id (by omega) (by omega)
  rw [e1, e2, e3]
  exact ⟨Int.tmod_nonneg _ (by omega), Int.tmod_lt_of_pos _ (by decide)⟩
theorem hashI_range (l : List Int) : 0 ≤ hashI l ∧ hashI l < 2147483647 := by
  unfold hashI
  suffices ∀ (l : List Int) (h : Int), 0 ≤ h → h < 2147483647 → 0 ≤ l.foldl hstep h ∧ l.foldl hstep h < 2147483647 from this l 11 (by omega) (by omega)
  intro l
  induction l with
  | nil => intro h h0 h1; exact ⟨h0, h1⟩
  | cons x xs ih => intro h h0 h1; exact ih _ (hstep_range h0 h1).1 (hstep_range h0 h1).2
theorem keyedI_range (k : Int) (l : List Int) : 0 ≤ keyedI k l ∧ keyedI k l < 2147483647 := hashI_range _
def maxF (a b : Int) : Int := bif decide (b > a) then b else a
def joinF (a : List Int) (r : List (List Int)) : List Int := a ++ r.flatten
def orOneF (n : Int) : Int := bif n == 0 then 1 else n
def keyF (n : Int) : Bool := inR n 1 2147483646
def b2iF (b : List Int) : List Int := [(b.length : Int)] ++ b.map IntKind.i64.wrap
def deriveF (seed : Int) (l : List Int) : Int := orOneF (keyedI seed ([151] ++ l))
def deriveSF (k : Int) (s : ByteArray) : Int := orOneF (keyedI k (b2iF (bytesI s)))
def publicF (p : Int) : Int := bif !(keyF p) then 0 else (IntKind.i64.wrap (p * 48271)).tmod 2147483647
def devKeyF (s : D.KeyStore) : Int := deriveF s.Seed [181]
def devPubF (s : D.KeyStore) : Int := publicF (devKeyF s)
def hasF (l : List Int) (x : Int) : Bool := l.any fun e => e == x
def removedF (log : List D.LogEntry) (p : Int) : Bool := log.any fun e => e.Kind == 2 && e.Device == p
def stepDev (s : List Int) (e : D.LogEntry) : List Int :=
  bif e.Kind == 1 then (bif s.contains e.Device then s else s ++ [e.Device]) else bif e.Kind == 2 then s.filter (fun d => d != e.Device) else s
def devicesOfF (log : List D.LogEntry) : List Int := log.foldl stepDev []
def epochOfF (log : List D.LogEntry) : Int := log.foldl (fun n e => bif e.Kind == 2 then IntKind.i64.wrap (n + 1) else n) 0
def findEntryF (b : D.Bundle) (site handle : Int) : Int := findP (fun e => e.Site == site && e.Handle == handle) 0 b.Entries
def findAccountF (s : D.Site) (id : Int) : Int := findP (fun a => a.Id == id) 0 s.Accounts
theorem stepDev_len (s : List Int) (x : D.LogEntry) : (stepDev s x).length ≤ s.length + 1 := by
  unfold stepDev
  cases x.Kind == 1 with
  | true => cases s.contains x.Device <;> simp
  | false =>
    cases x.Kind == 2 with
    | true => have := List.length_filter_le (fun d => d != x.Device) s; simp; omega
    | false => simp
theorem devicesOf_len (log : List D.LogEntry) : (devicesOfF log).length ≤ log.length := by
  suffices ∀ (l : List D.LogEntry) (s : List Int), (l.foldl stepDev s).length ≤ s.length + l.length from by simpa [devicesOfF] using this log []
  intro l
  induction l with
  | nil => intro s; simp
  | cons x xs ih =>
    intro s
    simp only [List.foldl_cons, List.length_cons]
    have h1 := ih (stepDev s x)
    have h2 : (stepDev s x).length ≤ s.length + 1 := by
      unfold stepDev
      cases x.Kind == 1 with
      | true => cases s.contains x.Device <;> simp
      | false =>
        cases x.Kind == 2 with
        | true => have := List.length_filter_le (fun d => d != x.Device) s; simp; omega
        | false => simp
    omega
theorem maxF_one {n : Int} (h : 0 ≤ n) : maxF 1 n = orOneF n := by
  unfold maxF orOneF
  rcases (show n = 0 ∨ n = 1 ∨ n > 1 by omega) with rfl | rfl | h1
  · rfl
  · rfl
  · have : (n == 0) = false := by simp; omega
    simp [h1, this]
def siteHashF (s : ByteArray) : Int := deriveSF 173 s
def L35 : Nat := 34359738368
def WOk (w : D.World) : Prop := w.Devices.length ≤ 34359738368 ∧ w.Stolen.length ≤ 34359738368 ∧ w.Cloud.Log.length ≤ 34359738368 ∧ w.Sites.length ≤ 34359738368
instance (w : D.World) : Decidable (WOk w) := inferInstanceAs (Decidable (_ ∧ _))
def hasDevF (w : D.World) (d : Int) : Bool := decide (0 ≤ d) && decide (d < w.Devices.length)
theorem hasDev_in {w : D.World} (h : WOk w) (d : Int) : inR d 0 (IntKind.i64.wrap ((w.Devices.length : Int) - 1)) = hasDevF w d := by
  have := h.1
  rw [wrap64_id (by omega) (by omega)]
  unfold inR hasDevF
  congr 1
  exact decide_eq_decide.2 (by omega)
def devAt (w : D.World) (d : Int) : D.Device := w.Devices.getD d.toNat default
theorem atq_dev {w : D.World} {d : Int} (h : hasDevF w d = true) : atq w.Devices d = some (devAt w d) := by
  simp only [hasDevF, Bool.and_eq_true, decide_eq_true_eq] at h
  rw [atq_int h.1 (by omega)]
  simp [devAt, List.getD, List.getElem?_eq_getElem (show d.toNat < w.Devices.length by omega)]
def inListF (w : D.World) (d : Int) : Bool := hasDevF w d && hasF (devicesOfF w.Cloud.Log) (devPubF (devAt w d).Store)
def isCutF (w : D.World) (d : Int) : Bool := hasDevF w d && removedF w.Cloud.Log (devPubF (devAt w d).Store)
def reachB (w : D.World) (i : Nat) : Bool := inListF w i && (decide (i < w.Stolen.length) && !w.Stolen.getD i false)
def reachF (w : D.World) : List Int := ((List.range w.Devices.length).filter (reachB w)).map Int.ofNat
def siteBad (d : Int) (s : D.Site) : Bool := !decide (findAccountF s 1 < 0) && (s.Accounts.getD (findAccountF s 1).toNat default).Credentials.any fun c => c.Handle == d && !c.Cut
def cutFinalF (w : D.World) (d : Int) : Bool := !isCutF w d || (!inListF w d && !(w.Sites.take 2).any (siteBad d))
def eqBundlesF (a b : D.Bundle) : Bool := a.Entries.length == b.Entries.length && (List.zipWith D.Entry.eqB a.Entries b.Entries).all id
def convB (a b : D.Device) : Bool := eqBundlesF a.Bundle b.Bundle && (a.Epoch == b.Epoch && (a.Version == b.Version && a.Key == b.Key))
def convF (w : D.World) : Bool := (reachF w).all fun i => convB (devAt w ((reachF w).getD 0 0)) (devAt w i)
def knowsF (w : D.World) (d : Int) (s : ByteArray) (h : Int) : Bool := hasDevF w d && (!decide (findEntryF (devAt w d).Bundle (siteHashF s) h < 0) && !((devAt w d).Bundle.Entries.getD (findEntryF (devAt w d).Bundle (siteHashF s) h).toNat default).Deleted)
def recKeyF (w : D.World) : Int := deriveF w.Seed [283]
theorem foldl_filter_map {α β : Type} {p : α → Bool} {f : α → β} : ∀ {l : List α} {s : List β}, l.foldl (fun s x => bif p x then s ++ [f x] else s) s = s ++ (l.filter p).map f
  | [], s => by simp
  | x :: xs, s => by
    simp only [List.foldl_cons, List.filter_cons]
    cases p x <;> simp [foldl_filter_map]
theorem reach_min (w : D.World) : (List.range (min w.Devices.length w.Stolen.length)).filter (reachB w) = (List.range w.Devices.length).filter (reachB w) := by
  rcases Nat.le_total w.Devices.length w.Stolen.length with h | h
  · rw [Nat.min_eq_left h]
  · rw [Nat.min_eq_right h]
    obtain ⟨k, hk⟩ := Nat.exists_eq_add_of_le h
    rw [hk, List.range_add, List.filter_append]
    have : ((List.range k).map (w.Stolen.length + ·)).filter (reachB w) = [] := by
      rw [List.filter_eq_nil_iff]
      intro i hi
      obtain ⟨j, _, rfl⟩ := List.mem_map.1 hi
      simp [reachB]
    rw [this, List.append_nil]
def countF (w : D.World) : Int := ((reachF w).length : Int)
theorem zip_any {α : Type} {e : α → α → Bool} : ∀ {l r : List α}, ((l.zip r).any fun p => !e p.1 p.2) = !(List.zipWith e l r).all id
  | [], r => by simp
  | x :: xs, [] => by simp
  | x :: xs, y :: ys => by simp [zip_any (l := xs) (r := ys)]
theorem WOk.of {w : D.World} (h : w.sz ≤ 1048576) : WOk w := by
  simp only [D.World.sz, D.Cloud.sz] at h
  unfold WOk
  omega
theorem bytes_ok {s : ByteArray} (h : ¬ ((s.size : Int) > 1048576)) : (bytesI s).length ≤ 34359738300 := by
  unfold bytesI
  rw [List.length_map]
  have : s.data.toList.length = s.size := Array.length_toList
  omega
noncomputable def m_spec_l24Mark (k_ : D.Keeper) : Option Int := some (IntKind.i64.wrap (IntKind.i64.wrap (k_.Epoch * (1000 : Int)) + k_.Guesses))

theorem t_spec_l24Mark (k : D.Keeper) : m_spec_l24Mark k = some (markF k) := rfl


noncomputable def m_impl_progress (k_ : D.Keeper) : Option Int := some (IntKind.i64.wrap (IntKind.i64.wrap (k_.Epoch * (1000 : Int)) + k_.Guesses))

theorem t_impl_progress (k : D.Keeper) : m_impl_progress k = some (markF k) := rfl


noncomputable def m_spec_GuessesWithin_l0 (w_ : D.World) : Nat → Nat → Option (Bool ⊕ Unit)
  | 0, _ => none
  | f + 1, i0 => (bif (decide ((i0 : Int) < (w_.Hosts.length : Int))) then bd (atq w_.Hosts (i0 : Int)) fun z4 => bd ((bif (decide (z4.State.Guesses > z4.State.Limit)) then some true else some (decide ((markF z4.State) > z4.Monotonic)))) fun j1_33 => (bif j1_33 then some (.inl false) else m_spec_GuessesWithin_l0 w_ f (i0 + 1)) else some (.inr ()))
noncomputable def m_spec_GuessesWithin (w_ : D.World) : Option Bool := nx (m_spec_GuessesWithin_l0 w_ (w_.Hosts.length + 1) 0) fun _ => some true

theorem t_spec_GuessesWithin (w : D.World) : m_spec_GuessesWithin w = some (guessesWithinF w) := by
  unfold m_spec_GuessesWithin
  rw [loopAny w.Hosts (m_spec_GuessesWithin_l0 w) (fun h => decide (h.State.Guesses > h.State.Limit) || decide (markF h.State > h.Monotonic)) (.inl false) (.inr ()) (by omega)
    (fun f i h => by rw [m_spec_GuessesWithin_l0]; simp [h, atq_nat h]) (fun f i h => by rw [m_spec_GuessesWithin_l0]; simp [h])]
  unfold guessesWithinF
  cases w.Hosts.any _ <;> rfl


noncomputable def m_impl_GuessesWithin_l0 (w_ : D.World) : Nat → Nat → Option (Bool ⊕ Unit)
  | 0, _ => none
  | f + 1, i0 => (bif (decide ((i0 : Int) < (w_.Hosts.length : Int))) then bd (atq w_.Hosts (i0 : Int)) fun z4 => bd ((bif (decide (z4.State.Guesses > z4.State.Limit)) then some true else some (decide ((markF z4.State) > z4.Monotonic)))) fun j1_26 => (bif j1_26 then some (.inl false) else m_impl_GuessesWithin_l0 w_ f (i0 + 1)) else some (.inr ()))
noncomputable def m_impl_GuessesWithin (w_ : D.World) : Option Bool := nx (m_impl_GuessesWithin_l0 w_ (w_.Hosts.length + 1) 0) fun _ => some true

theorem t_impl_GuessesWithin (w : D.World) : m_impl_GuessesWithin w = some (guessesWithinF w) := by
  unfold m_impl_GuessesWithin
  rw [loopAny w.Hosts (m_impl_GuessesWithin_l0 w) (fun h => decide (h.State.Guesses > h.State.Limit) || decide (markF h.State > h.Monotonic)) (.inl false) (.inr ()) (by omega)
    (fun f i h => by rw [m_impl_GuessesWithin_l0]; simp [h, atq_nat h]) (fun f i h => by rw [m_impl_GuessesWithin_l0]; simp [h])]
  unfold guessesWithinF
  cases w.Hosts.any _ <;> rfl

end Go.VK
