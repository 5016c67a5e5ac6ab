/-
  Printed by wip/tools (own work of this part): models of functions, walks over the value kit, and proofs.
-/
import Derived.Test.YtpblmeojgboagaaGreatDoorXsFormatWorld
set_option linter.unusedVariables false
set_option linter.unusedSimpArgs false
set_option maxRecDepth 100000
set_option maxHeartbeats 4000000
namespace Go.VK
open Go.RowKit Go.Proofs
def markF (k : D.Keeper) : Int := IntKind.i64.wrap (IntKind.i64.wrap (k.Epoch * 1000) + k.Guesses)
def guessesWithinF (w : D.World) : Bool := !w.Hosts.any fun h => decide (h.State.Guesses > h.State.Limit) || decide (markF h.State > h.Monotonic)
theorem modI_pos {p q : Int} (h : 1 ≤ q ∧ q ≤ 1000000000000) : 0 ≤ modI p q ∧ modI p q < q := modI_range h
theorem hstep_range {h v : Int} (h0 : 0 ≤ h) (h1 : h < 2147483647) : 0 ≤ hstep h v ∧ hstep h v < 2147483647 := by
  have hm := modI_range (p := v) (q := 2147483647) (by omega)
  unfold hstep
  generalize modI v 2147483647 = z at *
  have e1 : IntKind.i64.wrap (h * 1000003) = h * 1000003 := wrap64_id (by omega) (by omega)
  have e2 : IntKind.i64.wrap (h * 1000003 + z) = h * 1000003 + z := wrap64_id (by omega) (by omega)
  have e3 : IntKind.i64.wrap (h * 1000003 + z + 13) = h * 1000003 + z + 13 := wrap64_id (by omega) (by omega)
  rw [e1, e2, e3]
  exact ⟨Int.tmod_nonneg _ (by omega), Int.tmod_lt_of_pos _ (by decide)⟩
theorem hashI_range (l : List Int) : 0 ≤ hashI l ∧ hashI l < 2147483647 := by
  unfold hashI
  suffices ∀ (l : List Int) (h : Int), 0 ≤ h → h < 2147483647 → 0 ≤ l.foldl hstep h ∧ l.foldl hstep h < 2147483647 from this l 11 (by omega) (by omega)
  intro l
  induction l with
  | nil => intro h h0 h1; exact ⟨h0, h1⟩
  | cons x xs ih => intro h h0 h1; exact ih _ (hstep_range h0 h1).1 (hstep_range h0 h1).2
theorem keyedI_range (k : Int) (l : List Int) : 0 ≤ keyedI k l ∧ keyedI k l < 2147483647 := hashI_range _
def maxF (a b : Int) : Int := bif decide (b > a) then b else a
def joinF (a : List Int) (r : List (List Int)) : List Int := a ++ r.flatten
def orOneF (n : Int) : Int := bif n == 0 then 1 else n
def keyF (n : Int) : Bool := inR n 1 2147483646
def b2iF (b : List Int) : List Int := [(b.length : Int)] ++ b.map IntKind.i64.wrap
def deriveF (seed : Int) (l : List Int) : Int := orOneF (keyedI seed ([151] ++ l))
def deriveSF (k : Int) (s : ByteArray) : Int := orOneF (keyedI k (b2iF (bytesI s)))
def publicF (p : Int) : Int := bif !(keyF p) then 0 else (IntKind.i64.wrap (p * 48271)).tmod 2147483647
def devKeyF (s : D.KeyStore) : Int := deriveF s.Seed [181]
def devPubF (s : D.KeyStore) : Int := publicF (devKeyF s)
def hasF (l : List Int) (x : Int) : Bool := l.any fun e => e == x
def removedF (log : List D.LogEntry) (p : Int) : Bool := log.any fun e => e.Kind == 2 && e.Device == p
def stepDev (s : List Int) (e : D.LogEntry) : List Int :=
  bif e.Kind == 1 then (bif s.contains e.Device then s else s ++ [e.Device]) else bif e.Kind == 2 then s.filter (fun d => d != e.Device) else s
def devicesOfF (log : List D.LogEntry) : List Int := log.foldl stepDev []
def epochOfF (log : List D.LogEntry) : Int := log.foldl (fun n e => bif e.Kind == 2 then IntKind.i64.wrap (n + 1) else n) 0
def findEntryF (b : D.Bundle) (site handle : Int) : Int := findP (fun e => e.Site == site && e.Handle == handle) 0 b.Entries
def findAccountF (s : D.Site) (id : Int) : Int := findP (fun a => a.Id == id) 0 s.Accounts
theorem stepDev_len (s : List Int) (x : D.LogEntry) : (stepDev s x).length ≤ s.length + 1 := by
  unfold stepDev
  cases x.Kind == 1 with
  | true => cases s.contains x.Device <;> simp
  | false =>
    cases x.Kind == 2 with
    | true => have := List.length_filter_le (fun d => d != x.Device) s; simp; omega
    | false => simp
theorem devicesOf_len (log : List D.LogEntry) : (devicesOfF log).length ≤ log.length := by
  suffices ∀ (l : List D.LogEntry) (s : List Int), (l.foldl stepDev s).length ≤ s.length + l.length from by simpa [devicesOfF] using this log []
  intro l
  induction l with
  | nil => intro s; simp
  | cons x xs ih =>
    intro s
    simp only [List.foldl_cons, List.length_cons]
    have h1 := ih (stepDev s x)
    have h2 : (stepDev s x).length ≤ s.length + 1 := by
      unfold stepDev
      cases x.Kind == 1 with
      | true => cases s.contains x.Device <;> simp
      | false =>
        cases x.Kind == 2 with
        | true => have := List.length_filter_le (fun d => d != x.Device) s; simp; omega
        | false => simp
    omega
theorem maxF_one {n : Int} (h : 0 ≤ n) : maxF 1 n = orOneF n := by
  unfold maxF orOneF
  rcases (show n = 0 ∨ n = 1 ∨ n > 1 by omega) with rfl | rfl | h1
  · rfl
  · rfl
  · have : (n == 0) = false := by simp; omega
    simp [h1, this]
def siteHashF (s : ByteArray) : Int := deriveSF 173 s
def L35 : Nat := 34359738368
def WOk (w : D.World) : Prop := w.Devices.length ≤ 34359738368 ∧ w.Stolen.length ≤ 34359738368 ∧ w.Cloud.Log.length ≤ 34359738368 ∧ w.Sites.length ≤ 34359738368
instance (w : D.World) : Decidable (WOk w) := inferInstanceAs (Decidable (_ ∧ _))
def hasDevF (w : D.World) (d : Int) : Bool := decide (0 ≤ d) && decide (d < w.Devices.length)
theorem hasDev_in {w : D.World} (h : WOk w) (d : Int) : inR d 0 (IntKind.i64.wrap ((w.Devices.length : Int) - 1)) = hasDevF w d := by
  have := h.1
  rw [wrap64_id (by omega) (by omega)]
  unfold inR hasDevF
  congr 1
  exact decide_eq_decide.2 (by omega)
def devAt (w : D.World) (d : Int) : D.Device := w.Devices.getD d.toNat default
theorem atq_dev {w : D.World} {d : Int} (h : hasDevF w d = true) : atq w.Devices d = some (devAt w d) := by
  simp only [hasDevF, Bool.and_eq_true, decide_eq_true_eq] at h
  rw [atq_int h.1 (by omega)]
  simp [devAt, List.getD, List.getElem?_eq_getElem (show d.toNat < w.Devices.length by omega)]
def inListF (w : D.World) (d : Int) : Bool := hasDevF w d && hasF (devicesOfF w.Cloud.Log) (devPubF (devAt w d).Store)
def isCutF (w : D.World) (d : Int) : Bool := hasDevF w d && removedF w.Cloud.Log (devPubF (devAt w d).Store)
def reachB (w : D.World) (i : Nat) : Bool := inListF w i && (decide (i < w.Stolen.length) && !w.Stolen.getD i false)
def reachF (w : D.World) : List Int := ((List.range w.Devices.length).filter (reachB w)).map Int.ofNat
def siteBad (d : Int) (s : D.Site) : Bool := !decide (findAccountF s 1 < 0) && (s.Accounts.getD (findAccountF s 1).toNat default).Credentials.any fun c => c.Handle == d && !c.Cut
def cutFinalF (w : D.World) (d : Int) : Bool := !isCutF w d || (!inListF w d && !(w.Sites.take 2).any (siteBad d))
def eqBundlesF (a b : D.Bundle) : Bool := a.Entries.length == b.Entries.length && (List.zipWith D.Entry.eqB a.Entries b.Entries).all id
def convB (a b : D.Device) : Bool := eqBundlesF a.Bundle b.Bundle && (a.Epoch == b.Epoch && (a.Version == b.Version && a.Key == b.Key))
def convF (w : D.World) : Bool := (reachF w).all fun i => convB (devAt w ((reachF w).getD 0 0)) (devAt w i)
def knowsF (w : D.World) (d : Int) (s : ByteArray) (h : Int) : Bool := hasDevF w d && (!decide (findEntryF (devAt w d).Bundle (siteHashF s) h < 0) && !((devAt w d).Bundle.Entries.getD (findEntryF (devAt w d).Bundle (siteHashF s) h).toNat default).Deleted)
def recKeyF (w : D.World) : Int := deriveF w.Seed [283]
theorem foldl_filter_map {α β : Type} {p : α → Bool} {f : α → β} : ∀ {l : List α} {s : List β}, l.foldl (fun s x => bif p x then s ++ [f x] else s) s = s ++ (l.filter p).map f
  | [], s => by simp
  | x :: xs, s => by
    simp only [List.foldl_cons, List.filter_cons]
    cases p x <;> simp [foldl_filter_map]
theorem reach_min (w : D.World) : (List.range (min w.Devices.length w.Stolen.length)).filter (reachB w) = (List.range w.Devices.length).filter (reachB w) := by
  rcases Nat.le_total w.Devices.length w.Stolen.length with h | h
  · rw [Nat.min_eq_left h]
  · rw [Nat.min_eq_right h]
    obtain ⟨k, hk⟩ := Nat.exists_eq_add_of_le h
    rw [hk, List.range_add, List.filter_append]
    have : ((List.range k).map (w.Stolen.length + ·)).filter (reachB w) = [] := by
      rw [List.filter_eq_nil_iff]
      intro i hi
      obtain ⟨j, _, rfl⟩ := List.mem_map.1 hi
      simp [reachB]
    rw [this, List.append_nil]
def countF (w : D.World) : Int := ((reachF w).length : Int)
theorem zip_any {α : Type} {e : α → α → Bool} : ∀ {l r : List α}, ((l.zip r).any fun p => !e p.1 p.2) = !(List.zipWith e l r).all id
  | [], r => by simp
  | x :: xs, [] => by simp
  | x :: xs, y :: ys => by simp [zip_any (l := xs) (r := ys)]
theorem WOk.of {w : D.World} (h : w.sz ≤ 1048576) : WOk w := by
  simp only [D.World.sz, D.Cloud.sz] at h
  unfold WOk
  omega
theorem bytes_ok {s : ByteArray} (h : ¬ ((s.size : Int) > 1048576)) : (bytesI s).length ≤ 34359738300 := by
  unfold bytesI
  rw [List.length_map]
  have : s.data.toList.length = s.size := Array.length_toList
  omega
theorem reach_has (w : D.World) : ∀ x ∈ reachF w, hasDevF w x = true := by
  intro x hx
  unfold reachF at hx
  obtain ⟨i, hi, rfl⟩ := List.mem_map.1 hx
  obtain ⟨h1, h2⟩ := List.mem_filter.1 hi
  simp only [List.mem_range] at h1
  simp only [hasDevF, Bool.and_eq_true, decide_eq_true_eq]
  have e : (Int.ofNat i) = (i : Int) := rfl
  rw [e]; omega
theorem eqB_self (e : D.Entry) : D.Entry.eqB e e = true := by simp [D.Entry.eqB]
theorem eqBundles_self (b : D.Bundle) : eqBundlesF b b = true := by
  unfold eqBundlesF
  have : ∀ l : List D.Entry, (List.zipWith D.Entry.eqB l l).all id = true := by
    intro l; induction l with
    | nil => rfl
    | cons x xs ih => simp only [List.zipWith_cons_cons, List.all_cons, ih, id, eqB_self, Bool.and_true]
  rw [this b.Entries]; simp
theorem conv_self (d : D.Device) : convB d d = true := by simp [convB, eqBundles_self]
def decB (k : Int) (i : Nat) (z : Int) : Int := IntKind.u8.wrap ((z - keyedI k [(i : Int)]) % 256)
def decF (k : Int) (b : List Int) : List Int := catI (fun i z => [decB k i z]) 0 b
theorem modI_256 (x : Int) : modI (IntKind.i64.wrap x) 256 = x % 256 := by
  rw [modI, if_pos (by omega), IntKind.wrap_i64]; omega
theorem dec_impl (k : Int) (i : Nat) (z : Int) : IntKind.u8.wrap (modI (IntKind.i64.wrap (IntKind.i64.wrap z - keyedI k [(i : Int)])) 256) = decB k i z := by
  rw [modI_256, decB, IntKind.wrap_i64]; congr 1; omega
theorem dec_spec (k : Int) (i : Nat) (z : Int) : IntKind.u8.wrap (modI (IntKind.i64.wrap (IntKind.i64.wrap z - (keyedI k [(i : Int)]).tmod 256)) 256) = decB k i z := by
  rw [modI_256, decB, IntKind.wrap_i64, Int.tmod_eq_emod_of_nonneg (keyedI_range _ _).1]; congr 1; omega
theorem catI_len {α β : Type} {y : Nat → α → β} : ∀ {i : Nat} {l : List α}, (catI (fun i x => [y i x]) i l).length = l.length
  | i, [] => rfl
  | i, x :: xs => by simp [catI, catI_len]
def boxKeyF (p e : Int) : Int := deriveF p [163, e]
def macF (k : Int) (b : D.Box) : Int := keyedI k ([167, b.To, b.Ephemeral] ++ b2iF b.Data)
def openBoxF (p : Int) (b : D.Box) : List Int × Bool :=
  bif !keyF p || (b.To != publicF p || (!keyF b.Ephemeral || decide ((b.Data.length : Int) > 200))) then ([], false)
  else bif b.MAC != macF (boxKeyF p b.Ephemeral) b then ([], false) else (decF (boxKeyF p b.Ephemeral) b.Data, true)
def findBoxF : List D.Box → Int → List Int × Bool
  | [], _ => ([], false)
  | b :: bs, p => bif (openBoxF p b).2 then ((openBoxF p b).1, true) else findBoxF bs p
theorem findBox_run (p : Int) : ∀ (bs : List D.Box) (i : Nat), nx (runL (τ := (List Int × Bool) ⊕ Unit) (fun _ b r => bif (openBoxF p b).2 then some (.inl ((openBoxF p b).1, true)) else r) (some (.inr ())) i bs) (fun _ => some (([] : List Int), false)) = some (findBoxF bs p)
  | [], i => rfl
  | b :: bs, i => by
    simp only [runL, findBoxF]
    cases (openBoxF p b).2 with
    | true => rfl
    | false => exact findBox_run p bs (i + 1)
def bytesOk (b : List Int) : Prop := b.length ≤ 34359738368 ∧ b.all (fun z => decide (0 ≤ z) && decide (z ≤ 255)) = true
instance (b : List Int) : Decidable (bytesOk b) := inferInstanceAs (Decidable (_ ∧ _))
theorem bytesOk_get {b : List Int} (h : bytesOk b) {i : Nat} (hi : i < b.length) : 0 ≤ b[i] ∧ b[i] ≤ 255 := by
  have := List.all_eq_true.1 h.2 b[i] (List.getElem_mem hi)
  simpa using this
/-- Read from place p on: k more places, the i-th at hand, n so far. -/
def uvG (b : List Int) (p : Nat) : Nat → Nat → Int → Int × Int × Bool
  | 0, _, _ => (0, 0, false)
  | k + 1, i, n =>
    if p + i < b.length then
      bif decide (b.getD (p + i) 0 < 128) then
        (bif (decide (0 < i) && b.getD (p + i) 0 == 0) || decide (n + b.getD (p + i) 0 % 128 * 128 ^ i > 1000000000000) then (0, 0, false) else (n + b.getD (p + i) 0 % 128 * 128 ^ i, ((p + i + 1 : Nat) : Int), true))
      else uvG b p k (i + 1) (n + b.getD (p + i) 0 % 128 * 128 ^ i)
    else (0, 0, false)
def uvF (b : List Int) (at_ : Int) : Int × Int × Bool := if at_ < 0 then (0, 0, false) else uvG b at_.toNat 6 0 0
theorem pow128 {i : Nat} (h : i ≤ 6) : (1 : Int) ≤ 128 ^ i ∧ (128 : Int) ^ i ≤ 4398046511104 := by
  match i, h with
  | 0, _ | 1, _ | 2, _ | 3, _ | 4, _ | 5, _ | 6, _ => decide
theorem uv_step {z n : Int} {i : Nat} (hi : i ≤ 5) (hz : 0 ≤ z) (hn : 0 ≤ n) (hn' : n < 128 ^ i) : 0 ≤ n + z % 128 * 128 ^ i ∧ n + z % 128 * 128 ^ i < 128 ^ (i + 1) ∧ 0 ≤ z % 128 * 128 ^ i ∧ z % 128 * 128 ^ i ≤ 127 * 128 ^ i := by
  have hp := pow128 (i := i) (by omega)
  have h1 : 0 ≤ z % 128 * 128 ^ i := Int.mul_nonneg (by omega) (by omega)
  have h2 : z % 128 * 128 ^ i ≤ 127 * 128 ^ i := Int.mul_le_mul_of_nonneg_right (by omega) (by omega)
  rw [Int.pow_succ]
  refine ⟨by omega, by omega, h1, h2⟩
theorem or_step {z n : Int} {i : Nat} (hi : i ≤ 5) (hz : 0 ≤ z) (hz' : z ≤ 255) (hn : 0 ≤ n) (hn' : n < 128 ^ i) :
    orI .i64 n (shlI .i64 (andI .i64 z 127) (IntKind.i64.wrap (7 * (i : Int)))) = n + z % 128 * 128 ^ i := by
  obtain ⟨m, rfl⟩ := Int.eq_ofNat_of_zero_le hz
  obtain ⟨q, rfl⟩ := Int.eq_ofNat_of_zero_le hn
  have hp := pow128 (i := i) (by omega)
  have hs := uv_step (z := (m : Int)) (n := (q : Int)) hi (by omega) (by omega) hn'
  have ha : andI .i64 (m : Int) 127 = ((m % 128 : Nat) : Int) := by
    have e : ((BitVec.ofInt 64 (m : Int)) &&& (BitVec.ofInt 64 127)).toNat = m % 128 := by
      rw [BitVec.toNat_and]
      have e1 : (BitVec.ofInt 64 (m : Int)).toNat = m := by
        rw [BitVec.toNat_ofInt]; omega
      have e2 : (BitVec.ofInt 64 127).toNat = 2 ^ 7 - 1 := by decide
      rw [e1, e2, Nat.and_two_pow_sub_one_eq_mod]
    show IntKind.i64.wrap (((BitVec.ofInt 64 (m : Int)) &&& (BitVec.ofInt 64 127)).toNat : Int) = _
    rw [e]; exact wrap64_id (by omega) (by omega)
  have hw : IntKind.i64.wrap (7 * (i : Int)) = ((7 * i : Nat) : Int) := by rw [wrap64_id (by omega) (by omega)]; omega
  have hpn : (2 : Nat) ^ (7 * i) = 128 ^ i := by rw [Nat.pow_mul]
  have hpi : ((128 ^ i : Nat) : Int) = (128 : Int) ^ i := by simp
  have hb : shlI .i64 (andI .i64 (m : Int) 127) (IntKind.i64.wrap (7 * (i : Int))) = ((m % 128 * 128 ^ i : Nat) : Int) := by
    rw [ha, hw]
    unfold shlI
    rw [Int.toNat_natCast, show min (7 * i) IntKind.i64.bits = 7 * i from Nat.min_eq_left (by simp [IntKind.bits]; omega)]
    have e3 : ((m % 128 : Nat) : Int) * 2 ^ (7 * i) = ((m % 128 * 128 ^ i : Nat) : Int) := by
      rw [← hpn]; simp
    rw [e3]
    have : ((m % 128 * 128 ^ i : Nat) : Int) = (m : Int) % 128 * 128 ^ i := by simp
    rw [this]
    exact wrap64_id (by omega) (by omega)
  rw [hb]
  have hqlt : q < 128 ^ i := by rw [← hpi] at hn'; exact_mod_cast hn'
  have hor : (m % 128 * 128 ^ i) ||| q = m % 128 * 128 ^ i + q := by
    have := Nat.shiftLeft_add_eq_or_of_lt (b := q) (i := 7 * i) (by rw [hpn]; exact hqlt) (m % 128)
    rw [Nat.shiftLeft_eq, hpn] at this
    exact this.symm
  have hle : m % 128 * 128 ^ i + q < 2 ^ 63 := by
    have : ((m % 128 * 128 ^ i + q : Nat) : Int) = q + (m : Int) % 128 * 128 ^ i := by simp; omega
    omega
  have e4 : ((BitVec.ofInt 64 (q : Int)) ||| (BitVec.ofInt 64 ((m % 128 * 128 ^ i : Nat) : Int))).toNat = m % 128 * 128 ^ i + q := by
    rw [BitVec.toNat_or]
    have e5 : (BitVec.ofInt 64 (q : Int)).toNat = q := by rw [BitVec.toNat_ofInt]; omega
    have e6 : (BitVec.ofInt 64 ((m % 128 * 128 ^ i : Nat) : Int)).toNat = m % 128 * 128 ^ i := by rw [BitVec.toNat_ofInt]; omega
    rw [e5, e6, Nat.or_comm, hor]
  show IntKind.i64.wrap (((BitVec.ofInt 64 (q : Int)) ||| (BitVec.ofInt 64 ((m % 128 * 128 ^ i : Nat) : Int))).toNat : Int) = _
  rw [e4, wrap64_id (by omega) (by omega)]
  simp
  omega
def decG (b : List Int) : Nat → Int → List Int → List Int × Int × Bool
  | 0, a, s => (s, a, true)
  | k + 1, a, s => bif (uvF b a).2.2 then decG b k (uvF b a).2.1 (s ++ [(uvF b a).1]) else ([], 0, false)
def decodeF (b : List Int) (a c : Int) : List Int × Int × Bool := bif !inR c 0 100 || !inR a 0 b.length then ([], 0, false) else decG b c.toNat a []
theorem decG_len (b : List Int) : ∀ (k : Nat) (a : Int) (s : List Int), (decG b k a s).2.2 = true → (decG b k a s).1.length = s.length + k
  | 0, a, s, _ => rfl
  | k + 1, a, s, h => by
    unfold decG at h ⊢
    cases hu : (uvF b a).2.2 with
    | false => rw [hu] at h; simp at h
    | true =>
      rw [hu] at h
      simp only [cond_true] at h ⊢
      rw [decG_len b k _ _ h]; simp; omega
theorem decode_len {b : List Int} {a c : Int} (hc : 0 ≤ c) (h : (decodeF b a c).2.2 = true) : (decodeF b a c).1.length = c.toNat := by
  unfold decodeF at h ⊢
  cases hx : (!inR c 0 100 || !inR a 0 b.length) with
  | true => rw [hx] at h; simp at h
  | false =>
    rw [hx] at h
    simp only [cond_false] at h ⊢
    rw [decG_len _ _ _ _ h]; simp
theorem decF_ok {k : Int} {b : List Int} (h : b.length ≤ 34359738368) : bytesOk (decF k b) := by
  refine ⟨by unfold decF; rw [catI_len]; exact h, ?_⟩
  rw [List.all_eq_true]
  intro z hz
  have : ∀ (b : List Int) (i : Nat), z ∈ catI (fun i z => [decB k i z]) i b → 0 ≤ z ∧ z ≤ 255 := by
    intro b
    induction b with
    | nil => intro i h; simp [catI] at h
    | cons x xs ih =>
      intro i h
      simp only [catI, List.mem_append, List.mem_singleton] at h
      rcases h with rfl | h
      · have := wrap_range .u8 ((x - keyedI k [(i : Int)]) % 256)
        simpa [decB, IntKind.min, IntKind.max, IntKind.signed, IntKind.bits] using this
      · exact ih _ h
  have := this b 0 hz
  simp [this.1, this.2]
theorem openBox_ok (p : Int) (b : D.Box) : bytesOk (openBoxF p b).1 := by
  unfold openBoxF
  have h0 : bytesOk ([] : List Int) := by decide
  by_cases hl : b.Data.length ≤ 200
  · cases (!keyF p || (b.To != publicF p || (!keyF b.Ephemeral || decide ((b.Data.length : Int) > 200)))) <;> cases (b.MAC != macF (boxKeyF p b.Ephemeral) b) <;> first | exact h0 | exact decF_ok (by omega)
  · have e1 : decide ((b.Data.length : Int) > 200) = true := by simp; omega
    rw [e1]; simpa using h0
theorem findBox_ok (p : Int) : ∀ bs, bytesOk (findBoxF bs p).1
  | [] => show bytesOk [] by decide
  | b :: bs => by
    unfold findBoxF
    cases (openBoxF p b).2 with
    | true => exact openBox_ok p b
    | false => exact findBox_ok p bs
def openEpochG (e : D.EpochBoxes) (x : List Int × Bool) (y : List Int × Int × Bool) : Int × Bool :=
  bif !x.2 || (!y.2.2 || (y.2.1 != (x.1.length : Int) || (y.1.getD 0 0 != e.Epoch || !keyF (y.1.getD 1 0)))) then (0, false) else (y.1.getD 1 0, true)
def openEpochF (s : D.KeyStore) (e : D.EpochBoxes) : Int × Bool := openEpochG e (findBoxF e.Boxes (devKeyF s)) (decodeF (findBoxF e.Boxes (devKeyF s)).1 0 2)
def keysAgreeF (w : D.World) (d : Int) : Bool := hasDevF w d && (!inListF w d || ((devAt w d).Epoch != epochOfF w.Cloud.Log || (devAt w d).Key == (openEpochF (devAt w d).Store w.Cloud.Boxes).1))
def fmtWorldF (w : D.World) : ByteArray := fmtInt w.Now ++ ⟨#[32]⟩ ++ fmtInt (countF w) ++ ⟨#[47]⟩ ++ fmtInt (w.Devices.length : Int) ++ ⟨#[32]⟩ ++ fmtInt (epochOfF w.Cloud.Log) ++ ⟨#[32]⟩ ++ fmtInt (w.Cloud.History.length : Int)


noncomputable def m_spec_l1In (x_ : Int) (least_ : Int) (most_ : Int) : Option Bool := bd ((bif (decide (x_ ≥ least_)) then some (decide (x_ ≤ most_)) else some false)) fun j0_6 => some j0_6

theorem t_spec_l1In (n a b : Int) : m_spec_l1In n a b = some (inR n a b) := by simp [m_spec_l1In, inR]


noncomputable def m_spec_Mod (n_ : Int) (m_ : Int) : Option Int := (bif (!(inR m_ (1 : Int) (1000000000000 : Int))) then some (0 : Int) else gd (m_ ≠ 0) <| gd (m_ ≠ 0) <| some ((IntKind.i64.wrap (n_.tmod m_ + m_)).tmod m_))

theorem t_spec_Mod (p q : Int) : m_spec_Mod p q = some (modI p q) := by
  unfold m_spec_Mod
  by_cases h : 1 ≤ q ∧ q ≤ 1000000000000
  · simp [inR, h.1, h.2, gd_t (show q ≠ 0 by omega), modI_s h]
  · rw [modI_0 h]
    rcases (show q < 1 ∨ q > 1000000000000 by omega) with h | h
    · simp [inR, show ¬ 1 ≤ q by omega]
    · simp [inR, show ¬ q ≤ 1000000000000 by omega]


noncomputable def m_spec_Max (a_ : Int) (b_ : Int) : Option Int := (bif (decide (b_ > a_)) then some b_ else some a_)

theorem t_spec_Max (a b : Int) : m_spec_Max a b = some (maxF a b) := by simp [m_spec_Max, maxF]


noncomputable def m_impl_FormatInt (n_ : Int) : Option ByteArray := some (fmtInt n_)

theorem t_impl_FormatInt (n : Int) : m_impl_FormatInt n = some (fmtInt n) := rfl


noncomputable def m_impl_Mod (p_ : Int) (q_ : Int) : Option Int := bd ((bif (decide (q_ < (1 : Int))) then some true else some (decide (q_ > (1000000000000 : Int))))) fun j0_11 => (bif j0_11 then some (0 : Int) else gd (q_ ≠ 0) <| bd ((bif (decide (p_.tmod q_ < (0 : Int))) then some (IntKind.i64.wrap (p_.tmod q_ + q_)) else some (p_.tmod q_))) fun j1_5 => some j1_5)

theorem t_impl_Mod (p q : Int) : m_impl_Mod p q = some (modI p q) := by
  unfold m_impl_Mod
  simp only [bd_bb]
  by_cases h : 1 ≤ q ∧ q ≤ 1000000000000
  · rw [gd_t (by omega)]
    by_cases ht : p.tmod q < 0
    · simp [h, ht, show ¬ q < 1 by omega, show ¬ q > 1000000000000 by omega, modI_n h ht]
      rw [IntKind.wrap_i64]; have := tmod_split (p := p) (q := q) h.1; omega
    · simp [h, ht, show ¬ q < 1 by omega, show ¬ q > 1000000000000 by omega, modI_p h ht]
  · rw [modI_0 h]
    rcases (show q < 1 ∨ q > 1000000000000 by omega) with h | h <;> simp [h]


noncomputable def m_impl_InRange (n_ : Int) (low_ : Int) (high_ : Int) : Option Bool := bd ((bif (decide (low_ ≤ n_)) then some (decide (n_ ≤ high_)) else some false)) fun j0_6 => some j0_6

theorem t_impl_InRange (n a b : Int) : m_impl_InRange n a b = some (inR n a b) := by simp [m_impl_InRange, inR]


noncomputable def m_spec_Hash_l0 (l_ : List Int) : Nat → (Int × Nat) → Option Int
  | 0, _ => none
  | f + 1, (v0_3, i0) => (bif (decide ((i0 : Int) < (l_.length : Int))) then bd (atq l_ (i0 : Int)) fun z5 => m_spec_Hash_l0 l_ f ((IntKind.i64.wrap (IntKind.i64.wrap (IntKind.i64.wrap (v0_3 * (1000003 : Int)) + (modI z5 (2147483647 : Int))) + (13 : Int))).tmod (2147483647 : Int), i0 + 1) else some v0_3)
noncomputable def m_spec_Hash (l_ : List Int) : Option Int := bd (m_spec_Hash_l0 l_ (l_.length + 1) ((11 : Int), 0)) fun j0_3 => some j0_3

theorem t_spec_Hash (l : List Int) : m_spec_Hash l = some (hashI l) := by
  unfold m_spec_Hash
  rw [bd_id, loopS0 l (fun f i s => m_spec_Hash_l0 l f (s, i)) (fun _ s x k => k (hstep s x)) (fun s => some s) (by omega)
    (fun f i s h => by rw [m_spec_Hash_l0]; simp [h, atq_nat h, hstep]) (fun f i s h => by rw [m_spec_Hash_l0]; simp [h]), runS_fold]; rfl


noncomputable def m_spec_KeyedHash (secret_ : Int) (l_ : List Int) : Option Int := gd (apOk ([secret_] : List Int) l_) <| gd (apOk (([secret_] : List Int) ++ l_) ([secret_] : List Int)) <| some (hashI ((([secret_] : List Int) ++ l_) ++ ([secret_] : List Int)))

theorem t_spec_KeyedHash (k : Int) (l : List Int) (h : l.length ≤ 34359738368) : m_spec_KeyedHash k l = some (keyedI k l) := by
  unfold m_spec_KeyedHash
  rw [gd_t (by simp [apOk]; omega), gd_t (by simp [apOk]; omega)]
  simp [keyedI]


noncomputable def m_spec_IsValidKey (secret_ : Int) : Option Bool := some (inR secret_ (1 : Int) (2147483646 : Int))

theorem t_spec_IsValidKey (n : Int) : m_spec_IsValidKey n = some (keyF n) := rfl


noncomputable def m_impl_joined_l0 (rest_ : List (List Int)) : Nat → (Nat × (List Int)) → Option (List Int)
  | 0, _ => none
  | f + 1, (i0, v0r1) => (bif (decide ((i0 : Int) < (rest_.length : Int))) then bd (atq rest_ (i0 : Int)) fun z6 => gd (apOk v0r1 z6) <| m_impl_joined_l0 rest_ f (i0 + 1, (v0r1 ++ z6)) else some v0r1)
noncomputable def m_impl_joined (first_ : List Int) (rest_ : List (List Int)) : Option (List Int) := gd (apOk ([] : List Int) first_) <| bd (m_impl_joined_l0 rest_ (rest_.length + 1) (0, (([] : List Int) ++ first_))) fun j0r1 => some j0r1

theorem t_impl_joined (a : List Int) (r : List (List Int)) (h : a.length + r.flatten.length ≤ 68719476736) : m_impl_joined a r = some (joinF a r) := by
  unfold m_impl_joined
  rw [gd_t (by simp [apOk]; omega), bd_id, loopS0 r (fun f i s => m_impl_joined_l0 r f (i, s)) (fun i s x k => gd (apOk s x) (k (s ++ x))) (fun s => some s) (by omega)
    (fun f i s h => by rw [m_impl_joined_l0]; simp [h, atq_nat h]) (fun f i s h => by rw [m_impl_joined_l0]; simp [h])]
  have hc : catI (fun _ (x : List Int) => x) 0 r = r.flatten := by
    have : ∀ (r : List (List Int)) (i : Nat), catI (fun _ (x : List Int) => x) i r = r.flatten := by
      intro r; induction r with
      | nil => intro i; rfl
      | cons x xs ih => intro i; simp [catI, ih]
    exact this r 0
  rw [runS_app (y := fun _ x => x) (by rw [hc]; simp only [List.length_append, List.length_nil]; omega), hc]; rfl


noncomputable def m_impl_Hash_l0 (values_ : List Int) : Nat → (Int × Nat) → Option Int
  | 0, _ => none
  | f + 1, (v0_3, i0) => (bif (decide ((i0 : Int) < (values_.length : Int))) then bd (atq values_ (i0 : Int)) fun z5 => m_impl_Hash_l0 values_ f ((IntKind.i64.wrap (IntKind.i64.wrap (IntKind.i64.wrap (v0_3 * (1000003 : Int)) + (modI z5 (2147483647 : Int))) + (13 : Int))).tmod (2147483647 : Int), i0 + 1) else some v0_3)
noncomputable def m_impl_Hash (values_ : List Int) : Option Int := bd (m_impl_Hash_l0 values_ (values_.length + 1) ((11 : Int), 0)) fun j0_3 => some j0_3

theorem t_impl_Hash (l : List Int) : m_impl_Hash l = some (hashI l) := by
  unfold m_impl_Hash
  rw [bd_id, loopS0 l (fun f i s => m_impl_Hash_l0 l f (s, i)) (fun _ s x k => k (hstep s x)) (fun s => some s) (by omega)
    (fun f i s h => by rw [m_impl_Hash_l0]; simp [h, atq_nat h, hstep]) (fun f i s h => by rw [m_impl_Hash_l0]; simp [h]), runS_fold]; rfl


noncomputable def m_impl_KeyedHash (key_ : Int) (values_ : List Int) : Option Int := gd (([key_] : List Int).length + ([values_, ([key_] : List Int)] : List (List Int)).flatten.length ≤ 68719476736) <| some (hashI (joinF ([key_] : List Int) ([values_, ([key_] : List Int)] : List (List Int))))

theorem t_impl_KeyedHash (k : Int) (l : List Int) (h : l.length ≤ 34359738368) : m_impl_KeyedHash k l = some (keyedI k l) := by
  unfold m_impl_KeyedHash
  rw [gd_t (by simp; omega)]
  simp [keyedI, joinF]


noncomputable def m_impl_orOne (n_ : Int) : Option Int := (bif (n_ == (0 : Int)) then some (1 : Int) else some n_)

theorem t_impl_orOne (n : Int) : m_impl_orOne n = some (orOneF n) := by simp [m_impl_orOne, orOneF]


noncomputable def m_impl_IsValidKey (key_ : Int) : Option Bool := some (inR key_ (1 : Int) (2147483646 : Int))

theorem t_impl_IsValidKey (n : Int) : m_impl_IsValidKey n = some (keyF n) := rfl


noncomputable def m_spec_DeriveKey (seed_ : Int) (labels_ : List Int) : Option Int := gd (apOk ([(151 : Int)] : List Int) labels_) <| gd ((([(151 : Int)] : List Int) ++ labels_).length ≤ 34359738368) <| some (maxF (1 : Int) (keyedI seed_ (([(151 : Int)] : List Int) ++ labels_)))

theorem t_spec_DeriveKey (s : Int) (l : List Int) (h : l.length ≤ 34359738300) : m_spec_DeriveKey s l = some (deriveF s l) := by
  unfold m_spec_DeriveKey
  rw [gd_t (by simp [apOk]; omega), gd_t (by simp; omega), maxF_one (keyedI_range _ _).1]; rfl


noncomputable def m_spec_PublicKey (private_ : Int) : Option Int := (bif (!(keyF private_)) then some (0 : Int) else some ((IntKind.i64.wrap (private_ * (48271 : Int))).tmod (2147483647 : Int)))

theorem t_spec_PublicKey (p : Int) : m_spec_PublicKey p = some (publicF p) := by simp [m_spec_PublicKey, publicF]


noncomputable def m_impl_DeriveKey (seed_ : Int) (labels_ : List Int) : Option Int := gd (([(151 : Int)] : List Int).length + ([labels_] : List (List Int)).flatten.length ≤ 68719476736) <| gd ((joinF ([(151 : Int)] : List Int) ([labels_] : List (List Int))).length ≤ 34359738368) <| some (orOneF (keyedI seed_ (joinF ([(151 : Int)] : List Int) ([labels_] : List (List Int)))))

theorem t_impl_DeriveKey (s : Int) (l : List Int) (h : l.length ≤ 34359738300) : m_impl_DeriveKey s l = some (deriveF s l) := by
  unfold m_impl_DeriveKey
  rw [gd_t (by simp; omega), gd_t (by simp [joinF]; omega)]; simp [joinF, deriveF]


noncomputable def m_impl_PublicKey (private_ : Int) : Option Int := (bif (!(keyF private_)) then some (0 : Int) else some ((IntKind.i64.wrap (private_ * (48271 : Int))).tmod (2147483647 : Int)))

theorem t_impl_PublicKey (p : Int) : m_impl_PublicKey p = some (publicF p) := by simp [m_impl_PublicKey, publicF]


noncomputable def m_spec_l10Device (s_ : D.KeyStore) : Option Int := gd (([(181 : Int)] : List Int).length ≤ 34359738300) <| some (deriveF s_.Seed ([(181 : Int)] : List Int))

theorem t_spec_l10Device (s : D.KeyStore) : m_spec_l10Device s = some (devKeyF s) := by unfold m_spec_l10Device; rw [gd_t (by simp)]; rfl


noncomputable def m_spec_DevicePublic (s_ : D.KeyStore) : Option Int := some (publicF (devKeyF s_))

theorem t_spec_DevicePublic (s : D.KeyStore) : m_spec_DevicePublic s = some (devPubF s) := rfl


noncomputable def m_impl_DevicePublic (s_ : D.KeyStore) : Option Int := gd (([(181 : Int)] : List Int).length ≤ 34359738300) <| some (publicF (deriveF s_.Seed ([(181 : Int)] : List Int)))

theorem t_impl_DevicePublic (s : D.KeyStore) : m_impl_DevicePublic s = some (devPubF s) := by unfold m_impl_DevicePublic; rw [gd_t (by simp)]; rfl


noncomputable def m_spec_l19Has_l0 (l_ : List Int) (x_ : Int) : Nat → Nat → Option (Bool ⊕ Unit)
  | 0, _ => none
  | f + 1, i0 => (bif (decide ((i0 : Int) < (l_.length : Int))) then bd (atq l_ (i0 : Int)) fun z4 => (bif (z4 == x_) then some (.inl true) else m_spec_l19Has_l0 l_ x_ f (i0 + 1)) else some (.inr ()))
noncomputable def m_spec_l19Has (l_ : List Int) (x_ : Int) : Option Bool := nx (m_spec_l19Has_l0 l_ x_ (l_.length + 1) 0) fun _ => some false

theorem t_spec_l19Has (l : List Int) (x : Int) : m_spec_l19Has l x = some (hasF l x) := by
  unfold m_spec_l19Has
  rw [loopAny l (m_spec_l19Has_l0 l x) (fun e => e == x) (.inl true) (.inr ()) (by omega) (fun f i h => by rw [m_spec_l19Has_l0]; simp [h, atq_nat h]) (fun f i h => by rw [m_spec_l19Has_l0]; simp [h])]
  unfold hasF; cases l.any _ <;> rfl


noncomputable def m_spec_DevicesOf_l1 (v0_3r : List Int) (z6 : D.LogEntry) : Nat → (Nat × (List Int)) → Option (List Int)
  | 0, _ => none
  | f + 1, (i1, v1r6) => (bif (decide ((i1 : Int) < (v0_3r.length : Int))) then bd (bd (atq v0_3r (i1 : Int)) fun z19 => (bif (z19 != z6.Device) then gd (apOk v1r6 ([z19] : List Int)) <| some (v1r6 ++ ([z19] : List Int)) else some v1r6)) fun j5r6 => m_spec_DevicesOf_l1 v0_3r z6 f (i1 + 1, j5r6) else some v1r6)
noncomputable def m_spec_DevicesOf_l0 (log_ : List D.LogEntry) : Nat → (Nat × (List Int)) → Option (List Int)
  | 0, _ => none
  | f + 1, (i0, v0_3r) => (bif (decide ((i0 : Int) < (log_.length : Int))) then bd (bd (atq log_ (i0 : Int)) fun z6 => bd (bd ((bif (z6.Kind == (1 : Int)) then some (!(hasF v0_3r z6.Device)) else some false)) fun j3_20 => (bif j3_20 then gd (apOk v0_3r ([z6.Device] : List Int)) <| some (v0_3r ++ ([z6.Device] : List Int)) else (bif (z6.Kind == (2 : Int)) then bd (m_spec_DevicesOf_l1 v0_3r z6 (v0_3r.length + 1) (0, ([] : List Int))) fun j4r6 => some j4r6 else some v0_3r))) fun j2_3r => some j2_3r) fun j1_3r => m_spec_DevicesOf_l0 log_ f (i0 + 1, j1_3r) else some v0_3r)
noncomputable def m_spec_DevicesOf (log_ : List D.LogEntry) : Option (List Int) := bd (m_spec_DevicesOf_l0 log_ (log_.length + 1) (0, ([] : List Int))) fun j0_3r => some j0_3r

theorem l1_spec_DevicesOf (v : List Int) (z : D.LogEntry) (h : v.length ≤ 34359738368) : m_spec_DevicesOf_l1 v z (v.length + 1) (0, []) = some (v.filter fun d => d != z.Device) := by
  rw [loopB v (fun f i s => m_spec_DevicesOf_l1 v z f (i, s)) (fun s x => bif x != z.Device then gd (apOk s [x]) (some (s ++ [x])) else some s) (fun s x => bif x != z.Device then s ++ [x] else s) (fun s => some s) (fun i s => s.length ≤ i) (by omega)
    (fun f i s h => by rw [m_spec_DevicesOf_l1]; simp only [h, Int.ofNat_lt, decide_true, cond_true, atq_nat h, bd_s]) (fun f i s h => by rw [m_spec_DevicesOf_l1]; simp [h])
    (fun i s x hi hs => by cases (x != z.Device) <;> simp [gd, apOk]; omega) (fun i s x hi hs => by cases (x != z.Device) <;> simp <;> omega) (by simp), foldl_filter]
  simp
theorem t_spec_DevicesOf (l : List D.LogEntry) (h : l.length ≤ 34359738368) : m_spec_DevicesOf l = some (devicesOfF l) := by
  unfold m_spec_DevicesOf
  rw [bd_id, loopB l (fun f i s => m_spec_DevicesOf_l0 l f (i, s)) (fun s e => bif e.Kind == 1 then (bif !hasF s e.Device then gd (apOk s [e.Device]) (some (s ++ [e.Device])) else some s) else bif e.Kind == 2 then bd (m_spec_DevicesOf_l1 s e (s.length + 1) (0, [])) fun a => some a else some s) stepDev (fun s => some s) (fun i s => s.length ≤ i) (by omega)
    (fun f i s h => by
      rw [m_spec_DevicesOf_l0]; simp only [h, Int.ofNat_lt, decide_true, cond_true, atq_nat h, bd_s]
      have hk : (l[i].Kind == 1) = true → (l[i].Kind == 2) = false := fun hh => by simp at hh ⊢; omega
      cases h1 : (l[i].Kind == 1) with
      | true => cases hasF s l[i].Device <;> simp [bd_id, hk h1]
      | false => cases (l[i].Kind == 2) <;> simp [bd_id])
    (fun f i s h => by rw [m_spec_DevicesOf_l0]; simp [h])
    (fun i s x hi hs => by
      unfold stepDev hasF
      have hc : (s.any fun e => e == x.Device) = s.contains x.Device := by rw [List.contains_eq_any_beq]; congr 1; funext e; exact Bool.beq_comm
      rw [hc]
      cases x.Kind == 1 with
      | true => cases s.contains x.Device <;> simp [gd, apOk]; omega
      | false =>
        cases x.Kind == 2 with
        | true => simp [l1_spec_DevicesOf s x (by omega)]
        | false => rfl)
    (fun i s x hi hs => by have := stepDev_len s x; omega) (by simp)]
  rfl


noncomputable def m_spec_EpochOf_l0 (log_ : List D.LogEntry) : Nat → (Int × Nat) → Option Int
  | 0, _ => none
  | f + 1, (v0_3, i0) => (bif (decide ((i0 : Int) < (log_.length : Int))) then bd (bd (atq log_ (i0 : Int)) fun z6 => (bif (z6.Kind == (2 : Int)) then some (IntKind.i64.wrap (v0_3 + (1 : Int))) else some v0_3)) fun j1_3 => m_spec_EpochOf_l0 log_ f (j1_3, i0 + 1) else some v0_3)
noncomputable def m_spec_EpochOf (log_ : List D.LogEntry) : Option Int := bd (m_spec_EpochOf_l0 log_ (log_.length + 1) ((0 : Int), 0)) fun j0_3 => some j0_3

theorem t_spec_EpochOf (l : List D.LogEntry) : m_spec_EpochOf l = some (epochOfF l) := by
  unfold m_spec_EpochOf
  rw [bd_id, loopS0 l (fun f i s => m_spec_EpochOf_l0 l f (s, i)) (fun _ s e k => k (bif e.Kind == 2 then IntKind.i64.wrap (s + 1) else s)) (fun s => some s) (by omega)
    (fun f i s h => by rw [m_spec_EpochOf_l0]; simp [h, atq_nat h]) (fun f i s h => by rw [m_spec_EpochOf_l0]; simp [h]), runS_fold]; rfl


noncomputable def m_impl_has_l0 (l_ : List Int) (n_ : Int) : Nat → Nat → Option (Bool ⊕ Unit)
  | 0, _ => none
  | f + 1, i0 => (bif (decide ((i0 : Int) < (l_.length : Int))) then bd (atq l_ (i0 : Int)) fun z4 => (bif (z4 == n_) then some (.inl true) else m_impl_has_l0 l_ n_ f (i0 + 1)) else some (.inr ()))
noncomputable def m_impl_has (l_ : List Int) (n_ : Int) : Option Bool := nx (m_impl_has_l0 l_ n_ (l_.length + 1) 0) fun _ => some false

theorem t_impl_has (l : List Int) (x : Int) : m_impl_has l x = some (hasF l x) := by
  unfold m_impl_has
  rw [loopAny l (m_impl_has_l0 l x) (fun e => e == x) (.inl true) (.inr ()) (by omega) (fun f i h => by rw [m_impl_has_l0]; simp [h, atq_nat h]) (fun f i h => by rw [m_impl_has_l0]; simp [h])]
  unfold hasF; cases l.any _ <;> rfl


noncomputable def m_impl_DevicesOf_l1 (v0_3r : List Int) (z6 : D.LogEntry) : Nat → (Nat × (List Int)) → Option (List Int)
  | 0, _ => none
  | f + 1, (i1, v1r7) => (bif (decide ((i1 : Int) < (v0_3r.length : Int))) then bd (bd (atq v0_3r (i1 : Int)) fun z18 => (bif (z18 != z6.Device) then gd (apOk v1r7 ([z18] : List Int)) <| some (v1r7 ++ ([z18] : List Int)) else some v1r7)) fun j4r7 => m_impl_DevicesOf_l1 v0_3r z6 f (i1 + 1, j4r7) else some v1r7)
noncomputable def m_impl_DevicesOf_l0 (log_ : List D.LogEntry) : Nat → (Nat × (List Int)) → Option (List Int)
  | 0, _ => none
  | f + 1, (i0, v0_3r) => (bif (decide ((i0 : Int) < (log_.length : Int))) then bd (bd (atq log_ (i0 : Int)) fun z6 => bd ((bif (z6.Kind == (1 : Int)) then (bif (!(hasF v0_3r z6.Device)) then gd (apOk v0_3r ([z6.Device] : List Int)) <| some (v0_3r ++ ([z6.Device] : List Int)) else some v0_3r) else (bif (z6.Kind == (2 : Int)) then bd (m_impl_DevicesOf_l1 v0_3r z6 (v0_3r.length + 1) (0, ([] : List Int))) fun j3r7 => some j3r7 else some v0_3r))) fun j2_3r => some j2_3r) fun j1_3r => m_impl_DevicesOf_l0 log_ f (i0 + 1, j1_3r) else some v0_3r)
noncomputable def m_impl_DevicesOf (log_ : List D.LogEntry) : Option (List Int) := bd (m_impl_DevicesOf_l0 log_ (log_.length + 1) (0, ([] : List Int))) fun j0_3r => some j0_3r

theorem l1_impl_DevicesOf (v : List Int) (z : D.LogEntry) (h : v.length ≤ 34359738368) : m_impl_DevicesOf_l1 v z (v.length + 1) (0, []) = some (v.filter fun d => d != z.Device) := by
  rw [loopB v (fun f i s => m_impl_DevicesOf_l1 v z f (i, s)) (fun s x => bif x != z.Device then gd (apOk s [x]) (some (s ++ [x])) else some s) (fun s x => bif x != z.Device then s ++ [x] else s) (fun s => some s) (fun i s => s.length ≤ i) (by omega)
    (fun f i s h => by rw [m_impl_DevicesOf_l1]; simp only [h, Int.ofNat_lt, decide_true, cond_true, atq_nat h, bd_s]) (fun f i s h => by rw [m_impl_DevicesOf_l1]; simp [h])
    (fun i s x hi hs => by cases (x != z.Device) <;> simp [gd, apOk]; omega) (fun i s x hi hs => by cases (x != z.Device) <;> simp <;> omega) (by simp), foldl_filter]
  simp
theorem t_impl_DevicesOf (l : List D.LogEntry) (h : l.length ≤ 34359738368) : m_impl_DevicesOf l = some (devicesOfF l) := by
  unfold m_impl_DevicesOf
  rw [bd_id, loopB l (fun f i s => m_impl_DevicesOf_l0 l f (i, s)) (fun s e => bif e.Kind == 1 then (bif !hasF s e.Device then gd (apOk s [e.Device]) (some (s ++ [e.Device])) else some s) else bif e.Kind == 2 then bd (m_impl_DevicesOf_l1 s e (s.length + 1) (0, [])) fun a => some a else some s) stepDev (fun s => some s) (fun i s => s.length ≤ i) (by omega)
    (fun f i s h => by
      rw [m_impl_DevicesOf_l0]; simp only [h, Int.ofNat_lt, decide_true, cond_true, atq_nat h, bd_s]
      have hk : (l[i].Kind == 1) = true → (l[i].Kind == 2) = false := fun hh => by simp at hh ⊢; omega
      cases h1 : (l[i].Kind == 1) with
      | true => cases hasF s l[i].Device <;> simp [bd_id, hk h1]
      | false => cases (l[i].Kind == 2) <;> simp [bd_id])
    (fun f i s h => by rw [m_impl_DevicesOf_l0]; simp [h])
    (fun i s x hi hs => by
      unfold stepDev hasF
      have hc : (s.any fun e => e == x.Device) = s.contains x.Device := by rw [List.contains_eq_any_beq]; congr 1; funext e; exact Bool.beq_comm
      rw [hc]
      cases x.Kind == 1 with
      | true => cases s.contains x.Device <;> simp [gd, apOk]; omega
      | false =>
        cases x.Kind == 2 with
        | true => simp [l1_impl_DevicesOf s x (by omega)]
        | false => rfl)
    (fun i s x hi hs => by have := stepDev_len s x; omega) (by simp)]
  rfl


noncomputable def m_impl_EpochOf_l0 (log_ : List D.LogEntry) : Nat → (Int × Nat) → Option Int
  | 0, _ => none
  | f + 1, (v0_3, i0) => (bif (decide ((i0 : Int) < (log_.length : Int))) then bd (bd (atq log_ (i0 : Int)) fun z6 => (bif (z6.Kind == (2 : Int)) then some (IntKind.i64.wrap (v0_3 + (1 : Int))) else some v0_3)) fun j1_3 => m_impl_EpochOf_l0 log_ f (j1_3, i0 + 1) else some v0_3)
noncomputable def m_impl_EpochOf (log_ : List D.LogEntry) : Option Int := bd (m_impl_EpochOf_l0 log_ (log_.length + 1) ((0 : Int), 0)) fun j0_3 => some j0_3

theorem t_impl_EpochOf (l : List D.LogEntry) : m_impl_EpochOf l = some (epochOfF l) := by
  unfold m_impl_EpochOf
  rw [bd_id, loopS0 l (fun f i s => m_impl_EpochOf_l0 l f (s, i)) (fun _ s e k => k (bif e.Kind == 2 then IntKind.i64.wrap (s + 1) else s)) (fun s => some s) (by omega)
    (fun f i s h => by rw [m_impl_EpochOf_l0]; simp [h, atq_nat h]) (fun f i s h => by rw [m_impl_EpochOf_l0]; simp [h]), runS_fold]; rfl


noncomputable def m_spec_InList (w_ : D.World) (device_ : Int) : Option Bool := bd ((bif (inR device_ (0 : Int) (IntKind.i64.wrap ((w_.Devices.length : Int) - (1 : Int)))) then bd (atq w_.Devices device_) fun z3 => gd (w_.Cloud.Log.length ≤ 34359738368) <| some (hasF (devicesOfF w_.Cloud.Log) (devPubF z3.Store)) else some false)) fun j0_4 => some j0_4

theorem t_spec_InList (w : D.World) (d : Int) (h : WOk w) : m_spec_InList w d = some (inListF w d) := by
  unfold m_spec_InList inListF
  rw [hasDev_in h, bd_id]
  cases hd : hasDevF w d with
  | false => rfl
  | true => simp [atq_dev hd, gd_t h.2.2.1]


noncomputable def m_impl_hasDevice (w_ : D.World) (device_ : Int) : Option Bool := bd ((bif (decide (device_ ≥ (0 : Int))) then some (decide (device_ < (w_.Devices.length : Int))) else some false)) fun j0_4 => some j0_4

theorem t_impl_hasDevice (w : D.World) (d : Int) : m_impl_hasDevice w d = some (hasDevF w d) := by simp [m_impl_hasDevice, hasDevF]


noncomputable def m_impl_InList (w_ : D.World) (device_ : Int) : Option Bool := bd ((bif (hasDevF w_ device_) then bd (atq w_.Devices device_) fun z3 => gd (w_.Cloud.Log.length ≤ 34359738368) <| some (hasF (devicesOfF w_.Cloud.Log) (devPubF z3.Store)) else some false)) fun j0_4 => some j0_4

theorem t_impl_InList (w : D.World) (d : Int) (h : WOk w) : m_impl_InList w d = some (inListF w d) := by
  unfold m_impl_InList inListF
  rw [bd_id]
  cases hd : hasDevF w d with
  | false => rfl
  | true => simp [atq_dev hd, gd_t h.2.2.1]


noncomputable def m_spec_ReachableDevices_l0 (w_ : D.World) : Nat → (Nat × (List Int)) → Option (List Int)
  | 0, _ => none
  | f + 1, (i0, v0r2) => bd ((bif (decide ((i0 : Int) < (w_.Devices.length : Int))) then some (decide ((i0 : Int) < (w_.Stolen.length : Int))) else some false)) fun j1_17 => (bif j1_17 then bd (bd (gd (WOk w_) <| (bif (inListF w_ (i0 : Int)) then bd (atq w_.Stolen (i0 : Int)) fun z10 => some (!z10) else some false)) fun j3_30 => (bif j3_30 then gd (apOk v0r2 ([(i0 : Int)] : List Int)) <| some (v0r2 ++ ([(i0 : Int)] : List Int)) else some v0r2)) fun j2r2 => gd (i0 + 1 < 9223372036854775808) <| m_spec_ReachableDevices_l0 w_ f (i0 + 1, j2r2) else some v0r2)
noncomputable def m_spec_ReachableDevices (w_ : D.World) : Option (List Int) := bd (m_spec_ReachableDevices_l0 w_ FUEL (0, ([] : List Int))) fun j0r2 => some j0r2

theorem t_spec_ReachableDevices (w : D.World) (h : WOk w) : m_spec_ReachableDevices w = some (reachF w) := by
  unfold m_spec_ReachableDevices
  have hf := FUEL_le
  have h1 := h.1
  rw [bd_id, loopBm (List.range (min w.Devices.length w.Stolen.length)) (fun f i s => m_spec_ReachableDevices_l0 w f (i, s)) (fun s x => bd (bif reachB w x then gd (apOk s [(x : Int)]) (some (s ++ [(x : Int)])) else some s) fun s' => gd (x + 1 < 9223372036854775808) (some s')) (fun s x => bif reachB w x then s ++ [(x : Int)] else s) (fun s => some s) (fun i s => s.length ≤ i) (by simp; omega)
    (fun f i s hi => by
      simp only [List.length_range] at hi
      rw [m_spec_ReachableDevices_l0]
      simp only [List.getElem_range, show i < w.Devices.length by omega, show i < w.Stolen.length by omega, Int.ofNat_lt, decide_true, cond_true, bd_s, gd_t h, atq_nat (show i < w.Stolen.length by omega)]
      have e : (w.Stolen[i]'(by omega)) = w.Stolen.getD i false := by simp [List.getD, List.getElem?_eq_getElem (show i < w.Stolen.length by omega)]
      rw [e]
      simp only [reachB, show i < w.Stolen.length by omega, decide_true, Bool.true_and]
      cases inListF w i <;> cases w.Stolen.getD i false <;> simp [gd_t (show i + 1 < 9223372036854775808 by omega), bd_assoc] <;> (cases (gd (apOk s [(i : Int)]) (some (s ++ [(i : Int)]))) <;> rfl))
    (fun f i s hi => by
      simp only [List.length_range] at hi
      rw [m_spec_ReachableDevices_l0]
      rcases (show ¬ i < w.Devices.length ∨ ¬ i < w.Stolen.length by omega) with hh | hh
      · simp [hh]
      · by_cases h2 : i < w.Devices.length <;> simp [hh, h2])
    (fun i s x hi hx hs => by
      simp only [List.length_range] at hi
      simp only [List.mem_range] at hx
      have hx1 : x + 1 < 9223372036854775808 := by omega
      cases reachB w x with
      | true => simp only [cond_true]; rw [gd_t (show apOk s [(x : Int)] by unfold apOk; simp; omega)]; simp only [bd_s]; rw [gd_t hx1]
      | false => simp only [cond_false, bd_s]; rw [gd_t hx1]) (fun i s x hi hx hs => by cases reachB w x <;> simp <;> omega) (by simp), foldl_filter_map, reach_min]
  simp [reachF]


noncomputable def m_impl_ReachableDevices_l0 (w_ : D.World) : Nat → (Nat × (List Int)) → Option (List Int)
  | 0, _ => none
  | f + 1, (i0, v0r2) => (bif (decide ((i0 : Int) < (w_.Devices.length : Int))) then bd (bd (gd (WOk w_) <| (bif (inListF w_ (i0 : Int)) then (bif (decide ((i0 : Int) < (w_.Stolen.length : Int))) then bd (atq w_.Stolen (i0 : Int)) fun z10 => some (!z10) else some false) else some false)) fun j2_29 => (bif j2_29 then gd (apOk v0r2 ([(i0 : Int)] : List Int)) <| some (v0r2 ++ ([(i0 : Int)] : List Int)) else some v0r2)) fun j1r2 => m_impl_ReachableDevices_l0 w_ f (i0 + 1, j1r2) else some v0r2)
noncomputable def m_impl_ReachableDevices (w_ : D.World) : Option (List Int) := bd (m_impl_ReachableDevices_l0 w_ (w_.Devices.length + 1) (0, ([] : List Int))) fun j0r2 => some j0r2

theorem t_impl_ReachableDevices (w : D.World) (h : WOk w) : m_impl_ReachableDevices w = some (reachF w) := by
  unfold m_impl_ReachableDevices
  have h1 := h.1
  rw [bd_id, loopB (List.range w.Devices.length) (fun f i s => m_impl_ReachableDevices_l0 w f (i, s)) (fun s x => bif reachB w x then gd (apOk s [(x : Int)]) (some (s ++ [(x : Int)])) else some s) (fun s x => bif reachB w x then s ++ [(x : Int)] else s) (fun s => some s) (fun i s => s.length ≤ i) (by simp)
    (fun f i s hi => by
      simp only [List.length_range] at hi
      rw [m_impl_ReachableDevices_l0]
      simp only [List.getElem_range, hi, Int.ofNat_lt, decide_true, cond_true, bd_s, gd_t h]
      simp only [reachB]
      cases inListF w i with
      | false => rfl
      | true =>
        by_cases h2 : i < w.Stolen.length
        · have e : (w.Stolen[i]'h2) = w.Stolen.getD i false := by simp [List.getD, List.getElem?_eq_getElem h2]
          simp only [h2, decide_true, cond_true, atq_nat h2, bd_s, e, Bool.true_and]
        · simp [h2])
    (fun f i s hi => by simp only [List.length_range] at hi; rw [m_impl_ReachableDevices_l0]; simp [hi])
    (fun i s x hi hs => by
      simp only [List.length_range] at hi
      cases reachB w x <;> simp [gd, apOk]; omega) (fun i s x hi hs => by cases reachB w x <;> simp <;> omega) (by simp), foldl_filter_map]
  simp [reachF]


noncomputable def m_spec_CountReachable (w_ : D.World) : Option Int := gd (WOk w_) <| some ((reachF w_).length : Int)

theorem t_spec_CountReachable (w : D.World) (h : WOk w) : m_spec_CountReachable w = some (countF w) := by unfold m_spec_CountReachable; rw [gd_t h]; rfl


noncomputable def m_impl_CountReachable (w_ : D.World) : Option Int := gd (WOk w_) <| some ((reachF w_).length : Int)

theorem t_impl_CountReachable (w : D.World) (h : WOk w) : m_impl_CountReachable w = some (countF w) := by unfold m_impl_CountReachable; rw [gd_t h]; rfl


noncomputable def m_spec_FormatWorld (w_ : D.World) : Option ByteArray := gd ((fmtInt w_.Now).size + (⟨#[32]⟩ : ByteArray).size ≤ 9223372036854775807) <| gd (WOk w_) <| gd (((fmtInt w_.Now) ++ (⟨#[32]⟩ : ByteArray)).size + (fmtInt (countF w_)).size ≤ 9223372036854775807) <| gd ((((fmtInt w_.Now) ++ (⟨#[32]⟩ : ByteArray)) ++ (fmtInt (countF w_))).size + (⟨#[47]⟩ : ByteArray).size ≤ 9223372036854775807) <| gd (((((fmtInt w_.Now) ++ (⟨#[32]⟩ : ByteArray)) ++ (fmtInt (countF w_))) ++ (⟨#[47]⟩ : ByteArray)).size + (fmtInt (w_.Devices.length : Int)).size ≤ 9223372036854775807) <| gd ((((((fmtInt w_.Now) ++ (⟨#[32]⟩ : ByteArray)) ++ (fmtInt (countF w_))) ++ (⟨#[47]⟩ : ByteArray)) ++ (fmtInt (w_.Devices.length : Int))).size + (⟨#[32]⟩ : ByteArray).size ≤ 9223372036854775807) <| gd (((((((fmtInt w_.Now) ++ (⟨#[32]⟩ : ByteArray)) ++ (fmtInt (countF w_))) ++ (⟨#[47]⟩ : ByteArray)) ++ (fmtInt (w_.Devices.length : Int))) ++ (⟨#[32]⟩ : ByteArray)).size + (fmtInt (epochOfF w_.Cloud.Log)).size ≤ 9223372036854775807) <| gd ((((((((fmtInt w_.Now) ++ (⟨#[32]⟩ : ByteArray)) ++ (fmtInt (countF w_))) ++ (⟨#[47]⟩ : ByteArray)) ++ (fmtInt (w_.Devices.length : Int))) ++ (⟨#[32]⟩ : ByteArray)) ++ (fmtInt (epochOfF w_.Cloud.Log))).size + (⟨#[32]⟩ : ByteArray).size ≤ 9223372036854775807) <| gd (((((((((fmtInt w_.Now) ++ (⟨#[32]⟩ : ByteArray)) ++ (fmtInt (countF w_))) ++ (⟨#[47]⟩ : ByteArray)) ++ (fmtInt (w_.Devices.length : Int))) ++ (⟨#[32]⟩ : ByteArray)) ++ (fmtInt (epochOfF w_.Cloud.Log))) ++ (⟨#[32]⟩ : ByteArray)).size + (fmtInt (w_.Cloud.History.length : Int)).size ≤ 9223372036854775807) <| some (((((((((fmtInt w_.Now) ++ (⟨#[32]⟩ : ByteArray)) ++ (fmtInt (countF w_))) ++ (⟨#[47]⟩ : ByteArray)) ++ (fmtInt (w_.Devices.length : Int))) ++ (⟨#[32]⟩ : ByteArray)) ++ (fmtInt (epochOfF w_.Cloud.Log))) ++ (⟨#[32]⟩ : ByteArray)) ++ (fmtInt (w_.Cloud.History.length : Int)))

theorem t_spec_FormatWorld (w : D.World) (h : WOk w) : m_spec_FormatWorld w = some (fmtWorldF w) := by
  have h1 := fmtInt_sz w.Now
  have h2 := fmtInt_sz (countF w)
  have h3 := fmtInt_sz (w.Devices.length : Int)
  have h4 := fmtInt_sz (epochOfF w.Cloud.Log)
  have h5 := fmtInt_sz (w.Cloud.History.length : Int)
  have c1 : (⟨#[32]⟩ : ByteArray).size = 1 := rfl
  have c2 : (⟨#[47]⟩ : ByteArray).size = 1 := rfl
  unfold m_spec_FormatWorld fmtWorldF
  simp only [ByteArray.size_append, c1, c2]
  rw [gd_t (by omega), gd_t h, gd_t (by omega), gd_t (by omega), gd_t (by omega), gd_t (by omega), gd_t (by omega), gd_t (by omega), gd_t (by omega)]


noncomputable def m_impl_FormatWorld (w_ : D.World) : Option ByteArray := gd ((fmtInt w_.Now).size + (⟨#[32]⟩ : ByteArray).size ≤ 9223372036854775807) <| gd (WOk w_) <| gd (((fmtInt w_.Now) ++ (⟨#[32]⟩ : ByteArray)).size + (fmtInt (countF w_)).size ≤ 9223372036854775807) <| gd ((((fmtInt w_.Now) ++ (⟨#[32]⟩ : ByteArray)) ++ (fmtInt (countF w_))).size + (⟨#[47]⟩ : ByteArray).size ≤ 9223372036854775807) <| gd (((((fmtInt w_.Now) ++ (⟨#[32]⟩ : ByteArray)) ++ (fmtInt (countF w_))) ++ (⟨#[47]⟩ : ByteArray)).size + (fmtInt (w_.Devices.length : Int)).size ≤ 9223372036854775807) <| gd ((((((fmtInt w_.Now) ++ (⟨#[32]⟩ : ByteArray)) ++ (fmtInt (countF w_))) ++ (⟨#[47]⟩ : ByteArray)) ++ (fmtInt (w_.Devices.length : Int))).size + (⟨#[32]⟩ : ByteArray).size ≤ 9223372036854775807) <| gd (((((((fmtInt w_.Now) ++ (⟨#[32]⟩ : ByteArray)) ++ (fmtInt (countF w_))) ++ (⟨#[47]⟩ : ByteArray)) ++ (fmtInt (w_.Devices.length : Int))) ++ (⟨#[32]⟩ : ByteArray)).size + (fmtInt (epochOfF w_.Cloud.Log)).size ≤ 9223372036854775807) <| gd ((((((((fmtInt w_.Now) ++ (⟨#[32]⟩ : ByteArray)) ++ (fmtInt (countF w_))) ++ (⟨#[47]⟩ : ByteArray)) ++ (fmtInt (w_.Devices.length : Int))) ++ (⟨#[32]⟩ : ByteArray)) ++ (fmtInt (epochOfF w_.Cloud.Log))).size + (⟨#[32]⟩ : ByteArray).size ≤ 9223372036854775807) <| gd (((((((((fmtInt w_.Now) ++ (⟨#[32]⟩ : ByteArray)) ++ (fmtInt (countF w_))) ++ (⟨#[47]⟩ : ByteArray)) ++ (fmtInt (w_.Devices.length : Int))) ++ (⟨#[32]⟩ : ByteArray)) ++ (fmtInt (epochOfF w_.Cloud.Log))) ++ (⟨#[32]⟩ : ByteArray)).size + (fmtInt (w_.Cloud.History.length : Int)).size ≤ 9223372036854775807) <| some (((((((((fmtInt w_.Now) ++ (⟨#[32]⟩ : ByteArray)) ++ (fmtInt (countF w_))) ++ (⟨#[47]⟩ : ByteArray)) ++ (fmtInt (w_.Devices.length : Int))) ++ (⟨#[32]⟩ : ByteArray)) ++ (fmtInt (epochOfF w_.Cloud.Log))) ++ (⟨#[32]⟩ : ByteArray)) ++ (fmtInt (w_.Cloud.History.length : Int)))

theorem t_impl_FormatWorld (w : D.World) (h : WOk w) : m_impl_FormatWorld w = some (fmtWorldF w) := by
  have h1 := fmtInt_sz w.Now
  have h2 := fmtInt_sz (countF w)
  have h3 := fmtInt_sz (w.Devices.length : Int)
  have h4 := fmtInt_sz (epochOfF w.Cloud.Log)
  have h5 := fmtInt_sz (w.Cloud.History.length : Int)
  have c1 : (⟨#[32]⟩ : ByteArray).size = 1 := rfl
  have c2 : (⟨#[47]⟩ : ByteArray).size = 1 := rfl
  unfold m_impl_FormatWorld fmtWorldF
  simp only [ByteArray.size_append, c1, c2]
  rw [gd_t (by omega), gd_t h, gd_t (by omega), gd_t (by omega), gd_t (by omega), gd_t (by omega), gd_t (by omega), gd_t (by omega), gd_t (by omega)]

end Go.VK
