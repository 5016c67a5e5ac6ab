/-
  Printed by wip/tools (own work of this part): models of functions, walks over the value kit, and proofs.
-/
import Derived.Test.YtpblmeojgboagaaGreatXsKnowsAccount
set_option linter.unusedVariables false
set_option linter.unusedSimpArgs false
set_option maxRecDepth 100000
set_option maxHeartbeats 4000000
namespace Go.VK
open Go.RowKit Go.Proofs
def markF (k : D.Keeper) : Int := IntKind.i64.wrap (IntKind.i64.wrap (k.Epoch * 1000) + k.Guesses)
def guessesWithinF (w : D.World) : Bool := !w.Hosts.any fun h => decide (h.State.Guesses > h.State.Limit) || decide (markF h.State > h.Monotonic)
theorem modI_pos {p q : Int} (h : 1 ≤ q ∧ q ≤ 1000000000000) : 0 ≤ modI p q ∧ modI p q < q := modI_range h
theorem hstep_range {h v : Int} (h0 : 0 ≤ h) (h1 : h < 2147483647) : 0 ≤ hstep h v ∧ hstep h v < 2147483647 := by
  have hm := modI_range (p := v) (q := 2147483647) (by omega)
  unfold hstep
  generalize modI v 2147483647 = z at *
  have e1 : IntKind.i64.wrap (h * 1000003) = h * 1000003 := wrap64_id (by omega) (by omega)
  have e2 : IntKind.i64.wrap (h * 1000003 + z) = h * 1000003 + z := wrap64_id (by omega) (by omega)
  have e3 : IntKind.i64.wrap (h * 1000003 + z + 13) = h * 1000003 + z + 13 := wrap64_id (by omega) (by omega)
  rw [e1, e2, e3]
  exact ⟨Int.tmod_nonneg _ (by omega), Int.tmod_lt_of_pos _ (by decide)⟩
theorem hashI_range (l : List Int) : 0 ≤ hashI l ∧ hashI l < 2147483647 := by
  unfold hashI
  suffices ∀ (l : List Int) (h : Int), 0 ≤ h → h < 2147483647 → 0 ≤ l.foldl hstep h ∧ l.foldl hstep h < 2147483647 from this l 11 (by omega) (by omega)
  intro l
  induction l with
  | nil => intro h h0 h1; exact ⟨h0, h1⟩
  | cons x xs ih => intro h h0 h1; exact ih _ (hstep_range h0 h1).1 (hstep_range h0 h1).2
theorem keyedI_range (k : Int) (l : List Int) : 0 ≤ keyedI k l ∧ keyedI k l < 2147483647 := hashI_range _
def maxF (a b : Int) : Int := bif decide (b > a) then b else a
def joinF (a : List Int) (r : List (List Int)) : List Int := a ++ r.flatten
def orOneF (n : Int) : Int := bif n == 0 then 1 else n
def keyF (n : Int) : Bool := inR n 1 2147483646
def b2iF (b : List Int) : List Int := [(b.length : Int)] ++ b.map IntKind.i64.wrap
def deriveF (seed : Int) (l : List Int) : Int := orOneF (keyedI seed ([151] ++ l))
def deriveSF (k : Int) (s : ByteArray) : Int := orOneF (keyedI k (b2iF (bytesI s)))
def publicF (p : Int) : Int := bif !(keyF p) then 0 else (IntKind.i64.wrap (p * 48271)).tmod 2147483647
def devKeyF (s : D.KeyStore) : Int := deriveF s.Seed [181]
def devPubF (s : D.KeyStore) : Int := publicF (devKeyF s)
def hasF (l : List Int) (x : Int) : Bool := l.any fun e => e == x
def removedF (log : List D.LogEntry) (p : Int) : Bool := log.any fun e => e.Kind == 2 && e.Device == p
def stepDev (s : List Int) (e : D.LogEntry) : List Int :=
  bif e.Kind == 1 then (bif s.contains e.Device then s else s ++ [e.Device]) else bif e.Kind == 2 then s.filter (fun d => d != e.Device) else s
def devicesOfF (log : List D.LogEntry) : List Int := log.foldl stepDev []
def epochOfF (log : List D.LogEntry) : Int := log.foldl (fun n e => bif e.Kind == 2 then IntKind.i64.wrap (n + 1) else n) 0
def findEntryF (b : D.Bundle) (site handle : Int) : Int := findP (fun e => e.Site == site && e.Handle == handle) 0 b.Entries
def findAccountF (s : D.Site) (id : Int) : Int := findP (fun a => a.Id == id) 0 s.Accounts
theorem stepDev_len (s : List Int) (x : D.LogEntry) : (stepDev s x).length ≤ s.length + 1 := by
  unfold stepDev
  cases x.Kind == 1 with
  | true => cases s.contains x.Device <;> simp
  | false =>
    cases x.Kind == 2 with
    | true => have := List.length_filter_le (fun d => d != x.Device) s; simp; omega
    | false => simp
theorem devicesOf_len (log : List D.LogEntry) : (devicesOfF log).length ≤ log.length := by
  suffices ∀ (l : List D.LogEntry) (s : List Int), (l.foldl stepDev s).length ≤ s.length + l.length from by simpa [devicesOfF] using this log []
  intro l
  induction l with
  | nil => intro s; simp
  | cons x xs ih =>
    intro s
    simp only [List.foldl_cons, List.length_cons]
    have h1 := ih (stepDev s x)
    have h2 : (stepDev s x).length ≤ s.length + 1 := by
      unfold stepDev
      cases x.Kind == 1 with
      | true => cases s.contains x.Device <;> simp
      | false =>
        cases x.Kind == 2 with
        | true => have := List.length_filter_le (fun d => d != x.Device) s; simp; omega
        | false => simp
    omega
theorem maxF_one {n : Int} (h : 0 ≤ n) : maxF 1 n = orOneF n := by
  unfold maxF orOneF
  rcases (show n = 0 ∨ n = 1 ∨ n > 1 by omega) with rfl | rfl | h1
  · rfl
  · rfl
  · have : (n == 0) = false := by simp; omega
    simp [h1, this]
def siteHashF (s : ByteArray) : Int := deriveSF 173 s
def L35 : Nat := 34359738368
def WOk (w : D.World) : Prop := w.Devices.length ≤ 34359738368 ∧ w.Stolen.length ≤ 34359738368 ∧ w.Cloud.Log.length ≤ 34359738368 ∧ w.Sites.length ≤ 34359738368
instance (w : D.World) : Decidable (WOk w) := inferInstanceAs (Decidable (_ ∧ _))
def hasDevF (w : D.World) (d : Int) : Bool := decide (0 ≤ d) && decide (d < w.Devices.length)
theorem hasDev_in {w : D.World} (h : WOk w) (d : Int) : inR d 0 (IntKind.i64.wrap ((w.Devices.length : Int) - 1)) = hasDevF w d := by
  have := h.1
  rw [wrap64_id (by omega) (by omega)]
  unfold inR hasDevF
  congr 1
  exact decide_eq_decide.2 (by omega)
def devAt (w : D.World) (d : Int) : D.Device := w.Devices.getD d.toNat default
theorem atq_dev {w : D.World} {d : Int} (h : hasDevF w d = true) : atq w.Devices d = some (devAt w d) := by
  simp only [hasDevF, Bool.and_eq_true, decide_eq_true_eq] at h
  rw [atq_int h.1 (by omega)]
  simp [devAt, List.getD, List.getElem?_eq_getElem (show d.toNat < w.Devices.length by omega)]
def inListF (w : D.World) (d : Int) : Bool := hasDevF w d && hasF (devicesOfF w.Cloud.Log) (devPubF (devAt w d).Store)
def isCutF (w : D.World) (d : Int) : Bool := hasDevF w d && removedF w.Cloud.Log (devPubF (devAt w d).Store)
def reachB (w : D.World) (i : Nat) : Bool := inListF w i && (decide (i < w.Stolen.length) && !w.Stolen.getD i false)
def reachF (w : D.World) : List Int := ((List.range w.Devices.length).filter (reachB w)).map Int.ofNat
def siteBad (d : Int) (s : D.Site) : Bool := !decide (findAccountF s 1 < 0) && (s.Accounts.getD (findAccountF s 1).toNat default).Credentials.any fun c => c.Handle == d && !c.Cut
def cutFinalF (w : D.World) (d : Int) : Bool := !isCutF w d || (!inListF w d && !(w.Sites.take 2).any (siteBad d))
def eqBundlesF (a b : D.Bundle) : Bool := a.Entries.length == b.Entries.length && (List.zipWith D.Entry.eqB a.Entries b.Entries).all id
def convB (a b : D.Device) : Bool := eqBundlesF a.Bundle b.Bundle && (a.Epoch == b.Epoch && (a.Version == b.Version && a.Key == b.Key))
def convF (w : D.World) : Bool := (reachF w).all fun i => convB (devAt w ((reachF w).getD 0 0)) (devAt w i)
def knowsF (w : D.World) (d : Int) (s : ByteArray) (h : Int) : Bool := hasDevF w d && (!decide (findEntryF (devAt w d).Bundle (siteHashF s) h < 0) && !((devAt w d).Bundle.Entries.getD (findEntryF (devAt w d).Bundle (siteHashF s) h).toNat default).Deleted)
def recKeyF (w : D.World) : Int := deriveF w.Seed [283]
theorem foldl_filter_map {α β : Type} {p : α → Bool} {f : α → β} : ∀ {l : List α} {s : List β}, l.foldl (fun s x => bif p x then s ++ [f x] else s) s = s ++ (l.filter p).map f
  | [], s => by simp
  | x :: xs, s => by
    simp only [List.foldl_cons, List.filter_cons]
    cases p x <;> simp [foldl_filter_map]
theorem reach_min (w : D.World) : (List.range (min w.Devices.length w.Stolen.length)).filter (reachB w) = (List.range w.Devices.length).filter (reachB w) := by
  rcases Nat.le_total w.Devices.length w.Stolen.length with h | h
  · rw [Nat.min_eq_left h]
  · rw [Nat.min_eq_right h]
    obtain ⟨k, hk⟩ := Nat.exists_eq_add_of_le h
    rw [hk, List.range_add, List.filter_append]
    have : ((List.range k).map (w.Stolen.length + ·)).filter (reachB w) = [] := by
      rw [List.filter_eq_nil_iff]
      intro i hi
      obtain ⟨j, _, rfl⟩ := List.mem_map.1 hi
      simp [reachB]
    rw [this, List.append_nil]
def countF (w : D.World) : Int := ((reachF w).length : Int)
theorem zip_any {α : Type} {e : α → α → Bool} : ∀ {l r : List α}, ((l.zip r).any fun p => !e p.1 p.2) = !(List.zipWith e l r).all id
  | [], r => by simp
  | x :: xs, [] => by simp
  | x :: xs, y :: ys => by simp [zip_any (l := xs) (r := ys)]
theorem WOk.of {w : D.World} (h : w.sz ≤ 1048576) : WOk w := by
  simp only [D.World.sz, D.Cloud.sz] at h
  unfold WOk
  omega
theorem bytes_ok {s : ByteArray} (h : ¬ ((s.size : Int) > 1048576)) : (bytesI s).length ≤ 34359738300 := by
  unfold bytesI
  rw [List.length_map]
  have : s.data.toList.length = s.size := Array.length_toList
  omega
theorem reach_has (w : D.World) : ∀ x ∈ reachF w, hasDevF w x = true := by
  intro x hx
  unfold reachF at hx
  obtain ⟨i, hi, rfl⟩ := List.mem_map.1 hx
  obtain ⟨h1, h2⟩ := List.mem_filter.1 hi
  simp only [List.mem_range] at h1
  simp only [hasDevF, Bool.and_eq_true, decide_eq_true_eq]
  have e : (Int.ofNat i) = (i : Int) := rfl
  rw [e]; omega
theorem eqB_self (e : D.Entry) : D.Entry.eqB e e = true := by simp [D.Entry.eqB]
theorem eqBundles_self (b : D.Bundle) : eqBundlesF b b = true := by
  unfold eqBundlesF
  have : ∀ l : List D.Entry, (List.zipWith D.Entry.eqB l l).all id = true := by
    intro l; induction l with
    | nil => rfl
    | cons x xs ih => simp only [List.zipWith_cons_cons, List.all_cons, ih, id, eqB_self, Bool.and_true]
  rw [this b.Entries]; simp
theorem conv_self (d : D.Device) : convB d d = true := by simp [convB, eqBundles_self]
def decB (k : Int) (i : Nat) (z : Int) : Int := IntKind.u8.wrap ((z - keyedI k [(i : Int)]) % 256)
def decF (k : Int) (b : List Int) : List Int := catI (fun i z => [decB k i z]) 0 b
theorem modI_256 (x : Int) : modI (IntKind.i64.wrap x) 256 = x % 256 := by
  rw [modI, if_pos (by omega), IntKind.wrap_i64]; omega
theorem dec_impl (k : Int) (i : Nat) (z : Int) : IntKind.u8.wrap (modI (IntKind.i64.wrap (IntKind.i64.wrap z - keyedI k [(i : Int)])) 256) = decB k i z := by
  rw [modI_256, decB, IntKind.wrap_i64]; congr 1; omega
theorem dec_spec (k : Int) (i : Nat) (z : Int) : IntKind.u8.wrap (modI (IntKind.i64.wrap (IntKind.i64.wrap z - (keyedI k [(i : Int)]).tmod 256)) 256) = decB k i z := by
  rw [modI_256, decB, IntKind.wrap_i64, Int.tmod_eq_emod_of_nonneg (keyedI_range _ _).1]; congr 1; omega
theorem catI_len {α β : Type} {y : Nat → α → β} : ∀ {i : Nat} {l : List α}, (catI (fun i x => [y i x]) i l).length = l.length
  | i, [] => rfl
  | i, x :: xs => by simp [catI, catI_len]
def boxKeyF (p e : Int) : Int := deriveF p [163, e]
def macF (k : Int) (b : D.Box) : Int := keyedI k ([167, b.To, b.Ephemeral] ++ b2iF b.Data)
def openBoxF (p : Int) (b : D.Box) : List Int × Bool :=
  bif !keyF p || (b.To != publicF p || (!keyF b.Ephemeral || decide ((b.Data.length : Int) > 200))) then ([], false)
  else bif b.MAC != macF (boxKeyF p b.Ephemeral) b then ([], false) else (decF (boxKeyF p b.Ephemeral) b.Data, true)
def findBoxF : List D.Box → Int → List Int × Bool
  | [], _ => ([], false)
  | b :: bs, p => bif (openBoxF p b).2 then ((openBoxF p b).1, true) else findBoxF bs p
theorem findBox_run (p : Int) : ∀ (bs : List D.Box) (i : Nat), nx (runL (τ := (List Int × Bool) ⊕ Unit) (fun _ b r => bif (openBoxF p b).2 then some (.inl ((openBoxF p b).1, true)) else r) (some (.inr ())) i bs) (fun _ => some (([] : List Int), false)) = some (findBoxF bs p)
  | [], i => rfl
  | b :: bs, i => by
    simp only [runL, findBoxF]
    cases (openBoxF p b).2 with
    | true => rfl
    | false => exact findBox_run p bs (i + 1)
def bytesOk (b : List Int) : Prop := b.length ≤ 34359738368 ∧ b.all (fun z => decide (0 ≤ z) && decide (z ≤ 255)) = true
instance (b : List Int) : Decidable (bytesOk b) := inferInstanceAs (Decidable (_ ∧ _))
theorem bytesOk_get {b : List Int} (h : bytesOk b) {i : Nat} (hi : i < b.length) : 0 ≤ b[i] ∧ b[i] ≤ 255 := by
  have := List.all_eq_true.1 h.2 b[i] (List.getElem_mem hi)
  simpa using this
/-- Read from place p on: k more places, the i-th at hand, n so far. -/
def uvG (b : List Int) (p : Nat) : Nat → Nat → Int → Int × Int × Bool
  | 0, _, _ => (0, 0, false)
  | k + 1, i, n =>
    if p + i < b.length then
      bif decide (b.getD (p + i) 0 < 128) then
        (bif (decide (0 < i) && b.getD (p + i) 0 == 0) || decide (n + b.getD (p + i) 0 % 128 * 128 ^ i > 1000000000000) then (0, 0, false) else (n + b.getD (p + i) 0 % 128 * 128 ^ i, ((p + i + 1 : Nat) : Int), true))
      else uvG b p k (i + 1) (n + b.getD (p + i) 0 % 128 * 128 ^ i)
    else (0, 0, false)
def uvF (b : List Int) (at_ : Int) : Int × Int × Bool := if at_ < 0 then (0, 0, false) else uvG b at_.toNat 6 0 0
theorem pow128 {i : Nat} (h : i ≤ 6) : (1 : Int) ≤ 128 ^ i ∧ (128 : Int) ^ i ≤ 4398046511104 := by
  match i, h with
  | 0, _ | 1, _ | 2, _ | 3, _ | 4, _ | 5, _ | 6, _ => decide
theorem uv_step {z n : Int} {i : Nat} (hi : i ≤ 5) (hz : 0 ≤ z) (hn : 0 ≤ n) (hn' : n < 128 ^ i) : 0 ≤ n + z % 128 * 128 ^ i ∧ n + z % 128 * 128 ^ i < 128 ^ (i + 1) ∧ 0 ≤ z % 128 * 128 ^ i ∧ z % 128 * 128 ^ i ≤ 127 * 128 ^ i := by
  have hp := pow128 (i := i) (by omega)
  have h1 : 0 ≤ z % 128 * 128 ^ i := Int.mul_nonneg (by omega) (by omega)
  have h2 : z % 128 * 128 ^ i ≤ 127 * 128 ^ i := Int.mul_le_mul_of_nonneg_right (by omega) (by omega)
  rw [Int.pow_succ]
  refine ⟨by omega, by omega, h1, h2⟩
theorem or_step {z n : Int} {i : Nat} (hi : i ≤ 5) (hz : 0 ≤ z) (hz' : z ≤ 255) (hn : 0 ≤ n) (hn' : n < 128 ^ i) :
    orI .i64 n (shlI .i64 (andI .i64 z 127) (IntKind.i64.wrap (7 * (i : Int)))) = n + z % 128 * 128 ^ i := by
  obtain ⟨m, rfl⟩ := Int.eq_ofNat_of_zero_le hz
  obtain ⟨q, rfl⟩ := Int.eq_ofNat_of_zero_le hn
  have hp := pow128 (i := i) (by omega)
  have hs := uv_step (z := (m : Int)) (n := (q : Int)) hi (by omega) (by omega) hn'
  have ha : andI .i64 (m : Int) 127 = ((m % 128 : Nat) : Int) := by
    have e : ((BitVec.ofInt 64 (m : Int)) &&& (BitVec.ofInt 64 127)).toNat = m % 128 := by
      rw [BitVec.toNat_and]
      have e1 : (BitVec.ofInt 64 (m : Int)).toNat = m := by
        rw [BitVec.toNat_ofInt]; omega
      have e2 : (BitVec.ofInt 64 127).toNat = 2 ^ 7 - 1 := by decide
      rw [e1, e2, Nat.and_two_pow_sub_one_eq_mod]
    show IntKind.i64.wrap (((BitVec.ofInt 64 (m : Int)) &&& (BitVec.ofInt 64 127)).toNat : Int) = _
    rw [e]; exact wrap64_id (by omega) (by omega)
  have hw : IntKind.i64.wrap (7 * (i : Int)) = ((7 * i : Nat) : Int) := by rw [wrap64_id (by omega) (by omega)]; omega
  have hpn : (2 : Nat) ^ (7 * i) = 128 ^ i := by rw [Nat.pow_mul]
  have hpi : ((128 ^ i : Nat) : Int) = (128 : Int) ^ i := by simp
  have hb : shlI .i64 (andI .i64 (m : Int) 127) (IntKind.i64.wrap (7 * (i : Int))) = ((m % 128 * 128 ^ i : Nat) : Int) := by
    rw [ha, hw]
    unfold shlI
    rw [Int.toNat_natCast, show min (7 * i) IntKind.i64.bits = 7 * i from Nat.min_eq_left (by simp [IntKind.bits]; omega)]
    have e3 : ((m % 128 : Nat) : Int) * 2 ^ (7 * i) = ((m % 128 * 128 ^ i : Nat) : Int) := by
      rw [← hpn]; simp
    rw [e3]
    have : ((m % 128 * 128 ^ i : Nat) : Int) = (m : Int) % 128 * 128 ^ i := by simp
    rw [this]
    exact wrap64_id (by omega) (by omega)
  rw [hb]
  have hqlt : q < 128 ^ i := by rw [← hpi] at hn'; exact_mod_cast hn'
  have hor : (m % 128 * 128 ^ i) ||| q = m % 128 * 128 ^ i + q := by
    have := Nat.shiftLeft_add_eq_or_of_lt (b := q) (i := 7 * i) (by rw [hpn]; exact hqlt) (m % 128)
    rw [Nat.shiftLeft_eq, hpn] at this
    exact this.symm
  have hle : m % 128 * 128 ^ i + q < 2 ^ 63 := by
    have : ((m % 128 * 128 ^ i + q : Nat) : Int) = q + (m : Int) % 128 * 128 ^ i := by simp; omega
    omega
  have e4 : ((BitVec.ofInt 64 (q : Int)) ||| (BitVec.ofInt 64 ((m % 128 * 128 ^ i : Nat) : Int))).toNat = m % 128 * 128 ^ i + q := by
    rw [BitVec.toNat_or]
    have e5 : (BitVec.ofInt 64 (q : Int)).toNat = q := by rw [BitVec.toNat_ofInt]; omega
    have e6 : (BitVec.ofInt 64 ((m % 128 * 128 ^ i : Nat) : Int)).toNat = m % 128 * 128 ^ i := by rw [BitVec.toNat_ofInt]; omega
    rw [e5, e6, Nat.or_comm, hor]
  show IntKind.i64.wrap (((BitVec.ofInt 64 (q : Int)) ||| (BitVec.ofInt 64 ((m % 128 * 128 ^ i : Nat) : Int))).toNat : Int) = _
  rw [e4, wrap64_id (by omega) (by omega)]
  simp
  omega
def decG (b : List Int) : Nat → Int → List Int → List Int × Int × Bool
  | 0, a, s => (s, a, true)
  | k + 1, a, s => bif (uvF b a).2.2 then decG b k (uvF b a).2.1 (s ++ [(uvF b a).1]) else ([], 0, false)
def decodeF (b : List Int) (a c : Int) : List Int × Int × Bool := bif !inR c 0 100 || !inR a 0 b.length then ([], 0, false) else decG b c.toNat a []
theorem decG_len (b : List Int) : ∀ (k : Nat) (a : Int) (s : List Int), (decG b k a s).2.2 = true → (decG b k a s).1.length = s.length + k
  | 0, a, s, _ => rfl
  | k + 1, a, s, h => by
    unfold decG at h ⊢
    cases hu : (uvF b a).2.2 with
    | false => rw [hu] at h; simp at h
    | true =>
      rw [hu] at h
      simp only [cond_true] at h ⊢
      rw [decG_len b k _ _ h]; simp; omega
theorem decode_len {b : List Int} {a c : Int} (hc : 0 ≤ c) (h : (decodeF b a c).2.2 = true) : (decodeF b a c).1.length = c.toNat := by
  unfold decodeF at h ⊢
  cases hx : (!inR c 0 100 || !inR a 0 b.length) with
  | true => rw [hx] at h; simp at h
  | false =>
    rw [hx] at h
    simp only [cond_false] at h ⊢
    rw [decG_len _ _ _ _ h]; simp
theorem decF_ok {k : Int} {b : List Int} (h : b.length ≤ 34359738368) : bytesOk (decF k b) := by
  refine ⟨by unfold decF; rw [catI_len]; exact h, ?_⟩
  rw [List.all_eq_true]
  intro z hz
  have : ∀ (b : List Int) (i : Nat), z ∈ catI (fun i z => [decB k i z]) i b → 0 ≤ z ∧ z ≤ 255 := by
    intro b
    induction b with
    | nil => intro i h; simp [catI] at h
    | cons x xs ih =>
      intro i h
      simp only [catI, List.mem_append, List.mem_singleton] at h
      rcases h with rfl | h
      · have := wrap_range .u8 ((x - keyedI k [(i : Int)]) % 256)
        simpa [decB, IntKind.min, IntKind.max, IntKind.signed, IntKind.bits] using this
      · exact ih _ h
  have := this b 0 hz
  simp [this.1, this.2]
theorem openBox_ok (p : Int) (b : D.Box) : bytesOk (openBoxF p b).1 := by
  unfold openBoxF
  have h0 : bytesOk ([] : List Int) := by decide
  by_cases hl : b.Data.length ≤ 200
  · cases (!keyF p || (b.To != publicF p || (!keyF b.Ephemeral || decide ((b.Data.length : Int) > 200)))) <;> cases (b.MAC != macF (boxKeyF p b.Ephemeral) b) <;> first | exact h0 | exact decF_ok (by omega)
  · have e1 : decide ((b.Data.length : Int) > 200) = true := by simp; omega
    rw [e1]; simpa using h0
theorem findBox_ok (p : Int) : ∀ bs, bytesOk (findBoxF bs p).1
  | [] => show bytesOk [] by decide
  | b :: bs => by
    unfold findBoxF
    cases (openBoxF p b).2 with
    | true => exact openBox_ok p b
    | false => exact findBox_ok p bs
def openEpochG (e : D.EpochBoxes) (x : List Int × Bool) (y : List Int × Int × Bool) : Int × Bool :=
  bif !x.2 || (!y.2.2 || (y.2.1 != (x.1.length : Int) || (y.1.getD 0 0 != e.Epoch || !keyF (y.1.getD 1 0)))) then (0, false) else (y.1.getD 1 0, true)
def openEpochF (s : D.KeyStore) (e : D.EpochBoxes) : Int × Bool := openEpochG e (findBoxF e.Boxes (devKeyF s)) (decodeF (findBoxF e.Boxes (devKeyF s)).1 0 2)
def keysAgreeF (w : D.World) (d : Int) : Bool := hasDevF w d && (!inListF w d || ((devAt w d).Epoch != epochOfF w.Cloud.Log || (devAt w d).Key == (openEpochF (devAt w d).Store w.Cloud.Boxes).1))
def fmtWorldF (w : D.World) : ByteArray := fmtInt w.Now ++ ⟨#[32]⟩ ++ fmtInt (countF w) ++ ⟨#[47]⟩ ++ fmtInt (w.Devices.length : Int) ++ ⟨#[32]⟩ ++ fmtInt (epochOfF w.Cloud.Log) ++ ⟨#[32]⟩ ++ fmtInt (w.Cloud.History.length : Int)
noncomputable def m_spec_l1In (x_ : Int) (least_ : Int) (most_ : Int) : Option Bool := bd ((bif (decide (x_ ≥ least_)) then some (decide (x_ ≤ most_)) else some false)) fun j0_6 => some j0_6

theorem t_spec_l1In (n a b : Int) : m_spec_l1In n a b = some (inR n a b) := by simp [m_spec_l1In, inR]


noncomputable def m_spec_Mod (n_ : Int) (m_ : Int) : Option Int := (bif (!(inR m_ (1 : Int) (1000000000000 : Int))) then some (0 : Int) else gd (m_ ≠ 0) <| gd (m_ ≠ 0) <| some ((IntKind.i64.wrap (n_.tmod m_ + m_)).tmod m_))

theorem t_spec_Mod (p q : Int) : m_spec_Mod p q = some (modI p q) := by
  unfold m_spec_Mod
  by_cases h : 1 ≤ q ∧ q ≤ 1000000000000
  · simp [inR, h.1, h.2, gd_t (show q ≠ 0 by omega), modI_s h]
  · rw [modI_0 h]
    rcases (show q < 1 ∨ q > 1000000000000 by omega) with h | h
    · simp [inR, show ¬ 1 ≤ q by omega]
    · simp [inR, show ¬ q ≤ 1000000000000 by omega]


noncomputable def m_spec_Max (a_ : Int) (b_ : Int) : Option Int := (bif (decide (b_ > a_)) then some b_ else some a_)

theorem t_spec_Max (a b : Int) : m_spec_Max a b = some (maxF a b) := by simp [m_spec_Max, maxF]


noncomputable def m_impl_Mod (p_ : Int) (q_ : Int) : Option Int := bd ((bif (decide (q_ < (1 : Int))) then some true else some (decide (q_ > (1000000000000 : Int))))) fun j0_11 => (bif j0_11 then some (0 : Int) else gd (q_ ≠ 0) <| bd ((bif (decide (p_.tmod q_ < (0 : Int))) then some (IntKind.i64.wrap (p_.tmod q_ + q_)) else some (p_.tmod q_))) fun j1_5 => some j1_5)

theorem t_impl_Mod (p q : Int) : m_impl_Mod p q = some (modI p q) := by
  unfold m_impl_Mod
  simp only [bd_bb]
  by_cases h : 1 ≤ q ∧ q ≤ 1000000000000
  · rw [gd_t (by omega)]
    by_cases ht : p.tmod q < 0
    · simp [h, ht, show ¬ q < 1 by omega, show ¬ q > 1000000000000 by omega, modI_n h ht]
      rw [IntKind.wrap_i64]; have := tmod_split (p := p) (q := q) h.1; omega
    · simp [h, ht, show ¬ q < 1 by omega, show ¬ q > 1000000000000 by omega, modI_p h ht]
  · rw [modI_0 h]
    rcases (show q < 1 ∨ q > 1000000000000 by omega) with h | h <;> simp [h]


noncomputable def m_spec_BytesToInts_l0 (b_ : List Int) : Nat → (Nat × (List Int)) → Option (List Int)
  | 0, _ => none
  | f + 1, (i0, v0r1) => (bif (decide ((i0 : Int) < (b_.length : Int))) then bd (atq b_ (i0 : Int)) fun z5 => gd (apOk v0r1 ([IntKind.i64.wrap z5] : List Int)) <| m_spec_BytesToInts_l0 b_ f (i0 + 1, (v0r1 ++ ([IntKind.i64.wrap z5] : List Int))) else some v0r1)
noncomputable def m_spec_BytesToInts (b_ : List Int) : Option (List Int) := bd (m_spec_BytesToInts_l0 b_ (b_.length + 1) (0, ([(b_.length : Int)] : List Int))) fun j0r1 => some j0r1

theorem t_spec_BytesToInts (b : List Int) (h : b.length ≤ 34359738300) : m_spec_BytesToInts b = some (b2iF b) := by
  unfold m_spec_BytesToInts
  rw [bd_id, loopS0 b (fun f i s => m_spec_BytesToInts_l0 b f (i, s)) (fun i s x k => gd (apOk s [IntKind.i64.wrap x]) (k (s ++ [IntKind.i64.wrap x]))) (fun s => some s) (by omega)
    (fun f i s h => by rw [m_spec_BytesToInts_l0]; simp [h, atq_nat h]) (fun f i s h => by rw [m_spec_BytesToInts_l0]; simp [h]),
    runS_app (y := fun _ x => [IntKind.i64.wrap x]) (by rw [catI_map]; simp; omega), catI_map]; rfl


noncomputable def m_spec_Hash_l0 (l_ : List Int) : Nat → (Int × Nat) → Option Int
  | 0, _ => none
  | f + 1, (v0_3, i0) => (bif (decide ((i0 : Int) < (l_.length : Int))) then bd (atq l_ (i0 : Int)) fun z5 => m_spec_Hash_l0 l_ f ((IntKind.i64.wrap (IntKind.i64.wrap (IntKind.i64.wrap (v0_3 * (1000003 : Int)) + (modI z5 (2147483647 : Int))) + (13 : Int))).tmod (2147483647 : Int), i0 + 1) else some v0_3)
noncomputable def m_spec_Hash (l_ : List Int) : Option Int := bd (m_spec_Hash_l0 l_ (l_.length + 1) ((11 : Int), 0)) fun j0_3 => some j0_3

theorem t_spec_Hash (l : List Int) : m_spec_Hash l = some (hashI l) := by
  unfold m_spec_Hash
  rw [bd_id, loopS0 l (fun f i s => m_spec_Hash_l0 l f (s, i)) (fun _ s x k => k (hstep s x)) (fun s => some s) (by omega)
    (fun f i s h => by rw [m_spec_Hash_l0]; simp [h, atq_nat h, hstep]) (fun f i s h => by rw [m_spec_Hash_l0]; simp [h]), runS_fold]; rfl


noncomputable def m_spec_KeyedHash (secret_ : Int) (l_ : List Int) : Option Int := gd (apOk ([secret_] : List Int) l_) <| gd (apOk (([secret_] : List Int) ++ l_) ([secret_] : List Int)) <| some (hashI ((([secret_] : List Int) ++ l_) ++ ([secret_] : List Int)))

theorem t_spec_KeyedHash (k : Int) (l : List Int) (h : l.length ≤ 34359738368) : m_spec_KeyedHash k l = some (keyedI k l) := by
  unfold m_spec_KeyedHash
  rw [gd_t (by simp [apOk]; omega), gd_t (by simp [apOk]; omega)]
  simp [keyedI]


noncomputable def m_spec_DeriveFromString (secret_ : Int) (s_ : ByteArray) : Option Int := gd ((bytesI s_).length ≤ 34359738300) <| gd ((b2iF (bytesI s_)).length ≤ 34359738368) <| some (maxF (1 : Int) (keyedI secret_ (b2iF (bytesI s_))))

theorem t_spec_DeriveFromString (k : Int) (s : ByteArray) (h : (bytesI s).length ≤ 34359738300) : m_spec_DeriveFromString k s = some (deriveSF k s) := by
  unfold m_spec_DeriveFromString
  rw [gd_t h, gd_t (by simp [b2iF]; omega), maxF_one (keyedI_range _ _).1]; rfl


noncomputable def m_impl_BytesToInts_l0 (b_ : List Int) : Nat → (Nat × (List Int)) → Option (List Int)
  | 0, _ => none
  | f + 1, (i0, v0r1) => (bif (decide ((i0 : Int) < (b_.length : Int))) then bd (atq b_ (i0 : Int)) fun z5 => gd (apOk v0r1 ([IntKind.i64.wrap z5] : List Int)) <| m_impl_BytesToInts_l0 b_ f (i0 + 1, (v0r1 ++ ([IntKind.i64.wrap z5] : List Int))) else some v0r1)
noncomputable def m_impl_BytesToInts (b_ : List Int) : Option (List Int) := bd (m_impl_BytesToInts_l0 b_ (b_.length + 1) (0, ([(b_.length : Int)] : List Int))) fun j0r1 => some j0r1

theorem t_impl_BytesToInts (b : List Int) (h : b.length ≤ 34359738300) : m_impl_BytesToInts b = some (b2iF b) := by
  unfold m_impl_BytesToInts
  rw [bd_id, loopS0 b (fun f i s => m_impl_BytesToInts_l0 b f (i, s)) (fun i s x k => gd (apOk s [IntKind.i64.wrap x]) (k (s ++ [IntKind.i64.wrap x]))) (fun s => some s) (by omega)
    (fun f i s h => by rw [m_impl_BytesToInts_l0]; simp [h, atq_nat h]) (fun f i s h => by rw [m_impl_BytesToInts_l0]; simp [h]),
    runS_app (y := fun _ x => [IntKind.i64.wrap x]) (by rw [catI_map]; simp; omega), catI_map]; rfl


noncomputable def m_impl_joined_l0 (rest_ : List (List Int)) : Nat → (Nat × (List Int)) → Option (List Int)
  | 0, _ => none
  | f + 1, (i0, v0r1) => (bif (decide ((i0 : Int) < (rest_.length : Int))) then bd (atq rest_ (i0 : Int)) fun z6 => gd (apOk v0r1 z6) <| m_impl_joined_l0 rest_ f (i0 + 1, (v0r1 ++ z6)) else some v0r1)
noncomputable def m_impl_joined (first_ : List Int) (rest_ : List (List Int)) : Option (List Int) := gd (apOk ([] : List Int) first_) <| bd (m_impl_joined_l0 rest_ (rest_.length + 1) (0, (([] : List Int) ++ first_))) fun j0r1 => some j0r1

theorem t_impl_joined (a : List Int) (r : List (List Int)) (h : a.length + r.flatten.length ≤ 68719476736) : m_impl_joined a r = some (joinF a r) := by
  unfold m_impl_joined
  rw [gd_t (by simp [apOk]; omega), bd_id, loopS0 r (fun f i s => m_impl_joined_l0 r f (i, s)) (fun i s x k => gd (apOk s x) (k (s ++ x))) (fun s => some s) (by omega)
    (fun f i s h => by rw [m_impl_joined_l0]; simp [h, atq_nat h]) (fun f i s h => by rw [m_impl_joined_l0]; simp [h])]
  have hc : catI (fun _ (x : List Int) => x) 0 r = r.flatten := by
    have : ∀ (r : List (List Int)) (i : Nat), catI (fun _ (x : List Int) => x) i r = r.flatten := by
      intro r; induction r with
      | nil => intro i; rfl
      | cons x xs ih => intro i; simp [catI, ih]
    exact this r 0
  rw [runS_app (y := fun _ x => x) (by rw [hc]; simp only [List.length_append, List.length_nil]; omega), hc]; rfl


noncomputable def m_impl_Hash_l0 (values_ : List Int) : Nat → (Int × Nat) → Option Int
  | 0, _ => none
  | f + 1, (v0_3, i0) => (bif (decide ((i0 : Int) < (values_.length : Int))) then bd (atq values_ (i0 : Int)) fun z5 => m_impl_Hash_l0 values_ f ((IntKind.i64.wrap (IntKind.i64.wrap (IntKind.i64.wrap (v0_3 * (1000003 : Int)) + (modI z5 (2147483647 : Int))) + (13 : Int))).tmod (2147483647 : Int), i0 + 1) else some v0_3)
noncomputable def m_impl_Hash (values_ : List Int) : Option Int := bd (m_impl_Hash_l0 values_ (values_.length + 1) ((11 : Int), 0)) fun j0_3 => some j0_3

theorem t_impl_Hash (l : List Int) : m_impl_Hash l = some (hashI l) := by
  unfold m_impl_Hash
  rw [bd_id, loopS0 l (fun f i s => m_impl_Hash_l0 l f (s, i)) (fun _ s x k => k (hstep s x)) (fun s => some s) (by omega)
    (fun f i s h => by rw [m_impl_Hash_l0]; simp [h, atq_nat h, hstep]) (fun f i s h => by rw [m_impl_Hash_l0]; simp [h]), runS_fold]; rfl


noncomputable def m_impl_KeyedHash (key_ : Int) (values_ : List Int) : Option Int := gd (([key_] : List Int).length + ([values_, ([key_] : List Int)] : List (List Int)).flatten.length ≤ 68719476736) <| some (hashI (joinF ([key_] : List Int) ([values_, ([key_] : List Int)] : List (List Int))))

theorem t_impl_KeyedHash (k : Int) (l : List Int) (h : l.length ≤ 34359738368) : m_impl_KeyedHash k l = some (keyedI k l) := by
  unfold m_impl_KeyedHash
  rw [gd_t (by simp; omega)]
  simp [keyedI, joinF]


noncomputable def m_impl_orOne (n_ : Int) : Option Int := (bif (n_ == (0 : Int)) then some (1 : Int) else some n_)

theorem t_impl_orOne (n : Int) : m_impl_orOne n = some (orOneF n) := by simp [m_impl_orOne, orOneF]


noncomputable def m_impl_DeriveFromString (key_ : Int) (label_ : ByteArray) : Option Int := gd ((bytesI label_).length ≤ 34359738300) <| gd ((b2iF (bytesI label_)).length ≤ 34359738368) <| some (orOneF (keyedI key_ (b2iF (bytesI label_))))

theorem t_impl_DeriveFromString (k : Int) (s : ByteArray) (h : (bytesI s).length ≤ 34359738300) : m_impl_DeriveFromString k s = some (deriveSF k s) := by
  unfold m_impl_DeriveFromString
  rw [gd_t h, gd_t (by simp [b2iF]; omega)]; rfl


noncomputable def m_spec_SiteHash (site_ : ByteArray) : Option Int := gd ((bytesI site_).length ≤ 34359738300) <| some (deriveSF (173 : Int) site_)

theorem t_spec_SiteHash (s : ByteArray) (h : (bytesI s).length ≤ 34359738300) : m_spec_SiteHash s = some (siteHashF s) := by
  unfold m_spec_SiteHash; rw [gd_t h]; rfl


noncomputable def m_impl_SiteHash (site_ : ByteArray) : Option Int := gd ((bytesI site_).length ≤ 34359738300) <| some (deriveSF (173 : Int) site_)

theorem t_impl_SiteHash (s : ByteArray) (h : (bytesI s).length ≤ 34359738300) : m_impl_SiteHash s = some (siteHashF s) := by
  unfold m_impl_SiteHash; rw [gd_t h]; rfl


noncomputable def m_spec_FindEntry_l0 (b_ : D.Bundle) (site_ : Int) (handle_ : Int) : Nat → Nat → Option (Int ⊕ Unit)
  | 0, _ => none
  | f + 1, i0 => (bif (decide ((i0 : Int) < (b_.Entries.length : Int))) then bd (bd (atq b_.Entries (i0 : Int)) fun z5 => (bif (z5.Site == site_) then some (z5.Handle == handle_) else some false)) fun j1_32 => (bif j1_32 then some (.inl (i0 : Int)) else m_spec_FindEntry_l0 b_ site_ handle_ f (i0 + 1)) else some (.inr ()))
noncomputable def m_spec_FindEntry (b_ : D.Bundle) (site_ : Int) (handle_ : Int) : Option Int := nx (m_spec_FindEntry_l0 b_ site_ handle_ (b_.Entries.length + 1) 0) fun _ => some (-1 : Int)

theorem t_spec_FindEntry (b : D.Bundle) (s h : Int) : m_spec_FindEntry b s h = some (findEntryF b s h) := by
  unfold m_spec_FindEntry
  exact loopFind b.Entries (m_spec_FindEntry_l0 b s h) (fun e => e.Site == s && e.Handle == h) (by omega) (fun f i h => by rw [m_spec_FindEntry_l0]; simp [h, atq_nat h]) (fun f i h => by rw [m_spec_FindEntry_l0]; simp [h])


noncomputable def m_impl_FindEntry_l0 (b_ : D.Bundle) (site_ : Int) (handle_ : Int) : Nat → Nat → Option (Int ⊕ Unit)
  | 0, _ => none
  | f + 1, i0 => (bif (decide ((i0 : Int) < (b_.Entries.length : Int))) then bd (atq b_.Entries (i0 : Int)) fun z4 => bd ((bif (z4.Site == site_) then some (z4.Handle == handle_) else some false)) fun j1_26 => (bif j1_26 then some (.inl (i0 : Int)) else m_impl_FindEntry_l0 b_ site_ handle_ f (i0 + 1)) else some (.inr ()))
noncomputable def m_impl_FindEntry (b_ : D.Bundle) (site_ : Int) (handle_ : Int) : Option Int := nx (m_impl_FindEntry_l0 b_ site_ handle_ (b_.Entries.length + 1) 0) fun _ => some (-1 : Int)

theorem t_impl_FindEntry (b : D.Bundle) (s h : Int) : m_impl_FindEntry b s h = some (findEntryF b s h) := by
  unfold m_impl_FindEntry
  exact loopFind b.Entries (m_impl_FindEntry_l0 b s h) (fun e => e.Site == s && e.Handle == h) (by omega) (fun f i h => by rw [m_impl_FindEntry_l0]; simp [h, atq_nat h]) (fun f i h => by rw [m_impl_FindEntry_l0]; simp [h])


noncomputable def m_impl_hasDevice (w_ : D.World) (device_ : Int) : Option Bool := bd ((bif (decide (device_ ≥ (0 : Int))) then some (decide (device_ < (w_.Devices.length : Int))) else some false)) fun j0_4 => some j0_4

theorem t_impl_hasDevice (w : D.World) (d : Int) : m_impl_hasDevice w d = some (hasDevF w d) := by simp [m_impl_hasDevice, hasDevF]


noncomputable def m_spec_KnowsAccount (w_ : D.World) (device_ : Int) (site_ : ByteArray) (handle_ : Int) : Option Bool := (bif (!(inR device_ (0 : Int) (IntKind.i64.wrap ((w_.Devices.length : Int) - (1 : Int))))) then some false else bd (atq w_.Devices device_) fun z2 => gd ((bytesI site_).length ≤ 34359738300) <| bd ((bif (decide ((findEntryF z2.Bundle (siteHashF site_) handle_) ≥ (0 : Int))) then bd (atq z2.Bundle.Entries (findEntryF z2.Bundle (siteHashF site_) handle_)) fun z7 => some (!z7.Deleted) else some false)) fun j0_8 => some j0_8)

theorem knows_aux (b : D.Bundle) (k : Int) (s h : Int) (hk : k = findEntryF b s h) : (bd (bif decide (k ≥ 0) then bd (atq b.Entries k) fun z => some (!z.Deleted) else some false) fun j => some j) = some (!decide (k < 0) && !(b.Entries.getD k.toNat default).Deleted) := by
  rw [bd_id]
  by_cases h0 : k < 0
  · simp [h0, show ¬ 0 ≤ k by omega]
  · have hlt : k.toNat < b.Entries.length := by
      obtain ⟨k1, k2⟩ := findP_lt (show 0 ≤ findP (fun e => e.Site == s && e.Handle == h) 0 b.Entries by unfold findEntryF at hk; omega)
      unfold findEntryF at hk; omega
    rw [atq_int (by omega) hlt]
    simp [h0, show 0 ≤ k by omega, List.getD, List.getElem?_eq_getElem hlt]
theorem t_spec_KnowsAccount (w : D.World) (d : Int) (s : ByteArray) (h : Int) (hw : WOk w) (hs : (bytesI s).length ≤ 34359738300) : m_spec_KnowsAccount w d s h = some (knowsF w d s h) := by
  unfold m_spec_KnowsAccount knowsF
  rw [hasDev_in hw]
  cases hd : hasDevF w d with
  | false => rfl
  | true =>
    simp only [Bool.not_true, cond_false, atq_dev hd, bd_s, gd_t hs, Bool.true_and]
    exact knows_aux _ _ _ _ rfl


noncomputable def m_impl_KnowsAccount (w_ : D.World) (device_ : Int) (site_ : ByteArray) (handle_ : Int) : Option Bool := (bif (!(hasDevF w_ device_)) then some false else bd (atq w_.Devices device_) fun z2 => gd ((bytesI site_).length ≤ 34359738300) <| bd ((bif (decide ((findEntryF z2.Bundle (siteHashF site_) handle_) ≥ (0 : Int))) then bd (atq z2.Bundle.Entries (findEntryF z2.Bundle (siteHashF site_) handle_)) fun z7 => some (!z7.Deleted) else some false)) fun j0_8 => some j0_8)

theorem t_impl_KnowsAccount (w : D.World) (d : Int) (s : ByteArray) (h : Int) (hs : (bytesI s).length ≤ 34359738300) : m_impl_KnowsAccount w d s h = some (knowsF w d s h) := by
  unfold m_impl_KnowsAccount knowsF
  cases hd : hasDevF w d with
  | false => rfl
  | true =>
    simp only [Bool.not_true, cond_false, atq_dev hd, bd_s, gd_t hs, Bool.true_and]
    exact knows_aux _ _ _ _ rfl

end Go.VK
