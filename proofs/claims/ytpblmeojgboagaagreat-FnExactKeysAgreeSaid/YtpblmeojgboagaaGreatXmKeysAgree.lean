/-
  Printed by wip/tools (own work of this part): models of functions, walks over the value kit, and proofs.
-/
import Derived.Test.YtpblmeojgboagaaGreatXsKeysAgree
set_option linter.unusedVariables false
set_option linter.unusedSimpArgs false
set_option maxRecDepth 100000
set_option maxHeartbeats 4000000
namespace Go.VK
open Go.RowKit Go.Proofs
def markF (k : D.Keeper) : Int := IntKind.i64.wrap (IntKind.i64.wrap (k.Epoch * 1000) + k.Guesses)
def guessesWithinF (w : D.World) : Bool := !w.Hosts.any fun h => decide (h.State.Guesses > h.State.Limit) || decide (markF h.State > h.Monotonic)
theorem modI_pos {p q : Int} (h : 1 ≤ q ∧ q ≤ 1000000000000) : 0 ≤ modI p q ∧ modI p q < q := modI_range h
theorem hstep_range {h v : Int} (h0 : 0 ≤ h) (h1 : h < 2147483647) : 0 ≤ hstep h v ∧ hstep h v < 2147483647 := by
  have hm := modI_range (p := v) (q := 2147483647) (by omega)
  unfold hstep
  generalize modI v 2147483647 = z at *
  have e1 : IntKind.i64.wrap (h * 1000003) = h * 1000003 := wrap64_id (by omega) (by omega)
  have e2 : IntKind.i64.wrap (h * 1000003 + z) = h * 1000003 + z := wrap64_id (by omega) (by omega)
  have e3 : IntKind.i64.wrap (h * 1000003 + z + 13) = h * 1000003 + z + 13 := wrap64_id (by omega) (by omega)
  rw [e1, e2, e3]
  exact ⟨Int.tmod_nonneg _ (by omega), Int.tmod_lt_of_pos _ (by decide)⟩
theorem hashI_range (l : List Int) : 0 ≤ hashI l ∧ hashI l < 2147483647 := by
  unfold hashI
  suffices ∀ (l : List Int) (h : Int), 0 ≤ h → h < 2147483647 → 0 ≤ l.foldl hstep h ∧ l.foldl hstep h < 2147483647 from this l 11 (by omega) (by omega)
  intro l
  induction l with
  | nil => intro h h0 h1; exact ⟨h0, h1⟩
  | cons x xs ih => intro h h0 h1; exact ih _ (hstep_range h0 h1).1 (hstep_range h0 h1).2
theorem keyedI_range (k : Int) (l : List Int) : 0 ≤ keyedI k l ∧ keyedI k l < 2147483647 := hashI_range _
def maxF (a b : Int) : Int := bif decide (b > a) then b else a
def joinF (a : List Int) (r : List (List Int)) : List Int := a ++ r.flatten
def orOneF (n : Int) : Int := bif n == 0 then 1 else n
def keyF (n : Int) : Bool := inR n 1 2147483646
def b2iF (b : List Int) : List Int := [(b.length : Int)] ++ b.map IntKind.i64.wrap
def deriveF (seed : Int) (l : List Int) : Int := orOneF (keyedI seed ([151] ++ l))
def deriveSF (k : Int) (s : ByteArray) : Int := orOneF (keyedI k (b2iF (bytesI s)))
def publicF (p : Int) : Int := bif !(keyF p) then 0 else (IntKind.i64.wrap (p * 48271)).tmod 2147483647
def devKeyF (s : D.KeyStore) : Int := deriveF s.Seed [181]
def devPubF (s : D.KeyStore) : Int := publicF (devKeyF s)
def hasF (l : List Int) (x : Int) : Bool := l.any fun e => e == x
def removedF (log : List D.LogEntry) (p : Int) : Bool := log.any fun e => e.Kind == 2 && e.Device == p
def stepDev (s : List Int) (e : D.LogEntry) : List Int :=
  bif e.Kind == 1 then (bif s.contains e.Device then s else s ++ [e.Device]) else bif e.Kind == 2 then s.filter (fun d => d != e.Device) else s
def devicesOfF (log : List D.LogEntry) : List Int := log.foldl stepDev []
def epochOfF (log : List D.LogEntry) : Int := log.foldl (fun n e => bif e.Kind == 2 then IntKind.i64.wrap (n + 1) else n) 0
def findEntryF (b : D.Bundle) (site handle : Int) : Int := findP (fun e => e.Site == site && e.Handle == handle) 0 b.Entries
def findAccountF (s : D.Site) (id : Int) : Int := findP (fun a => a.Id == id) 0 s.Accounts
theorem stepDev_len (s : List Int) (x : D.LogEntry) : (stepDev s x).length ≤ s.length + 1 := by
  unfold stepDev
  cases x.Kind == 1 with
  | true => cases s.contains x.Device <;> simp
  | false =>
    cases x.Kind == 2 with
    | true => have := List.length_filter_le (fun d => d != x.Device) s; simp; omega
    | false => simp
theorem devicesOf_len (log : List D.LogEntry) : (devicesOfF log).length ≤ log.length := by
  suffices ∀ (l : List D.LogEntry) (s : List Int), (l.foldl stepDev s).length ≤ s.length + l.length from by simpa [devicesOfF] using this log []
  intro l
  induction l with
  | nil => intro s; simp
  | cons x xs ih =>
    intro s
    simp only [List.foldl_cons, List.length_cons]
    have h1 := ih (stepDev s x)
    have h2 : (stepDev s x).length ≤ s.length + 1 := by
      unfold stepDev
      cases x.Kind == 1 with
      | true => cases s.contains x.Device <;> simp
      | false =>
        cases x.Kind == 2 with
        | true => have := List.length_filter_le (fun d => d != x.Device) s; simp; omega
        | false => simp
    omega
theorem maxF_one {n : Int} (h : 0 ≤ n) : maxF 1 n = orOneF n := by
  unfold maxF orOneF
  rcases (show n = 0 ∨ n = 1 ∨ n > 1 by omega) with rfl | rfl | h1
  · rfl
  · rfl
  · have : (n == 0) = false := by simp; omega
    simp [h1, this]
def siteHashF (s : ByteArray) : Int := deriveSF 173 s
def L35 : Nat := 34359738368
def WOk (w : D.World) : Prop := w.Devices.length ≤ 34359738368 ∧ w.Stolen.length ≤ 34359738368 ∧ w.Cloud.Log.length ≤ 34359738368 ∧ w.Sites.length ≤ 34359738368
instance (w : D.World) : Decidable (WOk w) := inferInstanceAs (Decidable (_ ∧ _))
def hasDevF (w : D.World) (d : Int) : Bool := decide (0 ≤ d) && decide (d < w.Devices.length)
theorem hasDev_in {w : D.World} (h : WOk w) (d : Int) : inR d 0 (IntKind.i64.wrap ((w.Devices.length : Int) - 1)) = hasDevF w d := by
  have := h.1
  rw [wrap64_id (by omega) (by omega)]
  unfold inR hasDevF
  congr 1
  exact decide_eq_decide.2 (by omega)
def devAt (w : D.World) (d : Int) : D.Device := w.Devices.getD d.toNat default
theorem atq_dev {w : D.World} {d : Int} (h : hasDevF w d = true) : atq w.Devices d = some (devAt w d) := by
  simp only [hasDevF, Bool.and_eq_true, decide_eq_true_eq] at h
  rw [atq_int h.1 (by omega)]
  simp [devAt, List.getD, List.getElem?_eq_getElem (show d.toNat < w.Devices.length by omega)]
def inListF (w : D.World) (d : Int) : Bool := hasDevF w d && hasF (devicesOfF w.Cloud.Log) (devPubF (devAt w d).Store)
def isCutF (w : D.World) (d : Int) : Bool := hasDevF w d && removedF w.Cloud.Log (devPubF (devAt w d).Store)
def reachB (w : D.World) (i : Nat) : Bool := inListF w i && (decide (i < w.Stolen.length) && !w.Stolen.getD i false)
def reachF (w : D.World) : List Int := ((List.range w.Devices.length).filter (reachB w)).map Int.ofNat
def siteBad (d : Int) (s : D.Site) : Bool := !decide (findAccountF s 1 < 0) && (s.Accounts.getD (findAccountF s 1).toNat default).Credentials.any fun c => c.Handle == d && !c.Cut
def cutFinalF (w : D.World) (d : Int) : Bool := !isCutF w d || (!inListF w d && !(w.Sites.take 2).any (siteBad d))
def eqBundlesF (a b : D.Bundle) : Bool := a.Entries.length == b.Entries.length && (List.zipWith D.Entry.eqB a.Entries b.Entries).all id
def convB (a b : D.Device) : Bool := eqBundlesF a.Bundle b.Bundle && (a.Epoch == b.Epoch && (a.Version == b.Version && a.Key == b.Key))
def convF (w : D.World) : Bool := (reachF w).all fun i => convB (devAt w ((reachF w).getD 0 0)) (devAt w i)
def knowsF (w : D.World) (d : Int) (s : ByteArray) (h : Int) : Bool := hasDevF w d && (!decide (findEntryF (devAt w d).Bundle (siteHashF s) h < 0) && !((devAt w d).Bundle.Entries.getD (findEntryF (devAt w d).Bundle (siteHashF s) h).toNat default).Deleted)
def recKeyF (w : D.World) : Int := deriveF w.Seed [283]
theorem foldl_filter_map {α β : Type} {p : α → Bool} {f : α → β} : ∀ {l : List α} {s : List β}, l.foldl (fun s x => bif p x then s ++ [f x] else s) s = s ++ (l.filter p).map f
  | [], s => by simp
  | x :: xs, s => by
    simp only [List.foldl_cons, List.filter_cons]
    cases p x <;> simp [foldl_filter_map]
theorem reach_min (w : D.World) : (List.range (min w.Devices.length w.Stolen.length)).filter (reachB w) = (List.range w.Devices.length).filter (reachB w) := by
  rcases Nat.le_total w.Devices.length w.Stolen.length with h | h
  · rw [Nat.min_eq_left h]
  · rw [Nat.min_eq_right h]
    obtain ⟨k, hk⟩ := Nat.exists_eq_add_of_le h
    rw [hk, List.range_add, List.filter_append]
    have : ((List.range k).map (w.Stolen.length + ·)).filter (reachB w) = [] := by
      rw [List.filter_eq_nil_iff]
      intro i hi
      obtain ⟨j, _, rfl⟩ := List.mem_map.1 hi
      simp [reachB]
    rw [this, List.append_nil]
def countF (w : D.World) : Int := ((reachF w).length : Int)
theorem zip_any {α : Type} {e : α → α → Bool} : ∀ {l r : List α}, ((l.zip r).any fun p => !e p.1 p.2) = !(List.zipWith e l r).all id
  | [], r => by simp
  | x :: xs, [] => by simp
  | x :: xs, y :: ys => by simp [zip_any (l := xs) (r := ys)]
theorem WOk.of {w : D.World} (h : w.sz ≤ 1048576) : WOk w := by
  simp only [D.World.sz, D.Cloud.sz] at h
  unfold WOk
  omega
theorem bytes_ok {s : ByteArray} (h : ¬ ((s.size : Int) > 1048576)) : (bytesI s).length ≤ 34359738300 := by
  unfold bytesI
  rw [List.length_map]
  have : s.data.toList.length = s.size := Array.length_toList
  omega
theorem reach_has (w : D.World) : ∀ x ∈ reachF w, hasDevF w x = true := by
  intro x hx
  unfold reachF at hx
  obtain ⟨i, hi, rfl⟩ := List.mem_map.1 hx
  obtain ⟨h1, h2⟩ := List.mem_filter.1 hi
  simp only [List.mem_range] at h1
  simp only [hasDevF, Bool.and_eq_true, decide_eq_true_eq]
  have e : (Int.ofNat i) = (i : Int) := rfl
  rw [e]; omega
theorem eqB_self (e : D.Entry) : D.Entry.eqB e e = true := by simp [D.Entry.eqB]
theorem eqBundles_self (b : D.Bundle) : eqBundlesF b b = true := by
  unfold eqBundlesF
  have : ∀ l : List D.Entry, (List.zipWith D.Entry.eqB l l).all id = true := by
    intro l; induction l with
    | nil => rfl
    | cons x xs ih => simp only [List.zipWith_cons_cons, List.all_cons, ih, id, eqB_self, Bool.and_true]
  rw [this b.Entries]; simp
theorem conv_self (d : D.Device) : convB d d = true := by simp [convB, eqBundles_self]
def decB (k : Int) (i : Nat) (z : Int) : Int := IntKind.u8.wrap ((z - keyedI k [(i : Int)]) % 256)
def decF (k : Int) (b : List Int) : List Int := catI (fun i z => [decB k i z]) 0 b
theorem modI_256 (x : Int) : modI (IntKind.i64.wrap x) 256 = x % 256 := by
  rw [modI, if_pos (by omega), IntKind.wrap_i64]; omega
theorem dec_impl (k : Int) (i : Nat) (z : Int) : IntKind.u8.wrap (modI (IntKind.i64.wrap (IntKind.i64.wrap z - keyedI k [(i : Int)])) 256) = decB k i z := by
  rw [modI_256, decB, IntKind.wrap_i64]; congr 1; omega
theorem dec_spec (k : Int) (i : Nat) (z : Int) : IntKind.u8.wrap (modI (IntKind.i64.wrap (IntKind.i64.wrap z - (keyedI k [(i : Int)]).tmod 256)) 256) = decB k i z := by
  rw [modI_256, decB, IntKind.wrap_i64, Int.tmod_eq_emod_of_nonneg (keyedI_range _ _).1]; congr 1; omega
theorem catI_len {α β : Type} {y : Nat → α → β} : ∀ {i : Nat} {l : List α}, (catI (fun i x => [y i x]) i l).length = l.length
  | i, [] => rfl
  | i, x :: xs => by simp [catI, catI_len]
def boxKeyF (p e : Int) : Int := deriveF p [163, e]
def macF (k : Int) (b : D.Box) : Int := keyedI k ([167, b.To, b.Ephemeral] ++ b2iF b.Data)
def openBoxF (p : Int) (b : D.Box) : List Int × Bool :=
  bif !keyF p || (b.To != publicF p || (!keyF b.Ephemeral || decide ((b.Data.length : Int) > 200))) then ([], false)
  else bif b.MAC != macF (boxKeyF p b.Ephemeral) b then ([], false) else (decF (boxKeyF p b.Ephemeral) b.Data, true)
def findBoxF : List D.Box → Int → List Int × Bool
  | [], _ => ([], false)
  | b :: bs, p => bif (openBoxF p b).2 then ((openBoxF p b).1, true) else findBoxF bs p
theorem findBox_run (p : Int) : ∀ (bs : List D.Box) (i : Nat), nx (runL (τ := (List Int × Bool) ⊕ Unit) (fun _ b r => bif (openBoxF p b).2 then some (.inl ((openBoxF p b).1, true)) else r) (some (.inr ())) i bs) (fun _ => some (([] : List Int), false)) = some (findBoxF bs p)
  | [], i => rfl
  | b :: bs, i => by
    simp only [runL, findBoxF]
    cases (openBoxF p b).2 with
    | true => rfl
    | false => exact findBox_run p bs (i + 1)
def bytesOk (b : List Int) : Prop := b.length ≤ 34359738368 ∧ b.all (fun z => decide (0 ≤ z) && decide (z ≤ 255)) = true
instance (b : List Int) : Decidable (bytesOk b) := inferInstanceAs (Decidable (_ ∧ _))
theorem bytesOk_get {b : List Int} (h : bytesOk b) {i : Nat} (hi : i < b.length) : 0 ≤ b[i] ∧ b[i] ≤ 255 := by
  have := List.all_eq_true.1 h.2 b[i] (List.getElem_mem hi)
  simpa using this
/-- Read from place p on: k more places, the i-th at hand, n so far. -/
def uvG (b : List Int) (p : Nat) : Nat → Nat → Int → Int × Int × Bool
  | 0, _, _ => (0, 0, false)
  | k + 1, i, n =>
    if p + i < b.length then
      bif decide (b.getD (p + i) 0 < 128) then
        (bif (decide (0 < i) && b.getD (p + i) 0 == 0) || decide (n + b.getD (p + i) 0 % 128 * 128 ^ i > 1000000000000) then (0, 0, false) else (n + b.getD (p + i) 0 % 128 * 128 ^ i, ((p + i + 1 : Nat) : Int), true))
      else uvG b p k (i + 1) (n + b.getD (p + i) 0 % 128 * 128 ^ i)
    else (0, 0, false)
def uvF (b : List Int) (at_ : Int) : Int × Int × Bool := if at_ < 0 then (0, 0, false) else uvG b at_.toNat 6 0 0
theorem pow128 {i : Nat} (h : i ≤ 6) : (1 : Int) ≤ 128 ^ i ∧ (128 : Int) ^ i ≤ 4398046511104 := by
  match i, h with
  | 0, _ | 1, _ | 2, _ | 3, _ | 4, _ | 5, _ | 6, _ => decide
theorem uv_step {z n : Int} {i : Nat} (hi : i ≤ 5) (hz : 0 ≤ z) (hn : 0 ≤ n) (hn' : n < 128 ^ i) : 0 ≤ n + z % 128 * 128 ^ i ∧ n + z % 128 * 128 ^ i < 128 ^ (i + 1) ∧ 0 ≤ z % 128 * 128 ^ i ∧ z % 128 * 128 ^ i ≤ 127 * 128 ^ i := by
  have hp := pow128 (i := i) (by omega)
  have h1 : 0 ≤ z % 128 * 128 ^ i := Int.mul_nonneg (by omega) (by omega)
  have h2 : z % 128 * 128 ^ i ≤ 127 * 128 ^ i := Int.mul_le_mul_of_nonneg_right (by omega) (by omega)
  rw [Int.pow_succ]
  refine ⟨by omega, by omega, h1, h2⟩
theorem or_step {z n : Int} {i : Nat} (hi : i ≤ 5) (hz : 0 ≤ z) (hz' : z ≤ 255) (hn : 0 ≤ n) (hn' : n < 128 ^ i) :
    orI .i64 n (shlI .i64 (andI .i64 z 127) (IntKind.i64.wrap (7 * (i : Int)))) = n + z % 128 * 128 ^ i := by
  obtain ⟨m, rfl⟩ := Int.eq_ofNat_of_zero_le hz
  obtain ⟨q, rfl⟩ := Int.eq_ofNat_of_zero_le hn
  have hp := pow128 (i := i) (by omega)
  have hs := uv_step (z := (m : Int)) (n := (q : Int)) hi (by omega) (by omega) hn'
  have ha : andI .i64 (m : Int) 127 = ((m % 128 : Nat) : Int) := by
    have e : ((BitVec.ofInt 64 (m : Int)) &&& (BitVec.ofInt 64 127)).toNat = m % 128 := by
      rw [BitVec.toNat_and]
      have e1 : (BitVec.ofInt 64 (m : Int)).toNat = m := by
        rw [BitVec.toNat_ofInt]; omega
      have e2 : (BitVec.ofInt 64 127).toNat = 2 ^ 7 - 1 := by decide
      rw [e1, e2, Nat.and_two_pow_sub_one_eq_mod]
    show IntKind.i64.wrap (((BitVec.ofInt 64 (m : Int)) &&& (BitVec.ofInt 64 127)).toNat : Int) = _
    rw [e]; exact wrap64_id (by omega) (by omega)
  have hw : IntKind.i64.wrap (7 * (i : Int)) = ((7 * i : Nat) : Int) := by rw [wrap64_id (by omega) (by omega)]; omega
  have hpn : (2 : Nat) ^ (7 * i) = 128 ^ i := by rw [Nat.pow_mul]
  have hpi : ((128 ^ i : Nat) : Int) = (128 : Int) ^ i := by simp
  have hb : shlI .i64 (andI .i64 (m : Int) 127) (IntKind.i64.wrap (7 * (i : Int))) = ((m % 128 * 128 ^ i : Nat) : Int) := by
    rw [ha, hw]
    unfold shlI
    rw [Int.toNat_natCast, show min (7 * i) IntKind.i64.bits = 7 * i from Nat.min_eq_left (by simp [IntKind.bits]; omega)]
    have e3 : ((m % 128 : Nat) : Int) * 2 ^ (7 * i) = ((m % 128 * 128 ^ i : Nat) : Int) := by
      rw [← hpn]; simp
    rw [e3]
    have : ((m % 128 * 128 ^ i : Nat) : Int) = (m : Int) % 128 * 128 ^ i := by simp
    rw [this]
    exact wrap64_id (by omega) (by omega)
  rw [hb]
  have hqlt : q < 128 ^ i := by rw [← hpi] at hn'; exact_mod_cast hn'
  have hor : (m % 128 * 128 ^ i) ||| q = m % 128 * 128 ^ i + q := by
    have := Nat.shiftLeft_add_eq_or_of_lt (b := q) (i := 7 * i) (by rw [hpn]; exact hqlt) (m % 128)
    rw [Nat.shiftLeft_eq, hpn] at this
    exact this.symm
  have hle : m % 128 * 128 ^ i + q < 2 ^ 63 := by
    have : ((m % 128 * 128 ^ i + q : Nat) : Int) = q + (m : Int) % 128 * 128 ^ i := by simp; omega
    omega
  have e4 : ((BitVec.ofInt 64 (q : Int)) ||| (BitVec.ofInt 64 ((m % 128 * 128 ^ i : Nat) : Int))).toNat = m % 128 * 128 ^ i + q := by
    rw [BitVec.toNat_or]
    have e5 : (BitVec.ofInt 64 (q : Int)).toNat = q := by rw [BitVec.toNat_ofInt]; omega
    have e6 : (BitVec.ofInt 64 ((m % 128 * 128 ^ i : Nat) : Int)).toNat = m % 128 * 128 ^ i := by rw [BitVec.toNat_ofInt]; omega
    rw [e5, e6, Nat.or_comm, hor]
  show IntKind.i64.wrap (((BitVec.ofInt 64 (q : Int)) ||| (BitVec.ofInt 64 ((m % 128 * 128 ^ i : Nat) : Int))).toNat : Int) = _
  rw [e4, wrap64_id (by omega) (by omega)]
  simp
  omega
def decG (b : List Int) : Nat → Int → List Int → List Int × Int × Bool
  | 0, a, s => (s, a, true)
  | k + 1, a, s => bif (uvF b a).2.2 then decG b k (uvF b a).2.1 (s ++ [(uvF b a).1]) else ([], 0, false)
def decodeF (b : List Int) (a c : Int) : List Int × Int × Bool := bif !inR c 0 100 || !inR a 0 b.length then ([], 0, false) else decG b c.toNat a []
theorem decG_len (b : List Int) : ∀ (k : Nat) (a : Int) (s : List Int), (decG b k a s).2.2 = true → (decG b k a s).1.length = s.length + k
  | 0, a, s, _ => rfl
  | k + 1, a, s, h => by
    unfold decG at h ⊢
    cases hu : (uvF b a).2.2 with
    | false => rw [hu] at h; simp at h
    | true =>
      rw [hu] at h
      simp only [cond_true] at h ⊢
      rw [decG_len b k _ _ h]; simp; omega
theorem decode_len {b : List Int} {a c : Int} (hc : 0 ≤ c) (h : (decodeF b a c).2.2 = true) : (decodeF b a c).1.length = c.toNat := by
  unfold decodeF at h ⊢
  cases hx : (!inR c 0 100 || !inR a 0 b.length) with
  | true => rw [hx] at h; simp at h
  | false =>
    rw [hx] at h
    simp only [cond_false] at h ⊢
    rw [decG_len _ _ _ _ h]; simp
theorem decF_ok {k : Int} {b : List Int} (h : b.length ≤ 34359738368) : bytesOk (decF k b) := by
  refine ⟨by unfold decF; rw [catI_len]; exact h, ?_⟩
  rw [List.all_eq_true]
  intro z hz
  have : ∀ (b : List Int) (i : Nat), z ∈ catI (fun i z => [decB k i z]) i b → 0 ≤ z ∧ z ≤ 255 := by
    intro b
    induction b with
    | nil => intro i h; simp [catI] at h
    | cons x xs ih =>
      intro i h
      simp only [catI, List.mem_append, List.mem_singleton] at h
      rcases h with rfl | h
      · have := wrap_range .u8 ((x - keyedI k [(i : Int)]) % 256)
        simpa [decB, IntKind.min, IntKind.max, IntKind.signed, IntKind.bits] using this
      · exact ih _ h
  have := this b 0 hz
  simp [this.1, this.2]
theorem openBox_ok (p : Int) (b : D.Box) : bytesOk (openBoxF p b).1 := by
  unfold openBoxF
  have h0 : bytesOk ([] : List Int) := by decide
  by_cases hl : b.Data.length ≤ 200
  · cases (!keyF p || (b.To != publicF p || (!keyF b.Ephemeral || decide ((b.Data.length : Int) > 200)))) <;> cases (b.MAC != macF (boxKeyF p b.Ephemeral) b) <;> first | exact h0 | exact decF_ok (by omega)
  · have e1 : decide ((b.Data.length : Int) > 200) = true := by simp; omega
    rw [e1]; simpa using h0
theorem findBox_ok (p : Int) : ∀ bs, bytesOk (findBoxF bs p).1
  | [] => show bytesOk [] by decide
  | b :: bs => by
    unfold findBoxF
    cases (openBoxF p b).2 with
    | true => exact openBox_ok p b
    | false => exact findBox_ok p bs
def openEpochG (e : D.EpochBoxes) (x : List Int × Bool) (y : List Int × Int × Bool) : Int × Bool :=
  bif !x.2 || (!y.2.2 || (y.2.1 != (x.1.length : Int) || (y.1.getD 0 0 != e.Epoch || !keyF (y.1.getD 1 0)))) then (0, false) else (y.1.getD 1 0, true)
def openEpochF (s : D.KeyStore) (e : D.EpochBoxes) : Int × Bool := openEpochG e (findBoxF e.Boxes (devKeyF s)) (decodeF (findBoxF e.Boxes (devKeyF s)).1 0 2)
def keysAgreeF (w : D.World) (d : Int) : Bool := hasDevF w d && (!inListF w d || ((devAt w d).Epoch != epochOfF w.Cloud.Log || (devAt w d).Key == (openEpochF (devAt w d).Store w.Cloud.Boxes).1))
def fmtWorldF (w : D.World) : ByteArray := fmtInt w.Now ++ ⟨#[32]⟩ ++ fmtInt (countF w) ++ ⟨#[47]⟩ ++ fmtInt (w.Devices.length : Int) ++ ⟨#[32]⟩ ++ fmtInt (epochOfF w.Cloud.Log) ++ ⟨#[32]⟩ ++ fmtInt (w.Cloud.History.length : Int)
theorem and_one {n : Int} (h0 : 0 ≤ n) (h1 : n < 9223372036854775808) : andI .i64 n 1 = n % 2 := by
  obtain ⟨m, rfl⟩ := Int.eq_ofNat_of_zero_le h0
  have e : ((BitVec.ofInt 64 (m : Int)) &&& (BitVec.ofInt 64 1)).toNat = m % 2 := by
    rw [BitVec.toNat_and]
    have e1 : (BitVec.ofInt 64 (m : Int)).toNat = m := by rw [BitVec.toNat_ofInt]; omega
    have e2 : (BitVec.ofInt 64 1).toNat = 2 ^ 1 - 1 := by decide
    rw [e1, e2, Nat.and_two_pow_sub_one_eq_mod]
  show IntKind.i64.wrap (((BitVec.ofInt 64 (m : Int)) &&& (BitVec.ofInt 64 1)).toNat : Int) = _
  rw [e, wrap64_id (by omega) (by omega)]; omega
theorem shr_one {n : Int} (h0 : 0 ≤ n) : shrI .i64 n 1 = n / 2 := by
  unfold shrI
  rw [show min (Int.toNat 1) IntKind.i64.bits = 1 from by decide, Int.fdiv_eq_ediv_of_nonneg _ (by decide)]; rfl
/-- Powers by squaring: at most k more rounds. -/
def powG : Nat → Int → Int → Int → Int
  | 0, _, _, s => s
  | k + 1, b, n, s => if n > 0 then powG k ((IntKind.i64.wrap (b * b)).tmod 2147483647) (n / 2) (bif n % 2 == 1 then (IntKind.i64.wrap (s * b)).tmod 2147483647 else s) else s
theorem powG_c1 : powG 31 48271 2147483645 1 = 1899818559 := by decide +kernel
def privF (q : Int) : Int := bif !keyF q then 0 else q * 1899818559 % 2147483647
def signF (p : Int) (l : List Int) : Int := bif !keyF p then 0 else keyedI p ([139, (l.length : Int)] ++ l)
def verifyF (q : Int) (l : List Int) (g : Int) : Bool := privF q != 0 && signF (privF q) l == g
/-- The element ahead of place i. -/
theorem atq_prev {α : Type} [Inhabited α] {l : List α} {i : Nat} (h0 : 0 < i) (hi : i < l.length) (hl : l.length ≤ 34359738368) : atq l (IntKind.i64.wrap ((i : Int) - 1)) = some (l.getD (i - 1) default) := by
  rw [wrap64_id (by omega) (by omega), show (i : Int) - 1 = ((i - 1 : Nat) : Int) by omega, atq_nat (by omega)]
  simp [List.getD, List.getElem?_eq_getElem (show i - 1 < l.length by omega)]
def noticeBad (l : List D.Notice) (i : Nat) (n : D.Notice) : Bool := !inR n.Kind 1 5 || (!inR n.Account 0 1000000 || (!inR n.Time 0 1000000 || (decide (0 < i) && decide ((l.getD (i - 1) default).Time > n.Time))))
def mailOkF (m : D.Mailbox) : Bool := decide (m.Notices.length ≤ 30) && !anyI (noticeBad m.Notices) 0 m.Notices
def challengeBad (b : D.ChallengeBook) (i : Nat) (n : D.Challenge) : Bool := !inR n.Id 0 (IntKind.i64.wrap (b.Next - 1)) || ((decide (0 < i) && decide ((b.Open.getD (i - 1) default).Id ≥ n.Id)) || (!inR n.Account 0 1000005 || !inR n.Until 0 1000005))
def bookOkF (b : D.ChallengeBook) : Bool := inR b.Next 0 1000000 && decide (b.Open.length ≤ 16) && !anyI (challengeBad b) 0 b.Open
def credBad (a : D.Account) (i : Nat) (n : D.Credential) : Bool := (!inR n.Handle 0 1000000 || ((decide (0 < i) && decide ((a.Credentials.getD (i - 1) default).Handle ≥ n.Handle)) || (privF n.Public == 0 || !inR n.Counter 0 1000000))) || (a.Credentials.take i).any fun q => q.Public == n.Public
def accountOkF (a : D.Account) : Bool := inR a.Id 0 1000000 && inR a.Minimum 1 3 && decide (a.Credentials.length ≤ 8) && !anyI (credBad a) 0 a.Credentials
def entryHashF (e : D.LogEntry) : Int := hashI [229, e.Index, e.Kind, e.Device, e.By, e.Previous]
def logHeadF (l : List D.LogEntry) : Int := bif (l.length : Int) == 0 then 0 else entryHashF (l.getD (l.length - 1) default)
noncomputable def m_spec_l1In (x_ : Int) (least_ : Int) (most_ : Int) : Option Bool := bd ((bif (decide (x_ ≥ least_)) then some (decide (x_ ≤ most_)) else some false)) fun j0_6 => some j0_6

theorem t_spec_l1In (n a b : Int) : m_spec_l1In n a b = some (inR n a b) := by simp [m_spec_l1In, inR]


noncomputable def m_spec_Mod (n_ : Int) (m_ : Int) : Option Int := (bif (!(inR m_ (1 : Int) (1000000000000 : Int))) then some (0 : Int) else gd (m_ ≠ 0) <| gd (m_ ≠ 0) <| some ((IntKind.i64.wrap (n_.tmod m_ + m_)).tmod m_))

theorem t_spec_Mod (p q : Int) : m_spec_Mod p q = some (modI p q) := by
  unfold m_spec_Mod
  by_cases h : 1 ≤ q ∧ q ≤ 1000000000000
  · simp [inR, h.1, h.2, gd_t (show q ≠ 0 by omega), modI_s h]
  · rw [modI_0 h]
    rcases (show q < 1 ∨ q > 1000000000000 by omega) with h | h
    · simp [inR, show ¬ 1 ≤ q by omega]
    · simp [inR, show ¬ q ≤ 1000000000000 by omega]


noncomputable def m_spec_Max (a_ : Int) (b_ : Int) : Option Int := (bif (decide (b_ > a_)) then some b_ else some a_)

theorem t_spec_Max (a b : Int) : m_spec_Max a b = some (maxF a b) := by simp [m_spec_Max, maxF]


noncomputable def m_impl_Mod (p_ : Int) (q_ : Int) : Option Int := bd ((bif (decide (q_ < (1 : Int))) then some true else some (decide (q_ > (1000000000000 : Int))))) fun j0_11 => (bif j0_11 then some (0 : Int) else gd (q_ ≠ 0) <| bd ((bif (decide (p_.tmod q_ < (0 : Int))) then some (IntKind.i64.wrap (p_.tmod q_ + q_)) else some (p_.tmod q_))) fun j1_5 => some j1_5)

theorem t_impl_Mod (p q : Int) : m_impl_Mod p q = some (modI p q) := by
  unfold m_impl_Mod
  simp only [bd_bb]
  by_cases h : 1 ≤ q ∧ q ≤ 1000000000000
  · rw [gd_t (by omega)]
    by_cases ht : p.tmod q < 0
    · simp [h, ht, show ¬ q < 1 by omega, show ¬ q > 1000000000000 by omega, modI_n h ht]
      rw [IntKind.wrap_i64]; have := tmod_split (p := p) (q := q) h.1; omega
    · simp [h, ht, show ¬ q < 1 by omega, show ¬ q > 1000000000000 by omega, modI_p h ht]
  · rw [modI_0 h]
    rcases (show q < 1 ∨ q > 1000000000000 by omega) with h | h <;> simp [h]


noncomputable def m_impl_InRange (n_ : Int) (low_ : Int) (high_ : Int) : Option Bool := bd ((bif (decide (low_ ≤ n_)) then some (decide (n_ ≤ high_)) else some false)) fun j0_6 => some j0_6

theorem t_impl_InRange (n a b : Int) : m_impl_InRange n a b = some (inR n a b) := by simp [m_impl_InRange, inR]


noncomputable def m_spec_ReadUvarint_l0 (b_ : List Int) (at_ : Int) : Nat → (Int × Nat) → Option ((Int × Int × Bool) ⊕ Unit)
  | 0, _ => none
  | f + 1, (v0_7, i0) => (bif (decide ((i0 : Int) < (6 : Int))) then bd ((bif (decide (at_ < (0 : Int))) then some true else some (decide (at_ ≥ IntKind.i64.wrap ((b_.length : Int) - (i0 : Int)))))) fun j1_23 => (bif j1_23 then some (.inl ((0 : Int), (0 : Int), false)) else bd (atq b_ (IntKind.i64.wrap (at_ + (i0 : Int)))) fun z7 => gd (0 ≤ IntKind.i64.wrap ((7 : Int) * (i0 : Int))) <| (bif (decide (IntKind.i64.wrap z7 < (128 : Int))) then bd ((bif (IntKind.i64.wrap z7 == (0 : Int)) then (bif (decide ((i0 : Int) > (0 : Int))) then some true else some (decide (orI .i64 v0_7 (shlI .i64 (andI .i64 (IntKind.i64.wrap z7) (127 : Int)) (IntKind.i64.wrap ((7 : Int) * (i0 : Int)))) > (1000000000000 : Int)))) else some (decide (orI .i64 v0_7 (shlI .i64 (andI .i64 (IntKind.i64.wrap z7) (127 : Int)) (IntKind.i64.wrap ((7 : Int) * (i0 : Int)))) > (1000000000000 : Int))))) fun j2_49 => (bif j2_49 then some (.inl ((0 : Int), (0 : Int), false)) else some (.inl (orI .i64 v0_7 (shlI .i64 (andI .i64 (IntKind.i64.wrap z7) (127 : Int)) (IntKind.i64.wrap ((7 : Int) * (i0 : Int)))), IntKind.i64.wrap (IntKind.i64.wrap (at_ + (i0 : Int)) + (1 : Int)), true))) else gd (i0 + 1 < 9223372036854775808) <| m_spec_ReadUvarint_l0 b_ at_ f (orI .i64 v0_7 (shlI .i64 (andI .i64 (IntKind.i64.wrap z7) (127 : Int)) (IntKind.i64.wrap ((7 : Int) * (i0 : Int)))), i0 + 1))) else some (.inr ()))
noncomputable def m_spec_ReadUvarint (b_ : List Int) (at_ : Int) : Option (Int × Int × Bool) := nx (m_spec_ReadUvarint_l0 b_ at_ FUEL ((0 : Int), 0)) fun _ => some ((0 : Int), (0 : Int), false)

theorem l_spec_ReadUvarint (b : List Int) (hb : bytesOk b) (a : Int) (ha : 0 ≤ a) : ∀ (k i : Nat) (n : Int) (f : Nat), i + k = 6 → k < f → 0 ≤ n → n < 128 ^ i → nx (m_spec_ReadUvarint_l0 b a f (n, i)) (fun _ => some ((0 : Int), (0 : Int), false)) = some (uvG b a.toNat k i n)
  | 0, i, n, f + 1, hk, hf, h0, h1 => by
    rw [m_spec_ReadUvarint_l0, show decide ((i : Int) < 6) = false by simp; omega]; rfl
  | k + 1, i, n, f + 1, hk, hf, h0, h1 => by
    have hlen := hb.1
    rw [m_spec_ReadUvarint_l0, show decide ((i : Int) < 6) = true by simp; omega]
    simp only [cond_true, bd_bb]
    rw [show IntKind.i64.wrap ((b.length : Int) - (i : Int)) = (b.length : Int) - (i : Int) from wrap64_id (by omega) (by omega), show decide (a < 0) = false by simp; omega]
    unfold uvG
    by_cases hlt : a.toNat + i < b.length
    · have hz := bytesOk_get hb hlt
      have hg : b.getD (a.toNat + i) 0 = b[a.toNat + i] := by simp [List.getD, List.getElem?_eq_getElem hlt]
      have hwa : IntKind.i64.wrap (a + (i : Int)) = ((a.toNat + i : Nat) : Int) := by rw [wrap64_id (by omega) (by omega)]; omega
      rw [if_pos hlt, hg, hwa, atq_nat hlt]
      generalize b[a.toNat + i] = z at hz
      rw [show decide (a ≥ (b.length : Int) - (i : Int)) = false by simp; omega]
      have hs := uv_step (z := z) (n := n) (i := i) (by omega) hz.1 h0 h1
      have hwz : IntKind.i64.wrap z = z := wrap64_id (by omega) (by omega)
      have ho := or_step (z := z) (n := n) (i := i) (by omega) hz.1 hz.2 h0 h1
      have hw3 : IntKind.i64.wrap (((a.toNat + i : Nat) : Int) + 1) = ((a.toNat + i + 1 : Nat) : Int) := by rw [wrap64_id (by omega) (by omega)]; omega
      have h7 : 0 ≤ IntKind.i64.wrap ((7 : Int) * (i : Int)) := by rw [wrap64_id (by omega) (by omega)]; omega
      simp only [cond_false, bd_s, hwz, ho, hw3]
      rw [gd_t h7]
      by_cases h128 : z < 128
      · simp only [h128, decide_true, cond_true]
        have e : (decide ((i : Int) > 0)) = decide (0 < i) := decide_eq_decide.2 (by omega)
        rw [e]
        cases decide (0 < i) <;> cases (z == 0) <;> cases decide (n + z % 128 * 128 ^ i > 1000000000000) <;> rfl
      · simp only [h128, decide_false, cond_false]
        rw [gd_t (by omega)]
        exact l_spec_ReadUvarint b hb a ha k (i + 1) _ f (by omega) (by omega) hs.1 hs.2.1
    · rw [if_neg hlt, show decide (a ≥ (b.length : Int) - (i : Int)) = true by simp; omega]; rfl
theorem t_spec_ReadUvarint (b : List Int) (a : Int) (hb : bytesOk b) : m_spec_ReadUvarint b a = some (uvF b a) := by
  unfold m_spec_ReadUvarint uvF
  have hf := FUEL_le
  by_cases h0 : a < 0
  · rw [if_pos h0]
    obtain ⟨f, hf'⟩ : ∃ f, FUEL = f + 1 := ⟨FUEL - 1, by omega⟩
    rw [hf', m_spec_ReadUvarint_l0]
    simp [h0]
  · rw [if_neg h0]
    exact l_spec_ReadUvarint b hb a (by omega) 6 0 0 FUEL rfl (by omega) (by omega) (by decide)


noncomputable def m_spec_DecodeInts_l0 (b_ : List Int) (n_ : Int) : Nat → (Int × Nat × (List Int)) → Option (((List Int) × Int × Bool) ⊕ (Int × (List Int)))
  | 0, _ => none
  | f + 1, (v0_1, i0, v0r1) => (bif (decide ((i0 : Int) < n_)) then gd (bytesOk b_) <| (bif (!((uvF b_ v0_1).2.2)) then some (.inl (([] : List Int), (0 : Int), false)) else gd (apOk v0r1 ([(uvF b_ v0_1).1] : List Int)) <| m_spec_DecodeInts_l0 b_ n_ f ((uvF b_ v0_1).2.1, i0 + 1, (v0r1 ++ ([(uvF b_ v0_1).1] : List Int)))) else some (.inr (v0_1, v0r1)))
noncomputable def m_spec_DecodeInts (b_ : List Int) (at_ : Int) (n_ : Int) : Option ((List Int) × Int × Bool) := bd ((bif (!(inR n_ (0 : Int) (100 : Int))) then some true else some (!(inR at_ (0 : Int) (b_.length : Int))))) fun j0_24 => (bif j0_24 then some (([] : List Int), (0 : Int), false) else nx (m_spec_DecodeInts_l0 b_ n_ (n_.toNat + 1) (at_, 0, ([] : List Int))) fun (j1_1, j1r1) => some (j1r1, j1_1, true))

theorem l_spec_DecodeInts (b : List Int) (hb : bytesOk b) (c : Int) (hc : c ≤ 100) : ∀ (k i : Nat) (a : Int) (s : List Int) (f : Nat), ((i + k : Nat) : Int) = c → k < f → s.length ≤ i → nx (m_spec_DecodeInts_l0 b c f (a, i, s)) (fun (x, y) => some (y, x, true)) = some (decG b k a s)
  | 0, i, a, s, f + 1, hk, hf, hs => by
    rw [m_spec_DecodeInts_l0, show decide ((i : Int) < c) = false by simp; omega]; rfl
  | k + 1, i, a, s, f + 1, hk, hf, hs => by
    rw [m_spec_DecodeInts_l0, show decide ((i : Int) < c) = true by simp; omega, gd_t hb]
    simp only [cond_true]
    unfold decG
    cases (uvF b a).2.2 with
    | false => rfl
    | true =>
      simp only [Bool.not_true, cond_false, cond_true]
      rw [gd_t (by unfold apOk; simp; omega)]
      exact l_spec_DecodeInts b hb c hc k (i + 1) _ _ f (by omega) (by omega) (by simp; omega)
theorem t_spec_DecodeInts (b : List Int) (a c : Int) (hb : bytesOk b) : m_spec_DecodeInts b a c = some (decodeF b a c) := by
  unfold m_spec_DecodeInts decodeF
  cases h1 : inR c 0 100 with
  | false => simp
  | true =>
    cases h2 : inR a 0 b.length with
    | false => simp
    | true =>
      have := inR_t h1
      simp only [Bool.not_true, cond_false, bd_s, Bool.or_self]
      exact l_spec_DecodeInts b hb c (by omega) c.toNat 0 a [] (c.toNat + 1) (by omega) (by omega) (by simp)


noncomputable def m_impl_ReadUvarint_l0 (b_ : List Int) (offset_ : Int) : Nat → (Int × Int × Nat) → Option ((Int × Int × Bool) ⊕ Unit)
  | 0, _ => none
  | f + 1, (v0_7, v0_8, i0) => (bif (decide ((i0 : Int) < (6 : Int))) then (bif (decide (IntKind.i64.wrap (offset_ + (i0 : Int)) ≥ (b_.length : Int))) then some (.inl ((0 : Int), (0 : Int), false)) else bd (atq b_ (IntKind.i64.wrap (offset_ + (i0 : Int)))) fun z8 => (bif (decide (IntKind.i64.wrap z8 < (128 : Int))) then bd ((bif (decide ((i0 : Int) > (0 : Int))) then (bif (IntKind.i64.wrap z8 == (0 : Int)) then some true else some (decide (IntKind.i64.wrap (v0_7 + IntKind.i64.wrap ((IntKind.i64.wrap z8).tmod (128 : Int) * v0_8)) > (1000000000000 : Int)))) else some (decide (IntKind.i64.wrap (v0_7 + IntKind.i64.wrap ((IntKind.i64.wrap z8).tmod (128 : Int) * v0_8)) > (1000000000000 : Int))))) fun j2_55 => (bif j2_55 then some (.inl ((0 : Int), (0 : Int), false)) else some (.inl (IntKind.i64.wrap (v0_7 + IntKind.i64.wrap ((IntKind.i64.wrap z8).tmod (128 : Int) * v0_8)), IntKind.i64.wrap (IntKind.i64.wrap (offset_ + (i0 : Int)) + (1 : Int)), true))) else gd (i0 + 1 < 9223372036854775808) <| m_impl_ReadUvarint_l0 b_ offset_ f (IntKind.i64.wrap (v0_7 + IntKind.i64.wrap ((IntKind.i64.wrap z8).tmod (128 : Int) * v0_8)), IntKind.i64.wrap (v0_8 * (128 : Int)), i0 + 1))) else some (.inr ()))
noncomputable def m_impl_ReadUvarint (b_ : List Int) (offset_ : Int) : Option (Int × Int × Bool) := bd ((bif (decide (offset_ < (0 : Int))) then some true else some (decide (offset_ ≥ (b_.length : Int))))) fun j0_18 => (bif j0_18 then some ((0 : Int), (0 : Int), false) else nx (m_impl_ReadUvarint_l0 b_ offset_ FUEL ((0 : Int), (1 : Int), 0)) fun _ => some ((0 : Int), (0 : Int), false))

theorem l_impl_ReadUvarint (b : List Int) (hb : bytesOk b) (p : Nat) (hp : p ≤ 34359738368) : ∀ (k i : Nat) (n : Int) (f : Nat), i + k = 6 → k < f → 0 ≤ n → n < 128 ^ i → nx (m_impl_ReadUvarint_l0 b (p : Int) f (n, (128 : Int) ^ i, i)) (fun _ => some ((0 : Int), (0 : Int), false)) = some (uvG b p k i n)
  | 0, i, n, f + 1, hk, hf, h0, h1 => by
    rw [m_impl_ReadUvarint_l0, show decide ((i : Int) < 6) = false by simp; omega]; rfl
  | k + 1, i, n, f + 1, hk, hf, h0, h1 => by
    have hp128 := pow128 (i := i) (by omega)
    rw [m_impl_ReadUvarint_l0, show decide ((i : Int) < 6) = true by simp; omega]
    simp only [cond_true]
    rw [show IntKind.i64.wrap ((p : Int) + (i : Int)) = ((p + i : Nat) : Int) by rw [wrap64_id (by omega) (by omega)]; omega]
    unfold uvG
    by_cases hlt : p + i < b.length
    · have hz := bytesOk_get hb hlt
      have hg : b.getD (p + i) 0 = b[p + i] := by simp [List.getD, List.getElem?_eq_getElem hlt]
      rw [if_pos hlt, hg, atq_nat hlt]
      generalize b[p + i] = z at hz
      rw [show decide (((p + i : Nat) : Int) ≥ (b.length : Int)) = false by simp; omega]
      have hs := uv_step (z := z) (n := n) (i := i) (by omega) hz.1 h0 h1
      have hwz : IntKind.i64.wrap z = z := wrap64_id (by omega) (by omega)
      have htm : z.tmod 128 = z % 128 := Int.tmod_eq_emod_of_nonneg hz.1
      have hw1 : IntKind.i64.wrap (z % 128 * 128 ^ i) = z % 128 * 128 ^ i := wrap64_id (by omega) (by omega)
      have hp6 := pow128 (i := i + 1) (by omega)
      have hw2 : IntKind.i64.wrap (n + z % 128 * 128 ^ i) = n + z % 128 * 128 ^ i := wrap64_id (by omega) (by omega)
      have hw3 : IntKind.i64.wrap (((p + i : Nat) : Int) + 1) = ((p + i + 1 : Nat) : Int) := by rw [wrap64_id (by omega) (by omega)]; omega
      have hw4 : IntKind.i64.wrap ((128 : Int) ^ i * 128) = 128 ^ (i + 1) := by rw [← Int.pow_succ, wrap64_id (by omega) (by omega)]
      simp only [cond_false, bd_s, hwz, htm, hw1, hw2, hw3, hw4]
      by_cases h128 : z < 128
      · simp only [h128, decide_true, cond_true]
        have e : (decide ((i : Int) > 0)) = decide (0 < i) := decide_eq_decide.2 (by omega)
        rw [e]
        cases decide (0 < i) <;> cases (z == 0) <;> cases decide (n + z % 128 * 128 ^ i > 1000000000000) <;> rfl
      · simp only [h128, decide_false, cond_false]
        rw [gd_t (by omega)]
        exact l_impl_ReadUvarint b hb p hp k (i + 1) _ f (by omega) (by omega) hs.1 hs.2.1
    · rw [if_neg hlt, show decide (((p + i : Nat) : Int) ≥ (b.length : Int)) = true by simp; omega]; rfl
theorem t_impl_ReadUvarint (b : List Int) (a : Int) (hb : bytesOk b) : m_impl_ReadUvarint b a = some (uvF b a) := by
  unfold m_impl_ReadUvarint uvF
  have hf := FUEL_le
  have hlen := hb.1
  by_cases h0 : a < 0
  · simp [h0]
  · rw [if_neg h0]
    have ea : (a.toNat : Int) = a := Int.toNat_of_nonneg (by omega)
    by_cases h1 : a ≥ b.length
    · simp only [h0, h1, decide_true, decide_false, bd_bb, cond_false, cond_true]
      unfold uvG
      rw [if_neg (by omega)]
      rfl
    · simp only [h0, h1, decide_false, bd_bb, cond_false]
      have := l_impl_ReadUvarint b hb a.toNat (by omega) 6 0 0 FUEL rfl (by omega) (by omega) (by decide)
      rw [ea] at this
      exact this


noncomputable def m_impl_DecodeInts_l0 (b_ : List Int) (count_ : Int) : Nat → (Int × Nat × (List Int)) → Option (((List Int) × Int × Bool) ⊕ (Int × (List Int)))
  | 0, _ => none
  | f + 1, (v0_1, i0, v0r1) => (bif (decide ((i0 : Int) < count_)) then gd (bytesOk b_) <| (bif (!((uvF b_ v0_1).2.2)) then some (.inl (([] : List Int), (0 : Int), false)) else gd (apOk v0r1 ([(uvF b_ v0_1).1] : List Int)) <| m_impl_DecodeInts_l0 b_ count_ f ((uvF b_ v0_1).2.1, i0 + 1, (v0r1 ++ ([(uvF b_ v0_1).1] : List Int)))) else some (.inr (v0_1, v0r1)))
noncomputable def m_impl_DecodeInts (b_ : List Int) (offset_ : Int) (count_ : Int) : Option ((List Int) × Int × Bool) := bd ((bif (decide (count_ < (0 : Int))) then some true else (bif (decide (count_ > (100 : Int))) then some true else (bif (decide (offset_ < (0 : Int))) then some true else some (decide (offset_ > (b_.length : Int))))))) fun j0_29 => (bif j0_29 then some (([] : List Int), (0 : Int), false) else nx (m_impl_DecodeInts_l0 b_ count_ (count_.toNat + 1) (offset_, 0, ([] : List Int))) fun (j1_1, j1r1) => some (j1r1, j1_1, true))

theorem l_impl_DecodeInts (b : List Int) (hb : bytesOk b) (c : Int) (hc : c ≤ 100) : ∀ (k i : Nat) (a : Int) (s : List Int) (f : Nat), ((i + k : Nat) : Int) = c → k < f → s.length ≤ i → nx (m_impl_DecodeInts_l0 b c f (a, i, s)) (fun (x, y) => some (y, x, true)) = some (decG b k a s)
  | 0, i, a, s, f + 1, hk, hf, hs => by
    rw [m_impl_DecodeInts_l0, show decide ((i : Int) < c) = false by simp; omega]; rfl
  | k + 1, i, a, s, f + 1, hk, hf, hs => by
    rw [m_impl_DecodeInts_l0, show decide ((i : Int) < c) = true by simp; omega, gd_t hb]
    simp only [cond_true]
    unfold decG
    cases (uvF b a).2.2 with
    | false => rfl
    | true =>
      simp only [Bool.not_true, cond_false, cond_true]
      rw [gd_t (by unfold apOk; simp; omega)]
      exact l_impl_DecodeInts b hb c hc k (i + 1) _ _ f (by omega) (by omega) (by simp; omega)
theorem t_impl_DecodeInts (b : List Int) (a c : Int) (hb : bytesOk b) : m_impl_DecodeInts b a c = some (decodeF b a c) := by
  unfold m_impl_DecodeInts decodeF inR
  by_cases h1 : c < 0
  · simp [h1, show ¬ 0 ≤ c by omega]
  · by_cases h2 : c > 100
    · simp [h1, h2, show ¬ c ≤ 100 by omega]
    · by_cases h3 : a < 0
      · simp [h1, h2, h3, show ¬ 0 ≤ a by omega]
      · by_cases h4 : a > b.length
        · simp [h1, h2, h3, h4, show ¬ a ≤ b.length by omega]
        · simp only [h1, h2, h3, h4, decide_false, cond_false, bd_s, show 0 ≤ c by omega, show c ≤ 100 by omega, show 0 ≤ a by omega, show a ≤ b.length by omega, decide_true, Bool.and_true, Bool.not_true, Bool.or_self, cond_false]
          exact l_impl_DecodeInts b hb c (by omega) c.toNat 0 a [] (c.toNat + 1) (by omega) (by omega) (by simp)


noncomputable def m_spec_Hash_l0 (l_ : List Int) : Nat → (Int × Nat) → Option Int
  | 0, _ => none
  | f + 1, (v0_3, i0) => (bif (decide ((i0 : Int) < (l_.length : Int))) then bd (atq l_ (i0 : Int)) fun z5 => m_spec_Hash_l0 l_ f ((IntKind.i64.wrap (IntKind.i64.wrap (IntKind.i64.wrap (v0_3 * (1000003 : Int)) + (modI z5 (2147483647 : Int))) + (13 : Int))).tmod (2147483647 : Int), i0 + 1) else some v0_3)
noncomputable def m_spec_Hash (l_ : List Int) : Option Int := bd (m_spec_Hash_l0 l_ (l_.length + 1) ((11 : Int), 0)) fun j0_3 => some j0_3

theorem t_spec_Hash (l : List Int) : m_spec_Hash l = some (hashI l) := by
  unfold m_spec_Hash
  rw [bd_id, loopS0 l (fun f i s => m_spec_Hash_l0 l f (s, i)) (fun _ s x k => k (hstep s x)) (fun s => some s) (by omega)
    (fun f i s h => by rw [m_spec_Hash_l0]; simp [h, atq_nat h, hstep]) (fun f i s h => by rw [m_spec_Hash_l0]; simp [h]), runS_fold]; rfl


noncomputable def m_spec_KeyedHash (secret_ : Int) (l_ : List Int) : Option Int := gd (apOk ([secret_] : List Int) l_) <| gd (apOk (([secret_] : List Int) ++ l_) ([secret_] : List Int)) <| some (hashI ((([secret_] : List Int) ++ l_) ++ ([secret_] : List Int)))

theorem t_spec_KeyedHash (k : Int) (l : List Int) (h : l.length ≤ 34359738368) : m_spec_KeyedHash k l = some (keyedI k l) := by
  unfold m_spec_KeyedHash
  rw [gd_t (by simp [apOk]; omega), gd_t (by simp [apOk]; omega)]
  simp [keyedI]


noncomputable def m_spec_IsValidKey (secret_ : Int) : Option Bool := some (inR secret_ (1 : Int) (2147483646 : Int))

theorem t_spec_IsValidKey (n : Int) : m_spec_IsValidKey n = some (keyF n) := rfl


noncomputable def m_spec_BytesToInts_l0 (b_ : List Int) : Nat → (Nat × (List Int)) → Option (List Int)
  | 0, _ => none
  | f + 1, (i0, v0r1) => (bif (decide ((i0 : Int) < (b_.length : Int))) then bd (atq b_ (i0 : Int)) fun z5 => gd (apOk v0r1 ([IntKind.i64.wrap z5] : List Int)) <| m_spec_BytesToInts_l0 b_ f (i0 + 1, (v0r1 ++ ([IntKind.i64.wrap z5] : List Int))) else some v0r1)
noncomputable def m_spec_BytesToInts (b_ : List Int) : Option (List Int) := bd (m_spec_BytesToInts_l0 b_ (b_.length + 1) (0, ([(b_.length : Int)] : List Int))) fun j0r1 => some j0r1

theorem t_spec_BytesToInts (b : List Int) (h : b.length ≤ 34359738300) : m_spec_BytesToInts b = some (b2iF b) := by
  unfold m_spec_BytesToInts
  rw [bd_id, loopS0 b (fun f i s => m_spec_BytesToInts_l0 b f (i, s)) (fun i s x k => gd (apOk s [IntKind.i64.wrap x]) (k (s ++ [IntKind.i64.wrap x]))) (fun s => some s) (by omega)
    (fun f i s h => by rw [m_spec_BytesToInts_l0]; simp [h, atq_nat h]) (fun f i s h => by rw [m_spec_BytesToInts_l0]; simp [h]),
    runS_app (y := fun _ x => [IntKind.i64.wrap x]) (by rw [catI_map]; simp; omega), catI_map]; rfl


noncomputable def m_spec_Decrypt_l0 (secret_ : Int) (b_ : List Int) : Nat → (Nat × (List Int)) → Option (List Int)
  | 0, _ => none
  | f + 1, (i0, v0r1) => (bif (decide ((i0 : Int) < (b_.length : Int))) then bd (atq b_ (i0 : Int)) fun z5 => gd (([(i0 : Int)] : List Int).length ≤ 34359738368) <| gd (apOk v0r1 ([IntKind.u8.wrap (modI (IntKind.i64.wrap (IntKind.i64.wrap z5 - (keyedI secret_ ([(i0 : Int)] : List Int)).tmod (256 : Int))) (256 : Int))] : List Int)) <| m_spec_Decrypt_l0 secret_ b_ f (i0 + 1, (v0r1 ++ ([IntKind.u8.wrap (modI (IntKind.i64.wrap (IntKind.i64.wrap z5 - (keyedI secret_ ([(i0 : Int)] : List Int)).tmod (256 : Int))) (256 : Int))] : List Int))) else some v0r1)
noncomputable def m_spec_Decrypt (secret_ : Int) (b_ : List Int) : Option (List Int) := bd (m_spec_Decrypt_l0 secret_ b_ (b_.length + 1) (0, ([] : List Int))) fun j0r1 => some j0r1

noncomputable def m_impl_joined_l0 (rest_ : List (List Int)) : Nat → (Nat × (List Int)) → Option (List Int)
  | 0, _ => none
  | f + 1, (i0, v0r1) => (bif (decide ((i0 : Int) < (rest_.length : Int))) then bd (atq rest_ (i0 : Int)) fun z6 => gd (apOk v0r1 z6) <| m_impl_joined_l0 rest_ f (i0 + 1, (v0r1 ++ z6)) else some v0r1)
noncomputable def m_impl_joined (first_ : List Int) (rest_ : List (List Int)) : Option (List Int) := gd (apOk ([] : List Int) first_) <| bd (m_impl_joined_l0 rest_ (rest_.length + 1) (0, (([] : List Int) ++ first_))) fun j0r1 => some j0r1

theorem t_impl_joined (a : List Int) (r : List (List Int)) (h : a.length + r.flatten.length ≤ 68719476736) : m_impl_joined a r = some (joinF a r) := by
  unfold m_impl_joined
  rw [gd_t (by simp [apOk]; omega), bd_id, loopS0 r (fun f i s => m_impl_joined_l0 r f (i, s)) (fun i s x k => gd (apOk s x) (k (s ++ x))) (fun s => some s) (by omega)
    (fun f i s h => by rw [m_impl_joined_l0]; simp [h, atq_nat h]) (fun f i s h => by rw [m_impl_joined_l0]; simp [h])]
  have hc : catI (fun _ (x : List Int) => x) 0 r = r.flatten := by
    have : ∀ (r : List (List Int)) (i : Nat), catI (fun _ (x : List Int) => x) i r = r.flatten := by
      intro r; induction r with
      | nil => intro i; rfl
      | cons x xs ih => intro i; simp [catI, ih]
    exact this r 0
  rw [runS_app (y := fun _ x => x) (by rw [hc]; simp only [List.length_append, List.length_nil]; omega), hc]; rfl


noncomputable def m_impl_Hash_l0 (values_ : List Int) : Nat → (Int × Nat) → Option Int
  | 0, _ => none
  | f + 1, (v0_3, i0) => (bif (decide ((i0 : Int) < (values_.length : Int))) then bd (atq values_ (i0 : Int)) fun z5 => m_impl_Hash_l0 values_ f ((IntKind.i64.wrap (IntKind.i64.wrap (IntKind.i64.wrap (v0_3 * (1000003 : Int)) + (modI z5 (2147483647 : Int))) + (13 : Int))).tmod (2147483647 : Int), i0 + 1) else some v0_3)
noncomputable def m_impl_Hash (values_ : List Int) : Option Int := bd (m_impl_Hash_l0 values_ (values_.length + 1) ((11 : Int), 0)) fun j0_3 => some j0_3

theorem t_impl_Hash (l : List Int) : m_impl_Hash l = some (hashI l) := by
  unfold m_impl_Hash
  rw [bd_id, loopS0 l (fun f i s => m_impl_Hash_l0 l f (s, i)) (fun _ s x k => k (hstep s x)) (fun s => some s) (by omega)
    (fun f i s h => by rw [m_impl_Hash_l0]; simp [h, atq_nat h, hstep]) (fun f i s h => by rw [m_impl_Hash_l0]; simp [h]), runS_fold]; rfl


noncomputable def m_impl_KeyedHash (key_ : Int) (values_ : List Int) : Option Int := gd (([key_] : List Int).length + ([values_, ([key_] : List Int)] : List (List Int)).flatten.length ≤ 68719476736) <| some (hashI (joinF ([key_] : List Int) ([values_, ([key_] : List Int)] : List (List Int))))

theorem t_impl_KeyedHash (k : Int) (l : List Int) (h : l.length ≤ 34359738368) : m_impl_KeyedHash k l = some (keyedI k l) := by
  unfold m_impl_KeyedHash
  rw [gd_t (by simp; omega)]
  simp [keyedI, joinF]


noncomputable def m_impl_orOne (n_ : Int) : Option Int := (bif (n_ == (0 : Int)) then some (1 : Int) else some n_)

theorem t_impl_orOne (n : Int) : m_impl_orOne n = some (orOneF n) := by simp [m_impl_orOne, orOneF]


noncomputable def m_impl_IsValidKey (key_ : Int) : Option Bool := some (inR key_ (1 : Int) (2147483646 : Int))

theorem t_impl_IsValidKey (n : Int) : m_impl_IsValidKey n = some (keyF n) := rfl


noncomputable def m_impl_BytesToInts_l0 (b_ : List Int) : Nat → (Nat × (List Int)) → Option (List Int)
  | 0, _ => none
  | f + 1, (i0, v0r1) => (bif (decide ((i0 : Int) < (b_.length : Int))) then bd (atq b_ (i0 : Int)) fun z5 => gd (apOk v0r1 ([IntKind.i64.wrap z5] : List Int)) <| m_impl_BytesToInts_l0 b_ f (i0 + 1, (v0r1 ++ ([IntKind.i64.wrap z5] : List Int))) else some v0r1)
noncomputable def m_impl_BytesToInts (b_ : List Int) : Option (List Int) := bd (m_impl_BytesToInts_l0 b_ (b_.length + 1) (0, ([(b_.length : Int)] : List Int))) fun j0r1 => some j0r1

theorem t_impl_BytesToInts (b : List Int) (h : b.length ≤ 34359738300) : m_impl_BytesToInts b = some (b2iF b) := by
  unfold m_impl_BytesToInts
  rw [bd_id, loopS0 b (fun f i s => m_impl_BytesToInts_l0 b f (i, s)) (fun i s x k => gd (apOk s [IntKind.i64.wrap x]) (k (s ++ [IntKind.i64.wrap x]))) (fun s => some s) (by omega)
    (fun f i s h => by rw [m_impl_BytesToInts_l0]; simp [h, atq_nat h]) (fun f i s h => by rw [m_impl_BytesToInts_l0]; simp [h]),
    runS_app (y := fun _ x => [IntKind.i64.wrap x]) (by rw [catI_map]; simp; omega), catI_map]; rfl


noncomputable def m_impl_Decrypt_l0 (key_ : Int) (ciphertext_ : List Int) : Nat → (Nat × (List Int)) → Option (List Int)
  | 0, _ => none
  | f + 1, (i0, v0r1) => (bif (decide ((i0 : Int) < (ciphertext_.length : Int))) then bd (atq ciphertext_ (i0 : Int)) fun z5 => gd (([(i0 : Int)] : List Int).length ≤ 34359738368) <| gd (apOk v0r1 ([IntKind.u8.wrap (modI (IntKind.i64.wrap (IntKind.i64.wrap z5 - (keyedI key_ ([(i0 : Int)] : List Int)))) (256 : Int))] : List Int)) <| m_impl_Decrypt_l0 key_ ciphertext_ f (i0 + 1, (v0r1 ++ ([IntKind.u8.wrap (modI (IntKind.i64.wrap (IntKind.i64.wrap z5 - (keyedI key_ ([(i0 : Int)] : List Int)))) (256 : Int))] : List Int))) else some v0r1)
noncomputable def m_impl_Decrypt (key_ : Int) (ciphertext_ : List Int) : Option (List Int) := bd (m_impl_Decrypt_l0 key_ ciphertext_ (ciphertext_.length + 1) (0, ([] : List Int))) fun j0r1 => some j0r1

noncomputable def m_spec_DeriveKey (seed_ : Int) (labels_ : List Int) : Option Int := gd (apOk ([(151 : Int)] : List Int) labels_) <| gd ((([(151 : Int)] : List Int) ++ labels_).length ≤ 34359738368) <| some (maxF (1 : Int) (keyedI seed_ (([(151 : Int)] : List Int) ++ labels_)))

theorem t_spec_DeriveKey (s : Int) (l : List Int) (h : l.length ≤ 34359738300) : m_spec_DeriveKey s l = some (deriveF s l) := by
  unfold m_spec_DeriveKey
  rw [gd_t (by simp [apOk]; omega), gd_t (by simp; omega), maxF_one (keyedI_range _ _).1]; rfl


noncomputable def m_spec_PublicKey (private_ : Int) : Option Int := (bif (!(keyF private_)) then some (0 : Int) else some ((IntKind.i64.wrap (private_ * (48271 : Int))).tmod (2147483647 : Int)))

theorem t_spec_PublicKey (p : Int) : m_spec_PublicKey p = some (publicF p) := by simp [m_spec_PublicKey, publicF]


noncomputable def m_impl_DeriveKey (seed_ : Int) (labels_ : List Int) : Option Int := gd (([(151 : Int)] : List Int).length + ([labels_] : List (List Int)).flatten.length ≤ 68719476736) <| gd ((joinF ([(151 : Int)] : List Int) ([labels_] : List (List Int))).length ≤ 34359738368) <| some (orOneF (keyedI seed_ (joinF ([(151 : Int)] : List Int) ([labels_] : List (List Int)))))

theorem t_impl_DeriveKey (s : Int) (l : List Int) (h : l.length ≤ 34359738300) : m_impl_DeriveKey s l = some (deriveF s l) := by
  unfold m_impl_DeriveKey
  rw [gd_t (by simp; omega), gd_t (by simp [joinF]; omega)]; simp [joinF, deriveF]


noncomputable def m_impl_PublicKey (private_ : Int) : Option Int := (bif (!(keyF private_)) then some (0 : Int) else some ((IntKind.i64.wrap (private_ * (48271 : Int))).tmod (2147483647 : Int)))

theorem t_impl_PublicKey (p : Int) : m_impl_PublicKey p = some (publicF p) := by simp [m_impl_PublicKey, publicF]


noncomputable def m_spec_BoxKey (private_ : Int) (ephemeral_ : Int) : Option Int := gd (([(163 : Int), ephemeral_] : List Int).length ≤ 34359738300) <| some (deriveF private_ ([(163 : Int), ephemeral_] : List Int))

theorem t_spec_BoxKey (p e : Int) : m_spec_BoxKey p e = some (boxKeyF p e) := by unfold m_spec_BoxKey; rw [gd_t (by simp)]; rfl


noncomputable def m_spec_BoxMAC (key_ : Int) (b_ : D.Box) : Option Int := gd (b_.Data.length ≤ 34359738300) <| gd (apOk ([(167 : Int), b_.To, b_.Ephemeral] : List Int) (b2iF b_.Data)) <| gd ((([(167 : Int), b_.To, b_.Ephemeral] : List Int) ++ (b2iF b_.Data)).length ≤ 34359738368) <| some (keyedI key_ (([(167 : Int), b_.To, b_.Ephemeral] : List Int) ++ (b2iF b_.Data)))

theorem t_spec_BoxMAC (k : Int) (b : D.Box) (h : b.Data.length ≤ 34359738200) : m_spec_BoxMAC k b = some (macF k b) := by
  unfold m_spec_BoxMAC macF
  rw [gd_t (by omega), gd_t (by simp [apOk, b2iF]; omega), gd_t (by simp [b2iF]; omega)]


theorem t_spec_Decrypt (k : Int) (b : List Int) (h : b.length ≤ 34359738368) : m_spec_Decrypt k b = some (decF k b) := by
  unfold m_spec_Decrypt decF
  rw [bd_id, loopS0 b (fun f i s => m_spec_Decrypt_l0 k b f (i, s)) (fun i s x k' => gd (apOk s [decB k i x]) (k' (s ++ [decB k i x]))) (fun s => some s) (by omega)
    (fun f i s h => by
      rw [m_spec_Decrypt_l0]
      have e := dec_spec k i b[i]
      simp only [h, Int.ofNat_lt, decide_true, cond_true, atq_nat h, bd_s, gd_t (show ([(i : Int)] : List Int).length ≤ 34359738368 by simp), e])
    (fun f i s h => by rw [m_spec_Decrypt_l0]; simp [h]), runS_app (y := fun i x => [decB k i x]) (by rw [catI_len]; simp; omega)]
  rfl


noncomputable def m_spec_OpenBox (private_ : Int) (b_ : D.Box) : Option ((List Int) × Bool) := bd ((bif (!(keyF private_)) then some true else (bif (b_.To != (publicF private_)) then some true else (bif (!(keyF b_.Ephemeral)) then some true else some (decide ((b_.Data.length : Int) > (200 : Int))))))) fun j0_28 => (bif j0_28 then some (([] : List Int), false) else gd (b_.Data.length ≤ 34359738200) <| (bif (b_.MAC != (macF (boxKeyF private_ b_.Ephemeral) b_)) then some (([] : List Int), false) else gd (b_.Data.length ≤ 34359738368) <| some ((decF (boxKeyF private_ b_.Ephemeral) b_.Data), true)))

theorem t_spec_OpenBox (p : Int) (b : D.Box) : m_spec_OpenBox p b = some (openBoxF p b) := by
  unfold m_spec_OpenBox openBoxF
  by_cases hl : b.Data.length ≤ 200
  · rw [gd_t (by omega), gd_t (by omega)]
    have e1 : decide ((b.Data.length : Int) > 200) = false := by simp; omega
    rw [e1]
    cases keyF p <;> cases (b.To != publicF p) <;> cases keyF b.Ephemeral <;> cases (b.MAC != macF (boxKeyF p b.Ephemeral) b) <;> rfl
  · have e1 : decide ((b.Data.length : Int) > 200) = true := by simp; omega
    rw [e1]
    cases keyF p <;> cases (b.To != publicF p) <;> cases keyF b.Ephemeral <;> rfl


noncomputable def m_spec_FindBox_l0 (boxes_ : List D.Box) (private_ : Int) : Nat → Nat → Option (((List Int) × Bool) ⊕ Unit)
  | 0, _ => none
  | f + 1, i0 => (bif (decide ((i0 : Int) < (boxes_.length : Int))) then bd (atq boxes_ (i0 : Int)) fun z4 => (bif ((openBoxF private_ z4).2) then some (.inl ((openBoxF private_ z4).1, true)) else m_spec_FindBox_l0 boxes_ private_ f (i0 + 1)) else some (.inr ()))
noncomputable def m_spec_FindBox (boxes_ : List D.Box) (private_ : Int) : Option ((List Int) × Bool) := nx (m_spec_FindBox_l0 boxes_ private_ (boxes_.length + 1) 0) fun _ => some (([] : List Int), false)

theorem t_spec_FindBox (bs : List D.Box) (p : Int) : m_spec_FindBox bs p = some (findBoxF bs p) := by
  unfold m_spec_FindBox
  rw [loop0 bs (m_spec_FindBox_l0 bs p) (fun _ b r => bif (openBoxF p b).2 then some (.inl ((openBoxF p b).1, true)) else r) (some (.inr ())) (by omega) (fun f i h => by rw [m_spec_FindBox_l0]; simp [h, atq_nat h]) (fun f i h => by rw [m_spec_FindBox_l0]; simp [h])]
  exact findBox_run p bs 0


noncomputable def m_impl_BoxKey (private_ : Int) (ephemeral_ : Int) : Option Int := gd (([(163 : Int), ephemeral_] : List Int).length ≤ 34359738300) <| some (deriveF private_ ([(163 : Int), ephemeral_] : List Int))

theorem t_impl_BoxKey (p e : Int) : m_impl_BoxKey p e = some (boxKeyF p e) := by unfold m_impl_BoxKey; rw [gd_t (by simp)]; rfl


noncomputable def m_impl_BoxMAC (key_ : Int) (b_ : D.Box) : Option Int := gd (b_.Data.length ≤ 34359738300) <| gd (([(167 : Int), b_.To, b_.Ephemeral] : List Int).length + ([(b2iF b_.Data)] : List (List Int)).flatten.length ≤ 68719476736) <| gd ((joinF ([(167 : Int), b_.To, b_.Ephemeral] : List Int) ([(b2iF b_.Data)] : List (List Int))).length ≤ 34359738368) <| some (keyedI key_ (joinF ([(167 : Int), b_.To, b_.Ephemeral] : List Int) ([(b2iF b_.Data)] : List (List Int))))

theorem t_impl_BoxMAC (k : Int) (b : D.Box) (h : b.Data.length ≤ 34359738200) : m_impl_BoxMAC k b = some (macF k b) := by
  unfold m_impl_BoxMAC macF
  rw [gd_t (by omega), gd_t (by simp [b2iF]; omega), gd_t (by simp [b2iF, joinF]; omega)]
  simp [joinF]


theorem t_impl_Decrypt (k : Int) (b : List Int) (h : b.length ≤ 34359738368) : m_impl_Decrypt k b = some (decF k b) := by
  unfold m_impl_Decrypt decF
  rw [bd_id, loopS0 b (fun f i s => m_impl_Decrypt_l0 k b f (i, s)) (fun i s x k' => gd (apOk s [decB k i x]) (k' (s ++ [decB k i x]))) (fun s => some s) (by omega)
    (fun f i s h => by
      rw [m_impl_Decrypt_l0]
      have e := dec_impl k i b[i]
      simp only [h, Int.ofNat_lt, decide_true, cond_true, atq_nat h, bd_s, gd_t (show ([(i : Int)] : List Int).length ≤ 34359738368 by simp), e])
    (fun f i s h => by rw [m_impl_Decrypt_l0]; simp [h]), runS_app (y := fun i x => [decB k i x]) (by rw [catI_len]; simp; omega)]
  rfl


noncomputable def m_impl_OpenBox (private_ : Int) (b_ : D.Box) : Option ((List Int) × Bool) := bd ((bif (!(keyF private_)) then some true else (bif (b_.To != (publicF private_)) then some true else (bif (!(keyF b_.Ephemeral)) then some true else some (decide ((b_.Data.length : Int) > (200 : Int))))))) fun j0_28 => (bif j0_28 then some (([] : List Int), false) else gd (b_.Data.length ≤ 34359738200) <| (bif (b_.MAC != (macF (boxKeyF private_ b_.Ephemeral) b_)) then some (([] : List Int), false) else gd (b_.Data.length ≤ 34359738368) <| some ((decF (boxKeyF private_ b_.Ephemeral) b_.Data), true)))

theorem t_impl_OpenBox (p : Int) (b : D.Box) : m_impl_OpenBox p b = some (openBoxF p b) := by
  unfold m_impl_OpenBox openBoxF
  by_cases hl : b.Data.length ≤ 200
  · rw [gd_t (by omega), gd_t (by omega)]
    have e1 : decide ((b.Data.length : Int) > 200) = false := by simp; omega
    rw [e1]
    cases keyF p <;> cases (b.To != publicF p) <;> cases keyF b.Ephemeral <;> cases (b.MAC != macF (boxKeyF p b.Ephemeral) b) <;> rfl
  · have e1 : decide ((b.Data.length : Int) > 200) = true := by simp; omega
    rw [e1]
    cases keyF p <;> cases (b.To != publicF p) <;> cases keyF b.Ephemeral <;> rfl


noncomputable def m_impl_FindBox_l0 (boxes_ : List D.Box) (private_ : Int) : Nat → Nat → Option (((List Int) × Bool) ⊕ Unit)
  | 0, _ => none
  | f + 1, i0 => (bif (decide ((i0 : Int) < (boxes_.length : Int))) then bd (atq boxes_ (i0 : Int)) fun z4 => (bif ((openBoxF private_ z4).2) then some (.inl ((openBoxF private_ z4).1, true)) else m_impl_FindBox_l0 boxes_ private_ f (i0 + 1)) else some (.inr ()))
noncomputable def m_impl_FindBox (boxes_ : List D.Box) (private_ : Int) : Option ((List Int) × Bool) := nx (m_impl_FindBox_l0 boxes_ private_ (boxes_.length + 1) 0) fun _ => some (([] : List Int), false)

theorem t_impl_FindBox (bs : List D.Box) (p : Int) : m_impl_FindBox bs p = some (findBoxF bs p) := by
  unfold m_impl_FindBox
  rw [loop0 bs (m_impl_FindBox_l0 bs p) (fun _ b r => bif (openBoxF p b).2 then some (.inl ((openBoxF p b).1, true)) else r) (some (.inr ())) (by omega) (fun f i h => by rw [m_impl_FindBox_l0]; simp [h, atq_nat h]) (fun f i h => by rw [m_impl_FindBox_l0]; simp [h])]
  exact findBox_run p bs 0


noncomputable def m_spec_l10Device (s_ : D.KeyStore) : Option Int := gd (([(181 : Int)] : List Int).length ≤ 34359738300) <| some (deriveF s_.Seed ([(181 : Int)] : List Int))

theorem t_spec_l10Device (s : D.KeyStore) : m_spec_l10Device s = some (devKeyF s) := by unfold m_spec_l10Device; rw [gd_t (by simp)]; rfl


noncomputable def m_spec_DevicePublic (s_ : D.KeyStore) : Option Int := some (publicF (devKeyF s_))

theorem t_spec_DevicePublic (s : D.KeyStore) : m_spec_DevicePublic s = some (devPubF s) := rfl


noncomputable def m_impl_DevicePublic (s_ : D.KeyStore) : Option Int := gd (([(181 : Int)] : List Int).length ≤ 34359738300) <| some (publicF (deriveF s_.Seed ([(181 : Int)] : List Int)))

theorem t_impl_DevicePublic (s : D.KeyStore) : m_impl_DevicePublic s = some (devPubF s) := by unfold m_impl_DevicePublic; rw [gd_t (by simp)]; rfl


noncomputable def m_spec_l19Has_l0 (l_ : List Int) (x_ : Int) : Nat → Nat → Option (Bool ⊕ Unit)
  | 0, _ => none
  | f + 1, i0 => (bif (decide ((i0 : Int) < (l_.length : Int))) then bd (atq l_ (i0 : Int)) fun z4 => (bif (z4 == x_) then some (.inl true) else m_spec_l19Has_l0 l_ x_ f (i0 + 1)) else some (.inr ()))
noncomputable def m_spec_l19Has (l_ : List Int) (x_ : Int) : Option Bool := nx (m_spec_l19Has_l0 l_ x_ (l_.length + 1) 0) fun _ => some false

theorem t_spec_l19Has (l : List Int) (x : Int) : m_spec_l19Has l x = some (hasF l x) := by
  unfold m_spec_l19Has
  rw [loopAny l (m_spec_l19Has_l0 l x) (fun e => e == x) (.inl true) (.inr ()) (by omega) (fun f i h => by rw [m_spec_l19Has_l0]; simp [h, atq_nat h]) (fun f i h => by rw [m_spec_l19Has_l0]; simp [h])]
  unfold hasF; cases l.any _ <;> rfl


noncomputable def m_spec_DevicesOf_l1 (v0_3r : List Int) (z6 : D.LogEntry) : Nat → (Nat × (List Int)) → Option (List Int)
  | 0, _ => none
  | f + 1, (i1, v1r6) => (bif (decide ((i1 : Int) < (v0_3r.length : Int))) then bd (bd (atq v0_3r (i1 : Int)) fun z19 => (bif (z19 != z6.Device) then gd (apOk v1r6 ([z19] : List Int)) <| some (v1r6 ++ ([z19] : List Int)) else some v1r6)) fun j5r6 => m_spec_DevicesOf_l1 v0_3r z6 f (i1 + 1, j5r6) else some v1r6)
noncomputable def m_spec_DevicesOf_l0 (log_ : List D.LogEntry) : Nat → (Nat × (List Int)) → Option (List Int)
  | 0, _ => none
  | f + 1, (i0, v0_3r) => (bif (decide ((i0 : Int) < (log_.length : Int))) then bd (bd (atq log_ (i0 : Int)) fun z6 => bd (bd ((bif (z6.Kind == (1 : Int)) then some (!(hasF v0_3r z6.Device)) else some false)) fun j3_20 => (bif j3_20 then gd (apOk v0_3r ([z6.Device] : List Int)) <| some (v0_3r ++ ([z6.Device] : List Int)) else (bif (z6.Kind == (2 : Int)) then bd (m_spec_DevicesOf_l1 v0_3r z6 (v0_3r.length + 1) (0, ([] : List Int))) fun j4r6 => some j4r6 else some v0_3r))) fun j2_3r => some j2_3r) fun j1_3r => m_spec_DevicesOf_l0 log_ f (i0 + 1, j1_3r) else some v0_3r)
noncomputable def m_spec_DevicesOf (log_ : List D.LogEntry) : Option (List Int) := bd (m_spec_DevicesOf_l0 log_ (log_.length + 1) (0, ([] : List Int))) fun j0_3r => some j0_3r

theorem l1_spec_DevicesOf (v : List Int) (z : D.LogEntry) (h : v.length ≤ 34359738368) : m_spec_DevicesOf_l1 v z (v.length + 1) (0, []) = some (v.filter fun d => d != z.Device) := by
  rw [loopB v (fun f i s => m_spec_DevicesOf_l1 v z f (i, s)) (fun s x => bif x != z.Device then gd (apOk s [x]) (some (s ++ [x])) else some s) (fun s x => bif x != z.Device then s ++ [x] else s) (fun s => some s) (fun i s => s.length ≤ i) (by omega)
    (fun f i s h => by rw [m_spec_DevicesOf_l1]; simp only [h, Int.ofNat_lt, decide_true, cond_true, atq_nat h, bd_s]) (fun f i s h => by rw [m_spec_DevicesOf_l1]; simp [h])
    (fun i s x hi hs => by cases (x != z.Device) <;> simp [gd, apOk]; omega) (fun i s x hi hs => by cases (x != z.Device) <;> simp <;> omega) (by simp), foldl_filter]
  simp
theorem t_spec_DevicesOf (l : List D.LogEntry) (h : l.length ≤ 34359738368) : m_spec_DevicesOf l = some (devicesOfF l) := by
  unfold m_spec_DevicesOf
  rw [bd_id, loopB l (fun f i s => m_spec_DevicesOf_l0 l f (i, s)) (fun s e => bif e.Kind == 1 then (bif !hasF s e.Device then gd (apOk s [e.Device]) (some (s ++ [e.Device])) else some s) else bif e.Kind == 2 then bd (m_spec_DevicesOf_l1 s e (s.length + 1) (0, [])) fun a => some a else some s) stepDev (fun s => some s) (fun i s => s.length ≤ i) (by omega)
    (fun f i s h => by
      rw [m_spec_DevicesOf_l0]; simp only [h, Int.ofNat_lt, decide_true, cond_true, atq_nat h, bd_s]
      have hk : (l[i].Kind == 1) = true → (l[i].Kind == 2) = false := fun hh => by simp at hh ⊢; omega
      cases h1 : (l[i].Kind == 1) with
      | true => cases hasF s l[i].Device <;> simp [bd_id, hk h1]
      | false => cases (l[i].Kind == 2) <;> simp [bd_id])
    (fun f i s h => by rw [m_spec_DevicesOf_l0]; simp [h])
    (fun i s x hi hs => by
      unfold stepDev hasF
      have hc : (s.any fun e => e == x.Device) = s.contains x.Device := by rw [List.contains_eq_any_beq]; congr 1; funext e; exact Bool.beq_comm
      rw [hc]
      cases x.Kind == 1 with
      | true => cases s.contains x.Device <;> simp [gd, apOk]; omega
      | false =>
        cases x.Kind == 2 with
        | true => simp [l1_spec_DevicesOf s x (by omega)]
        | false => rfl)
    (fun i s x hi hs => by have := stepDev_len s x; omega) (by simp)]
  rfl


noncomputable def m_spec_EpochOf_l0 (log_ : List D.LogEntry) : Nat → (Int × Nat) → Option Int
  | 0, _ => none
  | f + 1, (v0_3, i0) => (bif (decide ((i0 : Int) < (log_.length : Int))) then bd (bd (atq log_ (i0 : Int)) fun z6 => (bif (z6.Kind == (2 : Int)) then some (IntKind.i64.wrap (v0_3 + (1 : Int))) else some v0_3)) fun j1_3 => m_spec_EpochOf_l0 log_ f (j1_3, i0 + 1) else some v0_3)
noncomputable def m_spec_EpochOf (log_ : List D.LogEntry) : Option Int := bd (m_spec_EpochOf_l0 log_ (log_.length + 1) ((0 : Int), 0)) fun j0_3 => some j0_3

theorem t_spec_EpochOf (l : List D.LogEntry) : m_spec_EpochOf l = some (epochOfF l) := by
  unfold m_spec_EpochOf
  rw [bd_id, loopS0 l (fun f i s => m_spec_EpochOf_l0 l f (s, i)) (fun _ s e k => k (bif e.Kind == 2 then IntKind.i64.wrap (s + 1) else s)) (fun s => some s) (by omega)
    (fun f i s h => by rw [m_spec_EpochOf_l0]; simp [h, atq_nat h]) (fun f i s h => by rw [m_spec_EpochOf_l0]; simp [h]), runS_fold]; rfl


noncomputable def m_impl_has_l0 (l_ : List Int) (n_ : Int) : Nat → Nat → Option (Bool ⊕ Unit)
  | 0, _ => none
  | f + 1, i0 => (bif (decide ((i0 : Int) < (l_.length : Int))) then bd (atq l_ (i0 : Int)) fun z4 => (bif (z4 == n_) then some (.inl true) else m_impl_has_l0 l_ n_ f (i0 + 1)) else some (.inr ()))
noncomputable def m_impl_has (l_ : List Int) (n_ : Int) : Option Bool := nx (m_impl_has_l0 l_ n_ (l_.length + 1) 0) fun _ => some false

theorem t_impl_has (l : List Int) (x : Int) : m_impl_has l x = some (hasF l x) := by
  unfold m_impl_has
  rw [loopAny l (m_impl_has_l0 l x) (fun e => e == x) (.inl true) (.inr ()) (by omega) (fun f i h => by rw [m_impl_has_l0]; simp [h, atq_nat h]) (fun f i h => by rw [m_impl_has_l0]; simp [h])]
  unfold hasF; cases l.any _ <;> rfl


noncomputable def m_impl_DevicesOf_l1 (v0_3r : List Int) (z6 : D.LogEntry) : Nat → (Nat × (List Int)) → Option (List Int)
  | 0, _ => none
  | f + 1, (i1, v1r7) => (bif (decide ((i1 : Int) < (v0_3r.length : Int))) then bd (bd (atq v0_3r (i1 : Int)) fun z18 => (bif (z18 != z6.Device) then gd (apOk v1r7 ([z18] : List Int)) <| some (v1r7 ++ ([z18] : List Int)) else some v1r7)) fun j4r7 => m_impl_DevicesOf_l1 v0_3r z6 f (i1 + 1, j4r7) else some v1r7)
noncomputable def m_impl_DevicesOf_l0 (log_ : List D.LogEntry) : Nat → (Nat × (List Int)) → Option (List Int)
  | 0, _ => none
  | f + 1, (i0, v0_3r) => (bif (decide ((i0 : Int) < (log_.length : Int))) then bd (bd (atq log_ (i0 : Int)) fun z6 => bd ((bif (z6.Kind == (1 : Int)) then (bif (!(hasF v0_3r z6.Device)) then gd (apOk v0_3r ([z6.Device] : List Int)) <| some (v0_3r ++ ([z6.Device] : List Int)) else some v0_3r) else (bif (z6.Kind == (2 : Int)) then bd (m_impl_DevicesOf_l1 v0_3r z6 (v0_3r.length + 1) (0, ([] : List Int))) fun j3r7 => some j3r7 else some v0_3r))) fun j2_3r => some j2_3r) fun j1_3r => m_impl_DevicesOf_l0 log_ f (i0 + 1, j1_3r) else some v0_3r)
noncomputable def m_impl_DevicesOf (log_ : List D.LogEntry) : Option (List Int) := bd (m_impl_DevicesOf_l0 log_ (log_.length + 1) (0, ([] : List Int))) fun j0_3r => some j0_3r

theorem l1_impl_DevicesOf (v : List Int) (z : D.LogEntry) (h : v.length ≤ 34359738368) : m_impl_DevicesOf_l1 v z (v.length + 1) (0, []) = some (v.filter fun d => d != z.Device) := by
  rw [loopB v (fun f i s => m_impl_DevicesOf_l1 v z f (i, s)) (fun s x => bif x != z.Device then gd (apOk s [x]) (some (s ++ [x])) else some s) (fun s x => bif x != z.Device then s ++ [x] else s) (fun s => some s) (fun i s => s.length ≤ i) (by omega)
    (fun f i s h => by rw [m_impl_DevicesOf_l1]; simp only [h, Int.ofNat_lt, decide_true, cond_true, atq_nat h, bd_s]) (fun f i s h => by rw [m_impl_DevicesOf_l1]; simp [h])
    (fun i s x hi hs => by cases (x != z.Device) <;> simp [gd, apOk]; omega) (fun i s x hi hs => by cases (x != z.Device) <;> simp <;> omega) (by simp), foldl_filter]
  simp
theorem t_impl_DevicesOf (l : List D.LogEntry) (h : l.length ≤ 34359738368) : m_impl_DevicesOf l = some (devicesOfF l) := by
  unfold m_impl_DevicesOf
  rw [bd_id, loopB l (fun f i s => m_impl_DevicesOf_l0 l f (i, s)) (fun s e => bif e.Kind == 1 then (bif !hasF s e.Device then gd (apOk s [e.Device]) (some (s ++ [e.Device])) else some s) else bif e.Kind == 2 then bd (m_impl_DevicesOf_l1 s e (s.length + 1) (0, [])) fun a => some a else some s) stepDev (fun s => some s) (fun i s => s.length ≤ i) (by omega)
    (fun f i s h => by
      rw [m_impl_DevicesOf_l0]; simp only [h, Int.ofNat_lt, decide_true, cond_true, atq_nat h, bd_s]
      have hk : (l[i].Kind == 1) = true → (l[i].Kind == 2) = false := fun hh => by simp at hh ⊢; omega
      cases h1 : (l[i].Kind == 1) with
      | true => cases hasF s l[i].Device <;> simp [bd_id, hk h1]
      | false => cases (l[i].Kind == 2) <;> simp [bd_id])
    (fun f i s h => by rw [m_impl_DevicesOf_l0]; simp [h])
    (fun i s x hi hs => by
      unfold stepDev hasF
      have hc : (s.any fun e => e == x.Device) = s.contains x.Device := by rw [List.contains_eq_any_beq]; congr 1; funext e; exact Bool.beq_comm
      rw [hc]
      cases x.Kind == 1 with
      | true => cases s.contains x.Device <;> simp [gd, apOk]; omega
      | false =>
        cases x.Kind == 2 with
        | true => simp [l1_impl_DevicesOf s x (by omega)]
        | false => rfl)
    (fun i s x hi hs => by have := stepDev_len s x; omega) (by simp)]
  rfl


noncomputable def m_impl_EpochOf_l0 (log_ : List D.LogEntry) : Nat → (Int × Nat) → Option Int
  | 0, _ => none
  | f + 1, (v0_3, i0) => (bif (decide ((i0 : Int) < (log_.length : Int))) then bd (bd (atq log_ (i0 : Int)) fun z6 => (bif (z6.Kind == (2 : Int)) then some (IntKind.i64.wrap (v0_3 + (1 : Int))) else some v0_3)) fun j1_3 => m_impl_EpochOf_l0 log_ f (j1_3, i0 + 1) else some v0_3)
noncomputable def m_impl_EpochOf (log_ : List D.LogEntry) : Option Int := bd (m_impl_EpochOf_l0 log_ (log_.length + 1) ((0 : Int), 0)) fun j0_3 => some j0_3

theorem t_impl_EpochOf (l : List D.LogEntry) : m_impl_EpochOf l = some (epochOfF l) := by
  unfold m_impl_EpochOf
  rw [bd_id, loopS0 l (fun f i s => m_impl_EpochOf_l0 l f (s, i)) (fun _ s e k => k (bif e.Kind == 2 then IntKind.i64.wrap (s + 1) else s)) (fun s => some s) (by omega)
    (fun f i s h => by rw [m_impl_EpochOf_l0]; simp [h, atq_nat h]) (fun f i s h => by rw [m_impl_EpochOf_l0]; simp [h]), runS_fold]; rfl


noncomputable def m_spec_OpenEpochBoxes (s_ : D.KeyStore) (e_ : D.EpochBoxes) : Option (Int × Bool) := gd (bytesOk ((findBoxF e_.Boxes (devKeyF s_)).1)) <| bd ((bif (!((findBoxF e_.Boxes (devKeyF s_)).2)) then some true else (bif (!((decodeF ((findBoxF e_.Boxes (devKeyF s_)).1) (0 : Int) (2 : Int)).2.2)) then some true else (bif ((decodeF ((findBoxF e_.Boxes (devKeyF s_)).1) (0 : Int) (2 : Int)).2.1 != (((findBoxF e_.Boxes (devKeyF s_)).1).length : Int)) then some true else bd (atq ((decodeF ((findBoxF e_.Boxes (devKeyF s_)).1) (0 : Int) (2 : Int)).1) (0 : Int)) fun z6 => (bif (z6 != e_.Epoch) then some true else bd (atq ((decodeF ((findBoxF e_.Boxes (devKeyF s_)).1) (0 : Int) (2 : Int)).1) (1 : Int)) fun z9 => some (!(keyF z9))))))) fun j0_51 => (bif j0_51 then some ((0 : Int), false) else bd (atq ((decodeF ((findBoxF e_.Boxes (devKeyF s_)).1) (0 : Int) (2 : Int)).1) (1 : Int)) fun z12 => some (z12, true))

theorem t_spec_OpenEpochBoxes (s : D.KeyStore) (e : D.EpochBoxes) : m_spec_OpenEpochBoxes s e = some (openEpochF s e) := by
  unfold m_spec_OpenEpochBoxes openEpochF
  rw [gd_t (findBox_ok _ _)]
  generalize findBoxF e.Boxes (devKeyF s) = x
  obtain ⟨x1, x2⟩ := x
  dsimp only
  cases x2 with
  | false => rfl
  | true =>
    have hl := fun h => decode_len (b := x1) (a := 0) (c := 2) (by omega) h
    generalize decodeF x1 0 2 = y at hl
    obtain ⟨y1, y2, y3⟩ := y
    unfold openEpochG
    cases y3 with
    | false => rfl
    | true =>
      have hl' : y1.length = 2 := hl rfl
      obtain ⟨a, c, rfl⟩ : ∃ a c, y1 = [a, c] := by
        match y1, hl' with
        | [a, c], _ => exact ⟨a, c, rfl⟩
      have e0 : atq [a, c] 0 = some a := rfl
      have e1 : atq [a, c] 1 = some c := rfl
      simp only [e0, e1, bd_s, Bool.not_true, cond_false, Bool.false_or]
      cases (y2 != (x1.length : Int)) <;> cases ha : (a != e.Epoch) <;> cases hc : keyF c <;> simp [ha, hc]


noncomputable def m_impl_OpenEpochBoxes (s_ : D.KeyStore) (e_ : D.EpochBoxes) : Option (Int × Bool) := gd (([(181 : Int)] : List Int).length ≤ 34359738300) <| (bif (!((findBoxF e_.Boxes (deriveF s_.Seed ([(181 : Int)] : List Int))).2)) then some ((0 : Int), false) else gd (bytesOk ((findBoxF e_.Boxes (deriveF s_.Seed ([(181 : Int)] : List Int))).1)) <| bd ((bif (!((decodeF ((findBoxF e_.Boxes (deriveF s_.Seed ([(181 : Int)] : List Int))).1) (0 : Int) (2 : Int)).2.2)) then some true else (bif ((decodeF ((findBoxF e_.Boxes (deriveF s_.Seed ([(181 : Int)] : List Int))).1) (0 : Int) (2 : Int)).2.1 != (((findBoxF e_.Boxes (deriveF s_.Seed ([(181 : Int)] : List Int))).1).length : Int)) then some true else bd (atq ((decodeF ((findBoxF e_.Boxes (deriveF s_.Seed ([(181 : Int)] : List Int))).1) (0 : Int) (2 : Int)).1) (0 : Int)) fun z7 => (bif (z7 != e_.Epoch) then some true else bd (atq ((decodeF ((findBoxF e_.Boxes (deriveF s_.Seed ([(181 : Int)] : List Int))).1) (0 : Int) (2 : Int)).1) (1 : Int)) fun z10 => some (!(keyF z10)))))) fun j0_51 => (bif j0_51 then some ((0 : Int), false) else bd (atq ((decodeF ((findBoxF e_.Boxes (deriveF s_.Seed ([(181 : Int)] : List Int))).1) (0 : Int) (2 : Int)).1) (1 : Int)) fun z13 => some (z13, true)))

theorem t_impl_OpenEpochBoxes (s : D.KeyStore) (e : D.EpochBoxes) : m_impl_OpenEpochBoxes s e = some (openEpochF s e) := by
  unfold m_impl_OpenEpochBoxes openEpochF
  rw [gd_t (by simp), gd_t (findBox_ok _ _), show deriveF s.Seed [181] = devKeyF s from rfl]
  generalize findBoxF e.Boxes (devKeyF s) = x
  obtain ⟨x1, x2⟩ := x
  dsimp only
  cases x2 with
  | false => rfl
  | true =>
    have hl := fun h => decode_len (b := x1) (a := 0) (c := 2) (by omega) h
    generalize decodeF x1 0 2 = y at hl
    obtain ⟨y1, y2, y3⟩ := y
    unfold openEpochG
    cases y3 with
    | false => rfl
    | true =>
      have hl' : y1.length = 2 := hl rfl
      obtain ⟨a, c, rfl⟩ : ∃ a c, y1 = [a, c] := by
        match y1, hl' with
        | [a, c], _ => exact ⟨a, c, rfl⟩
      have e0 : atq [a, c] 0 = some a := rfl
      have e1 : atq [a, c] 1 = some c := rfl
      simp only [e0, e1, bd_s, Bool.not_true, cond_false, Bool.false_or]
      cases (y2 != (x1.length : Int)) <;> cases ha : (a != e.Epoch) <;> cases hc : keyF c <;> simp [ha, hc]


noncomputable def m_spec_InList (w_ : D.World) (device_ : Int) : Option Bool := bd ((bif (inR device_ (0 : Int) (IntKind.i64.wrap ((w_.Devices.length : Int) - (1 : Int)))) then bd (atq w_.Devices device_) fun z3 => gd (w_.Cloud.Log.length ≤ 34359738368) <| some (hasF (devicesOfF w_.Cloud.Log) (devPubF z3.Store)) else some false)) fun j0_4 => some j0_4

theorem t_spec_InList (w : D.World) (d : Int) (h : WOk w) : m_spec_InList w d = some (inListF w d) := by
  unfold m_spec_InList inListF
  rw [hasDev_in h, bd_id]
  cases hd : hasDevF w d with
  | false => rfl
  | true => simp [atq_dev hd, gd_t h.2.2.1]


noncomputable def m_impl_hasDevice (w_ : D.World) (device_ : Int) : Option Bool := bd ((bif (decide (device_ ≥ (0 : Int))) then some (decide (device_ < (w_.Devices.length : Int))) else some false)) fun j0_4 => some j0_4

theorem t_impl_hasDevice (w : D.World) (d : Int) : m_impl_hasDevice w d = some (hasDevF w d) := by simp [m_impl_hasDevice, hasDevF]


noncomputable def m_impl_InList (w_ : D.World) (device_ : Int) : Option Bool := bd ((bif (hasDevF w_ device_) then bd (atq w_.Devices device_) fun z3 => gd (w_.Cloud.Log.length ≤ 34359738368) <| some (hasF (devicesOfF w_.Cloud.Log) (devPubF z3.Store)) else some false)) fun j0_4 => some j0_4

theorem t_impl_InList (w : D.World) (d : Int) (h : WOk w) : m_impl_InList w d = some (inListF w d) := by
  unfold m_impl_InList inListF
  rw [bd_id]
  cases hd : hasDevF w d with
  | false => rfl
  | true => simp [atq_dev hd, gd_t h.2.2.1]


noncomputable def m_spec_KeysAgree (w_ : D.World) (device_ : Int) : Option Bool := (bif (!(inR device_ (0 : Int) (IntKind.i64.wrap ((w_.Devices.length : Int) - (1 : Int))))) then some false else bd (atq w_.Devices device_) fun z2 => bd (gd (WOk w_) <| (bif (!(inListF w_ device_)) then some true else (bif (z2.Epoch != (epochOfF w_.Cloud.Log)) then some true else some (z2.Key == (openEpochF z2.Store w_.Cloud.Boxes).1)))) fun j0_4 => some j0_4)

theorem t_spec_KeysAgree (w : D.World) (d : Int) (h : WOk w) : m_spec_KeysAgree w d = some (keysAgreeF w d) := by
  unfold m_spec_KeysAgree keysAgreeF
  rw [hasDev_in h]
  cases hd : hasDevF w d with
  | false => rfl
  | true =>
    simp only [Bool.not_true, cond_false, atq_dev hd, bd_s, gd_t h, Bool.true_and, bd_id]
    cases inListF w d <;> simp


noncomputable def m_impl_KeysAgree (w_ : D.World) (device_ : Int) : Option Bool := (bif (!(hasDevF w_ device_)) then some false else bd (atq w_.Devices device_) fun z2 => bd (gd (WOk w_) <| (bif (!(inListF w_ device_)) then some true else (bif (z2.Epoch != (epochOfF w_.Cloud.Log)) then some true else some (z2.Key == (openEpochF z2.Store w_.Cloud.Boxes).1)))) fun j0_4 => some j0_4)

theorem t_impl_KeysAgree (w : D.World) (d : Int) (h : WOk w) : m_impl_KeysAgree w d = some (keysAgreeF w d) := by
  unfold m_impl_KeysAgree keysAgreeF
  cases hd : hasDevF w d with
  | false => rfl
  | true =>
    simp only [Bool.not_true, cond_false, atq_dev hd, bd_s, gd_t h, Bool.true_and, bd_id]
    cases inListF w d <;> simp

end Go.VK
