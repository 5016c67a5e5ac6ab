/-
  Printed by wip/tools (own work of this part): models of functions, walks over the value kit, and proofs.
-/
import Derived.Test.YtancgejlilbjnaaGreatDoorXsaw
set_option linter.unusedVariables false
set_option linter.unusedSimpArgs false
set_option maxRecDepth 100000
set_option maxHeartbeats 4000000
namespace Go.VK
open Go.RowKit Go.Proofs
def markF (k : D.Keeper) : Int := IntKind.i64.wrap (IntKind.i64.wrap (k.Epoch * 1000) + k.Guesses)
def guessesWithinF (w : D.World) : Bool := !w.Hosts.any fun h => decide (h.State.Guesses > h.State.Limit) || decide (markF h.State > h.Monotonic)
theorem hstep_range {h v : Int} (h0 : 0 ≤ h) (h1 : h < 2147483647) : 0 ≤ hstep h v ∧ hstep h v < 2147483647 := by
  have hm := modI_range (p := v) (q := 2147483647) (by omega)
  unfold hstep
  generalize modI v 2147483647 = z at *
  have e1 : IntKind.i64.wrap (h * 1000003) = h * 1000003 := wrap64_id (by omega) (by omega)
  have e2 : IntKind.i64.wrap (h * 1000003 + z) = h * 1000003 + z := wrap64_id (by omega) (by omega)
  have e3 : IntKind.i64.wrap (h * 1000003 + z + 13) = h * 1000003 + z + 13 := wrap64_id (by omega) (by omega)
  rw [e1, e2, e3]
  exact ⟨Int.tmod_nonneg _ (by omega), Int.tmod_lt_of_pos _ (by decide)⟩
theorem hashI_range (l : List Int) : 0 ≤ hashI l ∧ hashI l < 2147483647 := by
  unfold hashI
  suffices ∀ (l : List Int) (h : Int), 0 ≤ h → h < 2147483647 → 0 ≤ l.foldl hstep h ∧ l.foldl hstep h < 2147483647 from this l 11 (by omega) (by omega)
  intro l
  induction l with
  | nil => intro h h0 h1; exact ⟨h0, h1⟩
  | cons x xs ih => intro h h0 h1; exact ih _ (hstep_range h0 h1).1 (hstep_range h0 h1).2
theorem keyedI_range (k : Int) (l : List Int) : 0 ≤ keyedI k l ∧ keyedI k l < 2147483647 := hashI_range _
def maxF (a b : Int) : Int := bif decide (b > a) then b else a
def joinF (a : List Int) (r : List (List Int)) : List Int := a ++ r.flatten
def orOneF (n : Int) : Int := bif n == 0 then 1 else n
def keyF (n : Int) : Bool := inR n 1 2147483646
def b2iF (b : List Int) : List Int := [(b.length : Int)] ++ b.map IntKind.i64.wrap
def deriveF (seed : Int) (l : List Int) : Int := orOneF (keyedI seed ([151] ++ l))
def publicF (p : Int) : Int := bif !(keyF p) then 0 else (IntKind.i64.wrap (p * 48271)).tmod 2147483647
def devKeyF (s : D.KeyStore) : Int := deriveF s.Seed [181]
def devPubF (s : D.KeyStore) : Int := publicF (devKeyF s)
def hasF (l : List Int) (x : Int) : Bool := l.any fun e => e == x
def removedF (log : List D.LogEntry) (p : Int) : Bool := log.any fun e => e.Kind == 2 && e.Device == p
def stepDev (s : List Int) (e : D.LogEntry) : List Int :=
  bif e.Kind == 1 then (bif s.contains e.Device then s else s ++ [e.Device]) else bif e.Kind == 2 then s.filter (fun d => d != e.Device) else s
def devicesOfF (log : List D.LogEntry) : List Int := log.foldl stepDev []
def epochOfF (log : List D.LogEntry) : Int := log.foldl (fun n e => bif e.Kind == 2 then IntKind.i64.wrap (n + 1) else n) 0
def findAccountF (s : D.Site) (id : Int) : Int := findP (fun a => a.Id == id) 0 s.Accounts
theorem stepDev_len (s : List Int) (x : D.LogEntry) : (stepDev s x).length ≤ s.length + 1 := by
  unfold stepDev
  cases x.Kind == 1 with
  | true => cases s.contains x.Device <;> simp
  | false =>
    cases x.Kind == 2 with
    | true => have := List.length_filter_le (fun d => d != x.Device) s; simp; omega
    | false => simp
theorem maxF_one {n : Int} (h : 0 ≤ n) : maxF 1 n = orOneF n := by
  unfold maxF orOneF
  rcases (show n = 0 ∨ n = 1 ∨ n > 1 by omega) with rfl | rfl | h1
  · rfl
  · rfl
  · have : (n == 0) = false := by simp; omega
    simp [h1, this]
def WOk (w : D.World) : Prop := w.Devices.length ≤ 34359738368 ∧ w.Stolen.length ≤ 34359738368 ∧ w.Cloud.Log.length ≤ 34359738368 ∧ w.Sites.length ≤ 34359738368
instance (w : D.World) : Decidable (WOk w) := inferInstanceAs (Decidable (_ ∧ _))
def hasDevF (w : D.World) (d : Int) : Bool := decide (0 ≤ d) && decide (d < w.Devices.length)
theorem hasDev_in {w : D.World} (h : WOk w) (d : Int) : inR d 0 (IntKind.i64.wrap ((w.Devices.length : Int) - 1)) = hasDevF w d := by
  have := h.1
  rw [wrap64_id (by omega) (by omega)]
  unfold inR hasDevF
  congr 1
  exact decide_eq_decide.2 (by omega)
def devAt (w : D.World) (d : Int) : D.Device := w.Devices.getD d.toNat default
theorem atq_dev {w : D.World} {d : Int} (h : hasDevF w d = true) : atq w.Devices d = some (devAt w d) := by
  simp only [hasDevF, Bool.and_eq_true, decide_eq_true_eq] at h
  rw [atq_int h.1 (by omega)]
  simp [devAt, List.getD, List.getElem?_eq_getElem (show d.toNat < w.Devices.length by omega)]
def inListF (w : D.World) (d : Int) : Bool := hasDevF w d && hasF (devicesOfF w.Cloud.Log) (devPubF (devAt w d).Store)
def isCutF (w : D.World) (d : Int) : Bool := hasDevF w d && removedF w.Cloud.Log (devPubF (devAt w d).Store)
def siteBad (d : Int) (s : D.Site) : Bool := !decide (findAccountF s 1 < 0) && (s.Accounts.getD (findAccountF s 1).toNat default).Credentials.any fun c => c.Handle == d && !c.Cut
def cutFinalF (w : D.World) (d : Int) : Bool := !isCutF w d || (!inListF w d && !(w.Sites.take 2).any (siteBad d))
theorem WOk.of {w : D.World} (h : w.sz ≤ 1048576) : WOk w := by
  simp only [D.World.sz, D.Cloud.sz] at h
  unfold WOk
  omega
def decB (k : Int) (i : Nat) (z : Int) : Int := IntKind.u8.wrap ((z - keyedI k [(i : Int)]) % 256)
def decF (k : Int) (b : List Int) : List Int := catI (fun i z => [decB k i z]) 0 b
theorem modI_256 (x : Int) : modI (IntKind.i64.wrap x) 256 = x % 256 := by
  rw [modI, if_pos (by omega), IntKind.wrap_i64]; omega
theorem dec_impl (k : Int) (i : Nat) (z : Int) : IntKind.u8.wrap (modI (IntKind.i64.wrap (IntKind.i64.wrap z - keyedI k [(i : Int)])) 256) = decB k i z := by
  rw [modI_256, decB, IntKind.wrap_i64]; congr 1; omega
theorem dec_spec (k : Int) (i : Nat) (z : Int) : IntKind.u8.wrap (modI (IntKind.i64.wrap (IntKind.i64.wrap z - (keyedI k [(i : Int)]).tmod 256)) 256) = decB k i z := by
  rw [modI_256, decB, IntKind.wrap_i64, Int.tmod_eq_emod_of_nonneg (keyedI_range _ _).1]; congr 1; omega
theorem catI_len {α β : Type} {y : Nat → α → β} : ∀ {i : Nat} {l : List α}, (catI (fun i x => [y i x]) i l).length = l.length
  | i, [] => rfl
  | i, x :: xs => by simp [catI, catI_len]
def boxKeyF (p e : Int) : Int := deriveF p [163, e]
def macF (k : Int) (b : D.Box) : Int := keyedI k ([167, b.To, b.Ephemeral] ++ b2iF b.Data)
def openBoxF (p : Int) (b : D.Box) : List Int × Bool :=
  bif !keyF p || (b.To != publicF p || (!keyF b.Ephemeral || decide ((b.Data.length : Int) > 200))) then ([], false)
  else bif b.MAC != macF (boxKeyF p b.Ephemeral) b then ([], false) else (decF (boxKeyF p b.Ephemeral) b.Data, true)
def findBoxF : List D.Box → Int → List Int × Bool
  | [], _ => ([], false)
  | b :: bs, p => bif (openBoxF p b).2 then ((openBoxF p b).1, true) else findBoxF bs p
theorem findBox_run (p : Int) : ∀ (bs : List D.Box) (i : Nat), nx (runL (τ := (List Int × Bool) ⊕ Unit) (fun _ b r => bif (openBoxF p b).2 then some (.inl ((openBoxF p b).1, true)) else r) (some (.inr ())) i bs) (fun _ => some (([] : List Int), false)) = some (findBoxF bs p)
  | [], i => rfl
  | b :: bs, i => by
    simp only [runL, findBoxF]
    cases (openBoxF p b).2 with
    | true => rfl
    | false => exact findBox_run p bs (i + 1)
def bytesOk (b : List Int) : Prop := b.length ≤ 34359738368 ∧ b.all (fun z => decide (0 ≤ z) && decide (z ≤ 255)) = true
instance (b : List Int) : Decidable (bytesOk b) := inferInstanceAs (Decidable (_ ∧ _))
theorem bytesOk_get {b : List Int} (h : bytesOk b) {i : Nat} (hi : i < b.length) : 0 ≤ b[i] ∧ b[i] ≤ 255 := by
  have := List.all_eq_true.1 h.2 b[i] (List.getElem_mem hi)
  simpa using this
/-- Read from place p on: k more places, the i-th at hand, n so far. -/
def uvG (b : List Int) (p : Nat) : Nat → Nat → Int → Int × Int × Bool
  | 0, _, _ => (0, 0, false)
  | k + 1, i, n =>
    if p + i < b.length then
      bif decide (b.getD (p + i) 0 < 128) then
        (bif (decide (0 < i) && b.getD (p + i) 0 == 0) || decide (n + b.getD (p + i) 0 % 128 * 128 ^ i > 1000000000000) then (0, 0, false) else (n + b.getD (p + i) 0 % 128 * 128 ^ i, ((p + i + 1 : Nat) : Int), true))
      else uvG b p k (i + 1) (n + b.getD (p + i) 0 % 128 * 128 ^ i)
    else (0, 0, false)
def uvF (b : List Int) (at_ : Int) : Int × Int × Bool := if at_ < 0 then (0, 0, false) else uvG b at_.toNat 6 0 0
theorem pow128 {i : Nat} (h : i ≤ 6) : (1 : Int) ≤ 128 ^ i ∧ (128 : Int) ^ i ≤ 4398046511104 := by
  match i, h with
  | 0, _ | 1, _ | 2, _ | 3, _ | 4, _ | 5, _ | 6, _ => decide
theorem uv_step {z n : Int} {i : Nat} (hi : i ≤ 5) (hz : 0 ≤ z) (hn : 0 ≤ n) (hn' : n < 128 ^ i) : 0 ≤ n + z % 128 * 128 ^ i ∧ n + z % 128 * 128 ^ i < 128 ^ (i + 1) ∧ 0 ≤ z % 128 * 128 ^ i ∧ z % 128 * 128 ^ i ≤ 127 * 128 ^ i := by
  have hp := pow128 (i := i) (by omega)
  have h1 : 0 ≤ z % 128 * 128 ^ i := Int.mul_nonneg (by omega) (by omega)
  have h2 : z % 128 * 128 ^ i ≤ 127 * 128 ^ i := Int.mul_le_mul_of_nonneg_right (by omega) (by omega)
  rw [Int.pow_succ]
  refine ⟨by omega, by omega, h1, h2⟩
theorem or_step {z n : Int} {i : Nat} (hi : i ≤ 5) (hz : 0 ≤ z) (hz' : z ≤ 255) (hn : 0 ≤ n) (hn' : n < 128 ^ i) :
    orI .i64 n (shlI .i64 (andI .i64 z 127) (IntKind.i64.wrap (7 * (i : Int)))) = n + z % 128 * 128 ^ i := by
  obtain ⟨m, rfl⟩ := Int.eq_ofNat_of_zero_le hz
  obtain ⟨q, rfl⟩ := Int.eq_ofNat_of_zero_le hn
  have hp := pow128 (i := i) (by omega)
  have hs := uv_step (z := (m : Int)) (n := (q : Int)) hi (by omega) (by omega) hn'
  have ha : andI .i64 (m : Int) 127 = ((m % 128 : Nat) : Int) := by
    have e : ((BitVec.ofInt 64 (m : Int)) &&& (BitVec.ofInt 64 127)).toNat = m % 128 := by
      rw [BitVec.toNat_and]
      have e1 : (BitVec.ofInt 64 (m : Int)).toNat = m := by
        rw [BitVec.toNat_ofInt]; omega
      have e2 : (BitVec.ofInt 64 127).toNat = 2 ^ 7 - 1 := by decide
      rw [e1, e2, Nat.and_two_pow_sub_one_eq_mod]
    show IntKind.i64.wrap (((BitVec.ofInt 64 (m : Int)) &&& (BitVec.ofInt 64 127)).toNat : Int) = _
    rw [e]; exact wrap64_id (by omega) (by omega)
  have hw : IntKind.i64.wrap (7 * (i : Int)) = ((7 * i : Nat) : Int) := by rw [wrap64_id (by omega) (by omega)]; omega
  have hpn : (2 : Nat) ^ (7 * i) = 128 ^ i := by rw [Nat.pow_mul]
  have hpi : ((128 ^ i : Nat) : Int) = (128 : Int) ^ i := by simp
  have hb : shlI .i64 (andI .i64 (m : Int) 127) (IntKind.i64.wrap (7 * (i : Int))) = ((m % 128 * 128 ^ i : Nat) : Int) := by
    rw [ha, hw]
    unfold shlI
    rw [Int.toNat_natCast, show min (7 * i) IntKind.i64.bits = 7 * i from Nat.min_eq_left (by simp [IntKind.bits]; omega)]
    have e3 : ((m % 128 : Nat) : Int) * 2 ^ (7 * i) = ((m % 128 * 128 ^ i : Nat) : Int) := by
      rw [← hpn]; simp
    rw [e3]
    have : ((m % 128 * 128 ^ i : Nat) : Int) = (m : Int) % 128 * 128 ^ i := by simp
    rw [this]
    exact wrap64_id (by omega) (by omega)
  rw [hb]
  have hqlt : q < 128 ^ i := by rw [← hpi] at hn'; exact_mod_cast hn'
  have hor : (m % 128 * 128 ^ i) ||| q = m % 128 * 128 ^ i + q := by
    have := Nat.shiftLeft_add_eq_or_of_lt (b := q) (i := 7 * i) (by rw [hpn]; exact hqlt) (m % 128)
    rw [Nat.shiftLeft_eq, hpn] at this
    exact this.symm
  have hle : m % 128 * 128 ^ i + q < 2 ^ 63 := by
    have : ((m % 128 * 128 ^ i + q : Nat) : Int) = q + (m : Int) % 128 * 128 ^ i := by simp; omega
    omega
  have e4 : ((BitVec.ofInt 64 (q : Int)) ||| (BitVec.ofInt 64 ((m % 128 * 128 ^ i : Nat) : Int))).toNat = m % 128 * 128 ^ i + q := by
    rw [BitVec.toNat_or]
    have e5 : (BitVec.ofInt 64 (q : Int)).toNat = q := by rw [BitVec.toNat_ofInt]; omega
    have e6 : (BitVec.ofInt 64 ((m % 128 * 128 ^ i : Nat) : Int)).toNat = m % 128 * 128 ^ i := by rw [BitVec.toNat_ofInt]; omega
    rw [e5, e6, Nat.or_comm, hor]
  show IntKind.i64.wrap (((BitVec.ofInt 64 (q : Int)) ||| (BitVec.ofInt 64 ((m % 128 * 128 ^ i : Nat) : Int))).toNat : Int) = _
  rw [e4, wrap64_id (by omega) (by omega)]
  simp
  omega
def decG (b : List Int) : Nat → Int → List Int → List Int × Int × Bool
  | 0, a, s => (s, a, true)
  | k + 1, a, s => bif (uvF b a).2.2 then decG b k (uvF b a).2.1 (s ++ [(uvF b a).1]) else ([], 0, false)
def decodeF (b : List Int) (a c : Int) : List Int × Int × Bool := bif !inR c 0 100 || !inR a 0 b.length then ([], 0, false) else decG b c.toNat a []
theorem decG_len (b : List Int) : ∀ (k : Nat) (a : Int) (s : List Int), (decG b k a s).2.2 = true → (decG b k a s).1.length = s.length + k
  | 0, a, s, _ => rfl
  | k + 1, a, s, h => by
    unfold decG at h ⊢
    cases hu : (uvF b a).2.2 with
    | false => rw [hu] at h; simp at h
    | true =>
      rw [hu] at h
      simp only [cond_true] at h ⊢
      rw [decG_len b k _ _ h]; simp; omega
theorem decode_len {b : List Int} {a c : Int} (hc : 0 ≤ c) (h : (decodeF b a c).2.2 = true) : (decodeF b a c).1.length = c.toNat := by
  unfold decodeF at h ⊢
  cases hx : (!inR c 0 100 || !inR a 0 b.length) with
  | true => rw [hx] at h; simp at h
  | false =>
    rw [hx] at h
    simp only [cond_false] at h ⊢
    rw [decG_len _ _ _ _ h]; simp
theorem decF_ok {k : Int} {b : List Int} (h : b.length ≤ 34359738368) : bytesOk (decF k b) := by
  refine ⟨by unfold decF; rw [catI_len]; exact h, ?_⟩
  rw [List.all_eq_true]
  intro z hz
  have : ∀ (b : List Int) (i : Nat), z ∈ catI (fun i z => [decB k i z]) i b → 0 ≤ z ∧ z ≤ 255 := by
    intro b
    induction b with
    | nil => intro i h; simp [catI] at h
    | cons x xs ih =>
      intro i h
      simp only [catI, List.mem_append, List.mem_singleton] at h
      rcases h with rfl | h
      · have := wrap_range .u8 ((x - keyedI k [(i : Int)]) % 256)
        simpa [decB, IntKind.min, IntKind.max, IntKind.signed, IntKind.bits] using this
      · exact ih _ h
  have := this b 0 hz
  simp [this.1, this.2]
theorem openBox_ok (p : Int) (b : D.Box) : bytesOk (openBoxF p b).1 := by
  unfold openBoxF
  have h0 : bytesOk ([] : List Int) := by decide
  by_cases hl : b.Data.length ≤ 200
  · cases (!keyF p || (b.To != publicF p || (!keyF b.Ephemeral || decide ((b.Data.length : Int) > 200)))) <;> cases (b.MAC != macF (boxKeyF p b.Ephemeral) b) <;> first | exact h0 | exact decF_ok (by omega)
  · have e1 : decide ((b.Data.length : Int) > 200) = true := by simp; omega
    rw [e1]; simpa using h0
theorem findBox_ok (p : Int) : ∀ bs, bytesOk (findBoxF bs p).1
  | [] => show bytesOk [] by decide
  | b :: bs => by
    unfold findBoxF
    cases (openBoxF p b).2 with
    | true => exact openBox_ok p b
    | false => exact findBox_ok p bs
def openEpochG (e : D.EpochBoxes) (x : List Int × Bool) (y : List Int × Int × Bool) : Int × Bool :=
  bif !x.2 || (!y.2.2 || (y.2.1 != (x.1.length : Int) || (y.1.getD 0 0 != e.Epoch || !keyF (y.1.getD 1 0)))) then (0, false) else (y.1.getD 1 0, true)
def openEpochF (s : D.KeyStore) (e : D.EpochBoxes) : Int × Bool := openEpochG e (findBoxF e.Boxes (devKeyF s)) (decodeF (findBoxF e.Boxes (devKeyF s)).1 0 2)
def keysAgreeF (w : D.World) (d : Int) : Bool := hasDevF w d && (!inListF w d || ((devAt w d).Epoch != epochOfF w.Cloud.Log || (devAt w d).Key == (openEpochF (devAt w d).Store w.Cloud.Boxes).1))
theorem and_one {n : Int} (h0 : 0 ≤ n) (h1 : n < 9223372036854775808) : andI .i64 n 1 = n % 2 := by
  obtain ⟨m, rfl⟩ := Int.eq_ofNat_of_zero_le h0
  have e : ((BitVec.ofInt 64 (m : Int)) &&& (BitVec.ofInt 64 1)).toNat = m % 2 := by
    rw [BitVec.toNat_and]
    have e1 : (BitVec.ofInt 64 (m : Int)).toNat = m := by rw [BitVec.toNat_ofInt]; omega
    have e2 : (BitVec.ofInt 64 1).toNat = 2 ^ 1 - 1 := by decide
    rw [e1, e2, Nat.and_two_pow_sub_one_eq_mod]
  show IntKind.i64.wrap (((BitVec.ofInt 64 (m : Int)) &&& (BitVec.ofInt 64 1)).toNat : Int) = _
  rw [e, wrap64_id (by omega) (by omega)]; omega
theorem shr_one {n : Int} (h0 : 0 ≤ n) : shrI .i64 n 1 = n / 2 := by
  unfold shrI
  rw [show min (Int.toNat 1) IntKind.i64.bits = 1 from by decide, Int.fdiv_eq_ediv_of_nonneg _ (by decide)]; rfl
/-- Powers by squaring: at most k more rounds. -/
def powG : Nat → Int → Int → Int → Int
  | 0, _, _, s => s
  | k + 1, b, n, s => if n > 0 then powG k ((IntKind.i64.wrap (b * b)).tmod 2147483647) (n / 2) (bif n % 2 == 1 then (IntKind.i64.wrap (s * b)).tmod 2147483647 else s) else s
theorem powG_c1 : powG 31 48271 2147483645 1 = 1899818559 := by decide +kernel
def privF (q : Int) : Int := bif !keyF q then 0 else q * 1899818559 % 2147483647
def signF (p : Int) (l : List Int) : Int := bif !keyF p then 0 else keyedI p ([139, (l.length : Int)] ++ l)
def verifyF (q : Int) (l : List Int) (g : Int) : Bool := privF q != 0 && signF (privF q) l == g
/-- The element ahead of place i. -/
theorem atq_prev {α : Type} [Inhabited α] {l : List α} {i : Nat} (h0 : 0 < i) (hi : i < l.length) (hl : l.length ≤ 34359738368) : atq l (IntKind.i64.wrap ((i : Int) - 1)) = some (l.getD (i - 1) default) := by
  rw [wrap64_id (by omega) (by omega), show (i : Int) - 1 = ((i - 1 : Nat) : Int) by omega, atq_nat (by omega)]
  simp [List.getD, List.getElem?_eq_getElem (show i - 1 < l.length by omega)]
def noticeBad (l : List D.Notice) (i : Nat) (n : D.Notice) : Bool := !inR n.Kind 1 5 || (!inR n.Account 0 1000000 || (!inR n.Time 0 1000000 || (decide (0 < i) && decide ((l.getD (i - 1) default).Time > n.Time))))
def mailOkF (m : D.Mailbox) : Bool := decide (m.Notices.length ≤ 30) && !anyI (noticeBad m.Notices) 0 m.Notices
def challengeBad (b : D.ChallengeBook) (i : Nat) (n : D.Challenge) : Bool := !inR n.Id 0 (IntKind.i64.wrap (b.Next - 1)) || ((decide (0 < i) && decide ((b.Open.getD (i - 1) default).Id ≥ n.Id)) || (!inR n.Account 0 1000005 || !inR n.Until 0 1000005))
def bookOkF (b : D.ChallengeBook) : Bool := inR b.Next 0 1000000 && decide (b.Open.length ≤ 16) && !anyI (challengeBad b) 0 b.Open
def credBad (a : D.Account) (i : Nat) (n : D.Credential) : Bool := (!inR n.Handle 0 1000000 || ((decide (0 < i) && decide ((a.Credentials.getD (i - 1) default).Handle ≥ n.Handle)) || (privF n.Public == 0 || !inR n.Counter 0 1000000))) || (a.Credentials.take i).any fun q => q.Public == n.Public
def accountOkF (a : D.Account) : Bool := inR a.Id 0 1000000 && inR a.Minimum 1 3 && decide (a.Credentials.length ≤ 8) && !anyI (credBad a) 0 a.Credentials
def entryHashF (e : D.LogEntry) : Int := hashI [229, e.Index, e.Kind, e.Device, e.By, e.Previous]
def logHeadF (l : List D.LogEntry) : Int := bif (l.length : Int) == 0 then 0 else entryHashF (l.getD (l.length - 1) default)
/-- An entry that may not follow these. -/
def stepOkF (l : List D.LogEntry) (e : D.LogEntry) : Bool :=
  e.Index == (l.length : Int) && (e.Previous == logHeadF l && ((hasF (devicesOfF l) e.By || ((l.length : Int) == 0 && e.By == e.Device)) && (verifyF e.By [entryHashF e] e.Signature &&
    (bif e.Kind == 2 then hasF (devicesOfF l) e.Device && decide (((devicesOfF l).length : Int) > 1) else !removedF l e.Device && (e.Kind == 1 && (!hasF (devicesOfF l) e.Device && decide (((devicesOfF l).length : Int) < 6)))))))
def logOkF (l : List D.LogEntry) : Bool := inR (l.length : Int) 1 40 && !anyI (fun i e => !stepOkF (l.take i) e) 0 l
theorem hasF_pos {l : List Int} {x : Int} (h : hasF l x = true) : 0 < l.length := by
  cases l with
  | nil => simp [hasF] at h
  | cons a r => simp
/-- Labels of a host: the pieces between dots; cur is what the piece under way has so far. -/
def splitA : List UInt8 → List UInt8 → List (List UInt8)
  | cur, [] => [cur]
  | cur, b :: r => bif b == 46 then cur :: splitA [] r else splitA (cur ++ [b]) r
theorem occ46 (s : List UInt8) (i : Nat) : Lib.occAt s [46] i = decide (s[i]? = some 46) := by
  unfold Lib.occAt
  cases h : s.drop i with
  | nil =>
    have : s.length ≤ i := List.drop_eq_nil_iff.1 h
    simp [List.getElem?_eq_none this, List.isPrefixOf]
  | cons b r =>
    have e : s[i]? = some b := by
      have := List.getElem?_drop (xs := s) (i := i) (j := 0)
      rw [h] at this; simpa using this.symm
    rw [e]; simp only [List.isPrefixOf, Bool.and_true, Option.some.injEq]
    rw [Bool.eq_iff_iff]; simp only [beq_iff_eq, decide_eq_true_eq]; exact eq_comm
theorem splitA_app : ∀ (a cur r : List UInt8), (∀ b ∈ a, b ≠ 46) → splitA cur (a ++ 46 :: r) = (cur ++ a) :: splitA [] r
  | [], cur, r, _ => by simp [splitA]
  | b :: a, cur, r, h => by
    have hb : (b == 46) = false := by simpa using h b (by simp)
    rw [List.cons_append, splitA, hb, cond_false, splitA_app a _ r (fun x hx => h x (List.mem_cons_of_mem _ hx))]; simp
theorem splitA_none : ∀ (a cur : List UInt8), (∀ b ∈ a, b ≠ 46) → splitA cur a = [cur ++ a]
  | [], cur, _ => by simp [splitA]
  | b :: a, cur, h => by
    have hb : (b == 46) = false := by simpa using h b (by simp)
    rw [splitA, hb, cond_false, splitA_none a _ (fun x hx => h x (List.mem_cons_of_mem _ hx))]; simp
theorem splitK_A : ∀ (n : Nat) (s : List UInt8), s.length < n → Lib.splitK [46] 0 (Lib.count s [46]) s = splitA [] s
  | 0, s, h => absurd h (Nat.not_lt_zero _)
  | n + 1, s, h => by
    rcases Lib.index_spec s [46] with ⟨h1, h2⟩ | ⟨i, h1, h2, h3, h4⟩
    · rw [Lib.count_miss h1, splitA_none s [] (fun b hb e => by
        obtain ⟨j, hj, ej⟩ := List.getElem_of_mem hb
        have := h2 j (by omega)
        rw [occ46, List.getElem?_eq_getElem hj, ej, e] at this; simp at this)]; rfl
    · rw [occ46] at h3
      have h3 : s[i]? = some 46 := by simpa using h3
      have hi : i < s.length := by
        rcases Nat.lt_or_ge i s.length with hlt | hge
        · exact hlt
        · rw [List.getElem?_eq_none hge] at h3; cases h3
      rw [Lib.count_hit (by simp) h1, Nat.add_comm, Lib.splitK, h1]
      have hne : ((i : Int) == -1) = false := by simp
      rw [hne]
      simp only [Int.toNat_natCast, Nat.add_zero, List.length_cons, List.length_nil, Nat.zero_add]
      rw [if_neg (by simp), splitK_A n (s.drop (i + 1)) (by rw [List.length_drop]; omega)]
      have es : s = s.take i ++ 46 :: s.drop (i + 1) := by
        have e2 : s[i] = 46 := by rw [List.getElem?_eq_getElem hi] at h3; exact Option.some.inj h3
        rw [← e2, List.getElem_cons_drop hi, List.take_append_drop]
      conv => rhs; rw [es]
      rw [splitA_app (s.take i) [] _ (fun b hb e => by
        obtain ⟨j, hj, ej⟩ := List.getElem_of_mem hb
        rw [List.length_take] at hj
        have := h4 j (by omega)
        rw [occ46, List.getElem?_eq_getElem (by omega)] at this
        rw [List.getElem_take] at ej
        rw [ej, e] at this; simp at this)]; simp
def labelsF (s : ByteArray) : List ByteArray := (splitA [] s.data.toList).map fun l => ⟨l.toArray⟩
theorem splitF_dot (s : ByteArray) : splitF s ⟨#[46]⟩ = labelsF s := by
  have h1 : (splitF s ⟨#[46]⟩).map (·.data.toList) = splitA [] s.data.toList := by
    rw [splitF, Lib.splitB_data]; exact splitK_A _ _ (Nat.lt_succ_self _)
  unfold labelsF
  rw [← h1, List.map_map]
  conv => lhs; rw [← List.map_id (splitF s ⟨#[46]⟩)]
  congr 1
def charOkF (b : Int) : Bool := inR b 97 122 || inR b 48 57 || b == 45
def labelOkF (s : ByteArray) : Bool := decide (1 ≤ s.size) && decide (s.size ≤ 20) && !((bytesI s).getD 0 0 == 45) && !((bytesI s).getD (s.size - 1) 0 == 45) && !((bytesI s).any fun b => !charOkF b)
def isHostF (s : ByteArray) : Bool := decide (s.size ≤ 60) && !((labelsF s).any fun l => !labelOkF l)
theorem bytesI_len (s : ByteArray) : (bytesI s).length = s.size := by simp only [bytesI, List.length_map]; rfl
theorem atqB {s : ByteArray} {i : Nat} (h : i < s.size) : atq (bytesI s) (i : Int) = some ((bytesI s)[i]'(by rw [bytesI_len]; exact h)) := atq_nat _
theorem ext_list (s : ByteArray) (a b : Nat) : s.extract a b = ⟨((s.data.toList.drop a).take (b - a)).toArray⟩ := by
  apply ByteArray.ext
  apply Array.toList_inj.1
  rw [Lib.extract_data]
theorem splitA_len : ∀ (s cur : List UInt8), (splitA cur s).length ≤ s.length + 1
  | [], _ => by simp [splitA]
  | b :: r, cur => by
    rw [splitA]
    cases b == 46 with
    | true => have := splitA_len r []; simp; omega
    | false => have := splitA_len r (cur ++ [b]); simp at this ⊢; omega
theorem splitA_size : ∀ (s cur : List UInt8) (l : List UInt8), l ∈ splitA cur s → l.length ≤ cur.length + s.length
  | [], cur, l, h => by simp [splitA] at h; subst h; simp
  | b :: r, cur, l, h => by
    rw [splitA] at h
    cases hb : b == 46 with
    | true =>
      rw [hb, cond_true] at h
      rcases List.mem_cons.1 h with rfl | h
      · omega
      · have := splitA_size r [] l h; simp at this ⊢; omega
    | false => rw [hb, cond_false] at h; have := splitA_size r _ l h; simp at this ⊢; omega
theorem labelsF_len (s : ByteArray) : (labelsF s).length ≤ s.size + 1 := by
  unfold labelsF; rw [List.length_map]; exact splitA_len _ _
theorem labelsF_size (s l : ByteArray) (h : l ∈ labelsF s) : l.size ≤ s.size := by
  unfold labelsF at h
  obtain ⟨q, hq, rfl⟩ := List.mem_map.1 h
  have := splitA_size _ _ q hq
  have h2 : (⟨q.toArray⟩ : ByteArray).size = q.length := rfl
  have h3 : s.data.toList.length = s.size := rfl
  have h4 : ([] : List UInt8).length = 0 := rfl
  omega
theorem toL0 (z : ByteArray) : (z.toList == (⟨#[]⟩ : ByteArray).toList) = decide (z.size = 0) := by
  rw [ByteArray.toList_eq, ByteArray.toList_eq, Bool.eq_iff_iff]
  simp only [beq_iff_eq, decide_eq_true_eq]
  constructor
  · intro h
    show z.data.size = 0
    rw [← Array.length_toList, h]; rfl
  · intro h
    exact List.eq_nil_of_length_eq_zero h
theorem splitA_count : ∀ (s cur : List UInt8), (splitA cur s).length = s.countP (· == 46) + 1
  | [], _ => rfl
  | b :: r, cur => by
    rw [splitA, List.countP_cons]
    cases b == 46 with
    | true => rw [cond_true, List.length_cons, splitA_count r []]; simp
    | false => rw [cond_false, splitA_count r _]; simp
theorem labelsF_pos (s : ByteArray) : 0 < (labelsF s).length := by
  unfold labelsF; rw [List.length_map, splitA_count]; omega
def hasDotF (s : ByteArray) : Bool := (bytesI s).any fun b => b == 46
theorem hasDot_labels (s : ByteArray) : hasDotF s = decide (2 ≤ (labelsF s).length) := by
  unfold hasDotF labelsF bytesI
  rw [List.length_map, splitA_count, List.any_map]
  have e : (fun b : Int => b == 46) ∘ (fun b : UInt8 => (b.toNat : Int)) = fun b : UInt8 => b == 46 := by
    funext b
    rw [Bool.eq_iff_iff]
    simp only [Function.comp, beq_iff_eq]
    constructor
    · intro q; apply UInt8.toNat_inj.1; show _ = 46; omega
    · intro q; rw [q]; rfl
  rw [e, Bool.eq_iff_iff, List.any_eq_true, decide_eq_true_eq]
  have := List.countP_pos_iff (p := fun b : UInt8 => b == 46) (l := s.data.toList)
  constructor
  · intro h; have := this.2 h; omega
  · intro h; exact this.1 (by omega)
def regF (s : ByteArray) : ByteArray := bif isHostF s then (bif (labelsF s).length == 1 then s else joinB ⟨#[46]⟩ ((labelsF s).drop ((labelsF s).length - 2))) else ⟨#[]⟩
theorem join2 {l : List ByteArray} (h : 2 ≤ l.length) : ∃ a ∈ l, ∃ b ∈ l, joinB ⟨#[46]⟩ (l.drop (l.length - 2)) = a ++ ⟨#[46]⟩ ++ b := by
  have hl : (l.drop (l.length - 2)).length = 2 := by rw [List.length_drop]; omega
  match hm : l.drop (l.length - 2), hl with
  | [a, b], _ =>
    refine ⟨a, List.mem_of_mem_drop (i := l.length - 2) (by rw [hm]; simp), b, List.mem_of_mem_drop (i := l.length - 2) (by rw [hm]; simp), ?_⟩
    rw [show [a, b] = [a] ++ [b] from rfl, joinB_s _ _ _ (by simp), joinB_1]
theorem isHost_size {s : ByteArray} (h : isHostF s = true) : s.size ≤ 60 ∧ 0 < s.size := by
  unfold isHostF at h
  rw [Bool.and_eq_true, decide_eq_true_eq] at h
  refine ⟨h.1, Nat.pos_of_ne_zero fun e => ?_⟩
  have e2 : s.data.toList = [] := List.eq_nil_of_length_eq_zero e
  have e3 : labelsF s = [⟨#[]⟩] := by unfold labelsF; rw [e2]; rfl
  rw [e3] at h
  exact absurd h.2 (by decide)
theorem regF_ne {s : ByteArray} (h : isHostF s = true) : decide ((regF s).size = 0) = false := by
  have hs := isHost_size h
  have hp := labelsF_pos s
  unfold regF
  rw [h, cond_true]
  refine decide_eq_false ?_
  cases h1 : (labelsF s).length == 1 with
  | true => rw [cond_true]; omega
  | false =>
    rw [cond_false]
    have : (labelsF s).length ≠ 1 := by simpa using h1
    obtain ⟨a, _, b, _, e⟩ := join2 (l := labelsF s) (by omega)
    rw [e, ByteArray.size_append, ByteArray.size_append]
    have : (⟨#[46]⟩ : ByteArray).size = 1 := rfl
    omega
/-- May a site have this name and this seed? -/
def nameOkF (s : ByteArray) (seed : Int) : Bool := isHostF s && decide (2 ≤ (labelsF s).length) && keyF seed
def accBad (l : List D.Account) (i : Nat) (n : D.Account) : Bool := !accountOkF n || (decide (0 < i) && decide ((l.getD (i - 1) default).Id ≥ n.Id))
def siteOkF (s : D.Site) : Bool := nameOkF s.Name s.Book.Seed && decide (s.Accounts.length ≤ 8) && bookOkF s.Book && !anyI (accBad s.Accounts) 0 s.Accounts
def SOk (s : D.Site) : Prop := s.Name.size ≤ 34359738368 ∧ s.Accounts.length ≤ 34359738368 ∧ s.Book.Open.length ≤ 34359738368 ∧ ∀ a ∈ s.Accounts, a.Credentials.length ≤ 34359738368
instance (s : D.Site) : Decidable (SOk s) := inferInstanceAs (Decidable (_ ∧ _))
def newSiteF (name : ByteArray) (seed : Int) : D.Site := bif nameOkF name seed then ⟨name, [], ⟨seed, 0, []⟩, []⟩ else ⟨⟨#[]⟩, [], ⟨0, 0, []⟩, []⟩
theorem newSite_ne (name : ByteArray) (seed : Int) : decide ((newSiteF name seed).Name.size = 0) = !nameOkF name seed := by
  unfold newSiteF
  cases h : nameOkF name seed with
  | false => rfl
  | true =>
    have : isHostF name = true := by unfold nameOkF at h; rw [Bool.and_eq_true, Bool.and_eq_true] at h; exact h.1.1
    have := isHost_size this
    exact decide_eq_false (by show ¬ name.size = 0; omega)
def siteNameF (i : Int) : ByteArray := bif i == 0 then ⟨#[98, 97, 110, 107, 46, 99, 111, 109]⟩ else bif i == 1 then ⟨#[115, 104, 111, 112, 46, 111, 114, 103]⟩ else ⟨#[]⟩
def siteBadW (i : Nat) (s : D.Site) : Bool := !siteOkF s || !(s.Name.toList == (siteNameF (i : Int)).toList)
def worldOkF (w : D.World) : Bool := inR w.Now 0 999900 && inR (w.Devices.length : Int) 1 6 && (w.Stolen.length : Int) == (w.Devices.length : Int) && (w.Sites.length : Int) == 2 && mailOkF w.Mail && logOkF w.Cloud.Log && keyF w.Seed && !anyI siteBadW 0 w.Sites
def WOk2 (w : D.World) : Prop := WOk w ∧ w.Mail.Notices.length ≤ 34359738368 ∧ w.Hosts.length ≤ 34359738368 ∧ ∀ s ∈ w.Sites, SOk s
instance (w : D.World) : Decidable (WOk2 w) := inferInstanceAs (Decidable (_ ∧ _))
theorem le_sum {α : Type} {g : α → Nat} {x : α} : ∀ {l : List α}, x ∈ l → g x ≤ (l.map g).sum
  | y :: r, h => by
    rw [List.map_cons, List.sum_cons]
    rcases List.mem_cons.1 h with rfl | h
    · omega
    · have := le_sum (g := g) h; omega
theorem SOk.of {s : D.Site} (h : s.sz ≤ 1048576) : SOk s := by
  simp only [D.Site.sz] at h
  refine ⟨by omega, by omega, by omega, fun a ha => ?_⟩
  have := le_sum (g := D.Account.sz) ha
  simp only [D.Account.sz] at this h
  omega
theorem WOk2.of {w : D.World} (h : w.sz ≤ 1048576) : WOk2 w := by
  refine ⟨WOk.of h, ?_, ?_, fun s hs => SOk.of ?_⟩
  · simp only [D.World.sz] at h; omega
  · simp only [D.World.sz] at h; omega
  · have := le_sum (g := D.Site.sz) hs
    simp only [D.World.sz] at h; omega
def devBad (w : D.World) (i : Nat) (_ : D.Device) : Bool := !cutFinalF w (i : Int) || !keysAgreeF w (i : Int)
def auditF (w : D.World) : Bool := worldOkF w && guessesWithinF w && !anyI (devBad w) 0 w.Devices
noncomputable def m_spec_l1In (x_ : Int) (least_ : Int) (most_ : Int) : Option Bool := bd ((bif (decide (x_ ≥ least_)) then some (decide (x_ ≤ most_)) else some false)) fun j0_6 => some j0_6

theorem t_spec_l1In (n a b : Int) : m_spec_l1In n a b = some (inR n a b) := by simp [m_spec_l1In, inR]


noncomputable def m_spec_Mod (n_ : Int) (m_ : Int) : Option Int := (bif (!(inR m_ (1 : Int) (1000000000000 : Int))) then some (0 : Int) else gd (m_ ≠ 0) <| gd (m_ ≠ 0) <| some ((IntKind.i64.wrap (n_.tmod m_ + m_)).tmod m_))

theorem t_spec_Mod (p q : Int) : m_spec_Mod p q = some (modI p q) := by
  unfold m_spec_Mod
  by_cases h : 1 ≤ q ∧ q ≤ 1000000000000
  · simp [inR, h.1, h.2, gd_t (show q ≠ 0 by omega), modI_s h]
  · rw [modI_0 h]
    rcases (show q < 1 ∨ q > 1000000000000 by omega) with h | h
    · simp [inR, show ¬ 1 ≤ q by omega]
    · simp [inR, show ¬ q ≤ 1000000000000 by omega]


noncomputable def m_spec_Max (a_ : Int) (b_ : Int) : Option Int := (bif (decide (b_ > a_)) then some b_ else some a_)

theorem t_spec_Max (a b : Int) : m_spec_Max a b = some (maxF a b) := by simp [m_spec_Max, maxF]


noncomputable def m_impl_InRange (n_ : Int) (low_ : Int) (high_ : Int) : Option Bool := bd ((bif (decide (low_ ≤ n_)) then some (decide (n_ ≤ high_)) else some false)) fun j0_6 => some j0_6

theorem t_impl_InRange (n a b : Int) : m_impl_InRange n a b = some (inR n a b) := by simp [m_impl_InRange, inR]


noncomputable def m_impl_Mod (p_ : Int) (q_ : Int) : Option Int := bd ((bif (decide (q_ < (1 : Int))) then some true else some (decide (q_ > (1000000000000 : Int))))) fun j0_11 => (bif j0_11 then some (0 : Int) else gd (q_ ≠ 0) <| bd ((bif (decide (p_.tmod q_ < (0 : Int))) then some (IntKind.i64.wrap (p_.tmod q_ + q_)) else some (p_.tmod q_))) fun j1_5 => some j1_5)

theorem t_impl_Mod (p q : Int) : m_impl_Mod p q = some (modI p q) := by
  unfold m_impl_Mod
  simp only [bd_bb]
  by_cases h : 1 ≤ q ∧ q ≤ 1000000000000
  · rw [gd_t (by omega)]
    by_cases ht : p.tmod q < 0
    · simp [h, ht, show ¬ q < 1 by omega, show ¬ q > 1000000000000 by omega, modI_n h ht]
      rw [IntKind.wrap_i64]; have := tmod_split (p := p) (q := q) h.1; omega
    · simp [h, ht, show ¬ q < 1 by omega, show ¬ q > 1000000000000 by omega, modI_p h ht]
  · rw [modI_0 h]
    rcases (show q < 1 ∨ q > 1000000000000 by omega) with h | h <;> simp [h]


noncomputable def m_spec_ReadUvarint_l0 (b_ : List Int) (at_ : Int) : Nat → (Int × Nat) → Option ((Int × Int × Bool) ⊕ Unit)
  | 0, _ => none
  | f + 1, (v0_7, i0) => (bif (decide ((i0 : Int) < (6 : Int))) then bd ((bif (decide (at_ < (0 : Int))) then some true else some (decide (at_ ≥ IntKind.i64.wrap ((b_.length : Int) - (i0 : Int)))))) fun j1_23 => (bif j1_23 then some (.inl ((0 : Int), (0 : Int), false)) else bd (atq b_ (IntKind.i64.wrap (at_ + (i0 : Int)))) fun z7 => gd (0 ≤ IntKind.i64.wrap ((7 : Int) * (i0 : Int))) <| (bif (decide (IntKind.i64.wrap z7 < (128 : Int))) then bd ((bif (IntKind.i64.wrap z7 == (0 : Int)) then (bif (decide ((i0 : Int) > (0 : Int))) then some true else some (decide (orI .i64 v0_7 (shlI .i64 (andI .i64 (IntKind.i64.wrap z7) (127 : Int)) (IntKind.i64.wrap ((7 : Int) * (i0 : Int)))) > (1000000000000 : Int)))) else some (decide (orI .i64 v0_7 (shlI .i64 (andI .i64 (IntKind.i64.wrap z7) (127 : Int)) (IntKind.i64.wrap ((7 : Int) * (i0 : Int)))) > (1000000000000 : Int))))) fun j2_49 => (bif j2_49 then some (.inl ((0 : Int), (0 : Int), false)) else some (.inl (orI .i64 v0_7 (shlI .i64 (andI .i64 (IntKind.i64.wrap z7) (127 : Int)) (IntKind.i64.wrap ((7 : Int) * (i0 : Int)))), IntKind.i64.wrap (IntKind.i64.wrap (at_ + (i0 : Int)) + (1 : Int)), true))) else gd (i0 + 1 < 9223372036854775808) <| m_spec_ReadUvarint_l0 b_ at_ f (orI .i64 v0_7 (shlI .i64 (andI .i64 (IntKind.i64.wrap z7) (127 : Int)) (IntKind.i64.wrap ((7 : Int) * (i0 : Int)))), i0 + 1))) else some (.inr ()))
noncomputable def m_spec_ReadUvarint (b_ : List Int) (at_ : Int) : Option (Int × Int × Bool) := nx (m_spec_ReadUvarint_l0 b_ at_ FUEL ((0 : Int), 0)) fun _ => some ((0 : Int), (0 : Int), false)

theorem l_spec_ReadUvarint (b : List Int) (hb : bytesOk b) (a : Int) (ha : 0 ≤ a) : ∀ (k i : Nat) (n : Int) (f : Nat), i + k = 6 → k < f → 0 ≤ n → n < 128 ^ i → nx (m_spec_ReadUvarint_l0 b a f (n, i)) (fun _ => some ((0 : Int), (0 : Int), false)) = some (uvG b a.toNat k i n)
  | 0, i, n, f + 1, hk, hf, h0, h1 => by
    rw [m_spec_ReadUvarint_l0, show decide ((i : Int) < 6) = false by simp; omega]; rfl
  | k + 1, i, n, f + 1, hk, hf, h0, h1 => by
    have hlen := hb.1
    rw [m_spec_ReadUvarint_l0, show decide ((i : Int) < 6) = true by simp; omega]
    simp only [cond_true, bd_bb]
    rw [show IntKind.i64.wrap ((b.length : Int) - (i : Int)) = (b.length : Int) - (i : Int) from wrap64_id (by omega) (by omega), show decide (a < 0) = false by simp; omega]
    unfold uvG
    by_cases hlt : a.toNat + i < b.length
    · have hz := bytesOk_get hb hlt
      have hg : b.getD (a.toNat + i) 0 = b[a.toNat + i] := by simp [List.getD, List.getElem?_eq_getElem hlt]
      have hwa : IntKind.i64.wrap (a + (i : Int)) = ((a.toNat + i : Nat) : Int) := by rw [wrap64_id (by omega) (by omega)]; omega
      rw [if_pos hlt, hg, hwa, atq_nat hlt]
      generalize b[a.toNat + i] = z at hz
      rw [show decide (a ≥ (b.length : Int) - (i : Int)) = false by simp; omega]
      have hs := uv_step (z := z) (n := n) (i := i) (by omega) hz.1 h0 h1
      have hwz : IntKind.i64.wrap z = z := wrap64_id (by omega) (by omega)
      have ho := or_step (z := z) (n := n) (i := i) (by omega) hz.1 hz.2 h0 h1
      have hw3 : IntKind.i64.wrap (((a.toNat + i : Nat) : Int) + 1) = ((a.toNat + i + 1 : Nat) : Int) := by rw [wrap64_id (by omega) (by omega)]; omega
      have h7 : 0 ≤ IntKind.i64.wrap ((7 : Int) * (i : Int)) := by rw [wrap64_id (by omega) (by omega)]; omega
      simp only [cond_false, bd_s, hwz, ho, hw3]
      rw [gd_t h7]
      by_cases h128 : z < 128
      · simp only [h128, decide_true, cond_true]
        have e : (decide ((i : Int) > 0)) = decide (0 < i) := decide_eq_decide.2 (by omega)
        rw [e]
        cases decide (0 < i) <;> cases (z == 0) <;> cases decide (n + z % 128 * 128 ^ i > 1000000000000) <;> rfl
      · simp only [h128, decide_false, cond_false]
        rw [gd_t (by omega)]
        exact l_spec_ReadUvarint b hb a ha k (i + 1) _ f (by omega) (by omega) hs.1 hs.2.1
    · rw [if_neg hlt, show decide (a ≥ (b.length : Int) - (i : Int)) = true by simp; omega]; rfl
theorem t_spec_ReadUvarint (b : List Int) (a : Int) (hb : bytesOk b) : m_spec_ReadUvarint b a = some (uvF b a) := by
  unfold m_spec_ReadUvarint uvF
  have hf := FUEL_le
  by_cases h0 : a < 0
  · rw [if_pos h0]
    obtain ⟨f, hf'⟩ : ∃ f, FUEL = f + 1 := ⟨FUEL - 1, by omega⟩
    rw [hf', m_spec_ReadUvarint_l0]
    simp [h0]
  · rw [if_neg h0]
    exact l_spec_ReadUvarint b hb a (by omega) 6 0 0 FUEL rfl (by omega) (by omega) (by decide)


noncomputable def m_spec_DecodeInts_l0 (b_ : List Int) (n_ : Int) : Nat → (Int × Nat × (List Int)) → Option (((List Int) × Int × Bool) ⊕ (Int × (List Int)))
  | 0, _ => none
  | f + 1, (v0_1, i0, v0r1) => (bif (decide ((i0 : Int) < n_)) then gd (bytesOk b_) <| (bif (!((uvF b_ v0_1).2.2)) then some (.inl (([] : List Int), (0 : Int), false)) else gd (apOk v0r1 ([(uvF b_ v0_1).1] : List Int)) <| m_spec_DecodeInts_l0 b_ n_ f ((uvF b_ v0_1).2.1, i0 + 1, (v0r1 ++ ([(uvF b_ v0_1).1] : List Int)))) else some (.inr (v0_1, v0r1)))
noncomputable def m_spec_DecodeInts (b_ : List Int) (at_ : Int) (n_ : Int) : Option ((List Int) × Int × Bool) := bd ((bif (!(inR n_ (0 : Int) (100 : Int))) then some true else some (!(inR at_ (0 : Int) (b_.length : Int))))) fun j0_24 => (bif j0_24 then some (([] : List Int), (0 : Int), false) else nx (m_spec_DecodeInts_l0 b_ n_ (n_.toNat + 1) (at_, 0, ([] : List Int))) fun (j1_1, j1r1) => some (j1r1, j1_1, true))

theorem l_spec_DecodeInts (b : List Int) (hb : bytesOk b) (c : Int) (hc : c ≤ 100) : ∀ (k i : Nat) (a : Int) (s : List Int) (f : Nat), ((i + k : Nat) : Int) = c → k < f → s.length ≤ i → nx (m_spec_DecodeInts_l0 b c f (a, i, s)) (fun (x, y) => some (y, x, true)) = some (decG b k a s)
  | 0, i, a, s, f + 1, hk, hf, hs => by
    rw [m_spec_DecodeInts_l0, show decide ((i : Int) < c) = false by simp; omega]; rfl
  | k + 1, i, a, s, f + 1, hk, hf, hs => by
    rw [m_spec_DecodeInts_l0, show decide ((i : Int) < c) = true by simp; omega, gd_t hb]
    simp only [cond_true]
    unfold decG
    cases (uvF b a).2.2 with
    | false => rfl
    | true =>
      simp only [Bool.not_true, cond_false, cond_true]
      rw [gd_t (by unfold apOk; simp; omega)]
      exact l_spec_DecodeInts b hb c hc k (i + 1) _ _ f (by omega) (by omega) (by simp; omega)
theorem t_spec_DecodeInts (b : List Int) (a c : Int) (hb : bytesOk b) : m_spec_DecodeInts b a c = some (decodeF b a c) := by
  unfold m_spec_DecodeInts decodeF
  cases h1 : inR c 0 100 with
  | false => simp
  | true =>
    cases h2 : inR a 0 b.length with
    | false => simp
    | true =>
      have := inR_t h1
      simp only [Bool.not_true, cond_false, bd_s, Bool.or_self]
      exact l_spec_DecodeInts b hb c (by omega) c.toNat 0 a [] (c.toNat + 1) (by omega) (by omega) (by simp)


noncomputable def m_impl_ReadUvarint_l0 (b_ : List Int) (offset_ : Int) : Nat → (Int × Int × Nat) → Option ((Int × Int × Bool) ⊕ Unit)
  | 0, _ => none
  | f + 1, (v0_7, v0_8, i0) => (bif (decide ((i0 : Int) < (6 : Int))) then (bif (decide (IntKind.i64.wrap (offset_ + (i0 : Int)) ≥ (b_.length : Int))) then some (.inl ((0 : Int), (0 : Int), false)) else bd (atq b_ (IntKind.i64.wrap (offset_ + (i0 : Int)))) fun z8 => (bif (decide (IntKind.i64.wrap z8 < (128 : Int))) then bd ((bif (decide ((i0 : Int) > (0 : Int))) then (bif (IntKind.i64.wrap z8 == (0 : Int)) then some true else some (decide (IntKind.i64.wrap (v0_7 + IntKind.i64.wrap ((IntKind.i64.wrap z8).tmod (128 : Int) * v0_8)) > (1000000000000 : Int)))) else some (decide (IntKind.i64.wrap (v0_7 + IntKind.i64.wrap ((IntKind.i64.wrap z8).tmod (128 : Int) * v0_8)) > (1000000000000 : Int))))) fun j2_55 => (bif j2_55 then some (.inl ((0 : Int), (0 : Int), false)) else some (.inl (IntKind.i64.wrap (v0_7 + IntKind.i64.wrap ((IntKind.i64.wrap z8).tmod (128 : Int) * v0_8)), IntKind.i64.wrap (IntKind.i64.wrap (offset_ + (i0 : Int)) + (1 : Int)), true))) else gd (i0 + 1 < 9223372036854775808) <| m_impl_ReadUvarint_l0 b_ offset_ f (IntKind.i64.wrap (v0_7 + IntKind.i64.wrap ((IntKind.i64.wrap z8).tmod (128 : Int) * v0_8)), IntKind.i64.wrap (v0_8 * (128 : Int)), i0 + 1))) else some (.inr ()))
noncomputable def m_impl_ReadUvarint (b_ : List Int) (offset_ : Int) : Option (Int × Int × Bool) := bd ((bif (decide (offset_ < (0 : Int))) then some true else some (decide (offset_ ≥ (b_.length : Int))))) fun j0_18 => (bif j0_18 then some ((0 : Int), (0 : Int), false) else nx (m_impl_ReadUvarint_l0 b_ offset_ FUEL ((0 : Int), (1 : Int), 0)) fun _ => some ((0 : Int), (0 : Int), false))

theorem l_impl_ReadUvarint (b : List Int) (hb : bytesOk b) (p : Nat) (hp : p ≤ 34359738368) : ∀ (k i : Nat) (n : Int) (f : Nat), i + k = 6 → k < f → 0 ≤ n → n < 128 ^ i → nx (m_impl_ReadUvarint_l0 b (p : Int) f (n, (128 : Int) ^ i, i)) (fun _ => some ((0 : Int), (0 : Int), false)) = some (uvG b p k i n)
  | 0, i, n, f + 1, hk, hf, h0, h1 => by
    rw [m_impl_ReadUvarint_l0, show decide ((i : Int) < 6) = false by simp; omega]; rfl
  | k + 1, i, n, f + 1, hk, hf, h0, h1 => by
    have hp128 := pow128 (i := i) (by omega)
    rw [m_impl_ReadUvarint_l0, show decide ((i : Int) < 6) = true by simp; omega]
    simp only [cond_true]
    rw [show IntKind.i64.wrap ((p : Int) + (i : Int)) = ((p + i : Nat) : Int) by rw [wrap64_id (by omega) (by omega)]; omega]
    unfold uvG
    by_cases hlt : p + i < b.length
    · have hz := bytesOk_get hb hlt
      have hg : b.getD (p + i) 0 = b[p + i] := by simp [List.getD, List.getElem?_eq_getElem hlt]
      rw [if_pos hlt, hg, atq_nat hlt]
      generalize b[p + i] = z at hz
      rw [show decide (((p + i : Nat) : Int) ≥ (b.length : Int)) = false by simp; omega]
      have hs := uv_step (z := z) (n := n) (i := i) (by omega) hz.1 h0 h1
      have hwz : IntKind.i64.wrap z = z := wrap64_id (by omega) (by omega)
      have htm : z.tmod 128 = z % 128 := Int.tmod_eq_emod_of_nonneg hz.1
      have hw1 : IntKind.i64.wrap (z % 128 * 128 ^ i) = z % 128 * 128 ^ i := wrap64_id (by omega) (by omega)
      have hp6 := pow128 (i := i + 1) (by omega)
      have hw2 : IntKind.i64.wrap (n + z % 128 * 128 ^ i) = n + z % 128 * 128 ^ i := wrap64_id (by omega) (by omega)
      have hw3 : IntKind.i64.wrap (((p + i : Nat) : Int) + 1) = ((p + i + 1 : Nat) : Int) := by rw [wrap64_id (by omega) (by omega)]; omega
      have hw4 : IntKind.i64.wrap ((128 : Int) ^ i * 128) = 128 ^ (i + 1) := by rw [← Int.pow_succ, wrap64_id (by omega) (by omega)]
      simp only [cond_false, bd_s, hwz, htm, hw1, hw2, hw3, hw4]
      by_cases h128 : z < 128
      · simp only [h128, decide_true, cond_true]
        have e : (decide ((i : Int) > 0)) = decide (0 < i) := decide_eq_decide.2 (by omega)
        rw [e]
        cases decide (0 < i) <;> cases (z == 0) <;> cases decide (n + z % 128 * 128 ^ i > 1000000000000) <;> rfl
      · simp only [h128, decide_false, cond_false]
        rw [gd_t (by omega)]
        exact l_impl_ReadUvarint b hb p hp k (i + 1) _ f (by omega) (by omega) hs.1 hs.2.1
    · rw [if_neg hlt, show decide (((p + i : Nat) : Int) ≥ (b.length : Int)) = true by simp; omega]; rfl
theorem t_impl_ReadUvarint (b : List Int) (a : Int) (hb : bytesOk b) : m_impl_ReadUvarint b a = some (uvF b a) := by
  unfold m_impl_ReadUvarint uvF
  have hf := FUEL_le
  have hlen := hb.1
  by_cases h0 : a < 0
  · simp [h0]
  · rw [if_neg h0]
    have ea : (a.toNat : Int) = a := Int.toNat_of_nonneg (by omega)
    by_cases h1 : a ≥ b.length
    · simp only [h0, h1, decide_true, decide_false, bd_bb, cond_false, cond_true]
      unfold uvG
      rw [if_neg (by omega)]
      rfl
    · simp only [h0, h1, decide_false, bd_bb, cond_false]
      have := l_impl_ReadUvarint b hb a.toNat (by omega) 6 0 0 FUEL rfl (by omega) (by omega) (by decide)
      rw [ea] at this
      exact this


noncomputable def m_impl_DecodeInts_l0 (b_ : List Int) (count_ : Int) : Nat → (Int × Nat × (List Int)) → Option (((List Int) × Int × Bool) ⊕ (Int × (List Int)))
  | 0, _ => none
  | f + 1, (v0_1, i0, v0r1) => (bif (decide ((i0 : Int) < count_)) then gd (bytesOk b_) <| (bif (!((uvF b_ v0_1).2.2)) then some (.inl (([] : List Int), (0 : Int), false)) else gd (apOk v0r1 ([(uvF b_ v0_1).1] : List Int)) <| m_impl_DecodeInts_l0 b_ count_ f ((uvF b_ v0_1).2.1, i0 + 1, (v0r1 ++ ([(uvF b_ v0_1).1] : List Int)))) else some (.inr (v0_1, v0r1)))
noncomputable def m_impl_DecodeInts (b_ : List Int) (offset_ : Int) (count_ : Int) : Option ((List Int) × Int × Bool) := bd ((bif (decide (count_ < (0 : Int))) then some true else (bif (decide (count_ > (100 : Int))) then some true else (bif (decide (offset_ < (0 : Int))) then some true else some (decide (offset_ > (b_.length : Int))))))) fun j0_29 => (bif j0_29 then some (([] : List Int), (0 : Int), false) else nx (m_impl_DecodeInts_l0 b_ count_ (count_.toNat + 1) (offset_, 0, ([] : List Int))) fun (j1_1, j1r1) => some (j1r1, j1_1, true))

theorem l_impl_DecodeInts (b : List Int) (hb : bytesOk b) (c : Int) (hc : c ≤ 100) : ∀ (k i : Nat) (a : Int) (s : List Int) (f : Nat), ((i + k : Nat) : Int) = c → k < f → s.length ≤ i → nx (m_impl_DecodeInts_l0 b c f (a, i, s)) (fun (x, y) => some (y, x, true)) = some (decG b k a s)
  | 0, i, a, s, f + 1, hk, hf, hs => by
    rw [m_impl_DecodeInts_l0, show decide ((i : Int) < c) = false by simp; omega]; rfl
  | k + 1, i, a, s, f + 1, hk, hf, hs => by
    rw [m_impl_DecodeInts_l0, show decide ((i : Int) < c) = true by simp; omega, gd_t hb]
    simp only [cond_true]
    unfold decG
    cases (uvF b a).2.2 with
    | false => rfl
    | true =>
      simp only [Bool.not_true, cond_false, cond_true]
      rw [gd_t (by unfold apOk; simp; omega)]
      exact l_impl_DecodeInts b hb c hc k (i + 1) _ _ f (by omega) (by omega) (by simp; omega)
theorem t_impl_DecodeInts (b : List Int) (a c : Int) (hb : bytesOk b) : m_impl_DecodeInts b a c = some (decodeF b a c) := by
  unfold m_impl_DecodeInts decodeF inR
  by_cases h1 : c < 0
  · simp [h1, show ¬ 0 ≤ c by omega]
  · by_cases h2 : c > 100
    · simp [h1, h2, show ¬ c ≤ 100 by omega]
    · by_cases h3 : a < 0
      · simp [h1, h2, h3, show ¬ 0 ≤ a by omega]
      · by_cases h4 : a > b.length
        · simp [h1, h2, h3, h4, show ¬ a ≤ b.length by omega]
        · simp only [h1, h2, h3, h4, decide_false, cond_false, bd_s, show 0 ≤ c by omega, show c ≤ 100 by omega, show 0 ≤ a by omega, show a ≤ b.length by omega, decide_true, Bool.and_true, Bool.not_true, Bool.or_self, cond_false]
          exact l_impl_DecodeInts b hb c (by omega) c.toNat 0 a [] (c.toNat + 1) (by omega) (by omega) (by simp)


noncomputable def m_spec_Hash_l0 (l_ : List Int) : Nat → (Int × Nat) → Option Int
  | 0, _ => none
  | f + 1, (v0_3, i0) => (bif (decide ((i0 : Int) < (l_.length : Int))) then bd (atq l_ (i0 : Int)) fun z5 => m_spec_Hash_l0 l_ f ((IntKind.i64.wrap (IntKind.i64.wrap (IntKind.i64.wrap (v0_3 * (1000003 : Int)) + (modI z5 (2147483647 : Int))) + (13 : Int))).tmod (2147483647 : Int), i0 + 1) else some v0_3)
noncomputable def m_spec_Hash (l_ : List Int) : Option Int := bd (m_spec_Hash_l0 l_ (l_.length + 1) ((11 : Int), 0)) fun j0_3 => some j0_3

theorem t_spec_Hash (l : List Int) : m_spec_Hash l = some (hashI l) := by
  unfold m_spec_Hash
  rw [bd_id, loopS0 l (fun f i s => m_spec_Hash_l0 l f (s, i)) (fun _ s x k => k (hstep s x)) (fun s => some s) (by omega)
    (fun f i s h => by rw [m_spec_Hash_l0]; simp [h, atq_nat h, hstep]) (fun f i s h => by rw [m_spec_Hash_l0]; simp [h]), runS_fold]; rfl


noncomputable def m_spec_KeyedHash (secret_ : Int) (l_ : List Int) : Option Int := gd (apOk ([secret_] : List Int) l_) <| gd (apOk (([secret_] : List Int) ++ l_) ([secret_] : List Int)) <| some (hashI ((([secret_] : List Int) ++ l_) ++ ([secret_] : List Int)))

theorem t_spec_KeyedHash (k : Int) (l : List Int) (h : l.length ≤ 34359738368) : m_spec_KeyedHash k l = some (keyedI k l) := by
  unfold m_spec_KeyedHash
  rw [gd_t (by simp [apOk]; omega), gd_t (by simp [apOk]; omega)]
  simp [keyedI]


noncomputable def m_spec_IsValidKey (secret_ : Int) : Option Bool := some (inR secret_ (1 : Int) (2147483646 : Int))

theorem t_spec_IsValidKey (n : Int) : m_spec_IsValidKey n = some (keyF n) := rfl


noncomputable def m_spec_BytesToInts_l0 (b_ : List Int) : Nat → (Nat × (List Int)) → Option (List Int)
  | 0, _ => none
  | f + 1, (i0, v0r1) => (bif (decide ((i0 : Int) < (b_.length : Int))) then bd (atq b_ (i0 : Int)) fun z5 => gd (apOk v0r1 ([IntKind.i64.wrap z5] : List Int)) <| m_spec_BytesToInts_l0 b_ f (i0 + 1, (v0r1 ++ ([IntKind.i64.wrap z5] : List Int))) else some v0r1)
noncomputable def m_spec_BytesToInts (b_ : List Int) : Option (List Int) := bd (m_spec_BytesToInts_l0 b_ (b_.length + 1) (0, ([(b_.length : Int)] : List Int))) fun j0r1 => some j0r1

theorem t_spec_BytesToInts (b : List Int) (h : b.length ≤ 34359738300) : m_spec_BytesToInts b = some (b2iF b) := by
  unfold m_spec_BytesToInts
  rw [bd_id, loopS0 b (fun f i s => m_spec_BytesToInts_l0 b f (i, s)) (fun i s x k => gd (apOk s [IntKind.i64.wrap x]) (k (s ++ [IntKind.i64.wrap x]))) (fun s => some s) (by omega)
    (fun f i s h => by rw [m_spec_BytesToInts_l0]; simp [h, atq_nat h]) (fun f i s h => by rw [m_spec_BytesToInts_l0]; simp [h]),
    runS_app (y := fun _ x => [IntKind.i64.wrap x]) (by rw [catI_map]; simp; omega), catI_map]; rfl


noncomputable def m_spec_Decrypt_l0 (secret_ : Int) (b_ : List Int) : Nat → (Nat × (List Int)) → Option (List Int)
  | 0, _ => none
  | f + 1, (i0, v0r1) => (bif (decide ((i0 : Int) < (b_.length : Int))) then bd (atq b_ (i0 : Int)) fun z5 => gd (([(i0 : Int)] : List Int).length ≤ 34359738368) <| gd (apOk v0r1 ([IntKind.u8.wrap (modI (IntKind.i64.wrap (IntKind.i64.wrap z5 - (keyedI secret_ ([(i0 : Int)] : List Int)).tmod (256 : Int))) (256 : Int))] : List Int)) <| m_spec_Decrypt_l0 secret_ b_ f (i0 + 1, (v0r1 ++ ([IntKind.u8.wrap (modI (IntKind.i64.wrap (IntKind.i64.wrap z5 - (keyedI secret_ ([(i0 : Int)] : List Int)).tmod (256 : Int))) (256 : Int))] : List Int))) else some v0r1)
noncomputable def m_spec_Decrypt (secret_ : Int) (b_ : List Int) : Option (List Int) := bd (m_spec_Decrypt_l0 secret_ b_ (b_.length + 1) (0, ([] : List Int))) fun j0r1 => some j0r1

noncomputable def m_impl_IsValidKey (key_ : Int) : Option Bool := some (inR key_ (1 : Int) (2147483646 : Int))

theorem t_impl_IsValidKey (n : Int) : m_impl_IsValidKey n = some (keyF n) := rfl


noncomputable def m_impl_Hash_l0 (values_ : List Int) : Nat → (Int × Nat) → Option Int
  | 0, _ => none
  | f + 1, (v0_3, i0) => (bif (decide ((i0 : Int) < (values_.length : Int))) then bd (atq values_ (i0 : Int)) fun z5 => m_impl_Hash_l0 values_ f ((IntKind.i64.wrap (IntKind.i64.wrap (IntKind.i64.wrap (v0_3 * (1000003 : Int)) + (modI z5 (2147483647 : Int))) + (13 : Int))).tmod (2147483647 : Int), i0 + 1) else some v0_3)
noncomputable def m_impl_Hash (values_ : List Int) : Option Int := bd (m_impl_Hash_l0 values_ (values_.length + 1) ((11 : Int), 0)) fun j0_3 => some j0_3

theorem t_impl_Hash (l : List Int) : m_impl_Hash l = some (hashI l) := by
  unfold m_impl_Hash
  rw [bd_id, loopS0 l (fun f i s => m_impl_Hash_l0 l f (s, i)) (fun _ s x k => k (hstep s x)) (fun s => some s) (by omega)
    (fun f i s h => by rw [m_impl_Hash_l0]; simp [h, atq_nat h, hstep]) (fun f i s h => by rw [m_impl_Hash_l0]; simp [h]), runS_fold]; rfl


noncomputable def m_impl_joined_l0 (rest_ : List (List Int)) : Nat → (Nat × (List Int)) → Option (List Int)
  | 0, _ => none
  | f + 1, (i0, v0r1) => (bif (decide ((i0 : Int) < (rest_.length : Int))) then bd (atq rest_ (i0 : Int)) fun z6 => gd (apOk v0r1 z6) <| m_impl_joined_l0 rest_ f (i0 + 1, (v0r1 ++ z6)) else some v0r1)
noncomputable def m_impl_joined (first_ : List Int) (rest_ : List (List Int)) : Option (List Int) := gd (apOk ([] : List Int) first_) <| bd (m_impl_joined_l0 rest_ (rest_.length + 1) (0, (([] : List Int) ++ first_))) fun j0r1 => some j0r1

theorem t_impl_joined (a : List Int) (r : List (List Int)) (h : a.length + r.flatten.length ≤ 68719476736) : m_impl_joined a r = some (joinF a r) := by
  unfold m_impl_joined
  rw [gd_t (by simp [apOk]; omega), bd_id, loopS0 r (fun f i s => m_impl_joined_l0 r f (i, s)) (fun i s x k => gd (apOk s x) (k (s ++ x))) (fun s => some s) (by omega)
    (fun f i s h => by rw [m_impl_joined_l0]; simp [h, atq_nat h]) (fun f i s h => by rw [m_impl_joined_l0]; simp [h])]
  have hc : catI (fun _ (x : List Int) => x) 0 r = r.flatten := by
    have : ∀ (r : List (List Int)) (i : Nat), catI (fun _ (x : List Int) => x) i r = r.flatten := by
      intro r; induction r with
      | nil => intro i; rfl
      | cons x xs ih => intro i; simp [catI, ih]
    exact this r 0
  rw [runS_app (y := fun _ x => x) (by rw [hc]; simp only [List.length_append, List.length_nil]; omega), hc]; rfl


noncomputable def m_impl_KeyedHash (key_ : Int) (values_ : List Int) : Option Int := gd (([key_] : List Int).length + ([values_, ([key_] : List Int)] : List (List Int)).flatten.length ≤ 68719476736) <| some (hashI (joinF ([key_] : List Int) ([values_, ([key_] : List Int)] : List (List Int))))

theorem t_impl_KeyedHash (k : Int) (l : List Int) (h : l.length ≤ 34359738368) : m_impl_KeyedHash k l = some (keyedI k l) := by
  unfold m_impl_KeyedHash
  rw [gd_t (by simp; omega)]
  simp [keyedI, joinF]


noncomputable def m_impl_orOne (n_ : Int) : Option Int := (bif (n_ == (0 : Int)) then some (1 : Int) else some n_)

theorem t_impl_orOne (n : Int) : m_impl_orOne n = some (orOneF n) := by simp [m_impl_orOne, orOneF]


noncomputable def m_impl_BytesToInts_l0 (b_ : List Int) : Nat → (Nat × (List Int)) → Option (List Int)
  | 0, _ => none
  | f + 1, (i0, v0r1) => (bif (decide ((i0 : Int) < (b_.length : Int))) then bd (atq b_ (i0 : Int)) fun z5 => gd (apOk v0r1 ([IntKind.i64.wrap z5] : List Int)) <| m_impl_BytesToInts_l0 b_ f (i0 + 1, (v0r1 ++ ([IntKind.i64.wrap z5] : List Int))) else some v0r1)
noncomputable def m_impl_BytesToInts (b_ : List Int) : Option (List Int) := bd (m_impl_BytesToInts_l0 b_ (b_.length + 1) (0, ([(b_.length : Int)] : List Int))) fun j0r1 => some j0r1

theorem t_impl_BytesToInts (b : List Int) (h : b.length ≤ 34359738300) : m_impl_BytesToInts b = some (b2iF b) := by
  unfold m_impl_BytesToInts
  rw [bd_id, loopS0 b (fun f i s => m_impl_BytesToInts_l0 b f (i, s)) (fun i s x k => gd (apOk s [IntKind.i64.wrap x]) (k (s ++ [IntKind.i64.wrap x]))) (fun s => some s) (by omega)
    (fun f i s h => by rw [m_impl_BytesToInts_l0]; simp [h, atq_nat h]) (fun f i s h => by rw [m_impl_BytesToInts_l0]; simp [h]),
    runS_app (y := fun _ x => [IntKind.i64.wrap x]) (by rw [catI_map]; simp; omega), catI_map]; rfl


noncomputable def m_impl_Decrypt_l0 (key_ : Int) (ciphertext_ : List Int) : Nat → (Nat × (List Int)) → Option (List Int)
  | 0, _ => none
  | f + 1, (i0, v0r1) => (bif (decide ((i0 : Int) < (ciphertext_.length : Int))) then bd (atq ciphertext_ (i0 : Int)) fun z5 => gd (([(i0 : Int)] : List Int).length ≤ 34359738368) <| gd (apOk v0r1 ([IntKind.u8.wrap (modI (IntKind.i64.wrap (IntKind.i64.wrap z5 - (keyedI key_ ([(i0 : Int)] : List Int)))) (256 : Int))] : List Int)) <| m_impl_Decrypt_l0 key_ ciphertext_ f (i0 + 1, (v0r1 ++ ([IntKind.u8.wrap (modI (IntKind.i64.wrap (IntKind.i64.wrap z5 - (keyedI key_ ([(i0 : Int)] : List Int)))) (256 : Int))] : List Int))) else some v0r1)
noncomputable def m_impl_Decrypt (key_ : Int) (ciphertext_ : List Int) : Option (List Int) := bd (m_impl_Decrypt_l0 key_ ciphertext_ (ciphertext_.length + 1) (0, ([] : List Int))) fun j0r1 => some j0r1

noncomputable def m_impl_power_l0 (m_ : Int) : Nat → (Int × Int × Int) → Option Int
  | 0, _ => none
  | f + 1, (v0_0, v0_1, v0_7) => (bif (decide (v0_1 > (0 : Int))) then bd ((bif (v0_1.tmod (2 : Int) == (1 : Int)) then gd (m_ ≠ 0) <| some ((IntKind.i64.wrap (v0_7 * v0_0)).tmod m_) else some v0_7)) fun j1_7 => gd (m_ ≠ 0) <| m_impl_power_l0 m_ f ((IntKind.i64.wrap (v0_0 * v0_0)).tmod m_, IntKind.i64.wrap (v0_1.tdiv (2 : Int)), j1_7) else some v0_7)
noncomputable def m_impl_power (g_ : Int) (n_ : Int) (m_ : Int) : Option Int := gd (m_ ≠ 0) <| gd (m_ ≠ 0) <| bd (m_impl_power_l0 m_ FUEL (g_.tmod m_, n_, (1 : Int).tmod m_)) fun j0_7 => some j0_7

noncomputable def m_spec_DeriveKey (seed_ : Int) (labels_ : List Int) : Option Int := gd (apOk ([(151 : Int)] : List Int) labels_) <| gd ((([(151 : Int)] : List Int) ++ labels_).length ≤ 34359738368) <| some (maxF (1 : Int) (keyedI seed_ (([(151 : Int)] : List Int) ++ labels_)))

theorem t_spec_DeriveKey (s : Int) (l : List Int) (h : l.length ≤ 34359738300) : m_spec_DeriveKey s l = some (deriveF s l) := by
  unfold m_spec_DeriveKey
  rw [gd_t (by simp [apOk]; omega), gd_t (by simp; omega), maxF_one (keyedI_range _ _).1]; rfl


noncomputable def m_spec_PublicKey (private_ : Int) : Option Int := (bif (!(keyF private_)) then some (0 : Int) else some ((IntKind.i64.wrap (private_ * (48271 : Int))).tmod (2147483647 : Int)))

theorem t_spec_PublicKey (p : Int) : m_spec_PublicKey p = some (publicF p) := by simp [m_spec_PublicKey, publicF]


noncomputable def m_spec_l6Power_l0  : Nat → (Int × Int × Int) → Option Int
  | 0, _ => none
  | f + 1, (v0_0, v0_1, v0_5) => (bif (decide (v0_1 > (0 : Int))) then bd ((bif (andI .i64 v0_1 (1 : Int) == (1 : Int)) then some ((IntKind.i64.wrap (v0_5 * v0_0)).tmod (2147483647 : Int)) else some v0_5)) fun j1_5 => m_spec_l6Power_l0 f ((IntKind.i64.wrap (v0_0 * v0_0)).tmod (2147483647 : Int), shrI .i64 v0_1 (1 : Int), j1_5) else some v0_5)
noncomputable def m_spec_l6Power (b_ : Int) (n_ : Int) : Option Int := bd (m_spec_l6Power_l0 FUEL (b_, n_, (1 : Int))) fun j0_5 => some j0_5

theorem l_spec_l6Power : ∀ (k : Nat) (b n s : Int) (f : Nat), k < f → 0 ≤ n → n < 2 ^ k → k ≤ 62 → m_spec_l6Power_l0 f (b, n, s) = some (powG k b n s)
  | 0, b, n, s, f + 1, hf, h0, h1, hk => by
    have : n = 0 := by simp at h1; omega
    subst this
    rw [m_spec_l6Power_l0]; rfl
  | k + 1, b, n, s, f + 1, hf, h0, h1, hk => by
    rw [m_spec_l6Power_l0]
    unfold powG
    by_cases hn : n > 0
    · have h2 : (2 : Int) ^ (k + 1) = 2 * 2 ^ k := by rw [Int.pow_succ]; omega
      have h3 : n < 2 ^ 62 := Int.lt_of_lt_of_le h1 (by exact_mod_cast Nat.pow_le_pow_right (by omega) hk)
      rw [show andI .i64 n 1 = n % 2 from and_one h0 (by omega), show shrI .i64 n 1 = n / 2 from shr_one h0]
      simp only [hn, decide_true, cond_true, bd_bb, if_true]
      exact l_spec_l6Power k _ _ _ f (by omega) (by omega) (by omega) (by omega)
    · simp only [hn, decide_false, cond_false, if_false]


noncomputable def m_spec_PrivateKey (public_ : Int) : Option Int := (bif (!(inR public_ (1 : Int) (2147483646 : Int))) then some (0 : Int) else bd (m_spec_l6Power (48271 : Int) (2147483645 : Int)) fun z2 => (bif ((publicF ((IntKind.i64.wrap (public_ * z2)).tmod (2147483647 : Int))) != public_) then some (0 : Int) else some ((IntKind.i64.wrap (public_ * z2)).tmod (2147483647 : Int))))

theorem t_spec_PrivateKey (q : Int) : m_spec_PrivateKey q = some (privF q) := by
  unfold m_spec_PrivateKey privF m_spec_l6Power
  have hf := FUEL_le
  rw [bd_id, l_spec_l6Power 31 48271 2147483645 1 FUEL (by omega) (by decide) (by decide) (by decide), powG_c1, show inR q 1 2147483646 = keyF q from rfl]
  cases hk : keyF q with
  | false => rfl
  | true =>
    have hr := inR_t hk
    have hw : IntKind.i64.wrap (q * 1899818559) = q * 1899818559 := wrap64_id (by omega) (by omega)
    simp only [Bool.not_true, cond_false, bd_s, hw, Int.tmod_eq_emod_of_nonneg (show 0 ≤ q * 1899818559 by omega)]
    have hp : publicF (q * 1899818559 % 2147483647) = q := by
      unfold publicF keyF inR
      have h1 : 1 ≤ q * 1899818559 % 2147483647 := by omega
      have h2 : q * 1899818559 % 2147483647 ≤ 2147483646 := by omega
      have hw2 : IntKind.i64.wrap (q * 1899818559 % 2147483647 * 48271) = q * 1899818559 % 2147483647 * 48271 := wrap64_id (by omega) (by omega)
      simp only [h1, h2, decide_true, Bool.and_self, Bool.not_true, cond_false, hw2]
      rw [Int.tmod_eq_emod_of_nonneg (by omega)]
      omega
    rw [hp]; simp


noncomputable def m_spec_SignMessage (private_ : Int) (message_ : List Int) : Option Int := (bif (!(keyF private_)) then some (0 : Int) else gd (apOk ([(139 : Int), (message_.length : Int)] : List Int) message_) <| gd ((([(139 : Int), (message_.length : Int)] : List Int) ++ message_).length ≤ 34359738368) <| some (keyedI private_ (([(139 : Int), (message_.length : Int)] : List Int) ++ message_)))

theorem t_spec_SignMessage (p : Int) (l : List Int) (h : l.length ≤ 34359738300) : m_spec_SignMessage p l = some (signF p l) := by
  unfold m_spec_SignMessage signF
  rw [gd_t (by simp [apOk]; omega), gd_t (by simp; omega)]
  cases keyF p <;> rfl


noncomputable def m_spec_VerifySignature (public_ : Int) (message_ : List Int) (signature_ : Int) : Option Bool := bd ((bif ((privF public_) != (0 : Int)) then gd (message_.length ≤ 34359738300) <| some ((signF (privF public_) message_) == signature_) else some false)) fun j0_6 => some j0_6

theorem t_spec_VerifySignature (q : Int) (l : List Int) (g : Int) (h : l.length ≤ 34359738300) : m_spec_VerifySignature q l g = some (verifyF q l g) := by
  unfold m_spec_VerifySignature verifyF
  rw [gd_t h]; simp


theorem l_impl_power : ∀ (k : Nat) (b n s : Int) (f : Nat), k < f → 0 ≤ n → n < 2 ^ k → k ≤ 62 → m_impl_power_l0 2147483647 f (b, n, s) = some (powG k b n s)
  | 0, b, n, s, f + 1, hf, h0, h1, hk => by
    have : n = 0 := by simp at h1; omega
    subst this
    rw [m_impl_power_l0]; rfl
  | k + 1, b, n, s, f + 1, hf, h0, h1, hk => by
    rw [m_impl_power_l0]
    unfold powG
    by_cases hn : n > 0
    · have h2 : (2 : Int) ^ (k + 1) = 2 * 2 ^ k := by rw [Int.pow_succ]; omega
      have h3 : n < 2 ^ 62 := Int.lt_of_lt_of_le h1 (by exact_mod_cast Nat.pow_le_pow_right (by omega) hk)
      rw [show n.tmod 2 = n % 2 from Int.tmod_eq_emod_of_nonneg h0, show n.tdiv 2 = n / 2 from Int.tdiv_eq_ediv_of_nonneg h0, show IntKind.i64.wrap (n / 2) = n / 2 from wrap64_id (by omega) (by omega)]
      simp only [hn, decide_true, cond_true, if_true]
      rw [gd_t (show (2147483647 : Int) ≠ 0 by decide)]
      simp only [bd_bb]
      rw [gd_t (show (2147483647 : Int) ≠ 0 by decide)]
      exact l_impl_power k _ (n / 2) _ f (by omega) (by omega) (by omega) (by omega)
    · simp only [hn, decide_false, cond_false, if_false]


noncomputable def m_impl_PrivateKey (public_ : Int) : Option Int := (bif (!(keyF public_)) then some (0 : Int) else bd (m_impl_power (48271 : Int) (2147483645 : Int) (2147483647 : Int)) fun z2 => some ((IntKind.i64.wrap (public_ * z2)).tmod (2147483647 : Int)))

theorem t_impl_PrivateKey (q : Int) : m_impl_PrivateKey q = some (privF q) := by
  unfold m_impl_PrivateKey privF m_impl_power
  have hf := FUEL_le
  rw [gd_t (by decide), gd_t (by decide), bd_id, show (48271 : Int).tmod 2147483647 = 48271 by decide, show (1 : Int).tmod 2147483647 = 1 by decide, l_impl_power 31 48271 2147483645 1 FUEL (by omega) (by decide) (by decide) (by decide), powG_c1]
  cases hk : keyF q with
  | false => rfl
  | true =>
    have hr := inR_t hk
    have hw : IntKind.i64.wrap (q * 1899818559) = q * 1899818559 := wrap64_id (by omega) (by omega)
    simp only [Bool.not_true, cond_false, bd_s, hw, Int.tmod_eq_emod_of_nonneg (show 0 ≤ q * 1899818559 by omega)]


noncomputable def m_impl_SignMessage (private_ : Int) (message_ : List Int) : Option Int := (bif (!(keyF private_)) then some (0 : Int) else gd (([(139 : Int), (message_.length : Int)] : List Int).length + ([message_] : List (List Int)).flatten.length ≤ 68719476736) <| gd ((joinF ([(139 : Int), (message_.length : Int)] : List Int) ([message_] : List (List Int))).length ≤ 34359738368) <| some (keyedI private_ (joinF ([(139 : Int), (message_.length : Int)] : List Int) ([message_] : List (List Int)))))

theorem t_impl_SignMessage (p : Int) (l : List Int) (h : l.length ≤ 34359738300) : m_impl_SignMessage p l = some (signF p l) := by
  unfold m_impl_SignMessage signF
  rw [gd_t (by simp; omega), gd_t (by simp [joinF]; omega)]
  cases keyF p <;> simp [joinF]


noncomputable def m_impl_VerifySignature (public_ : Int) (message_ : List Int) (signature_ : Int) : Option Bool := bd ((bif ((privF public_) != (0 : Int)) then gd (message_.length ≤ 34359738300) <| some ((signF (privF public_) message_) == signature_) else some false)) fun j0_6 => some j0_6

theorem t_impl_VerifySignature (q : Int) (l : List Int) (g : Int) (h : l.length ≤ 34359738300) : m_impl_VerifySignature q l g = some (verifyF q l g) := by
  unfold m_impl_VerifySignature verifyF
  rw [gd_t h]; simp


noncomputable def m_impl_DeriveKey (seed_ : Int) (labels_ : List Int) : Option Int := gd (([(151 : Int)] : List Int).length + ([labels_] : List (List Int)).flatten.length ≤ 68719476736) <| gd ((joinF ([(151 : Int)] : List Int) ([labels_] : List (List Int))).length ≤ 34359738368) <| some (orOneF (keyedI seed_ (joinF ([(151 : Int)] : List Int) ([labels_] : List (List Int)))))

theorem t_impl_DeriveKey (s : Int) (l : List Int) (h : l.length ≤ 34359738300) : m_impl_DeriveKey s l = some (deriveF s l) := by
  unfold m_impl_DeriveKey
  rw [gd_t (by simp; omega), gd_t (by simp [joinF]; omega)]; simp [joinF, deriveF]


noncomputable def m_impl_PublicKey (private_ : Int) : Option Int := (bif (!(keyF private_)) then some (0 : Int) else some ((IntKind.i64.wrap (private_ * (48271 : Int))).tmod (2147483647 : Int)))

theorem t_impl_PublicKey (p : Int) : m_impl_PublicKey p = some (publicF p) := by simp [m_impl_PublicKey, publicF]


noncomputable def m_spec_BoxKey (private_ : Int) (ephemeral_ : Int) : Option Int := gd (([(163 : Int), ephemeral_] : List Int).length ≤ 34359738300) <| some (deriveF private_ ([(163 : Int), ephemeral_] : List Int))

theorem t_spec_BoxKey (p e : Int) : m_spec_BoxKey p e = some (boxKeyF p e) := by unfold m_spec_BoxKey; rw [gd_t (by simp)]; rfl


noncomputable def m_spec_BoxMAC (key_ : Int) (b_ : D.Box) : Option Int := gd (b_.Data.length ≤ 34359738300) <| gd (apOk ([(167 : Int), b_.To, b_.Ephemeral] : List Int) (b2iF b_.Data)) <| gd ((([(167 : Int), b_.To, b_.Ephemeral] : List Int) ++ (b2iF b_.Data)).length ≤ 34359738368) <| some (keyedI key_ (([(167 : Int), b_.To, b_.Ephemeral] : List Int) ++ (b2iF b_.Data)))

theorem t_spec_BoxMAC (k : Int) (b : D.Box) (h : b.Data.length ≤ 34359738200) : m_spec_BoxMAC k b = some (macF k b) := by
  unfold m_spec_BoxMAC macF
  rw [gd_t (by omega), gd_t (by simp [apOk, b2iF]; omega), gd_t (by simp [b2iF]; omega)]


theorem t_spec_Decrypt (k : Int) (b : List Int) (h : b.length ≤ 34359738368) : m_spec_Decrypt k b = some (decF k b) := by
  unfold m_spec_Decrypt decF
  rw [bd_id, loopS0 b (fun f i s => m_spec_Decrypt_l0 k b f (i, s)) (fun i s x k' => gd (apOk s [decB k i x]) (k' (s ++ [decB k i x]))) (fun s => some s) (by omega)
    (fun f i s h => by
      rw [m_spec_Decrypt_l0]
      have e := dec_spec k i b[i]
      simp only [h, Int.ofNat_lt, decide_true, cond_true, atq_nat h, bd_s, gd_t (show ([(i : Int)] : List Int).length ≤ 34359738368 by simp), e])
    (fun f i s h => by rw [m_spec_Decrypt_l0]; simp [h]), runS_app (y := fun i x => [decB k i x]) (by rw [catI_len]; simp; omega)]
  rfl


noncomputable def m_spec_OpenBox (private_ : Int) (b_ : D.Box) : Option ((List Int) × Bool) := bd ((bif (!(keyF private_)) then some true else (bif (b_.To != (publicF private_)) then some true else (bif (!(keyF b_.Ephemeral)) then some true else some (decide ((b_.Data.length : Int) > (200 : Int))))))) fun j0_28 => (bif j0_28 then some (([] : List Int), false) else gd (b_.Data.length ≤ 34359738200) <| (bif (b_.MAC != (macF (boxKeyF private_ b_.Ephemeral) b_)) then some (([] : List Int), false) else gd (b_.Data.length ≤ 34359738368) <| some ((decF (boxKeyF private_ b_.Ephemeral) b_.Data), true)))

theorem t_spec_OpenBox (p : Int) (b : D.Box) : m_spec_OpenBox p b = some (openBoxF p b) := by
  unfold m_spec_OpenBox openBoxF
  by_cases hl : b.Data.length ≤ 200
  · rw [gd_t (by omega), gd_t (by omega)]
    have e1 : decide ((b.Data.length : Int) > 200) = false := by simp; omega
    rw [e1]
    cases keyF p <;> cases (b.To != publicF p) <;> cases keyF b.Ephemeral <;> cases (b.MAC != macF (boxKeyF p b.Ephemeral) b) <;> rfl
  · have e1 : decide ((b.Data.length : Int) > 200) = true := by simp; omega
    rw [e1]
    cases keyF p <;> cases (b.To != publicF p) <;> cases keyF b.Ephemeral <;> rfl


noncomputable def m_spec_FindBox_l0 (boxes_ : List D.Box) (private_ : Int) : Nat → Nat → Option (((List Int) × Bool) ⊕ Unit)
  | 0, _ => none
  | f + 1, i0 => (bif (decide ((i0 : Int) < (boxes_.length : Int))) then bd (atq boxes_ (i0 : Int)) fun z4 => (bif ((openBoxF private_ z4).2) then some (.inl ((openBoxF private_ z4).1, true)) else m_spec_FindBox_l0 boxes_ private_ f (i0 + 1)) else some (.inr ()))
noncomputable def m_spec_FindBox (boxes_ : List D.Box) (private_ : Int) : Option ((List Int) × Bool) := nx (m_spec_FindBox_l0 boxes_ private_ (boxes_.length + 1) 0) fun _ => some (([] : List Int), false)

theorem t_spec_FindBox (bs : List D.Box) (p : Int) : m_spec_FindBox bs p = some (findBoxF bs p) := by
  unfold m_spec_FindBox
  rw [loop0 bs (m_spec_FindBox_l0 bs p) (fun _ b r => bif (openBoxF p b).2 then some (.inl ((openBoxF p b).1, true)) else r) (some (.inr ())) (by omega) (fun f i h => by rw [m_spec_FindBox_l0]; simp [h, atq_nat h]) (fun f i h => by rw [m_spec_FindBox_l0]; simp [h])]
  exact findBox_run p bs 0


noncomputable def m_impl_BoxKey (private_ : Int) (ephemeral_ : Int) : Option Int := gd (([(163 : Int), ephemeral_] : List Int).length ≤ 34359738300) <| some (deriveF private_ ([(163 : Int), ephemeral_] : List Int))

theorem t_impl_BoxKey (p e : Int) : m_impl_BoxKey p e = some (boxKeyF p e) := by unfold m_impl_BoxKey; rw [gd_t (by simp)]; rfl


noncomputable def m_impl_BoxMAC (key_ : Int) (b_ : D.Box) : Option Int := gd (b_.Data.length ≤ 34359738300) <| gd (([(167 : Int), b_.To, b_.Ephemeral] : List Int).length + ([(b2iF b_.Data)] : List (List Int)).flatten.length ≤ 68719476736) <| gd ((joinF ([(167 : Int), b_.To, b_.Ephemeral] : List Int) ([(b2iF b_.Data)] : List (List Int))).length ≤ 34359738368) <| some (keyedI key_ (joinF ([(167 : Int), b_.To, b_.Ephemeral] : List Int) ([(b2iF b_.Data)] : List (List Int))))

theorem t_impl_BoxMAC (k : Int) (b : D.Box) (h : b.Data.length ≤ 34359738200) : m_impl_BoxMAC k b = some (macF k b) := by
  unfold m_impl_BoxMAC macF
  rw [gd_t (by omega), gd_t (by simp [b2iF]; omega), gd_t (by simp [b2iF, joinF]; omega)]
  simp [joinF]


theorem t_impl_Decrypt (k : Int) (b : List Int) (h : b.length ≤ 34359738368) : m_impl_Decrypt k b = some (decF k b) := by
  unfold m_impl_Decrypt decF
  rw [bd_id, loopS0 b (fun f i s => m_impl_Decrypt_l0 k b f (i, s)) (fun i s x k' => gd (apOk s [decB k i x]) (k' (s ++ [decB k i x]))) (fun s => some s) (by omega)
    (fun f i s h => by
      rw [m_impl_Decrypt_l0]
      have e := dec_impl k i b[i]
      simp only [h, Int.ofNat_lt, decide_true, cond_true, atq_nat h, bd_s, gd_t (show ([(i : Int)] : List Int).length ≤ 34359738368 by simp), e])
    (fun f i s h => by rw [m_impl_Decrypt_l0]; simp [h]), runS_app (y := fun i x => [decB k i x]) (by rw [catI_len]; simp; omega)]
  rfl


noncomputable def m_impl_OpenBox (private_ : Int) (b_ : D.Box) : Option ((List Int) × Bool) := bd ((bif (!(keyF private_)) then some true else (bif (b_.To != (publicF private_)) then some true else (bif (!(keyF b_.Ephemeral)) then some true else some (decide ((b_.Data.length : Int) > (200 : Int))))))) fun j0_28 => (bif j0_28 then some (([] : List Int), false) else gd (b_.Data.length ≤ 34359738200) <| (bif (b_.MAC != (macF (boxKeyF private_ b_.Ephemeral) b_)) then some (([] : List Int), false) else gd (b_.Data.length ≤ 34359738368) <| some ((decF (boxKeyF private_ b_.Ephemeral) b_.Data), true)))

theorem t_impl_OpenBox (p : Int) (b : D.Box) : m_impl_OpenBox p b = some (openBoxF p b) := by
  unfold m_impl_OpenBox openBoxF
  by_cases hl : b.Data.length ≤ 200
  · rw [gd_t (by omega), gd_t (by omega)]
    have e1 : decide ((b.Data.length : Int) > 200) = false := by simp; omega
    rw [e1]
    cases keyF p <;> cases (b.To != publicF p) <;> cases keyF b.Ephemeral <;> cases (b.MAC != macF (boxKeyF p b.Ephemeral) b) <;> rfl
  · have e1 : decide ((b.Data.length : Int) > 200) = true := by simp; omega
    rw [e1]
    cases keyF p <;> cases (b.To != publicF p) <;> cases keyF b.Ephemeral <;> rfl


noncomputable def m_impl_FindBox_l0 (boxes_ : List D.Box) (private_ : Int) : Nat → Nat → Option (((List Int) × Bool) ⊕ Unit)
  | 0, _ => none
  | f + 1, i0 => (bif (decide ((i0 : Int) < (boxes_.length : Int))) then bd (atq boxes_ (i0 : Int)) fun z4 => (bif ((openBoxF private_ z4).2) then some (.inl ((openBoxF private_ z4).1, true)) else m_impl_FindBox_l0 boxes_ private_ f (i0 + 1)) else some (.inr ()))
noncomputable def m_impl_FindBox (boxes_ : List D.Box) (private_ : Int) : Option ((List Int) × Bool) := nx (m_impl_FindBox_l0 boxes_ private_ (boxes_.length + 1) 0) fun _ => some (([] : List Int), false)

theorem t_impl_FindBox (bs : List D.Box) (p : Int) : m_impl_FindBox bs p = some (findBoxF bs p) := by
  unfold m_impl_FindBox
  rw [loop0 bs (m_impl_FindBox_l0 bs p) (fun _ b r => bif (openBoxF p b).2 then some (.inl ((openBoxF p b).1, true)) else r) (some (.inr ())) (by omega) (fun f i h => by rw [m_impl_FindBox_l0]; simp [h, atq_nat h]) (fun f i h => by rw [m_impl_FindBox_l0]; simp [h])]
  exact findBox_run p bs 0


noncomputable def m_spec_l9Labels_l0 (s_ : ByteArray) : Nat → (Int × Nat × (List ByteArray)) → Option (List ByteArray)
  | 0, _ => none
  | f + 1, (v0_4, i0, v0r1) => (bif (decide ((i0 : Int) ≤ (s_.size : Int))) then bd (bd ((bif ((i0 : Int) == (s_.size : Int)) then some true else bd (atq (bytesI s_) (i0 : Int)) fun z9 => some (z9 == (46 : Int)))) fun j2_22 => (bif j2_22 then gd (subOk s_ v0_4 (i0 : Int)) <| gd (apOk v0r1 ([(s_.extract v0_4.toNat (i0 : Int).toNat)] : List ByteArray)) <| some (IntKind.i64.wrap ((i0 : Int) + (1 : Int)), (v0r1 ++ ([(s_.extract v0_4.toNat (i0 : Int).toNat)] : List ByteArray))) else some (v0_4, v0r1))) fun (j1_4, j1r1) => gd (i0 + 1 < 9223372036854775808) <| m_spec_l9Labels_l0 s_ f (j1_4, i0 + 1, j1r1) else some v0r1)
noncomputable def m_spec_l9Labels (s_ : ByteArray) : Option (List ByteArray) := bd (m_spec_l9Labels_l0 s_ FUEL ((0 : Int), 0, ([] : List ByteArray))) fun j0r1 => some j0r1

theorem l0_spec_l9Labels (s : ByteArray) (hs : s.size ≤ 34359738368) : ∀ (n f i st : Nat) (acc : List ByteArray), s.size - i = n → n + 1 < f → st ≤ i → i ≤ s.size → acc.length ≤ i → m_spec_l9Labels_l0 s f ((st : Int), i, acc) = some (acc ++ (splitA ((s.data.toList.drop st).take (i - st)) (s.data.toList.drop i)).map fun l => (⟨l.toArray⟩ : ByteArray))
  | n, f + 1, i, st, acc, hn, hf, h1, h2, h3 => by
    rw [m_spec_l9Labels_l0]
    have e0 : decide ((i : Int) ≤ (s.size : Int)) = true := by simpa using (show (i : Int) ≤ (s.size : Int) by omega)
    have es : subOk s (st : Int) (i : Int) := ⟨by omega, by omega, by omega⟩
    have ea : apOk acc ([s.extract (st : Int).toNat (i : Int).toNat] : List ByteArray) := by unfold apOk; simp; omega
    rw [e0, cond_true]
    rcases Nat.lt_or_ge i s.size with hlt | hge
    · have e1 : ((i : Int) == (s.size : Int)) = false := by simp; omega
      have hd : s.data.toList.drop i = s.data.toList[i]'hlt :: s.data.toList.drop (i + 1) := (List.drop_eq_getElem_cons hlt)
      have hb : (bytesI s)[i]'(by rw [bytesI_len]; exact hlt) = ((s.data.toList[i]'hlt).toNat : Int) := by simp [bytesI]
      have hq : (((s.data.toList[i]'hlt).toNat : Int) == 46) = (s.data.toList[i]'hlt == 46) := by
        rw [Bool.eq_iff_iff]; simp only [beq_iff_eq]
        constructor
        · intro q; apply UInt8.toNat_inj.1; show _ = 46; omega
        · intro q; rw [q]; rfl
      rw [e1, cond_false, atqB hlt, bd_s, bd_s, hb, hq, hd, splitA]
      cases hc : (s.data.toList[i]'hlt == 46) with
      | true =>
        rw [cond_true, gd_t es, gd_t ea, bd_s]
        dsimp only
        rw [gd_t (show i + 1 < 9223372036854775808 by omega), wrap64_id (by omega) (by omega), show (i : Int) + 1 = ((i + 1 : Nat) : Int) by omega,
          l0_spec_l9Labels s hs (n - 1) f (i + 1) (i + 1) _ (by omega) (by omega) (Nat.le_refl _) (by omega) (by simp; omega), cond_true, Int.toNat_natCast, Int.toNat_natCast, ext_list]
        simp
      | false =>
        rw [cond_false, bd_s]
        dsimp only
        rw [gd_t (show i + 1 < 9223372036854775808 by omega), l0_spec_l9Labels s hs (n - 1) f (i + 1) st _ (by omega) (by omega) (by omega) (by omega) (by omega), cond_false]
        have : (s.data.toList.drop st).take (i + 1 - st) = (s.data.toList.drop st).take (i - st) ++ [s.data.toList[i]'hlt] := by
          rw [show i + 1 - st = (i - st) + 1 by omega, List.take_add_one, List.getElem?_drop, show st + (i - st) = i by omega, List.getElem?_eq_getElem hlt]; rfl
        rw [this]
    · have e1 : ((i : Int) == (s.size : Int)) = true := by simp; omega
      obtain ⟨f, rfl⟩ : ∃ g, f = g + 1 := ⟨f - 1, by omega⟩
      have hz : s.data.toList.length ≤ i := by have : s.data.toList.length = s.size := rfl; omega
      rw [e1, cond_true, bd_s, cond_true, gd_t es, gd_t ea, bd_s]
      dsimp only
      rw [gd_t (show i + 1 < 9223372036854775808 by omega), m_spec_l9Labels_l0]
      have e2 : decide (((i + 1 : Nat) : Int) ≤ (s.size : Int)) = false := by simp; omega
      rw [e2, cond_false, List.drop_eq_nil_of_le hz, splitA, Int.toNat_natCast, Int.toNat_natCast, ext_list]; rfl
theorem t_spec_l9Labels (s : ByteArray) (h : s.size ≤ 34359738368) : m_spec_l9Labels s = some (labelsF s) := by
  unfold m_spec_l9Labels
  have hf := FUEL_le
  rw [bd_id, show (0 : Int) = ((0 : Nat) : Int) from rfl, l0_spec_l9Labels s h s.size FUEL 0 0 [] rfl (by omega) (Nat.le_refl _) (Nat.zero_le _) (Nat.le_refl _)]
  simp [labelsF]


noncomputable def m_spec_l9Label_l0 (s_ : ByteArray) : Nat → Nat → Option (Bool ⊕ Unit)
  | 0, _ => none
  | f + 1, i0 => (bif (decide ((i0 : Int) < (s_.size : Int))) then bd (bd (atq (bytesI s_) (i0 : Int)) fun z5 => (bif (decide (z5 ≥ (97 : Int))) then (bif (decide (z5 ≤ (122 : Int))) then some true else (bif (decide (z5 ≥ (48 : Int))) then (bif (decide (z5 ≤ (57 : Int))) then some true else some (z5 == (45 : Int))) else some (z5 == (45 : Int)))) else (bif (decide (z5 ≥ (48 : Int))) then (bif (decide (z5 ≤ (57 : Int))) then some true else some (z5 == (45 : Int))) else some (z5 == (45 : Int))))) fun j1_4 => (bif (!j1_4) then some (.inl false) else m_spec_l9Label_l0 s_ f (i0 + 1)) else some (.inr ()))
noncomputable def m_spec_l9Label (s_ : ByteArray) : Option Bool := nx (m_spec_l9Label_l0 s_ ((s_.size : Int).toNat + 1) 0) fun _ => bd ((bif (inR (s_.size : Int) (1 : Int) (20 : Int)) then bd (atq (bytesI s_) (0 : Int)) fun z16 => (bif (z16 != (45 : Int)) then bd (atq (bytesI s_) (IntKind.i64.wrap ((s_.size : Int) - (1 : Int)))) fun z19 => some (z19 != (45 : Int)) else some false) else some false)) fun j2_2 => some j2_2

theorem t_spec_l9Label (s : ByteArray) (h : s.size ≤ 34359738368) : m_spec_l9Label s = some (labelOkF s) := by
  unfold m_spec_l9Label labelOkF
  rw [Int.toNat_natCast, loopAny (bytesI s) (m_spec_l9Label_l0 s) (fun b => !charOkF b) (.inl false) (.inr ()) (by rw [bytesI_len]; omega)
    (fun f i hi => by
      rw [bytesI_len] at hi
      rw [m_spec_l9Label_l0]
      simp only [hi, Int.ofNat_lt, decide_true, cond_true, atqB hi, bd_s]
      generalize (bytesI s)[i]'_ = b
      unfold charOkF inR
      have c1 : decide (b ≥ 97) = decide (97 ≤ b) := rfl
      have c2 : decide (b ≥ 48) = decide (48 ≤ b) := rfl
      rw [c1, c2]
      cases decide (97 ≤ b) <;> cases decide (b ≤ 122) <;> cases decide (48 ≤ b) <;> cases decide (b ≤ 57) <;> cases (b == 45) <;> rfl)
    (fun f i hi => by rw [bytesI_len] at hi; rw [m_spec_l9Label_l0]; simp [hi])]
  have e : inR (s.size : Int) 1 20 = (decide (1 ≤ s.size) && decide (s.size ≤ 20)) := by unfold inR; congr 1 <;> exact decide_eq_decide.2 (by omega)
  rw [e]
  by_cases h0 : 0 < s.size
  · rw [show (0 : Int) = ((0 : Nat) : Int) from rfl, atqB h0, wrap64_id (by omega) (by omega), show (s.size : Int) - 1 = ((s.size - 1 : Nat) : Int) by omega, atqB (show s.size - 1 < s.size by omega)]
    simp only [bd_s, bne, List.getD, List.getElem?_eq_getElem (show 0 < (bytesI s).length by rw [bytesI_len]; exact h0), List.getElem?_eq_getElem (show s.size - 1 < (bytesI s).length by rw [bytesI_len]; omega), Option.getD_some]
    cases ((bytesI s)[0]'_ == 45) <;> cases ((bytesI s)[s.size - 1]'_ == 45) <;> cases decide (1 ≤ s.size) <;> cases decide (s.size ≤ 20) <;> cases (bytesI s).any _ <;> rfl
  · rw [show decide (1 ≤ s.size) = false from decide_eq_false (by omega)]
    cases (bytesI s).any _ <;> rfl


noncomputable def m_spec_IsHost_l0 (s_ : ByteArray) : Nat → Nat → Option (Bool ⊕ Unit)
  | 0, _ => none
  | f + 1, i0 => (bif (decide ((i0 : Int) < ((labelsF s_).length : Int))) then bd (atq (labelsF s_) (i0 : Int)) fun z5 => gd (z5.size ≤ 34359738368) <| (bif (!(labelOkF z5)) then some (.inl false) else m_spec_IsHost_l0 s_ f (i0 + 1)) else some (.inr ()))
noncomputable def m_spec_IsHost (s_ : ByteArray) : Option Bool := gd (s_.size ≤ 34359738368) <| nx (m_spec_IsHost_l0 s_ ((labelsF s_).length + 1) 0) fun _ => some (decide ((s_.size : Int) ≤ (60 : Int)))

theorem t_spec_IsHost (s : ByteArray) (h : s.size ≤ 34359738368) : m_spec_IsHost s = some (isHostF s) := by
  unfold m_spec_IsHost isHostF
  simp only [gd_t h, bd_s]
  rw [loopAny (labelsF s) (m_spec_IsHost_l0 s) (fun l => !labelOkF l) (.inl false) (.inr ()) (by have := FUEL_le; have := labelsF_len s; omega)
    (fun f i hi => by
      rw [m_spec_IsHost_l0]
      have hz : (labelsF s)[i].size ≤ 34359738368 := Nat.le_trans (labelsF_size s _ (List.getElem_mem _)) h
      simp only [hi, Int.ofNat_lt, decide_true, cond_true, atq_nat hi, bd_s, gd_t hz])
    (fun f i hi => by rw [m_spec_IsHost_l0]; simp [hi])]
  have e' : decide ((s.size : Int) ≤ 60) = decide (s.size ≤ 60) := decide_eq_decide.2 (by omega)
  rw [e']
  cases decide (s.size ≤ 60) <;> cases (labelsF s).any _ <;> rfl


noncomputable def m_impl_IsHost_l1 (z8 : ByteArray) : Nat → Nat → Option (((Bool ⊕ Unit) ⊕ Unit) ⊕ Unit)
  | 0, _ => none
  | f + 1, i1 => (bif (decide ((i1 : Int) < (z8.size : Int))) then bd (atq (bytesI z8) (i1 : Int)) fun z22 => bd ((bif (decide (z22 ≥ (97 : Int))) then (bif (decide (z22 ≤ (122 : Int))) then some (!true) else (bif (decide (z22 ≥ (48 : Int))) then (bif (decide (z22 ≤ (57 : Int))) then some (!true) else some (!(z22 == (45 : Int)))) else some (!(z22 == (45 : Int))))) else (bif (decide (z22 ≥ (48 : Int))) then (bif (decide (z22 ≤ (57 : Int))) then some (!true) else some (!(z22 == (45 : Int)))) else some (!(z22 == (45 : Int)))))) fun j4_65 => (bif j4_65 then some (.inl (.inl (.inl false))) else m_impl_IsHost_l1 z8 f (i1 + 1)) else some (.inr ()))
noncomputable def m_impl_IsHost_l0 (s_ : ByteArray) : Nat → Nat → Option (Bool ⊕ Unit)
  | 0, _ => none
  | f + 1, i0 => (bif (decide ((i0 : Int) < ((splitF s_ (⟨#[46]⟩ : ByteArray)).length : Int))) then nx (bd (atq (splitF s_ (⟨#[46]⟩ : ByteArray)) (i0 : Int)) fun z8 => bd ((bif (decide ((z8.size : Int) < (1 : Int))) then some true else (bif (decide ((z8.size : Int) > (20 : Int))) then some true else bd (atq (bytesI z8) (0 : Int)) fun z13 => (bif (z13 == (45 : Int)) then some true else bd (atq (bytesI z8) (IntKind.i64.wrap ((z8.size : Int) - (1 : Int)))) fun z16 => some (z16 == (45 : Int)))))) fun j2_37 => (bif j2_37 then some (.inl (.inl false)) else nx (m_impl_IsHost_l1 z8 ((z8.size : Int).toNat + 1) 0) fun _ => some (.inr ()))) fun _ => m_impl_IsHost_l0 s_ f (i0 + 1) else some (.inr ()))
noncomputable def m_impl_IsHost (s_ : ByteArray) : Option Bool := (bif (decide ((s_.size : Int) > (60 : Int))) then some false else gd (s_.size < 4294967281) <| gd (1 ≤ (⟨#[46]⟩ : ByteArray).size) <| nx (m_impl_IsHost_l0 s_ ((splitF s_ (⟨#[46]⟩ : ByteArray)).length + 1) 0) fun _ => some true)

theorem l1_impl_IsHost (s : ByteArray) : m_impl_IsHost_l1 s ((s.size : Int).toNat + 1) 0 = some (bif (bytesI s).any (fun b => !charOkF b) then .inl (.inl (.inl false)) else .inr ()) := by
  rw [Int.toNat_natCast]
  exact loopAny (bytesI s) (m_impl_IsHost_l1 s) (fun b => !charOkF b) _ _ (by rw [bytesI_len]; omega)
    (fun f i hi => by
      rw [bytesI_len] at hi
      rw [m_impl_IsHost_l1]
      simp only [hi, Int.ofNat_lt, decide_true, cond_true, atqB hi, bd_s]
      generalize (bytesI s)[i]'_ = b
      unfold charOkF inR
      have c1 : decide (b ≥ 97) = decide (97 ≤ b) := rfl
      have c2 : decide (b ≥ 48) = decide (48 ≤ b) := rfl
      rw [c1, c2]
      cases decide (97 ≤ b) <;> cases decide (b ≤ 122) <;> cases decide (48 ≤ b) <;> cases decide (b ≤ 57) <;> cases (b == 45) <;> rfl)
    (fun f i hi => by rw [bytesI_len] at hi; rw [m_impl_IsHost_l1]; simp [hi])
theorem t_impl_IsHost (s : ByteArray) : m_impl_IsHost s = some (isHostF s) := by
  unfold m_impl_IsHost isHostF
  by_cases h60 : s.size ≤ 60
  · rw [show decide ((s.size : Int) > 60) = false from decide_eq_false (by omega), cond_false, gd_t (show s.size < 4294967281 by omega), gd_t (show 1 ≤ (⟨#[46]⟩ : ByteArray).size from Nat.le_refl _)]
    rw [loopAny (splitF s ⟨#[46]⟩) (m_impl_IsHost_l0 s) (fun l => !labelOkF l) (.inl false) (.inr ()) (by omega)
      (fun f i hi => by
        rw [m_impl_IsHost_l0]
        have hz : (splitF s ⟨#[46]⟩)[i].size ≤ 60 := Nat.le_trans (labelsF_size s _ (by rw [← splitF_dot]; exact List.getElem_mem _)) h60
        simp only [hi, Int.ofNat_lt, decide_true, cond_true, atq_nat hi, bd_s]
        rw [l1_impl_IsHost]
        revert hz
        generalize (splitF s ⟨#[46]⟩)[i] = l
        intro hz
        unfold labelOkF
        by_cases h0 : 0 < l.size
        · rw [show (0 : Int) = ((0 : Nat) : Int) from rfl, atqB h0, wrap64_id (by omega) (by omega), show (l.size : Int) - 1 = ((l.size - 1 : Nat) : Int) by omega, atqB (show l.size - 1 < l.size by omega)]
          have e1 : decide ((l.size : Int) < 1) = !decide (1 ≤ l.size) := by rw [← decide_not]; exact decide_eq_decide.2 (by omega)
          have e2 : decide ((l.size : Int) > 20) = !decide (l.size ≤ 20) := by rw [← decide_not]; exact decide_eq_decide.2 (by omega)
          rw [e1, e2]
          simp only [bd_s, bne, List.getD, List.getElem?_eq_getElem (show 0 < (bytesI l).length by rw [bytesI_len]; exact h0), List.getElem?_eq_getElem (show l.size - 1 < (bytesI l).length by rw [bytesI_len]; omega), Option.getD_some]
          cases ((bytesI l)[0]'_ == 45) <;> cases ((bytesI l)[l.size - 1]'_ == 45) <;> cases decide (1 ≤ l.size) <;> cases decide (l.size ≤ 20) <;> cases (bytesI l).any _ <;> rfl
        · rw [show decide ((l.size : Int) < 1) = true from decide_eq_true (by omega), show decide (1 ≤ l.size) = false from decide_eq_false (by omega)]
          rfl)
      (fun f i hi => by rw [m_impl_IsHost_l0]; simp [hi])]
    rw [splitF_dot, show decide (s.size ≤ 60) = true by simpa using h60]
    cases (labelsF s).any _ <;> rfl
  · rw [show decide ((s.size : Int) > 60) = true from decide_eq_true (by omega), show decide (s.size ≤ 60) = false by simpa using h60]; rfl


noncomputable def m_impl_Registrable (host_ : ByteArray) : Option ByteArray := (bif (!(isHostF host_)) then some (⟨#[]⟩ : ByteArray) else gd (host_.size < 4294967281) <| gd (1 ≤ (⟨#[46]⟩ : ByteArray).size) <| (bif (((splitF host_ (⟨#[46]⟩ : ByteArray)).length : Int) == (1 : Int)) then some host_ else gd (hiOk (splitF host_ (⟨#[46]⟩ : ByteArray)) (IntKind.i64.wrap (((splitF host_ (⟨#[46]⟩ : ByteArray)).length : Int) - (2 : Int)))) <| gd (0 < ((splitF host_ (⟨#[46]⟩ : ByteArray)).drop (IntKind.i64.wrap (((splitF host_ (⟨#[46]⟩ : ByteArray)).length : Int) - (2 : Int))).toNat).length) <| gd ((joinB (⟨#[46]⟩ : ByteArray) ((splitF host_ (⟨#[46]⟩ : ByteArray)).drop (IntKind.i64.wrap (((splitF host_ (⟨#[46]⟩ : ByteArray)).length : Int) - (2 : Int))).toNat)).size ≤ 140737488355328) <| gd (((splitF host_ (⟨#[46]⟩ : ByteArray)).drop (IntKind.i64.wrap (((splitF host_ (⟨#[46]⟩ : ByteArray)).length : Int) - (2 : Int))).toNat).length ≤ 140737488355328) <| some (joinB (⟨#[46]⟩ : ByteArray) ((splitF host_ (⟨#[46]⟩ : ByteArray)).drop (IntKind.i64.wrap (((splitF host_ (⟨#[46]⟩ : ByteArray)).length : Int) - (2 : Int))).toNat))))

theorem t_impl_Registrable (s : ByteArray) : m_impl_Registrable s = some (regF s) := by
  unfold m_impl_Registrable regF
  cases h : isHostF s with
  | false => rfl
  | true =>
    have hs := isHost_size h
    have hp := labelsF_pos s
    rw [Bool.not_true, cond_false, cond_true, gd_t (show s.size < 4294967281 by omega), gd_t (show 1 ≤ (⟨#[46]⟩ : ByteArray).size from Nat.le_refl _), splitF_dot]
    rw [show (((labelsF s).length : Int) == 1) = ((labelsF s).length == 1) by rw [Bool.eq_iff_iff]; simp only [beq_iff_eq]; omega]
    cases h1 : (labelsF s).length == 1 with
    | true => rfl
    | false =>
      have h2 : (labelsF s).length ≠ 1 := by simpa using h1
      have hl := labelsF_len s
      obtain ⟨a, ha, b, hb, e⟩ := join2 (l := labelsF s) (by omega)
      have ha := labelsF_size s a ha
      have hb := labelsF_size s b hb
      rw [cond_false, cond_false, wrap64_id (by omega) (by omega), show ((labelsF s).length : Int) - 2 = (((labelsF s).length - 2 : Nat) : Int) by omega, Int.toNat_natCast]
      have hd : ((labelsF s).drop ((labelsF s).length - 2)).length = 2 := by rw [List.length_drop]; omega
      have hj : (joinB ⟨#[46]⟩ ((labelsF s).drop ((labelsF s).length - 2))).size ≤ 140737488355328 := by
        rw [e, ByteArray.size_append, ByteArray.size_append]
        have : (⟨#[46]⟩ : ByteArray).size = 1 := rfl
        omega
      rw [gd_t (show hiOk (labelsF s) (((labelsF s).length - 2 : Nat) : Int) by unfold hiOk; omega), gd_t (show 0 < ((labelsF s).drop ((labelsF s).length - 2)).length by omega), gd_t hj, gd_t (show ((labelsF s).drop ((labelsF s).length - 2)).length ≤ 140737488355328 by omega)]


noncomputable def m_spec_l10Device (s_ : D.KeyStore) : Option Int := gd (([(181 : Int)] : List Int).length ≤ 34359738300) <| some (deriveF s_.Seed ([(181 : Int)] : List Int))

theorem t_spec_l10Device (s : D.KeyStore) : m_spec_l10Device s = some (devKeyF s) := by unfold m_spec_l10Device; rw [gd_t (by simp)]; rfl


noncomputable def m_spec_DevicePublic (s_ : D.KeyStore) : Option Int := some (publicF (devKeyF s_))

theorem t_spec_DevicePublic (s : D.KeyStore) : m_spec_DevicePublic s = some (devPubF s) := rfl


noncomputable def m_impl_DevicePublic (s_ : D.KeyStore) : Option Int := gd (([(181 : Int)] : List Int).length ≤ 34359738300) <| some (publicF (deriveF s_.Seed ([(181 : Int)] : List Int)))

theorem t_impl_DevicePublic (s : D.KeyStore) : m_impl_DevicePublic s = some (devPubF s) := by unfold m_impl_DevicePublic; rw [gd_t (by simp)]; rfl


noncomputable def m_spec_IsValidBook_l0 (b_ : D.ChallengeBook) : Nat → Nat → Option (Bool ⊕ Unit)
  | 0, _ => none
  | f + 1, i0 => (bif (decide ((i0 : Int) < (b_.Open.length : Int))) then bd (atq b_.Open (i0 : Int)) fun z4 => bd ((bif (!(inR z4.Id (0 : Int) (IntKind.i64.wrap (b_.Next - (1 : Int))))) then some true else (bif (decide ((i0 : Int) > (0 : Int))) then bd (atq b_.Open (IntKind.i64.wrap ((i0 : Int) - (1 : Int)))) fun z9 => (bif (decide (z9.Id ≥ z4.Id)) then some true else (bif (!(inR z4.Account (0 : Int) (1000005 : Int))) then some true else some (!(inR z4.Until (0 : Int) (1000005 : Int))))) else (bif (!(inR z4.Account (0 : Int) (1000005 : Int))) then some true else some (!(inR z4.Until (0 : Int) (1000005 : Int))))))) fun j1_51 => (bif j1_51 then some (.inl false) else m_spec_IsValidBook_l0 b_ f (i0 + 1)) else some (.inr ()))
noncomputable def m_spec_IsValidBook (b_ : D.ChallengeBook) : Option Bool := nx (m_spec_IsValidBook_l0 b_ (b_.Open.length + 1) 0) fun _ => bd ((bif (inR b_.Next (0 : Int) (1000000 : Int)) then some (decide ((b_.Open.length : Int) ≤ (16 : Int))) else some false)) fun j2_2 => some j2_2

theorem t_spec_IsValidBook (b : D.ChallengeBook) (h : b.Open.length ≤ 34359738368) : m_spec_IsValidBook b = some (bookOkF b) := by
  unfold m_spec_IsValidBook bookOkF
  rw [loopAnyI b.Open (m_spec_IsValidBook_l0 b) (challengeBad b) (.inl false) (.inr ()) (by omega)
    (fun f i hi => by
      rw [m_spec_IsValidBook_l0]
      simp only [hi, Int.ofNat_lt, decide_true, cond_true, atq_nat hi, bd_s]
      unfold challengeBad
      by_cases h0 : 0 < i
      · simp [h0, atq_prev h0 hi h, show (0 : Int) < (i : Int) by omega]
      · simp [h0, show ¬ (0 : Int) < (i : Int) by omega])
    (fun f i hi => by rw [m_spec_IsValidBook_l0]; simp [hi])]
  have e : decide ((b.Open.length : Int) > 16) = !decide (b.Open.length ≤ 16) := by rw [← decide_not]; exact decide_eq_decide.2 (by omega)
  have e' : decide ((b.Open.length : Int) ≤ 16) = decide (b.Open.length ≤ 16) := decide_eq_decide.2 (by omega)
  first | rw [e] | rw [e']
  cases inR b.Next 0 1000000 <;> cases decide (b.Open.length ≤ 16) <;> cases anyI (challengeBad b) 0 b.Open <;> rfl


noncomputable def m_impl_IsValidBook_l0 (b_ : D.ChallengeBook) : Nat → Nat → Option (Bool ⊕ Unit)
  | 0, _ => none
  | f + 1, i0 => (bif (decide ((i0 : Int) < (b_.Open.length : Int))) then bd (atq b_.Open (i0 : Int)) fun z7 => bd ((bif (!(inR z7.Id (0 : Int) (IntKind.i64.wrap (b_.Next - (1 : Int))))) then some true else (bif (decide ((i0 : Int) > (0 : Int))) then bd (atq b_.Open (IntKind.i64.wrap ((i0 : Int) - (1 : Int)))) fun z12 => (bif (decide (z12.Id ≥ z7.Id)) then some true else (bif (!(inR z7.Account (0 : Int) (1000005 : Int))) then some true else some (!(inR z7.Until (0 : Int) (1000005 : Int))))) else (bif (!(inR z7.Account (0 : Int) (1000005 : Int))) then some true else some (!(inR z7.Until (0 : Int) (1000005 : Int))))))) fun j2_57 => (bif j2_57 then some (.inl false) else m_impl_IsValidBook_l0 b_ f (i0 + 1)) else some (.inr ()))
noncomputable def m_impl_IsValidBook (b_ : D.ChallengeBook) : Option Bool := bd ((bif (!(inR b_.Next (0 : Int) (1000000 : Int))) then some true else some (decide ((b_.Open.length : Int) > (16 : Int))))) fun j0_14 => (bif j0_14 then some false else nx (m_impl_IsValidBook_l0 b_ (b_.Open.length + 1) 0) fun _ => some true)

theorem t_impl_IsValidBook (b : D.ChallengeBook) (h : b.Open.length ≤ 34359738368) : m_impl_IsValidBook b = some (bookOkF b) := by
  unfold m_impl_IsValidBook bookOkF
  rw [loopAnyI b.Open (m_impl_IsValidBook_l0 b) (challengeBad b) (.inl false) (.inr ()) (by omega)
    (fun f i hi => by
      rw [m_impl_IsValidBook_l0]
      simp only [hi, Int.ofNat_lt, decide_true, cond_true, atq_nat hi, bd_s]
      unfold challengeBad
      by_cases h0 : 0 < i
      · simp [h0, atq_prev h0 hi h, show (0 : Int) < (i : Int) by omega]
      · simp [h0, show ¬ (0 : Int) < (i : Int) by omega])
    (fun f i hi => by rw [m_impl_IsValidBook_l0]; simp [hi])]
  have e : decide ((b.Open.length : Int) > 16) = !decide (b.Open.length ≤ 16) := by rw [← decide_not]; exact decide_eq_decide.2 (by omega)
  have e' : decide ((b.Open.length : Int) ≤ 16) = decide (b.Open.length ≤ 16) := decide_eq_decide.2 (by omega)
  first | rw [e] | rw [e']
  cases inR b.Next 0 1000000 <;> cases decide (b.Open.length ≤ 16) <;> cases anyI (challengeBad b) 0 b.Open <;> rfl


noncomputable def m_spec_IsValidAccount_l1 (a_ : D.Account) (i0 : Nat) (z5 : D.Credential) : Nat → Nat → Option (((Bool ⊕ Unit) ⊕ Unit) ⊕ Unit)
  | 0, _ => none
  | f + 1, i1 => (bif (decide ((i1 : Int) < (i0 : Int))) then bd (atq a_.Credentials (i1 : Int)) fun z18 => (bif (z18.Public == z5.Public) then some (.inl (.inl (.inl false))) else gd (i1 + 1 < 9223372036854775808) <| m_spec_IsValidAccount_l1 a_ i0 z5 f (i1 + 1)) else some (.inr ()))
noncomputable def m_spec_IsValidAccount_l0 (a_ : D.Account) : Nat → Nat → Option (Bool ⊕ Unit)
  | 0, _ => none
  | f + 1, i0 => (bif (decide ((i0 : Int) < (a_.Credentials.length : Int))) then nx (bd (atq a_.Credentials (i0 : Int)) fun z5 => bd ((bif (!(inR z5.Handle (0 : Int) (1000000 : Int))) then some true else (bif (decide ((i0 : Int) > (0 : Int))) then bd (atq a_.Credentials (IntKind.i64.wrap ((i0 : Int) - (1 : Int)))) fun z10 => (bif (decide (z10.Handle ≥ z5.Handle)) then some true else (bif ((privF z5.Public) == (0 : Int)) then some true else some (!(inR z5.Counter (0 : Int) (1000000 : Int))))) else (bif ((privF z5.Public) == (0 : Int)) then some true else some (!(inR z5.Counter (0 : Int) (1000000 : Int))))))) fun j2_49 => (bif j2_49 then some (.inl (.inl false)) else nx (m_spec_IsValidAccount_l1 a_ i0 z5 FUEL 0) fun _ => some (.inr ()))) fun _ => m_spec_IsValidAccount_l0 a_ f (i0 + 1) else some (.inr ()))
noncomputable def m_spec_IsValidAccount (a_ : D.Account) : Option Bool := nx (m_spec_IsValidAccount_l0 a_ (a_.Credentials.length + 1) 0) fun _ => bd ((bif (inR a_.Id (0 : Int) (1000000 : Int)) then (bif (inR a_.Minimum (1 : Int) (3 : Int)) then some (decide ((a_.Credentials.length : Int) ≤ (8 : Int))) else some false) else some false)) fun j4_2 => some j4_2

theorem l1_spec_IsValidAccount (a : D.Account) (i : Nat) (z : D.Credential) (hi : i ≤ a.Credentials.length) (h : a.Credentials.length ≤ 34359738368) : m_spec_IsValidAccount_l1 a i z FUEL 0 = some (bif (a.Credentials.take i).any (fun q => q.Public == z.Public) then .inl (.inl (.inl false)) else .inr ()) := by
  have ht : (a.Credentials.take i).length = i := by rw [List.length_take]; omega
  exact loopAny (a.Credentials.take i) (m_spec_IsValidAccount_l1 a i z) (fun q => q.Public == z.Public) _ _ (by rw [ht]; have := FUEL_le; omega)
    (fun f j hj => by
      rw [ht] at hj
      rw [m_spec_IsValidAccount_l1]
      simp only [Int.ofNat_lt, hj, decide_true, cond_true, atq_nat (show j < a.Credentials.length by omega), bd_s, gd_t (show j + 1 < 9223372036854775808 by omega), List.getElem_take])
    (fun f j hj => by rw [ht] at hj; rw [m_spec_IsValidAccount_l1]; simp [hj])
theorem t_spec_IsValidAccount (a : D.Account) (h : a.Credentials.length ≤ 34359738368) : m_spec_IsValidAccount a = some (accountOkF a) := by
  unfold m_spec_IsValidAccount accountOkF
  rw [loopAnyI a.Credentials (m_spec_IsValidAccount_l0 a) (credBad a) (.inl false) (.inr ()) (by omega)
    (fun f i hi => by
      rw [m_spec_IsValidAccount_l0]
      simp only [hi, Int.ofNat_lt, decide_true, cond_true, atq_nat hi, bd_s]
      rw [l1_spec_IsValidAccount a i _ (by omega) h]
      unfold credBad
      by_cases h0 : 0 < i
      · simp only [h0, atq_prev h0 hi h, show (0 : Int) < (i : Int) by omega, gt_iff_lt, decide_true, cond_true, bd_s, Bool.true_and]
        cases inR a.Credentials[i].Handle 0 1000000 <;> cases decide ((a.Credentials.getD (i - 1) default).Handle ≥ a.Credentials[i].Handle) <;> cases (privF a.Credentials[i].Public == 0) <;> cases inR a.Credentials[i].Counter 0 1000000 <;> cases (a.Credentials.take i).any (fun q => q.Public == a.Credentials[i].Public) <;> rfl
      · simp only [h0, show ¬ (0 : Int) < (i : Int) by omega, gt_iff_lt, decide_false, cond_false, bd_s, Bool.false_and, Bool.false_or]
        cases inR a.Credentials[i].Handle 0 1000000 <;> cases (privF a.Credentials[i].Public == 0) <;> cases inR a.Credentials[i].Counter 0 1000000 <;> cases (a.Credentials.take i).any (fun q => q.Public == a.Credentials[i].Public) <;> rfl)
    (fun f i hi => by rw [m_spec_IsValidAccount_l0]; simp [hi])]
  have e : decide ((a.Credentials.length : Int) > 8) = !decide (a.Credentials.length ≤ 8) := by rw [← decide_not]; exact decide_eq_decide.2 (by omega)
  have e' : decide ((a.Credentials.length : Int) ≤ 8) = decide (a.Credentials.length ≤ 8) := decide_eq_decide.2 (by omega)
  first | rw [e] | rw [e']
  cases inR a.Id 0 1000000 <;> cases inR a.Minimum 1 3 <;> cases decide (a.Credentials.length ≤ 8) <;> cases anyI (credBad a) 0 a.Credentials <;> rfl


noncomputable def m_impl_IsValidAccount_l1 (a_ : D.Account) (i0 : Nat) (z9 : D.Credential) : Nat → Nat → Option (((Bool ⊕ Unit) ⊕ Unit) ⊕ Unit)
  | 0, _ => none
  | f + 1, i1 => (bif (decide ((i1 : Int) < ((a_.Credentials.take (i0 : Int).toNat).length : Int))) then bd (atq (a_.Credentials.take (i0 : Int).toNat) (i1 : Int)) fun z24 => (bif (z24.Public == z9.Public) then some (.inl (.inl (.inl false))) else m_impl_IsValidAccount_l1 a_ i0 z9 f (i1 + 1)) else some (.inr ()))
noncomputable def m_impl_IsValidAccount_l0 (a_ : D.Account) : Nat → Nat → Option (Bool ⊕ Unit)
  | 0, _ => none
  | f + 1, i0 => (bif (decide ((i0 : Int) < (a_.Credentials.length : Int))) then nx (bd (atq a_.Credentials (i0 : Int)) fun z9 => bd ((bif (!(inR z9.Handle (0 : Int) (1000000 : Int))) then some true else (bif (decide ((i0 : Int) > (0 : Int))) then bd (atq a_.Credentials (IntKind.i64.wrap ((i0 : Int) - (1 : Int)))) fun z14 => (bif (decide (z14.Handle ≥ z9.Handle)) then some true else (bif ((privF z9.Public) == (0 : Int)) then some true else some (!(inR z9.Counter (0 : Int) (1000000 : Int))))) else (bif ((privF z9.Public) == (0 : Int)) then some true else some (!(inR z9.Counter (0 : Int) (1000000 : Int))))))) fun j3_62 => (bif j3_62 then some (.inl (.inl false)) else gd (hiOk a_.Credentials (i0 : Int)) <| nx (m_impl_IsValidAccount_l1 a_ i0 z9 ((a_.Credentials.take (i0 : Int).toNat).length + 1) 0) fun _ => some (.inr ()))) fun _ => m_impl_IsValidAccount_l0 a_ f (i0 + 1) else some (.inr ()))
noncomputable def m_impl_IsValidAccount (a_ : D.Account) : Option Bool := bd ((bif (!(inR a_.Id (0 : Int) (1000000 : Int))) then some true else (bif (!(inR a_.Minimum (1 : Int) (3 : Int))) then some true else some (decide ((a_.Credentials.length : Int) > (8 : Int)))))) fun j0_22 => (bif j0_22 then some false else nx (m_impl_IsValidAccount_l0 a_ (a_.Credentials.length + 1) 0) fun _ => some true)

theorem l1_impl_IsValidAccount (a : D.Account) (i : Nat) (z : D.Credential) (hi : i ≤ a.Credentials.length) (h : a.Credentials.length ≤ 34359738368) : m_impl_IsValidAccount_l1 a i z ((a.Credentials.take (i : Int).toNat).length + 1) 0 = some (bif (a.Credentials.take i).any (fun q => q.Public == z.Public) then .inl (.inl (.inl false)) else .inr ()) := by
  have ht : (a.Credentials.take i).length = i := by rw [List.length_take]; omega
  rw [Int.toNat_natCast]
  exact loopAny (a.Credentials.take i) (m_impl_IsValidAccount_l1 a i z) (fun q => q.Public == z.Public) _ _ (by omega)
    (fun f j hj => by
      rw [m_impl_IsValidAccount_l1]
      simp only [Int.toNat_natCast, Int.ofNat_lt, hj, decide_true, cond_true, atq_nat hj, bd_s])
    (fun f j hj => by rw [m_impl_IsValidAccount_l1]; simp only [Int.toNat_natCast, Int.ofNat_lt, hj, decide_false, cond_false])
theorem t_impl_IsValidAccount (a : D.Account) (h : a.Credentials.length ≤ 34359738368) : m_impl_IsValidAccount a = some (accountOkF a) := by
  unfold m_impl_IsValidAccount accountOkF
  rw [loopAnyI a.Credentials (m_impl_IsValidAccount_l0 a) (credBad a) (.inl false) (.inr ()) (by omega)
    (fun f i hi => by
      rw [m_impl_IsValidAccount_l0]
      simp only [hi, Int.ofNat_lt, decide_true, cond_true, atq_nat hi, bd_s]
      rw [gd_t (show hiOk a.Credentials (i : Int) by unfold hiOk; simp; omega)]
      rw [l1_impl_IsValidAccount a i _ (by omega) h]
      unfold credBad
      by_cases h0 : 0 < i
      · simp only [h0, atq_prev h0 hi h, show (0 : Int) < (i : Int) by omega, gt_iff_lt, decide_true, cond_true, bd_s, Bool.true_and]
        cases inR a.Credentials[i].Handle 0 1000000 <;> cases decide ((a.Credentials.getD (i - 1) default).Handle ≥ a.Credentials[i].Handle) <;> cases (privF a.Credentials[i].Public == 0) <;> cases inR a.Credentials[i].Counter 0 1000000 <;> cases (a.Credentials.take i).any (fun q => q.Public == a.Credentials[i].Public) <;> rfl
      · simp only [h0, show ¬ (0 : Int) < (i : Int) by omega, gt_iff_lt, decide_false, cond_false, bd_s, Bool.false_and, Bool.false_or]
        cases inR a.Credentials[i].Handle 0 1000000 <;> cases (privF a.Credentials[i].Public == 0) <;> cases inR a.Credentials[i].Counter 0 1000000 <;> cases (a.Credentials.take i).any (fun q => q.Public == a.Credentials[i].Public) <;> rfl)
    (fun f i hi => by rw [m_impl_IsValidAccount_l0]; simp [hi])]
  have e : decide ((a.Credentials.length : Int) > 8) = !decide (a.Credentials.length ≤ 8) := by rw [← decide_not]; exact decide_eq_decide.2 (by omega)
  have e' : decide ((a.Credentials.length : Int) ≤ 8) = decide (a.Credentials.length ≤ 8) := decide_eq_decide.2 (by omega)
  first | rw [e] | rw [e']
  cases inR a.Id 0 1000000 <;> cases inR a.Minimum 1 3 <;> cases decide (a.Credentials.length ≤ 8) <;> cases anyI (credBad a) 0 a.Credentials <;> rfl


noncomputable def m_spec_FindAccount_l0 (s_ : D.Site) (id_ : Int) : Nat → Nat → Option (Int ⊕ Unit)
  | 0, _ => none
  | f + 1, i0 => (bif (decide ((i0 : Int) < (s_.Accounts.length : Int))) then bd (atq s_.Accounts (i0 : Int)) fun z4 => (bif (z4.Id == id_) then some (.inl (i0 : Int)) else m_spec_FindAccount_l0 s_ id_ f (i0 + 1)) else some (.inr ()))
noncomputable def m_spec_FindAccount (s_ : D.Site) (id_ : Int) : Option Int := nx (m_spec_FindAccount_l0 s_ id_ (s_.Accounts.length + 1) 0) fun _ => some (-1 : Int)

theorem t_spec_FindAccount (s : D.Site) (id : Int) : m_spec_FindAccount s id = some (findAccountF s id) := by
  unfold m_spec_FindAccount
  exact loopFind s.Accounts (m_spec_FindAccount_l0 s id) (fun a => a.Id == id) (by omega) (fun f i h => by rw [m_spec_FindAccount_l0]; simp [h, atq_nat h]) (fun f i h => by rw [m_spec_FindAccount_l0]; simp [h])


noncomputable def m_spec_NewSite (name_ : ByteArray) (seed_ : Int) : Option D.Site := bd (gd (name_.size ≤ 34359738368) <| (bif (!(isHostF name_)) then some true else gd (name_.size ≤ 34359738368) <| (bif (decide (((labelsF name_).length : Int) < (2 : Int))) then some true else some (!(keyF seed_))))) fun j0_18 => (bif j0_18 then some (⟨(⟨#[]⟩ : ByteArray), ([] : List D.Account), (⟨(0 : Int), (0 : Int), ([] : List D.Challenge)⟩ : D.ChallengeBook), ([] : List Int)⟩ : D.Site) else some (⟨name_, ([] : List D.Account), (⟨seed_, (0 : Int), ([] : List D.Challenge)⟩ : D.ChallengeBook), ([] : List Int)⟩ : D.Site))

theorem t_spec_NewSite (n : ByteArray) (seed : Int) (h : n.size ≤ 34359738368) : m_spec_NewSite n seed = some (newSiteF n seed) := by
  unfold m_spec_NewSite newSiteF nameOkF
  have e : decide (((labelsF n).length : Int) < 2) = !decide (2 ≤ (labelsF n).length) := by rw [← decide_not]; exact decide_eq_decide.2 (by omega)
  rw [gd_t h, gd_t h, e]
  cases isHostF n <;> cases decide (2 ≤ (labelsF n).length) <;> cases keyF seed <;> rfl


noncomputable def m_spec_IsValidSite_l0 (s_ : D.Site) : Nat → Nat → Option (Bool ⊕ Unit)
  | 0, _ => none
  | f + 1, i0 => (bif (decide ((i0 : Int) < (s_.Accounts.length : Int))) then bd (bd (atq s_.Accounts (i0 : Int)) fun z5 => gd (z5.Credentials.length ≤ 34359738368) <| (bif (!(accountOkF z5)) then some true else (bif (decide ((i0 : Int) > (0 : Int))) then bd (atq s_.Accounts (IntKind.i64.wrap ((i0 : Int) - (1 : Int)))) fun z10 => some (decide (z10.Id ≥ z5.Id)) else some false))) fun j1_37 => (bif j1_37 then some (.inl false) else m_spec_IsValidSite_l0 s_ f (i0 + 1)) else some (.inr ()))
noncomputable def m_spec_IsValidSite (s_ : D.Site) : Option Bool := nx (m_spec_IsValidSite_l0 s_ (s_.Accounts.length + 1) 0) fun _ => bd (gd (s_.Name.size ≤ 34359738368) <| (bif (!(((newSiteF s_.Name s_.Book.Seed).Name).toList == (⟨#[]⟩ : ByteArray).toList)) then (bif (decide ((s_.Accounts.length : Int) ≤ (8 : Int))) then gd (s_.Book.Open.length ≤ 34359738368) <| some (bookOkF s_.Book) else some false) else some false)) fun j2_2 => some j2_2

theorem t_spec_IsValidSite (s : D.Site) (h : SOk s) : m_spec_IsValidSite s = some (siteOkF s) := by
  unfold m_spec_IsValidSite siteOkF
  rw [loopAnyI s.Accounts (m_spec_IsValidSite_l0 s) (accBad s.Accounts) (.inl false) (.inr ()) (by omega)
    (fun f i hi => by
      rw [m_spec_IsValidSite_l0]
      simp only [hi, Int.ofNat_lt, decide_true, cond_true, atq_nat hi, bd_s, gd_t (h.2.2.2 _ (List.getElem_mem hi))]
      unfold accBad
      by_cases h0 : 0 < i
      · simp only [h0, atq_prev h0 hi h.2.1, show (0 : Int) < (i : Int) by omega, gt_iff_lt, decide_true, cond_true, bd_s, Bool.true_and]
        cases accountOkF s.Accounts[i] <;> cases decide ((s.Accounts.getD (i - 1) default).Id ≥ s.Accounts[i].Id) <;> rfl
      · simp only [h0, show ¬ (0 : Int) < (i : Int) by omega, gt_iff_lt, decide_false, cond_false, bd_s, Bool.false_and, Bool.or_false]
        cases accountOkF s.Accounts[i] <;> rfl)
    (fun f i hi => by rw [m_spec_IsValidSite_l0]; simp [hi])]
  have e : decide ((s.Accounts.length : Int) > 8) = !decide (s.Accounts.length ≤ 8) := by rw [← decide_not]; exact decide_eq_decide.2 (by omega)
  have e' : decide ((s.Accounts.length : Int) ≤ 8) = decide (s.Accounts.length ≤ 8) := decide_eq_decide.2 (by omega)
  first | rw [e] | rw [e']
  simp only [bd_s, gd_t h.2.2.1, nx]
  have e3 : (!((newSiteF s.Name s.Book.Seed).Name.toList == (⟨#[]⟩ : ByteArray).toList)) = nameOkF s.Name s.Book.Seed := by rw [toL0, newSite_ne, Bool.not_not]
  simp only [gd_t h.1, bd_s, e3]
  cases nameOkF s.Name s.Book.Seed <;> cases decide (s.Accounts.length ≤ 8) <;> cases bookOkF s.Book <;> cases anyI (accBad s.Accounts) 0 s.Accounts <;> rfl


noncomputable def m_impl_hasDot_l0 (s_ : ByteArray) : Nat → Nat → Option (Bool ⊕ Unit)
  | 0, _ => none
  | f + 1, i0 => (bif (decide ((i0 : Int) < (s_.size : Int))) then bd (atq (bytesI s_) (i0 : Int)) fun z4 => (bif (z4 == (46 : Int)) then some (.inl true) else m_impl_hasDot_l0 s_ f (i0 + 1)) else some (.inr ()))
noncomputable def m_impl_hasDot (s_ : ByteArray) : Option Bool := nx (m_impl_hasDot_l0 s_ ((s_.size : Int).toNat + 1) 0) fun _ => some false

theorem t_impl_hasDot (s : ByteArray) : m_impl_hasDot s = some (hasDotF s) := by
  unfold m_impl_hasDot hasDotF
  rw [Int.toNat_natCast, loopAny (bytesI s) (m_impl_hasDot_l0 s) (fun b => b == 46) (.inl true) (.inr ()) (by rw [bytesI_len]; omega)
    (fun f i hi => by
      rw [bytesI_len] at hi
      rw [m_impl_hasDot_l0]
      simp only [hi, Int.ofNat_lt, decide_true, cond_true, atqB hi, bd_s])
    (fun f i hi => by rw [bytesI_len] at hi; rw [m_impl_hasDot_l0]; simp [hi])]
  cases (bytesI s).any _ <;> rfl


noncomputable def m_impl_mayHaveName (name_ : ByteArray) (seed_ : Int) : Option Bool := bd ((bif (isHostF name_) then (bif (!((regF name_).toList == (⟨#[]⟩ : ByteArray).toList)) then (bif (hasDotF name_) then some (keyF seed_) else some false) else some false) else some false)) fun j0_4 => some j0_4

theorem t_impl_mayHaveName (n : ByteArray) (seed : Int) : m_impl_mayHaveName n seed = some (nameOkF n seed) := by
  unfold m_impl_mayHaveName nameOkF
  rw [toL0, hasDot_labels]
  cases h : isHostF n with
  | false => rfl
  | true => rw [regF_ne h]; cases decide (2 ≤ (labelsF n).length) <;> cases keyF seed <;> rfl


noncomputable def m_impl_IsValidSite_l0 (s_ : D.Site) : Nat → Nat → Option (Bool ⊕ Unit)
  | 0, _ => none
  | f + 1, i0 => (bif (decide ((i0 : Int) < (s_.Accounts.length : Int))) then bd (atq s_.Accounts (i0 : Int)) fun z9 => bd (gd (z9.Credentials.length ≤ 34359738368) <| (bif (!(accountOkF z9)) then some true else (bif (decide ((i0 : Int) > (0 : Int))) then bd (atq s_.Accounts (IntKind.i64.wrap ((i0 : Int) - (1 : Int)))) fun z15 => some (decide (z15.Id ≥ z9.Id)) else some false))) fun j2_50 => (bif j2_50 then some (.inl false) else m_impl_IsValidSite_l0 s_ f (i0 + 1)) else some (.inr ()))
noncomputable def m_impl_IsValidSite (s_ : D.Site) : Option Bool := bd ((bif (!(nameOkF s_.Name s_.Book.Seed)) then some true else (bif (decide ((s_.Accounts.length : Int) > (8 : Int))) then some true else gd (s_.Book.Open.length ≤ 34359738368) <| some (!(bookOkF s_.Book))))) fun j0_23 => (bif j0_23 then some false else nx (m_impl_IsValidSite_l0 s_ (s_.Accounts.length + 1) 0) fun _ => some true)

theorem t_impl_IsValidSite (s : D.Site) (h : SOk s) : m_impl_IsValidSite s = some (siteOkF s) := by
  unfold m_impl_IsValidSite siteOkF
  rw [loopAnyI s.Accounts (m_impl_IsValidSite_l0 s) (accBad s.Accounts) (.inl false) (.inr ()) (by omega)
    (fun f i hi => by
      rw [m_impl_IsValidSite_l0]
      simp only [hi, Int.ofNat_lt, decide_true, cond_true, atq_nat hi, bd_s, gd_t (h.2.2.2 _ (List.getElem_mem hi))]
      unfold accBad
      by_cases h0 : 0 < i
      · simp only [h0, atq_prev h0 hi h.2.1, show (0 : Int) < (i : Int) by omega, gt_iff_lt, decide_true, cond_true, bd_s, Bool.true_and]
        cases accountOkF s.Accounts[i] <;> cases decide ((s.Accounts.getD (i - 1) default).Id ≥ s.Accounts[i].Id) <;> rfl
      · simp only [h0, show ¬ (0 : Int) < (i : Int) by omega, gt_iff_lt, decide_false, cond_false, bd_s, Bool.false_and, Bool.or_false]
        cases accountOkF s.Accounts[i] <;> rfl)
    (fun f i hi => by rw [m_impl_IsValidSite_l0]; simp [hi])]
  have e : decide ((s.Accounts.length : Int) > 8) = !decide (s.Accounts.length ≤ 8) := by rw [← decide_not]; exact decide_eq_decide.2 (by omega)
  have e' : decide ((s.Accounts.length : Int) ≤ 8) = decide (s.Accounts.length ≤ 8) := decide_eq_decide.2 (by omega)
  first | rw [e] | rw [e']
  simp only [bd_s, gd_t h.2.2.1, nx]
  cases nameOkF s.Name s.Book.Seed <;> cases decide (s.Accounts.length ≤ 8) <;> cases bookOkF s.Book <;> cases anyI (accBad s.Accounts) 0 s.Accounts <;> rfl


noncomputable def m_impl_FindAccount_l0 (s_ : D.Site) (id_ : Int) : Nat → Nat → Option (Int ⊕ Unit)
  | 0, _ => none
  | f + 1, i0 => (bif (decide ((i0 : Int) < (s_.Accounts.length : Int))) then bd (atq s_.Accounts (i0 : Int)) fun z4 => (bif (z4.Id == id_) then some (.inl (i0 : Int)) else m_impl_FindAccount_l0 s_ id_ f (i0 + 1)) else some (.inr ()))
noncomputable def m_impl_FindAccount (s_ : D.Site) (id_ : Int) : Option Int := nx (m_impl_FindAccount_l0 s_ id_ (s_.Accounts.length + 1) 0) fun _ => some (-1 : Int)

theorem t_impl_FindAccount (s : D.Site) (id : Int) : m_impl_FindAccount s id = some (findAccountF s id) := by
  unfold m_impl_FindAccount
  exact loopFind s.Accounts (m_impl_FindAccount_l0 s id) (fun a => a.Id == id) (by omega) (fun f i h => by rw [m_impl_FindAccount_l0]; simp [h, atq_nat h]) (fun f i h => by rw [m_impl_FindAccount_l0]; simp [h])


noncomputable def m_spec_l19Has_l0 (l_ : List Int) (x_ : Int) : Nat → Nat → Option (Bool ⊕ Unit)
  | 0, _ => none
  | f + 1, i0 => (bif (decide ((i0 : Int) < (l_.length : Int))) then bd (atq l_ (i0 : Int)) fun z4 => (bif (z4 == x_) then some (.inl true) else m_spec_l19Has_l0 l_ x_ f (i0 + 1)) else some (.inr ()))
noncomputable def m_spec_l19Has (l_ : List Int) (x_ : Int) : Option Bool := nx (m_spec_l19Has_l0 l_ x_ (l_.length + 1) 0) fun _ => some false

theorem t_spec_l19Has (l : List Int) (x : Int) : m_spec_l19Has l x = some (hasF l x) := by
  unfold m_spec_l19Has
  rw [loopAny l (m_spec_l19Has_l0 l x) (fun e => e == x) (.inl true) (.inr ()) (by omega) (fun f i h => by rw [m_spec_l19Has_l0]; simp [h, atq_nat h]) (fun f i h => by rw [m_spec_l19Has_l0]; simp [h])]
  unfold hasF; cases l.any _ <;> rfl


noncomputable def m_spec_DevicesOf_l1 (v0_3r : List Int) (z6 : D.LogEntry) : Nat → (Nat × (List Int)) → Option (List Int)
  | 0, _ => none
  | f + 1, (i1, v1r6) => (bif (decide ((i1 : Int) < (v0_3r.length : Int))) then bd (bd (atq v0_3r (i1 : Int)) fun z19 => (bif (z19 != z6.Device) then gd (apOk v1r6 ([z19] : List Int)) <| some (v1r6 ++ ([z19] : List Int)) else some v1r6)) fun j5r6 => m_spec_DevicesOf_l1 v0_3r z6 f (i1 + 1, j5r6) else some v1r6)
noncomputable def m_spec_DevicesOf_l0 (log_ : List D.LogEntry) : Nat → (Nat × (List Int)) → Option (List Int)
  | 0, _ => none
  | f + 1, (i0, v0_3r) => (bif (decide ((i0 : Int) < (log_.length : Int))) then bd (bd (atq log_ (i0 : Int)) fun z6 => bd (bd ((bif (z6.Kind == (1 : Int)) then some (!(hasF v0_3r z6.Device)) else some false)) fun j3_20 => (bif j3_20 then gd (apOk v0_3r ([z6.Device] : List Int)) <| some (v0_3r ++ ([z6.Device] : List Int)) else (bif (z6.Kind == (2 : Int)) then bd (m_spec_DevicesOf_l1 v0_3r z6 (v0_3r.length + 1) (0, ([] : List Int))) fun j4r6 => some j4r6 else some v0_3r))) fun j2_3r => some j2_3r) fun j1_3r => m_spec_DevicesOf_l0 log_ f (i0 + 1, j1_3r) else some v0_3r)
noncomputable def m_spec_DevicesOf (log_ : List D.LogEntry) : Option (List Int) := bd (m_spec_DevicesOf_l0 log_ (log_.length + 1) (0, ([] : List Int))) fun j0_3r => some j0_3r

theorem l1_spec_DevicesOf (v : List Int) (z : D.LogEntry) (h : v.length ≤ 34359738368) : m_spec_DevicesOf_l1 v z (v.length + 1) (0, []) = some (v.filter fun d => d != z.Device) := by
  rw [loopB v (fun f i s => m_spec_DevicesOf_l1 v z f (i, s)) (fun s x => bif x != z.Device then gd (apOk s [x]) (some (s ++ [x])) else some s) (fun s x => bif x != z.Device then s ++ [x] else s) (fun s => some s) (fun i s => s.length ≤ i) (by omega)
    (fun f i s h => by rw [m_spec_DevicesOf_l1]; simp only [h, Int.ofNat_lt, decide_true, cond_true, atq_nat h, bd_s]) (fun f i s h => by rw [m_spec_DevicesOf_l1]; simp [h])
    (fun i s x hi hs => by cases (x != z.Device) <;> simp [gd, apOk]; omega) (fun i s x hi hs => by cases (x != z.Device) <;> simp <;> omega) (by simp), foldl_filter]
  simp
theorem t_spec_DevicesOf (l : List D.LogEntry) (h : l.length ≤ 34359738368) : m_spec_DevicesOf l = some (devicesOfF l) := by
  unfold m_spec_DevicesOf
  rw [bd_id, loopB l (fun f i s => m_spec_DevicesOf_l0 l f (i, s)) (fun s e => bif e.Kind == 1 then (bif !hasF s e.Device then gd (apOk s [e.Device]) (some (s ++ [e.Device])) else some s) else bif e.Kind == 2 then bd (m_spec_DevicesOf_l1 s e (s.length + 1) (0, [])) fun a => some a else some s) stepDev (fun s => some s) (fun i s => s.length ≤ i) (by omega)
    (fun f i s h => by
      rw [m_spec_DevicesOf_l0]; simp only [h, Int.ofNat_lt, decide_true, cond_true, atq_nat h, bd_s]
      have hk : (l[i].Kind == 1) = true → (l[i].Kind == 2) = false := fun hh => by simp at hh ⊢; omega
      cases h1 : (l[i].Kind == 1) with
      | true => cases hasF s l[i].Device <;> simp [bd_id, hk h1]
      | false => cases (l[i].Kind == 2) <;> simp [bd_id])
    (fun f i s h => by rw [m_spec_DevicesOf_l0]; simp [h])
    (fun i s x hi hs => by
      unfold stepDev hasF
      have hc : (s.any fun e => e == x.Device) = s.contains x.Device := by rw [List.contains_eq_any_beq]; congr 1; funext e; exact Bool.beq_comm
      rw [hc]
      cases x.Kind == 1 with
      | true => cases s.contains x.Device <;> simp [gd, apOk]; omega
      | false =>
        cases x.Kind == 2 with
        | true => simp [l1_spec_DevicesOf s x (by omega)]
        | false => rfl)
    (fun i s x hi hs => by have := stepDev_len s x; omega) (by simp)]
  rfl


noncomputable def m_spec_EpochOf_l0 (log_ : List D.LogEntry) : Nat → (Int × Nat) → Option Int
  | 0, _ => none
  | f + 1, (v0_3, i0) => (bif (decide ((i0 : Int) < (log_.length : Int))) then bd (bd (atq log_ (i0 : Int)) fun z6 => (bif (z6.Kind == (2 : Int)) then some (IntKind.i64.wrap (v0_3 + (1 : Int))) else some v0_3)) fun j1_3 => m_spec_EpochOf_l0 log_ f (j1_3, i0 + 1) else some v0_3)
noncomputable def m_spec_EpochOf (log_ : List D.LogEntry) : Option Int := bd (m_spec_EpochOf_l0 log_ (log_.length + 1) ((0 : Int), 0)) fun j0_3 => some j0_3

theorem t_spec_EpochOf (l : List D.LogEntry) : m_spec_EpochOf l = some (epochOfF l) := by
  unfold m_spec_EpochOf
  rw [bd_id, loopS0 l (fun f i s => m_spec_EpochOf_l0 l f (s, i)) (fun _ s e k => k (bif e.Kind == 2 then IntKind.i64.wrap (s + 1) else s)) (fun s => some s) (by omega)
    (fun f i s h => by rw [m_spec_EpochOf_l0]; simp [h, atq_nat h]) (fun f i s h => by rw [m_spec_EpochOf_l0]; simp [h]), runS_fold]; rfl


noncomputable def m_spec_EntryHash (e_ : D.LogEntry) : Option Int := some (hashI ([(229 : Int), e_.Index, e_.Kind, e_.Device, e_.By, e_.Previous] : List Int))

theorem t_spec_EntryHash (e : D.LogEntry) : m_spec_EntryHash e = some (entryHashF e) := rfl


noncomputable def m_spec_LogHead (log_ : List D.LogEntry) : Option Int := (bif ((log_.length : Int) == (0 : Int)) then some (0 : Int) else bd (atq log_ (IntKind.i64.wrap ((log_.length : Int) - (1 : Int)))) fun z2 => some (entryHashF z2))

theorem t_spec_LogHead (l : List D.LogEntry) (h : l.length ≤ 34359738368) : m_spec_LogHead l = some (logHeadF l) := by
  unfold m_spec_LogHead logHeadF
  cases hl : ((l.length : Int) == 0) with
  | true => rfl
  | false =>
    have : l.length ≠ 0 := by intro h0; rw [h0] at hl; simp at hl
    rw [wrap64_id (by omega) (by omega), show (l.length : Int) - 1 = ((l.length - 1 : Nat) : Int) by omega, atq_nat (by omega)]
    simp [List.getD, List.getElem?_eq_getElem (show l.length - 1 < l.length by omega)]


noncomputable def m_spec_l19Step_l0 (before_ : List D.LogEntry) (e_ : D.LogEntry) : Nat → Nat → Option (Bool ⊕ Unit)
  | 0, _ => none
  | f + 1, i0 => (bif (decide ((i0 : Int) < (before_.length : Int))) then bd (bd (atq before_ (i0 : Int)) fun z19 => (bif (z19.Kind == (2 : Int)) then some (z19.Device == e_.Device) else some false)) fun j4_86 => (bif j4_86 then some (.inl false) else m_spec_l19Step_l0 before_ e_ f (i0 + 1)) else some (.inr ()))
noncomputable def m_spec_l19Step (before_ : List D.LogEntry) (e_ : D.LogEntry) : Option Bool := gd (before_.length ≤ 34359738368) <| bd ((bif (hasF (devicesOfF before_) e_.By) then some true else (bif ((before_.length : Int) == (0 : Int)) then some (e_.By == e_.Device) else some false))) fun j0_6 => bd ((bif (e_.Index != (before_.length : Int)) then some true else gd (before_.length ≤ 34359738368) <| (bif (e_.Previous != (logHeadF before_)) then some true else (bif (!j0_6) then some true else gd (([(entryHashF e_)] : List Int).length ≤ 34359738300) <| some (!(verifyF e_.By ([(entryHashF e_)] : List Int) e_.Signature)))))) fun j1_52 => (bif j1_52 then some false else (bif (e_.Kind == (2 : Int)) then bd ((bif (hasF (devicesOfF before_) e_.Device) then some (decide (((devicesOfF before_).length : Int) > (1 : Int))) else some false)) fun j2_4 => some j2_4 else nx (m_spec_l19Step_l0 before_ e_ (before_.length + 1) 0) fun _ => bd ((bif (e_.Kind == (1 : Int)) then (bif (!(hasF (devicesOfF before_) e_.Device)) then some (decide (((devicesOfF before_).length : Int) < (6 : Int))) else some false) else some false)) fun j5_4 => some j5_4))

theorem t_spec_l19Step (l : List D.LogEntry) (e : D.LogEntry) (h : l.length ≤ 34359738368) : m_spec_l19Step l e = some (stepOkF l e) := by
  unfold m_spec_l19Step stepOkF
  simp only [gd_t h, gd_t (show ([entryHashF e] : List Int).length ≤ 34359738300 by simp)]
  rw [loopAny l (m_spec_l19Step_l0 l e) (fun q => q.Kind == 2 && q.Device == e.Device) (.inl false) (.inr ()) (by omega) (fun f i h => by rw [m_spec_l19Step_l0]; simp [h, atq_nat h]) (fun f i h => by rw [m_spec_l19Step_l0]; simp [h])]
  rw [show (l.any fun q => q.Kind == 2 && q.Device == e.Device) = removedF l e.Device from rfl]
  simp only [bne]
  cases (e.Index == (l.length : Int)) <;> cases (e.Previous == logHeadF l) <;> cases hasF (devicesOfF l) e.By <;> cases ((l.length : Int) == 0) <;> cases (e.By == e.Device) <;> cases verifyF e.By [entryHashF e] e.Signature <;> cases (e.Kind == 2) <;> cases hasF (devicesOfF l) e.Device <;> cases removedF l e.Device <;> cases (e.Kind == 1) <;> simp


noncomputable def m_spec_VerifyLog_l0 (log_ : List D.LogEntry) : Nat → Nat → Option (Bool ⊕ Unit)
  | 0, _ => none
  | f + 1, i0 => (bif (decide ((i0 : Int) < (log_.length : Int))) then gd (hiOk log_ (i0 : Int)) <| bd (atq log_ (i0 : Int)) fun z5 => gd ((log_.take (i0 : Int).toNat).length ≤ 34359738368) <| (bif (!(stepOkF (log_.take (i0 : Int).toNat) z5)) then some (.inl false) else m_spec_VerifyLog_l0 log_ f (i0 + 1)) else some (.inr ()))
noncomputable def m_spec_VerifyLog (log_ : List D.LogEntry) : Option Bool := nx (m_spec_VerifyLog_l0 log_ (log_.length + 1) 0) fun _ => some (inR (log_.length : Int) (1 : Int) (40 : Int))

theorem t_spec_VerifyLog (l : List D.LogEntry) (h : l.length ≤ 34359738368) : m_spec_VerifyLog l = some (logOkF l) := by
  unfold m_spec_VerifyLog logOkF
  rw [loopAnyI l (m_spec_VerifyLog_l0 l) (fun i e => !stepOkF (l.take i) e) (.inl false) (.inr ()) (by omega)
    (fun f i hi => by
      rw [m_spec_VerifyLog_l0]
      simp only [hi, Int.ofNat_lt, decide_true, cond_true, atq_nat hi, bd_s, Int.toNat_natCast]
      rw [gd_t (by unfold hiOk; simp; omega), gd_t (by rw [List.length_take]; omega)])
    (fun f i hi => by rw [m_spec_VerifyLog_l0]; simp [hi])]
  cases anyI (fun i e => !stepOkF (l.take i) e) 0 l <;> simp


noncomputable def m_impl_has_l0 (l_ : List Int) (n_ : Int) : Nat → Nat → Option (Bool ⊕ Unit)
  | 0, _ => none
  | f + 1, i0 => (bif (decide ((i0 : Int) < (l_.length : Int))) then bd (atq l_ (i0 : Int)) fun z4 => (bif (z4 == n_) then some (.inl true) else m_impl_has_l0 l_ n_ f (i0 + 1)) else some (.inr ()))
noncomputable def m_impl_has (l_ : List Int) (n_ : Int) : Option Bool := nx (m_impl_has_l0 l_ n_ (l_.length + 1) 0) fun _ => some false

theorem t_impl_has (l : List Int) (x : Int) : m_impl_has l x = some (hasF l x) := by
  unfold m_impl_has
  rw [loopAny l (m_impl_has_l0 l x) (fun e => e == x) (.inl true) (.inr ()) (by omega) (fun f i h => by rw [m_impl_has_l0]; simp [h, atq_nat h]) (fun f i h => by rw [m_impl_has_l0]; simp [h])]
  unfold hasF; cases l.any _ <;> rfl


noncomputable def m_impl_DevicesOf_l1 (v0_3r : List Int) (z6 : D.LogEntry) : Nat → (Nat × (List Int)) → Option (List Int)
  | 0, _ => none
  | f + 1, (i1, v1r7) => (bif (decide ((i1 : Int) < (v0_3r.length : Int))) then bd (bd (atq v0_3r (i1 : Int)) fun z18 => (bif (z18 != z6.Device) then gd (apOk v1r7 ([z18] : List Int)) <| some (v1r7 ++ ([z18] : List Int)) else some v1r7)) fun j4r7 => m_impl_DevicesOf_l1 v0_3r z6 f (i1 + 1, j4r7) else some v1r7)
noncomputable def m_impl_DevicesOf_l0 (log_ : List D.LogEntry) : Nat → (Nat × (List Int)) → Option (List Int)
  | 0, _ => none
  | f + 1, (i0, v0_3r) => (bif (decide ((i0 : Int) < (log_.length : Int))) then bd (bd (atq log_ (i0 : Int)) fun z6 => bd ((bif (z6.Kind == (1 : Int)) then (bif (!(hasF v0_3r z6.Device)) then gd (apOk v0_3r ([z6.Device] : List Int)) <| some (v0_3r ++ ([z6.Device] : List Int)) else some v0_3r) else (bif (z6.Kind == (2 : Int)) then bd (m_impl_DevicesOf_l1 v0_3r z6 (v0_3r.length + 1) (0, ([] : List Int))) fun j3r7 => some j3r7 else some v0_3r))) fun j2_3r => some j2_3r) fun j1_3r => m_impl_DevicesOf_l0 log_ f (i0 + 1, j1_3r) else some v0_3r)
noncomputable def m_impl_DevicesOf (log_ : List D.LogEntry) : Option (List Int) := bd (m_impl_DevicesOf_l0 log_ (log_.length + 1) (0, ([] : List Int))) fun j0_3r => some j0_3r

theorem l1_impl_DevicesOf (v : List Int) (z : D.LogEntry) (h : v.length ≤ 34359738368) : m_impl_DevicesOf_l1 v z (v.length + 1) (0, []) = some (v.filter fun d => d != z.Device) := by
  rw [loopB v (fun f i s => m_impl_DevicesOf_l1 v z f (i, s)) (fun s x => bif x != z.Device then gd (apOk s [x]) (some (s ++ [x])) else some s) (fun s x => bif x != z.Device then s ++ [x] else s) (fun s => some s) (fun i s => s.length ≤ i) (by omega)
    (fun f i s h => by rw [m_impl_DevicesOf_l1]; simp only [h, Int.ofNat_lt, decide_true, cond_true, atq_nat h, bd_s]) (fun f i s h => by rw [m_impl_DevicesOf_l1]; simp [h])
    (fun i s x hi hs => by cases (x != z.Device) <;> simp [gd, apOk]; omega) (fun i s x hi hs => by cases (x != z.Device) <;> simp <;> omega) (by simp), foldl_filter]
  simp
theorem t_impl_DevicesOf (l : List D.LogEntry) (h : l.length ≤ 34359738368) : m_impl_DevicesOf l = some (devicesOfF l) := by
  unfold m_impl_DevicesOf
  rw [bd_id, loopB l (fun f i s => m_impl_DevicesOf_l0 l f (i, s)) (fun s e => bif e.Kind == 1 then (bif !hasF s e.Device then gd (apOk s [e.Device]) (some (s ++ [e.Device])) else some s) else bif e.Kind == 2 then bd (m_impl_DevicesOf_l1 s e (s.length + 1) (0, [])) fun a => some a else some s) stepDev (fun s => some s) (fun i s => s.length ≤ i) (by omega)
    (fun f i s h => by
      rw [m_impl_DevicesOf_l0]; simp only [h, Int.ofNat_lt, decide_true, cond_true, atq_nat h, bd_s]
      have hk : (l[i].Kind == 1) = true → (l[i].Kind == 2) = false := fun hh => by simp at hh ⊢; omega
      cases h1 : (l[i].Kind == 1) with
      | true => cases hasF s l[i].Device <;> simp [bd_id, hk h1]
      | false => cases (l[i].Kind == 2) <;> simp [bd_id])
    (fun f i s h => by rw [m_impl_DevicesOf_l0]; simp [h])
    (fun i s x hi hs => by
      unfold stepDev hasF
      have hc : (s.any fun e => e == x.Device) = s.contains x.Device := by rw [List.contains_eq_any_beq]; congr 1; funext e; exact Bool.beq_comm
      rw [hc]
      cases x.Kind == 1 with
      | true => cases s.contains x.Device <;> simp [gd, apOk]; omega
      | false =>
        cases x.Kind == 2 with
        | true => simp [l1_impl_DevicesOf s x (by omega)]
        | false => rfl)
    (fun i s x hi hs => by have := stepDev_len s x; omega) (by simp)]
  rfl


noncomputable def m_impl_EntryHash (e_ : D.LogEntry) : Option Int := some (hashI ([(229 : Int), e_.Index, e_.Kind, e_.Device, e_.By, e_.Previous] : List Int))

theorem t_impl_EntryHash (e : D.LogEntry) : m_impl_EntryHash e = some (entryHashF e) := rfl


noncomputable def m_impl_LogHead (log_ : List D.LogEntry) : Option Int := (bif ((log_.length : Int) == (0 : Int)) then some (0 : Int) else bd (atq log_ (IntKind.i64.wrap ((log_.length : Int) - (1 : Int)))) fun z2 => some (entryHashF z2))

theorem t_impl_LogHead (l : List D.LogEntry) (h : l.length ≤ 34359738368) : m_impl_LogHead l = some (logHeadF l) := by
  unfold m_impl_LogHead logHeadF
  cases hl : ((l.length : Int) == 0) with
  | true => rfl
  | false =>
    have : l.length ≠ 0 := by intro h0; rw [h0] at hl; simp at hl
    rw [wrap64_id (by omega) (by omega), show (l.length : Int) - 1 = ((l.length - 1 : Nat) : Int) by omega, atq_nat (by omega)]
    simp [List.getD, List.getElem?_eq_getElem (show l.length - 1 < l.length by omega)]


noncomputable def m_impl_wasRemoved_l0 (log_ : List D.LogEntry) (device_ : Int) : Nat → Nat → Option (Bool ⊕ Unit)
  | 0, _ => none
  | f + 1, i0 => (bif (decide ((i0 : Int) < (log_.length : Int))) then bd (atq log_ (i0 : Int)) fun z4 => bd ((bif (z4.Kind == (2 : Int)) then some (z4.Device == device_) else some false)) fun j1_21 => (bif j1_21 then some (.inl true) else m_impl_wasRemoved_l0 log_ device_ f (i0 + 1)) else some (.inr ()))
noncomputable def m_impl_wasRemoved (log_ : List D.LogEntry) (device_ : Int) : Option Bool := nx (m_impl_wasRemoved_l0 log_ device_ (log_.length + 1) 0) fun _ => some false

theorem t_impl_wasRemoved (l : List D.LogEntry) (p : Int) : m_impl_wasRemoved l p = some (removedF l p) := by
  unfold m_impl_wasRemoved
  rw [loopAny l (m_impl_wasRemoved_l0 l p) (fun e => e.Kind == 2 && e.Device == p) (.inl true) (.inr ()) (by omega) (fun f i h => by rw [m_impl_wasRemoved_l0]; simp [h, atq_nat h]) (fun f i h => by rw [m_impl_wasRemoved_l0]; simp [h])]
  unfold removedF; cases l.any _ <;> rfl


noncomputable def m_impl_VerifyLog_l0 (log_ : List D.LogEntry) : Nat → Nat → Option (Bool ⊕ Unit)
  | 0, _ => none
  | f + 1, i0 => (bif (decide ((i0 : Int) < (log_.length : Int))) then bd (atq log_ (i0 : Int)) fun z7 => gd (hiOk log_ (i0 : Int)) <| gd ((log_.take (i0 : Int).toNat).length ≤ 34359738368) <| bd ((bif (z7.Index != (i0 : Int)) then some true else gd ((log_.take (i0 : Int).toNat).length ≤ 34359738368) <| (bif (z7.Previous != (logHeadF (log_.take (i0 : Int).toNat))) then some true else (bif (!(hasF (devicesOfF (log_.take (i0 : Int).toNat)) z7.By)) then (bif ((i0 : Int) == (0 : Int)) then some (!(z7.By == z7.Device)) else some (!false)) else some false)))) fun j2_56 => (bif j2_56 then some (.inl false) else nx ((bif (z7.Kind == (1 : Int)) then bd ((bif (hasF (devicesOfF (log_.take (i0 : Int).toNat)) z7.Device) then some true else (bif (removedF (log_.take (i0 : Int).toNat) z7.Device) then some true else some (decide (((devicesOfF (log_.take (i0 : Int).toNat)).length : Int) ≥ (6 : Int)))))) fun j4_75 => (bif j4_75 then some (.inl (.inl false)) else some (.inr ())) else (bif (z7.Kind == (2 : Int)) then bd ((bif (!(hasF (devicesOfF (log_.take (i0 : Int).toNat)) z7.Device)) then some true else some (((devicesOfF (log_.take (i0 : Int).toNat)).length : Int) == (1 : Int)))) fun j5_87 => (bif j5_87 then some (.inl (.inl false)) else some (.inr ())) else some (.inl (.inl false))))) fun _ => gd (([(entryHashF z7)] : List Int).length ≤ 34359738300) <| (bif (!(verifyF z7.By ([(entryHashF z7)] : List Int) z7.Signature)) then some (.inl false) else m_impl_VerifyLog_l0 log_ f (i0 + 1))) else some (.inr ()))
noncomputable def m_impl_VerifyLog (log_ : List D.LogEntry) : Option Bool := bd ((bif (decide ((log_.length : Int) < (1 : Int))) then some true else some (decide ((log_.length : Int) > (40 : Int))))) fun j0_14 => (bif j0_14 then some false else nx (m_impl_VerifyLog_l0 log_ (log_.length + 1) 0) fun _ => some true)

theorem t_impl_VerifyLog (l : List D.LogEntry) (h : l.length ≤ 34359738368) : m_impl_VerifyLog l = some (logOkF l) := by
  unfold m_impl_VerifyLog logOkF
  rw [loopAnyI l (m_impl_VerifyLog_l0 l) (fun i e => !stepOkF (l.take i) e) (.inl false) (.inr ()) (by omega)
    (fun f i hi => by
      rw [m_impl_VerifyLog_l0]
      have ht : (l.take i).length = i := by rw [List.length_take]; omega
      simp only [hi, Int.ofNat_lt, decide_true, cond_true, atq_nat hi, bd_s, Int.toNat_natCast]
      rw [gd_t (by unfold hiOk; simp; omega), gd_t (by rw [ht]; omega)]
      have hb : (l.take i).length ≤ 34359738368 := by rw [ht]; omega
      simp only [gd_t hb, gd_t (show ([entryHashF l[i]] : List Int).length ≤ 34359738300 by simp)]
      unfold stepOkF
      rw [ht]
      generalize l[i] = e
      have hk : (e.Kind == 1) = true → (e.Kind == 2) = false := fun hh => by simp at hh ⊢; omega
      have h1 : decide (((devicesOfF (l.take i)).length : Int) ≥ 6) = !decide (((devicesOfF (l.take i)).length : Int) < 6) := by rw [← decide_not]; exact decide_eq_decide.2 (by omega)
      have h2 : hasF (devicesOfF (l.take i)) e.Device = true → decide (((devicesOfF (l.take i)).length : Int) > 1) = !(((devicesOfF (l.take i)).length : Int) == 1) := fun hh => by
        have := hasF_pos hh
        rw [← Bool.decide_eq_true (b := (((devicesOfF (l.take i)).length : Int) == 1)), ← decide_not]
        exact decide_eq_decide.2 (by simp; omega)
      simp only [h1, bne]
      cases h3 : (e.Kind == 2) with
      | true =>
        have h4 : (e.Kind == 1) = false := by simp at h3 ⊢; omega
        rw [h4]
        cases hd : hasF (devicesOfF (l.take i)) e.Device with
        | true =>
          rw [h2 hd]
          cases (e.Index == (i : Int)) <;> cases (e.Previous == logHeadF (l.take i)) <;> cases hasF (devicesOfF (l.take i)) e.By <;> cases ((i : Int) == 0) <;> cases (e.By == e.Device) <;> cases verifyF e.By [entryHashF e] e.Signature <;> cases (((devicesOfF (l.take i)).length : Int) == 1) <;> simp
        | false => cases (e.Index == (i : Int)) <;> cases (e.Previous == logHeadF (l.take i)) <;> cases hasF (devicesOfF (l.take i)) e.By <;> cases ((i : Int) == 0) <;> cases (e.By == e.Device) <;> cases verifyF e.By [entryHashF e] e.Signature <;> simp
      | false =>
        cases (e.Kind == 1) with
        | true => cases (e.Index == (i : Int)) <;> cases (e.Previous == logHeadF (l.take i)) <;> cases hasF (devicesOfF (l.take i)) e.By <;> cases ((i : Int) == 0) <;> cases (e.By == e.Device) <;> cases verifyF e.By [entryHashF e] e.Signature <;> cases hasF (devicesOfF (l.take i)) e.Device <;> cases removedF (l.take i) e.Device <;> cases decide (((devicesOfF (l.take i)).length : Int) < 6) <;> simp
        | false => cases (e.Index == (i : Int)) <;> cases (e.Previous == logHeadF (l.take i)) <;> cases hasF (devicesOfF (l.take i)) e.By <;> cases ((i : Int) == 0) <;> cases (e.By == e.Device) <;> cases verifyF e.By [entryHashF e] e.Signature <;> cases removedF (l.take i) e.Device <;> simp)
    (fun f i hi => by rw [m_impl_VerifyLog_l0]; simp [hi])]
  unfold inR
  have e1 : decide ((l.length : Int) < 1) = !decide (1 ≤ (l.length : Int)) := by rw [← decide_not]; exact decide_eq_decide.2 (by omega)
  have e2 : decide ((l.length : Int) > 40) = !decide ((l.length : Int) ≤ 40) := by rw [← decide_not]; exact decide_eq_decide.2 (by omega)
  rw [e1, e2]
  cases decide (1 ≤ (l.length : Int)) <;> cases decide ((l.length : Int) ≤ 40) <;> cases anyI (fun i e => !stepOkF (l.take i) e) 0 l <;> rfl


noncomputable def m_impl_EpochOf_l0 (log_ : List D.LogEntry) : Nat → (Int × Nat) → Option Int
  | 0, _ => none
  | f + 1, (v0_3, i0) => (bif (decide ((i0 : Int) < (log_.length : Int))) then bd (bd (atq log_ (i0 : Int)) fun z6 => (bif (z6.Kind == (2 : Int)) then some (IntKind.i64.wrap (v0_3 + (1 : Int))) else some v0_3)) fun j1_3 => m_impl_EpochOf_l0 log_ f (j1_3, i0 + 1) else some v0_3)
noncomputable def m_impl_EpochOf (log_ : List D.LogEntry) : Option Int := bd (m_impl_EpochOf_l0 log_ (log_.length + 1) ((0 : Int), 0)) fun j0_3 => some j0_3

theorem t_impl_EpochOf (l : List D.LogEntry) : m_impl_EpochOf l = some (epochOfF l) := by
  unfold m_impl_EpochOf
  rw [bd_id, loopS0 l (fun f i s => m_impl_EpochOf_l0 l f (s, i)) (fun _ s e k => k (bif e.Kind == 2 then IntKind.i64.wrap (s + 1) else s)) (fun s => some s) (by omega)
    (fun f i s h => by rw [m_impl_EpochOf_l0]; simp [h, atq_nat h]) (fun f i s h => by rw [m_impl_EpochOf_l0]; simp [h]), runS_fold]; rfl


noncomputable def m_spec_OpenEpochBoxes (s_ : D.KeyStore) (e_ : D.EpochBoxes) : Option (Int × Bool) := gd (bytesOk ((findBoxF e_.Boxes (devKeyF s_)).1)) <| bd ((bif (!((findBoxF e_.Boxes (devKeyF s_)).2)) then some true else (bif (!((decodeF ((findBoxF e_.Boxes (devKeyF s_)).1) (0 : Int) (2 : Int)).2.2)) then some true else (bif ((decodeF ((findBoxF e_.Boxes (devKeyF s_)).1) (0 : Int) (2 : Int)).2.1 != (((findBoxF e_.Boxes (devKeyF s_)).1).length : Int)) then some true else bd (atq ((decodeF ((findBoxF e_.Boxes (devKeyF s_)).1) (0 : Int) (2 : Int)).1) (0 : Int)) fun z6 => (bif (z6 != e_.Epoch) then some true else bd (atq ((decodeF ((findBoxF e_.Boxes (devKeyF s_)).1) (0 : Int) (2 : Int)).1) (1 : Int)) fun z9 => some (!(keyF z9))))))) fun j0_51 => (bif j0_51 then some ((0 : Int), false) else bd (atq ((decodeF ((findBoxF e_.Boxes (devKeyF s_)).1) (0 : Int) (2 : Int)).1) (1 : Int)) fun z12 => some (z12, true))

theorem t_spec_OpenEpochBoxes (s : D.KeyStore) (e : D.EpochBoxes) : m_spec_OpenEpochBoxes s e = some (openEpochF s e) := by
  unfold m_spec_OpenEpochBoxes openEpochF
  rw [gd_t (findBox_ok _ _)]
  generalize findBoxF e.Boxes (devKeyF s) = x
  obtain ⟨x1, x2⟩ := x
  dsimp only
  cases x2 with
  | false => rfl
  | true =>
    have hl := fun h => decode_len (b := x1) (a := 0) (c := 2) (by omega) h
    generalize decodeF x1 0 2 = y at hl
    obtain ⟨y1, y2, y3⟩ := y
    unfold openEpochG
    cases y3 with
    | false => rfl
    | true =>
      have hl' : y1.length = 2 := hl rfl
      obtain ⟨a, c, rfl⟩ : ∃ a c, y1 = [a, c] := by
        match y1, hl' with
        | [a, c], _ => exact ⟨a, c, rfl⟩
      have e0 : atq [a, c] 0 = some a := rfl
      have e1 : atq [a, c] 1 = some c := rfl
      simp only [e0, e1, bd_s, Bool.not_true, cond_false, Bool.false_or]
      cases (y2 != (x1.length : Int)) <;> cases ha : (a != e.Epoch) <;> cases hc : keyF c <;> simp [ha, hc]


noncomputable def m_impl_OpenEpochBoxes (s_ : D.KeyStore) (e_ : D.EpochBoxes) : Option (Int × Bool) := gd (([(181 : Int)] : List Int).length ≤ 34359738300) <| (bif (!((findBoxF e_.Boxes (deriveF s_.Seed ([(181 : Int)] : List Int))).2)) then some ((0 : Int), false) else gd (bytesOk ((findBoxF e_.Boxes (deriveF s_.Seed ([(181 : Int)] : List Int))).1)) <| bd ((bif (!((decodeF ((findBoxF e_.Boxes (deriveF s_.Seed ([(181 : Int)] : List Int))).1) (0 : Int) (2 : Int)).2.2)) then some true else (bif ((decodeF ((findBoxF e_.Boxes (deriveF s_.Seed ([(181 : Int)] : List Int))).1) (0 : Int) (2 : Int)).2.1 != (((findBoxF e_.Boxes (deriveF s_.Seed ([(181 : Int)] : List Int))).1).length : Int)) then some true else bd (atq ((decodeF ((findBoxF e_.Boxes (deriveF s_.Seed ([(181 : Int)] : List Int))).1) (0 : Int) (2 : Int)).1) (0 : Int)) fun z7 => (bif (z7 != e_.Epoch) then some true else bd (atq ((decodeF ((findBoxF e_.Boxes (deriveF s_.Seed ([(181 : Int)] : List Int))).1) (0 : Int) (2 : Int)).1) (1 : Int)) fun z10 => some (!(keyF z10)))))) fun j0_51 => (bif j0_51 then some ((0 : Int), false) else bd (atq ((decodeF ((findBoxF e_.Boxes (deriveF s_.Seed ([(181 : Int)] : List Int))).1) (0 : Int) (2 : Int)).1) (1 : Int)) fun z13 => some (z13, true)))

theorem t_impl_OpenEpochBoxes (s : D.KeyStore) (e : D.EpochBoxes) : m_impl_OpenEpochBoxes s e = some (openEpochF s e) := by
  unfold m_impl_OpenEpochBoxes openEpochF
  rw [gd_t (by simp), gd_t (findBox_ok _ _), show deriveF s.Seed [181] = devKeyF s from rfl]
  generalize findBoxF e.Boxes (devKeyF s) = x
  obtain ⟨x1, x2⟩ := x
  dsimp only
  cases x2 with
  | false => rfl
  | true =>
    have hl := fun h => decode_len (b := x1) (a := 0) (c := 2) (by omega) h
    generalize decodeF x1 0 2 = y at hl
    obtain ⟨y1, y2, y3⟩ := y
    unfold openEpochG
    cases y3 with
    | false => rfl
    | true =>
      have hl' : y1.length = 2 := hl rfl
      obtain ⟨a, c, rfl⟩ : ∃ a c, y1 = [a, c] := by
        match y1, hl' with
        | [a, c], _ => exact ⟨a, c, rfl⟩
      have e0 : atq [a, c] 0 = some a := rfl
      have e1 : atq [a, c] 1 = some c := rfl
      simp only [e0, e1, bd_s, Bool.not_true, cond_false, Bool.false_or]
      cases (y2 != (x1.length : Int)) <;> cases ha : (a != e.Epoch) <;> cases hc : keyF c <;> simp [ha, hc]


noncomputable def m_spec_l24Mark (k_ : D.Keeper) : Option Int := some (IntKind.i64.wrap (IntKind.i64.wrap (k_.Epoch * (1000 : Int)) + k_.Guesses))

theorem t_spec_l24Mark (k : D.Keeper) : m_spec_l24Mark k = some (markF k) := rfl


noncomputable def m_impl_progress (k_ : D.Keeper) : Option Int := some (IntKind.i64.wrap (IntKind.i64.wrap (k_.Epoch * (1000 : Int)) + k_.Guesses))

theorem t_impl_progress (k : D.Keeper) : m_impl_progress k = some (markF k) := rfl


noncomputable def m_spec_IsValidMailbox_l0 (m_ : D.Mailbox) : Nat → Nat → Option (Bool ⊕ Unit)
  | 0, _ => none
  | f + 1, i0 => (bif (decide ((i0 : Int) < (m_.Notices.length : Int))) then bd (atq m_.Notices (i0 : Int)) fun z4 => bd ((bif (!(inR z4.Kind (1 : Int) (5 : Int))) then some true else (bif (!(inR z4.Account (0 : Int) (1000000 : Int))) then some true else (bif (!(inR z4.Time (0 : Int) (1000000 : Int))) then some true else (bif (decide ((i0 : Int) > (0 : Int))) then bd (atq m_.Notices (IntKind.i64.wrap ((i0 : Int) - (1 : Int)))) fun z11 => some (decide (z11.Time > z4.Time)) else some false))))) fun j1_48 => (bif j1_48 then some (.inl false) else m_spec_IsValidMailbox_l0 m_ f (i0 + 1)) else some (.inr ()))
noncomputable def m_spec_IsValidMailbox (m_ : D.Mailbox) : Option Bool := nx (m_spec_IsValidMailbox_l0 m_ (m_.Notices.length + 1) 0) fun _ => some (decide ((m_.Notices.length : Int) ≤ (30 : Int)))

theorem t_spec_IsValidMailbox (m : D.Mailbox) (h : m.Notices.length ≤ 34359738368) : m_spec_IsValidMailbox m = some (mailOkF m) := by
  unfold m_spec_IsValidMailbox mailOkF
  rw [loopAnyI m.Notices (m_spec_IsValidMailbox_l0 m) (noticeBad m.Notices) (.inl false) (.inr ()) (by omega)
    (fun f i hi => by
      rw [m_spec_IsValidMailbox_l0]
      simp only [hi, Int.ofNat_lt, decide_true, cond_true, atq_nat hi, bd_s]
      unfold noticeBad
      by_cases h0 : 0 < i
      · simp [h0, atq_prev h0 hi h, show (0 : Int) < (i : Int) by omega]
      · simp [h0, show ¬ (0 : Int) < (i : Int) by omega])
    (fun f i hi => by rw [m_spec_IsValidMailbox_l0]; simp [hi])]
  have e : decide ((m.Notices.length : Int) > 30) = !decide (m.Notices.length ≤ 30) := by rw [← decide_not]; exact decide_eq_decide.2 (by omega)
  have e' : decide ((m.Notices.length : Int) ≤ 30) = decide (m.Notices.length ≤ 30) := decide_eq_decide.2 (by omega)
  first | rw [e] | rw [e']
  cases decide (m.Notices.length ≤ 30) <;> cases anyI (noticeBad m.Notices) 0 m.Notices <;> rfl


noncomputable def m_impl_IsValidMailbox_l0 (m_ : D.Mailbox) : Nat → Nat → Option (Bool ⊕ Unit)
  | 0, _ => none
  | f + 1, i0 => (bif (decide ((i0 : Int) < (m_.Notices.length : Int))) then bd (atq m_.Notices (i0 : Int)) fun z5 => bd ((bif (!(inR z5.Kind (1 : Int) (5 : Int))) then some true else (bif (!(inR z5.Account (0 : Int) (1000000 : Int))) then some true else (bif (!(inR z5.Time (0 : Int) (1000000 : Int))) then some true else (bif (decide ((i0 : Int) > (0 : Int))) then bd (atq m_.Notices (IntKind.i64.wrap ((i0 : Int) - (1 : Int)))) fun z12 => some (decide (z12.Time > z5.Time)) else some false))))) fun j1_48 => (bif j1_48 then some (.inl false) else m_impl_IsValidMailbox_l0 m_ f (i0 + 1)) else some (.inr ()))
noncomputable def m_impl_IsValidMailbox (m_ : D.Mailbox) : Option Bool := (bif (decide ((m_.Notices.length : Int) > (30 : Int))) then some false else nx (m_impl_IsValidMailbox_l0 m_ (m_.Notices.length + 1) 0) fun _ => some true)

theorem t_impl_IsValidMailbox (m : D.Mailbox) (h : m.Notices.length ≤ 34359738368) : m_impl_IsValidMailbox m = some (mailOkF m) := by
  unfold m_impl_IsValidMailbox mailOkF
  rw [loopAnyI m.Notices (m_impl_IsValidMailbox_l0 m) (noticeBad m.Notices) (.inl false) (.inr ()) (by omega)
    (fun f i hi => by
      rw [m_impl_IsValidMailbox_l0]
      simp only [hi, Int.ofNat_lt, decide_true, cond_true, atq_nat hi, bd_s]
      unfold noticeBad
      by_cases h0 : 0 < i
      · simp [h0, atq_prev h0 hi h, show (0 : Int) < (i : Int) by omega]
      · simp [h0, show ¬ (0 : Int) < (i : Int) by omega])
    (fun f i hi => by rw [m_impl_IsValidMailbox_l0]; simp [hi])]
  have e : decide ((m.Notices.length : Int) > 30) = !decide (m.Notices.length ≤ 30) := by rw [← decide_not]; exact decide_eq_decide.2 (by omega)
  have e' : decide ((m.Notices.length : Int) ≤ 30) = decide (m.Notices.length ≤ 30) := decide_eq_decide.2 (by omega)
  first | rw [e] | rw [e']
  cases decide (m.Notices.length ≤ 30) <;> cases anyI (noticeBad m.Notices) 0 m.Notices <;> rfl


noncomputable def m_spec_InList (w_ : D.World) (device_ : Int) : Option Bool := bd ((bif (inR device_ (0 : Int) (IntKind.i64.wrap ((w_.Devices.length : Int) - (1 : Int)))) then bd (atq w_.Devices device_) fun z3 => gd (w_.Cloud.Log.length ≤ 34359738368) <| some (hasF (devicesOfF w_.Cloud.Log) (devPubF z3.Store)) else some false)) fun j0_4 => some j0_4

theorem t_spec_InList (w : D.World) (d : Int) (h : WOk w) : m_spec_InList w d = some (inListF w d) := by
  unfold m_spec_InList inListF
  rw [hasDev_in h, bd_id]
  cases hd : hasDevF w d with
  | false => rfl
  | true => simp [atq_dev hd, gd_t h.2.2.1]


noncomputable def m_spec_SiteName (site_ : Int) : Option ByteArray := (bif (site_ == (0 : Int)) then some (⟨#[98, 97, 110, 107, 46, 99, 111, 109]⟩ : ByteArray) else (bif (site_ == (1 : Int)) then some (⟨#[115, 104, 111, 112, 46, 111, 114, 103]⟩ : ByteArray) else some (⟨#[]⟩ : ByteArray)))

theorem t_spec_SiteName (i : Int) : m_spec_SiteName i = some (siteNameF i) := by
  unfold m_spec_SiteName siteNameF; cases i == 0 <;> cases i == 1 <;> rfl


noncomputable def m_spec_IsValidWorld_l0 (w_ : D.World) : Nat → Nat → Option (Bool ⊕ Unit)
  | 0, _ => none
  | f + 1, i0 => (bif (decide ((i0 : Int) < (w_.Sites.length : Int))) then bd (bd (atq w_.Sites (i0 : Int)) fun z5 => gd (SOk z5) <| (bif (!(siteOkF z5)) then some true else some (!(z5.Name.toList == (siteNameF (i0 : Int)).toList)))) fun j1_28 => (bif j1_28 then some (.inl false) else m_spec_IsValidWorld_l0 w_ f (i0 + 1)) else some (.inr ()))
noncomputable def m_spec_IsValidWorld (w_ : D.World) : Option Bool := nx (m_spec_IsValidWorld_l0 w_ (w_.Sites.length + 1) 0) fun _ => bd ((bif (inR w_.Now (0 : Int) (999900 : Int)) then (bif (inR (w_.Devices.length : Int) (1 : Int) (6 : Int)) then (bif ((w_.Stolen.length : Int) == (w_.Devices.length : Int)) then (bif ((w_.Sites.length : Int) == (2 : Int)) then gd (w_.Mail.Notices.length ≤ 34359738368) <| (bif (mailOkF w_.Mail) then gd (w_.Cloud.Log.length ≤ 34359738368) <| (bif (logOkF w_.Cloud.Log) then some (keyF w_.Seed) else some false) else some false) else some false) else some false) else some false) else some false)) fun j2_2 => some j2_2

theorem t_spec_IsValidWorld (w : D.World) (h : WOk2 w) : m_spec_IsValidWorld w = some (worldOkF w) := by
  unfold m_spec_IsValidWorld worldOkF
  rw [loopAnyI w.Sites (m_spec_IsValidWorld_l0 w) siteBadW (.inl false) (.inr ()) (by omega)
    (fun f i hi => by
      rw [m_spec_IsValidWorld_l0]
      simp only [hi, Int.ofNat_lt, decide_true, cond_true, atq_nat hi, bd_s, gd_t (h.2.2.2 _ (List.getElem_mem hi))]
      unfold siteBadW
      cases siteOkF w.Sites[i] <;> cases (w.Sites[i].Name.toList == (siteNameF (i : Int)).toList) <;> rfl)
    (fun f i hi => by rw [m_spec_IsValidWorld_l0]; simp [hi])]
  simp only [gd_t h.2.1, gd_t h.1.2.2.1, bne]
  cases anyI siteBadW 0 w.Sites <;> cases inR w.Now 0 999900 <;> cases inR (w.Devices.length : Int) 1 6 <;> cases ((w.Stolen.length : Int) == (w.Devices.length : Int)) <;> cases ((w.Sites.length : Int) == 2) <;> cases mailOkF w.Mail <;> cases logOkF w.Cloud.Log <;> cases keyF w.Seed <;> rfl


noncomputable def m_impl_SiteName (site_ : Int) : Option ByteArray := (bif (site_ == (0 : Int)) then some (⟨#[98, 97, 110, 107, 46, 99, 111, 109]⟩ : ByteArray) else (bif (site_ == (1 : Int)) then some (⟨#[115, 104, 111, 112, 46, 111, 114, 103]⟩ : ByteArray) else some (⟨#[]⟩ : ByteArray)))

theorem t_impl_SiteName (i : Int) : m_impl_SiteName i = some (siteNameF i) := by
  unfold m_impl_SiteName siteNameF; cases i == 0 <;> cases i == 1 <;> rfl


noncomputable def m_impl_IsValidWorld_l0 (w_ : D.World) : Nat → Nat → Option (Bool ⊕ Unit)
  | 0, _ => none
  | f + 1, i0 => (bif (decide ((i0 : Int) < (w_.Sites.length : Int))) then bd (atq w_.Sites (i0 : Int)) fun z9 => bd (gd (SOk z9) <| (bif (!(siteOkF z9)) then some true else some (!(z9.Name.toList == (siteNameF (i0 : Int)).toList)))) fun j2_48 => (bif j2_48 then some (.inl false) else m_impl_IsValidWorld_l0 w_ f (i0 + 1)) else some (.inr ()))
noncomputable def m_impl_IsValidWorld (w_ : D.World) : Option Bool := bd ((bif (!(inR w_.Now (0 : Int) (999900 : Int))) then some true else (bif (!(inR (w_.Devices.length : Int) (1 : Int) (6 : Int))) then some true else (bif ((w_.Stolen.length : Int) != (w_.Devices.length : Int)) then some true else some ((w_.Sites.length : Int) != (2 : Int)))))) fun j0_30 => (bif j0_30 then some false else nx (m_impl_IsValidWorld_l0 w_ (w_.Sites.length + 1) 0) fun _ => bd (gd (w_.Mail.Notices.length ≤ 34359738368) <| (bif (mailOkF w_.Mail) then gd (w_.Cloud.Log.length ≤ 34359738368) <| (bif (logOkF w_.Cloud.Log) then some (keyF w_.Seed) else some false) else some false)) fun j3_2 => some j3_2)

theorem t_impl_IsValidWorld (w : D.World) (h : WOk2 w) : m_impl_IsValidWorld w = some (worldOkF w) := by
  unfold m_impl_IsValidWorld worldOkF
  rw [loopAnyI w.Sites (m_impl_IsValidWorld_l0 w) siteBadW (.inl false) (.inr ()) (by omega)
    (fun f i hi => by
      rw [m_impl_IsValidWorld_l0]
      simp only [hi, Int.ofNat_lt, decide_true, cond_true, atq_nat hi, bd_s, gd_t (h.2.2.2 _ (List.getElem_mem hi))]
      unfold siteBadW
      cases siteOkF w.Sites[i] <;> cases (w.Sites[i].Name.toList == (siteNameF (i : Int)).toList) <;> rfl)
    (fun f i hi => by rw [m_impl_IsValidWorld_l0]; simp [hi])]
  simp only [gd_t h.2.1, gd_t h.1.2.2.1, bne]
  cases anyI siteBadW 0 w.Sites <;> cases inR w.Now 0 999900 <;> cases inR (w.Devices.length : Int) 1 6 <;> cases ((w.Stolen.length : Int) == (w.Devices.length : Int)) <;> cases ((w.Sites.length : Int) == 2) <;> cases mailOkF w.Mail <;> cases logOkF w.Cloud.Log <;> cases keyF w.Seed <;> rfl


noncomputable def m_impl_hasDevice (w_ : D.World) (device_ : Int) : Option Bool := bd ((bif (decide (device_ ≥ (0 : Int))) then some (decide (device_ < (w_.Devices.length : Int))) else some false)) fun j0_4 => some j0_4

theorem t_impl_hasDevice (w : D.World) (d : Int) : m_impl_hasDevice w d = some (hasDevF w d) := by simp [m_impl_hasDevice, hasDevF]


noncomputable def m_impl_InList (w_ : D.World) (device_ : Int) : Option Bool := bd ((bif (hasDevF w_ device_) then bd (atq w_.Devices device_) fun z3 => gd (w_.Cloud.Log.length ≤ 34359738368) <| some (hasF (devicesOfF w_.Cloud.Log) (devPubF z3.Store)) else some false)) fun j0_4 => some j0_4

theorem t_impl_InList (w : D.World) (d : Int) (h : WOk w) : m_impl_InList w d = some (inListF w d) := by
  unfold m_impl_InList inListF
  rw [bd_id]
  cases hd : hasDevF w d with
  | false => rfl
  | true => simp [atq_dev hd, gd_t h.2.2.1]


noncomputable def m_spec_IsCutOff_l0 (w_ : D.World) (z2 : D.Device) : Nat → Nat → Option (Bool ⊕ Unit)
  | 0, _ => none
  | f + 1, i0 => (bif (decide ((i0 : Int) < (w_.Cloud.Log.length : Int))) then bd (bd (atq w_.Cloud.Log (i0 : Int)) fun z8 => (bif (z8.Kind == (2 : Int)) then some (z8.Device == (devPubF z2.Store)) else some false)) fun j1_47 => (bif j1_47 then some (.inl true) else m_spec_IsCutOff_l0 w_ z2 f (i0 + 1)) else some (.inr ()))
noncomputable def m_spec_IsCutOff (w_ : D.World) (device_ : Int) : Option Bool := (bif (!(inR device_ (0 : Int) (IntKind.i64.wrap ((w_.Devices.length : Int) - (1 : Int))))) then some false else bd (atq w_.Devices device_) fun z2 => nx (m_spec_IsCutOff_l0 w_ z2 (w_.Cloud.Log.length + 1) 0) fun _ => some false)

theorem t_spec_IsCutOff (w : D.World) (d : Int) (h : WOk w) : m_spec_IsCutOff w d = some (isCutF w d) := by
  unfold m_spec_IsCutOff isCutF
  rw [hasDev_in h]
  cases hd : hasDevF w d with
  | false => rfl
  | true =>
    simp only [Bool.not_true, cond_false, atq_dev hd, bd_s]
    rw [loopAny w.Cloud.Log (m_spec_IsCutOff_l0 w (devAt w d)) (fun e => e.Kind == 2 && e.Device == devPubF (devAt w d).Store) (.inl true) (.inr ()) (by omega) (fun f i h => by rw [m_spec_IsCutOff_l0]; simp [h, atq_nat h]) (fun f i h => by rw [m_spec_IsCutOff_l0]; simp [h])]
    unfold removedF
    cases w.Cloud.Log.any _ <;> rfl


noncomputable def m_spec_CutIsFinal_l1 (device_ : Int) (z11 : D.Account) : Nat → Nat → Option (((Bool ⊕ Unit) ⊕ Unit) ⊕ Unit)
  | 0, _ => none
  | f + 1, i1 => (bif (decide ((i1 : Int) < (z11.Credentials.length : Int))) then bd (bd (atq z11.Credentials (i1 : Int)) fun z17 => (bif (z17.Handle == device_) then some (!z17.Cut) else some false)) fun j4_62 => (bif j4_62 then some (.inl (.inl (.inl false))) else m_spec_CutIsFinal_l1 device_ z11 f (i1 + 1)) else some (.inr ()))
noncomputable def m_spec_CutIsFinal_l0 (w_ : D.World) (device_ : Int) : Nat → Nat → Option (Bool ⊕ Unit)
  | 0, _ => none
  | f + 1, i0 => bd ((bif (decide ((i0 : Int) < (w_.Sites.length : Int))) then some (decide ((i0 : Int) < (2 : Int))) else some false)) fun j1_21 => (bif j1_21 then nx (bd (atq w_.Sites (i0 : Int)) fun z8 => (bif (decide ((findAccountF z8 (1 : Int)) < (0 : Int))) then some (.inr ()) else bd (atq z8.Accounts (findAccountF z8 (1 : Int))) fun z11 => nx (m_spec_CutIsFinal_l1 device_ z11 (z11.Credentials.length + 1) 0) fun _ => some (.inr ()))) fun _ => gd (i0 + 1 < 9223372036854775808) <| m_spec_CutIsFinal_l0 w_ device_ f (i0 + 1) else some (.inr ()))
noncomputable def m_spec_CutIsFinal (w_ : D.World) (device_ : Int) : Option Bool := gd (WOk w_) <| (bif (!(isCutF w_ device_)) then some true else nx (m_spec_CutIsFinal_l0 w_ device_ FUEL 0) fun _ => gd (WOk w_) <| some (!(inListF w_ device_)))

theorem l1_spec_CutIsFinal (d : Int) (a : D.Account) : m_spec_CutIsFinal_l1 d a (a.Credentials.length + 1) 0 = some (bif a.Credentials.any fun c => c.Handle == d && !c.Cut then .inl (.inl (.inl false)) else .inr ()) := by
  rw [loopAny a.Credentials (m_spec_CutIsFinal_l1 d a) (fun c => c.Handle == d && !c.Cut) (.inl (.inl (.inl false))) (.inr ()) (by omega) (fun f i h => by rw [m_spec_CutIsFinal_l1]; simp [h, atq_nat h]) (fun f i h => by rw [m_spec_CutIsFinal_l1]; simp [h])]
theorem t_spec_CutIsFinal (w : D.World) (d : Int) (h : WOk w) : m_spec_CutIsFinal w d = some (cutFinalF w d) := by
  unfold m_spec_CutIsFinal cutFinalF
  have hf := FUEL_le
  have h4 := h.2.2.2
  rw [gd_t h]
  cases isCutF w d with
  | false => rfl
  | true =>
    simp only [Bool.not_true, cond_false, Bool.false_or, gd_t h]
    rw [loopAny (w.Sites.take 2) (m_spec_CutIsFinal_l0 w d) (siteBad d) (.inl false) (.inr ()) (by simp; omega)
      (fun f i hi => by
        simp only [List.length_take] at hi
        have e : (w.Sites.take 2)[i]'(by simpa using hi) = w.Sites[i]'(by omega) := by simp
        rw [m_spec_CutIsFinal_l0, e]
        simp only [show i < w.Sites.length by omega, show i < 2 by omega, Int.ofNat_lt, show ((i : Int) < 2) by omega, decide_true, cond_true, bd_s, atq_nat (show i < w.Sites.length by omega)]
        unfold siteBad
        by_cases hk : findAccountF (w.Sites[i]'(by omega)) 1 < 0
        · simp [hk, gd_t (show i + 1 < 9223372036854775808 by omega)]
        · obtain ⟨k1, k2⟩ := findP_lt (show 0 ≤ findAccountF (w.Sites[i]'(by omega)) 1 by omega)
          have hlt : (findAccountF (w.Sites[i]'(by omega)) 1).toNat < (w.Sites[i]'(by omega)).Accounts.length := by unfold findAccountF at *; omega
          rw [atq_int (by omega) hlt]
          simp only [hk, decide_false, cond_false, bd_s, l1_spec_CutIsFinal, Bool.not_false, Bool.true_and, List.getD, List.getElem?_eq_getElem hlt, Option.getD_some]
          cases ((w.Sites[i]'(by omega)).Accounts[(findAccountF (w.Sites[i]'(by omega)) 1).toNat]'hlt).Credentials.any _ <;> simp [gd_t (show i + 1 < 9223372036854775808 by omega)])
      (fun f i hi => by
        simp only [List.length_take] at hi
        rw [m_spec_CutIsFinal_l0]
        by_cases h1 : i < w.Sites.length
        · simp [h1, show ¬ ((i : Int) < 2) by omega]
        · simp [h1])]
    cases (w.Sites.take 2).any (siteBad d) <;> simp


noncomputable def m_spec_KeysAgree (w_ : D.World) (device_ : Int) : Option Bool := (bif (!(inR device_ (0 : Int) (IntKind.i64.wrap ((w_.Devices.length : Int) - (1 : Int))))) then some false else bd (atq w_.Devices device_) fun z2 => bd (gd (WOk w_) <| (bif (!(inListF w_ device_)) then some true else (bif (z2.Epoch != (epochOfF w_.Cloud.Log)) then some true else some (z2.Key == (openEpochF z2.Store w_.Cloud.Boxes).1)))) fun j0_4 => some j0_4)

theorem t_spec_KeysAgree (w : D.World) (d : Int) (h : WOk w) : m_spec_KeysAgree w d = some (keysAgreeF w d) := by
  unfold m_spec_KeysAgree keysAgreeF
  rw [hasDev_in h]
  cases hd : hasDevF w d with
  | false => rfl
  | true =>
    simp only [Bool.not_true, cond_false, atq_dev hd, bd_s, gd_t h, Bool.true_and, bd_id]
    cases inListF w d <;> simp


noncomputable def m_spec_GuessesWithin_l0 (w_ : D.World) : Nat → Nat → Option (Bool ⊕ Unit)
  | 0, _ => none
  | f + 1, i0 => (bif (decide ((i0 : Int) < (w_.Hosts.length : Int))) then bd (atq w_.Hosts (i0 : Int)) fun z4 => bd ((bif (decide (z4.State.Guesses > z4.State.Limit)) then some true else some (decide ((markF z4.State) > z4.Monotonic)))) fun j1_33 => (bif j1_33 then some (.inl false) else m_spec_GuessesWithin_l0 w_ f (i0 + 1)) else some (.inr ()))
noncomputable def m_spec_GuessesWithin (w_ : D.World) : Option Bool := nx (m_spec_GuessesWithin_l0 w_ (w_.Hosts.length + 1) 0) fun _ => some true

theorem t_spec_GuessesWithin (w : D.World) : m_spec_GuessesWithin w = some (guessesWithinF w) := by
  unfold m_spec_GuessesWithin
  rw [loopAny w.Hosts (m_spec_GuessesWithin_l0 w) (fun h => decide (h.State.Guesses > h.State.Limit) || decide (markF h.State > h.Monotonic)) (.inl false) (.inr ()) (by omega)
    (fun f i h => by rw [m_spec_GuessesWithin_l0]; simp [h, atq_nat h]) (fun f i h => by rw [m_spec_GuessesWithin_l0]; simp [h])]
  unfold guessesWithinF
  cases w.Hosts.any _ <;> rfl


noncomputable def m_spec_AuditWorld_l0 (w_ : D.World) : Nat → Nat → Option (Bool ⊕ Unit)
  | 0, _ => none
  | f + 1, i0 => (bif (decide ((i0 : Int) < (w_.Devices.length : Int))) then bd (gd (WOk w_) <| (bif (!(cutFinalF w_ (i0 : Int))) then some true else gd (WOk w_) <| some (!(keysAgreeF w_ (i0 : Int))))) fun j1_20 => (bif j1_20 then some (.inl false) else m_spec_AuditWorld_l0 w_ f (i0 + 1)) else some (.inr ()))
noncomputable def m_spec_AuditWorld (w_ : D.World) : Option Bool := nx (m_spec_AuditWorld_l0 w_ (w_.Devices.length + 1) 0) fun _ => bd (gd (WOk2 w_) <| (bif (worldOkF w_) then some (guessesWithinF w_) else some false)) fun j2_2 => some j2_2

theorem t_spec_AuditWorld (w : D.World) (h : WOk2 w) : m_spec_AuditWorld w = some (auditF w) := by
  unfold m_spec_AuditWorld auditF
  rw [loopAnyI w.Devices (m_spec_AuditWorld_l0 w) (devBad w) (.inl false) (.inr ()) (by omega)
    (fun f i hi => by
      rw [m_spec_AuditWorld_l0]
      simp only [hi, Int.ofNat_lt, decide_true, cond_true, bd_s, gd_t h.1]
      unfold devBad
      cases cutFinalF w (i : Int) <;> cases keysAgreeF w (i : Int) <;> rfl)
    (fun f i hi => by rw [m_spec_AuditWorld_l0]; simp [hi])]
  simp only [gd_t h]
  cases worldOkF w <;> cases guessesWithinF w <;> cases anyI (devBad w) 0 w.Devices <;> rfl


noncomputable def m_impl_GuessesWithin_l0 (w_ : D.World) : Nat → Nat → Option (Bool ⊕ Unit)
  | 0, _ => none
  | f + 1, i0 => (bif (decide ((i0 : Int) < (w_.Hosts.length : Int))) then bd (atq w_.Hosts (i0 : Int)) fun z4 => bd ((bif (decide (z4.State.Guesses > z4.State.Limit)) then some true else some (decide ((markF z4.State) > z4.Monotonic)))) fun j1_26 => (bif j1_26 then some (.inl false) else m_impl_GuessesWithin_l0 w_ f (i0 + 1)) else some (.inr ()))
noncomputable def m_impl_GuessesWithin (w_ : D.World) : Option Bool := nx (m_impl_GuessesWithin_l0 w_ (w_.Hosts.length + 1) 0) fun _ => some true

theorem t_impl_GuessesWithin (w : D.World) : m_impl_GuessesWithin w = some (guessesWithinF w) := by
  unfold m_impl_GuessesWithin
  rw [loopAny w.Hosts (m_impl_GuessesWithin_l0 w) (fun h => decide (h.State.Guesses > h.State.Limit) || decide (markF h.State > h.Monotonic)) (.inl false) (.inr ()) (by omega)
    (fun f i h => by rw [m_impl_GuessesWithin_l0]; simp [h, atq_nat h]) (fun f i h => by rw [m_impl_GuessesWithin_l0]; simp [h])]
  unfold guessesWithinF
  cases w.Hosts.any _ <;> rfl


noncomputable def m_impl_IsCutOff (w_ : D.World) (device_ : Int) : Option Bool := bd ((bif (hasDevF w_ device_) then bd (atq w_.Devices device_) fun z3 => some (removedF w_.Cloud.Log (devPubF z3.Store)) else some false)) fun j0_4 => some j0_4

theorem t_impl_IsCutOff (w : D.World) (d : Int) : m_impl_IsCutOff w d = some (isCutF w d) := by
  unfold m_impl_IsCutOff isCutF
  rw [bd_id]
  cases hd : hasDevF w d with
  | false => rfl
  | true => simp [atq_dev hd]


noncomputable def m_impl_CutIsFinal_l1 (device_ : Int) (z12 : D.Account) : Nat → Nat → Option (((Bool ⊕ Unit) ⊕ Unit) ⊕ Unit)
  | 0, _ => none
  | f + 1, i1 => (bif (decide ((i1 : Int) < (z12.Credentials.length : Int))) then bd (atq z12.Credentials (i1 : Int)) fun z17 => bd ((bif (z17.Handle == device_) then some (!z17.Cut) else some false)) fun j3_52 => (bif j3_52 then some (.inl (.inl (.inl false))) else m_impl_CutIsFinal_l1 device_ z12 f (i1 + 1)) else some (.inr ()))
noncomputable def m_impl_CutIsFinal_l0 (w_ : D.World) (device_ : Int) : Nat → Nat → Option (Bool ⊕ Unit)
  | 0, _ => none
  | f + 1, i0 => (bif (decide ((i0 : Int) < ((w_.Sites.take (if (w_.Sites.length : Int) < (2 : Int) then (w_.Sites.length : Int) else (2 : Int)).toNat).length : Int))) then nx (bd (atq (w_.Sites.take (if (w_.Sites.length : Int) < (2 : Int) then (w_.Sites.length : Int) else (2 : Int)).toNat) (i0 : Int)) fun z9 => (bif (decide ((findAccountF z9 (1 : Int)) < (0 : Int))) then some (.inr ()) else bd (atq z9.Accounts (findAccountF z9 (1 : Int))) fun z12 => nx (m_impl_CutIsFinal_l1 device_ z12 (z12.Credentials.length + 1) 0) fun _ => some (.inr ()))) fun _ => m_impl_CutIsFinal_l0 w_ device_ f (i0 + 1) else some (.inr ()))
noncomputable def m_impl_CutIsFinal (w_ : D.World) (device_ : Int) : Option Bool := (bif (!(isCutF w_ device_)) then some true else gd (WOk w_) <| (bif (inListF w_ device_) then some false else gd (hiOk w_.Sites (if (w_.Sites.length : Int) < (2 : Int) then (w_.Sites.length : Int) else (2 : Int))) <| nx (m_impl_CutIsFinal_l0 w_ device_ ((w_.Sites.take (if (w_.Sites.length : Int) < (2 : Int) then (w_.Sites.length : Int) else (2 : Int)).toNat).length + 1) 0) fun _ => some true))

theorem l1_impl_CutIsFinal (d : Int) (a : D.Account) : m_impl_CutIsFinal_l1 d a (a.Credentials.length + 1) 0 = some (bif a.Credentials.any fun c => c.Handle == d && !c.Cut then .inl (.inl (.inl false)) else .inr ()) := by
  rw [loopAny a.Credentials (m_impl_CutIsFinal_l1 d a) (fun c => c.Handle == d && !c.Cut) (.inl (.inl (.inl false))) (.inr ()) (by omega) (fun f i h => by rw [m_impl_CutIsFinal_l1]; simp [h, atq_nat h]) (fun f i h => by rw [m_impl_CutIsFinal_l1]; simp [h])]
theorem t_impl_CutIsFinal (w : D.World) (d : Int) (h : WOk w) : m_impl_CutIsFinal w d = some (cutFinalF w d) := by
  unfold m_impl_CutIsFinal cutFinalF
  cases isCutF w d with
  | false => rfl
  | true =>
    simp only [Bool.not_true, cond_false, Bool.false_or, gd_t h]
    cases inListF w d with
    | true => rfl
    | false =>
      have e2 : w.Sites.take (if (w.Sites.length : Int) < (2 : Int) then (w.Sites.length : Int) else (2 : Int)).toNat = w.Sites.take 2 := by
        split
        · rw [Int.toNat_natCast, List.take_length, List.take_of_length_le (by omega)]
        · rfl
      simp only [cond_false, Bool.not_false, Bool.true_and]
      rw [gd_t (by unfold hiOk; split <;> omega)]
      rw [show (w.Sites.take (if (w.Sites.length : Int) < (2 : Int) then (w.Sites.length : Int) else (2 : Int)).toNat).length = (w.Sites.take 2).length by rw [e2]]
      rw [loopAny (w.Sites.take 2) (m_impl_CutIsFinal_l0 w d) (siteBad d) (.inl false) (.inr ()) (by omega)
        (fun f i hi => by
          rw [m_impl_CutIsFinal_l0, e2]
          simp only [hi, Int.ofNat_lt, decide_true, cond_true, bd_s, atq_nat hi]
          unfold siteBad
          generalize (w.Sites.take 2)[i] = s
          by_cases hk : findAccountF s 1 < 0
          · simp [hk]
          · obtain ⟨k1, k2⟩ := findP_lt (show 0 ≤ findAccountF s 1 by omega)
            have hlt : (findAccountF s 1).toNat < s.Accounts.length := by unfold findAccountF at *; omega
            rw [atq_int (by omega) hlt]
            simp only [hk, decide_false, cond_false, bd_s, l1_impl_CutIsFinal, Bool.not_false, Bool.true_and, List.getD, List.getElem?_eq_getElem hlt, Option.getD_some]
            cases (s.Accounts[(findAccountF s 1).toNat]'hlt).Credentials.any _ <;> simp)
        (fun f i hi => by rw [m_impl_CutIsFinal_l0, e2]; simp only [hi, Int.ofNat_lt, decide_false, cond_false])]
      cases (w.Sites.take 2).any (siteBad d) <;> simp


noncomputable def m_impl_KeysAgree (w_ : D.World) (device_ : Int) : Option Bool := (bif (!(hasDevF w_ device_)) then some false else bd (atq w_.Devices device_) fun z2 => bd (gd (WOk w_) <| (bif (!(inListF w_ device_)) then some true else (bif (z2.Epoch != (epochOfF w_.Cloud.Log)) then some true else some (z2.Key == (openEpochF z2.Store w_.Cloud.Boxes).1)))) fun j0_4 => some j0_4)

theorem t_impl_KeysAgree (w : D.World) (d : Int) (h : WOk w) : m_impl_KeysAgree w d = some (keysAgreeF w d) := by
  unfold m_impl_KeysAgree keysAgreeF
  cases hd : hasDevF w d with
  | false => rfl
  | true =>
    simp only [Bool.not_true, cond_false, atq_dev hd, bd_s, gd_t h, Bool.true_and, bd_id]
    cases inListF w d <;> simp


noncomputable def m_impl_AuditWorld_l0 (w_ : D.World) : Nat → Nat → Option (Bool ⊕ Unit)
  | 0, _ => none
  | f + 1, i0 => (bif (decide ((i0 : Int) < (w_.Devices.length : Int))) then bd (gd (WOk w_) <| (bif (!(cutFinalF w_ (i0 : Int))) then some true else gd (WOk w_) <| some (!(keysAgreeF w_ (i0 : Int))))) fun j2_27 => (bif j2_27 then some (.inl false) else m_impl_AuditWorld_l0 w_ f (i0 + 1)) else some (.inr ()))
noncomputable def m_impl_AuditWorld (w_ : D.World) : Option Bool := bd (gd (WOk2 w_) <| (bif (!(worldOkF w_)) then some true else some (!(guessesWithinF w_)))) fun j0_11 => (bif j0_11 then some false else nx (m_impl_AuditWorld_l0 w_ (w_.Devices.length + 1) 0) fun _ => some true)

theorem t_impl_AuditWorld (w : D.World) (h : WOk2 w) : m_impl_AuditWorld w = some (auditF w) := by
  unfold m_impl_AuditWorld auditF
  rw [loopAnyI w.Devices (m_impl_AuditWorld_l0 w) (devBad w) (.inl false) (.inr ()) (by omega)
    (fun f i hi => by
      rw [m_impl_AuditWorld_l0]
      simp only [hi, Int.ofNat_lt, decide_true, cond_true, bd_s, gd_t h.1]
      unfold devBad
      cases cutFinalF w (i : Int) <;> cases keysAgreeF w (i : Int) <;> rfl)
    (fun f i hi => by rw [m_impl_AuditWorld_l0]; simp [hi])]
  simp only [gd_t h]
  cases worldOkF w <;> cases guessesWithinF w <;> cases anyI (devBad w) 0 w.Devices <;> rfl

end Go.VK
