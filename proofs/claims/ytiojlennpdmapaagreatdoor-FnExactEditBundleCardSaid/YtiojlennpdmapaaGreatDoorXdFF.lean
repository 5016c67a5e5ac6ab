import Derived.Test.YtiojlennpdmapaaGreatDoorEVztot
import Derived.Test.YtiojlennpdmapaaGreatDoorXdS
/-
  Printed by wip/tools (own work of this part): models of functions, walks over the value kit, and proofs.
-/
set_option linter.unusedVariables false
set_option linter.unusedSimpArgs false
set_option maxRecDepth 100000
set_option maxHeartbeats 4000000
namespace Go.VK
open Go.RowKit Go.Proofs
theorem hstep_range {h v : Int} (h0 : 0 ≤ h) (h1 : h < 2147483647) : 0 ≤ hstep h v ∧ hstep h v < 2147483647 := by
  have hm := modI_range (p := v) (q := 2147483647) (by omega)
  unfold hstep
  generalize modI v 2147483647 = z at *
  have e1 : IntKind.i64.wrap (h * 1000003) = h * 1000003 := wrap64_id (by omega) (by omega)
  have e2 : IntKind.i64.wrap (h * 1000003 + z) = h * 1000003 + z := wrap64_id (by omega) (by omega)
  have e3 : IntKind.i64.wrap (h * 1000003 + z + 13) = h * 1000003 + z + 13 := wrap64_id (by omega) (by omega)
  rw [e1, e2, e3]
  exact ⟨Int.tmod_nonneg _ (by omega), Int.tmod_lt_of_pos _ (by decide)⟩
theorem hashI_range (l : List Int) : 0 ≤ hashI l ∧ hashI l < 2147483647 := by
  unfold hashI
  suffices ∀ (l : List Int) (h : Int), 0 ≤ h → h < 2147483647 → 0 ≤ l.foldl hstep h ∧ l.foldl hstep h < 2147483647 from this l 11 (by omega) (by omega)
  intro l
  induction l with
  | nil => intro h h0 h1; exact ⟨h0, h1⟩
  | cons x xs ih => intro h h0 h1; exact ih _ (hstep_range h0 h1).1 (hstep_range h0 h1).2
theorem keyedI_range (k : Int) (l : List Int) : 0 ≤ keyedI k l ∧ keyedI k l < 2147483647 := hashI_range _
def maxF (a b : Int) : Int := bif decide (b > a) then b else a
def joinF (a : List Int) (r : List (List Int)) : List Int := a ++ r.flatten
def orOneF (n : Int) : Int := bif n == 0 then 1 else n
def keyF (n : Int) : Bool := inR n 1 2147483646
def b2iF (b : List Int) : List Int := [(b.length : Int)] ++ b.map IntKind.i64.wrap
def deriveSF (k : Int) (s : ByteArray) : Int := orOneF (keyedI k (b2iF (bytesI s)))
def publicF (p : Int) : Int := bif !(keyF p) then 0 else (IntKind.i64.wrap (p * 48271)).tmod 2147483647
def hasF (l : List Int) (x : Int) : Bool := l.any fun e => e == x
def removedF (log : List D.LogEntry) (p : Int) : Bool := log.any fun e => e.Kind == 2 && e.Device == p
def stepDev (s : List Int) (e : D.LogEntry) : List Int :=
  bif e.Kind == 1 then (bif s.contains e.Device then s else s ++ [e.Device]) else bif e.Kind == 2 then s.filter (fun d => d != e.Device) else s
def devicesOfF (log : List D.LogEntry) : List Int := log.foldl stepDev []
def findEntryF (b : D.Bundle) (site handle : Int) : Int := findP (fun e => e.Site == site && e.Handle == handle) 0 b.Entries
theorem stepDev_len (s : List Int) (x : D.LogEntry) : (stepDev s x).length ≤ s.length + 1 := by
  unfold stepDev
  cases x.Kind == 1 with
  | true => cases s.contains x.Device <;> simp
  | false =>
    cases x.Kind == 2 with
    | true => have := List.length_filter_le (fun d => d != x.Device) s; simp; omega
    | false => simp
theorem devicesOf_len (log : List D.LogEntry) : (devicesOfF log).length ≤ log.length := by
  suffices ∀ (l : List D.LogEntry) (s : List Int), (l.foldl stepDev s).length ≤ s.length + l.length from by simpa [devicesOfF] using this log []
  intro l
  induction l with
  | nil => intro s; simp
  | cons x xs ih =>
    intro s
    simp only [List.foldl_cons, List.length_cons]
    have h1 := ih (stepDev s x)
    have h2 : (stepDev s x).length ≤ s.length + 1 := by
      unfold stepDev
      cases x.Kind == 1 with
      | true => cases s.contains x.Device <;> simp
      | false =>
        cases x.Kind == 2 with
        | true => have := List.length_filter_le (fun d => d != x.Device) s; simp; omega
        | false => simp
    omega
theorem maxF_one {n : Int} (h : 0 ≤ n) : maxF 1 n = orOneF n := by
  unfold maxF orOneF
  rcases (show n = 0 ∨ n = 1 ∨ n > 1 by omega) with rfl | rfl | h1
  · rfl
  · rfl
  · have : (n == 0) = false := by simp; omega
    simp [h1, this]
def siteHashF (s : ByteArray) : Int := deriveSF 173 s
def WOk (w : D.World) : Prop := w.Devices.length ≤ 34359738368 ∧ w.Stolen.length ≤ 34359738368 ∧ w.Cloud.Log.length ≤ 34359738368 ∧ w.Sites.length ≤ 34359738368
instance (w : D.World) : Decidable (WOk w) := inferInstanceAs (Decidable (_ ∧ _))
def hasDevF (w : D.World) (d : Int) : Bool := decide (0 ≤ d) && decide (d < w.Devices.length)
theorem hasDev_in {w : D.World} (h : WOk w) (d : Int) : inR d 0 (IntKind.i64.wrap ((w.Devices.length : Int) - 1)) = hasDevF w d := by
  have := h.1
  rw [wrap64_id (by omega) (by omega)]
  unfold inR hasDevF
  congr 1
  exact decide_eq_decide.2 (by omega)
def devAt (w : D.World) (d : Int) : D.Device := w.Devices.getD d.toNat default
theorem atq_dev {w : D.World} {d : Int} (h : hasDevF w d = true) : atq w.Devices d = some (devAt w d) := by
  simp only [hasDevF, Bool.and_eq_true, decide_eq_true_eq] at h
  rw [atq_int h.1 (by omega)]
  simp [devAt, List.getD, List.getElem?_eq_getElem (show d.toNat < w.Devices.length by omega)]
theorem WOk.of {w : D.World} (h : w.sz ≤ 1048576) : WOk w := by
  simp only [D.World.sz, D.Cloud.sz] at h
  unfold WOk
  omega
def bytesOk (b : List Int) : Prop := b.length ≤ 34359738368 ∧ b.all (fun z => decide (0 ≤ z) && decide (z ≤ 255)) = true
instance (b : List Int) : Decidable (bytesOk b) := inferInstanceAs (Decidable (_ ∧ _))
theorem and_one {n : Int} (h0 : 0 ≤ n) (h1 : n < 9223372036854775808) : andI .i64 n 1 = n % 2 := by
  obtain ⟨m, rfl⟩ := Int.eq_ofNat_of_zero_le h0
  have e : ((BitVec.ofInt 64 (m : Int)) &&& (BitVec.ofInt 64 1)).toNat = m % 2 := by
    rw [BitVec.toNat_and]
    have e1 : (BitVec.ofInt 64 (m : Int)).toNat = m := by rw [BitVec.toNat_ofInt]; omega
    have e2 : (BitVec.ofInt 64 1).toNat = 2 ^ 1 - 1 := by decide
    rw [e1, e2, Nat.and_two_pow_sub_one_eq_mod]
  show IntKind.i64.wrap (((BitVec.ofInt 64 (m : Int)) &&& (BitVec.ofInt 64 1)).toNat : Int) = _
  rw [e, wrap64_id (by omega) (by omega)]; omega
theorem shr_one {n : Int} (h0 : 0 ≤ n) : shrI .i64 n 1 = n / 2 := by
  unfold shrI
  rw [show min (Int.toNat 1) IntKind.i64.bits = 1 from by decide, Int.fdiv_eq_ediv_of_nonneg _ (by decide)]; rfl
def powG : Nat → Int → Int → Int → Int
  | 0, _, _, s => s
  | k + 1, b, n, s => if n > 0 then powG k ((IntKind.i64.wrap (b * b)).tmod 2147483647) (n / 2) (bif n % 2 == 1 then (IntKind.i64.wrap (s * b)).tmod 2147483647 else s) else s
theorem powG_c1 : powG 31 48271 2147483645 1 = 1899818559 := by decide +kernel
def privF (q : Int) : Int := bif !keyF q then 0 else q * 1899818559 % 2147483647
def signF (p : Int) (l : List Int) : Int := bif !keyF p then 0 else keyedI p ([139, (l.length : Int)] ++ l)
def verifyF (q : Int) (l : List Int) (g : Int) : Bool := privF q != 0 && signF (privF q) l == g
theorem atq_prev {α : Type} [Inhabited α] {l : List α} {i : Nat} (h0 : 0 < i) (hi : i < l.length) (hl : l.length ≤ 34359738368) : atq l (IntKind.i64.wrap ((i : Int) - 1)) = some (l.getD (i - 1) default) := by
  rw [wrap64_id (by omega) (by omega), show (i : Int) - 1 = ((i - 1 : Nat) : Int) by omega, atq_nat (by omega)]
  simp [List.getD, List.getElem?_eq_getElem (show i - 1 < l.length by omega)]
def noticeBad (l : List D.Notice) (i : Nat) (n : D.Notice) : Bool := !inR n.Kind 1 5 || (!inR n.Account 0 1000000 || (!inR n.Time 0 1000000 || (decide (0 < i) && decide ((l.getD (i - 1) default).Time > n.Time))))
def mailOkF (m : D.Mailbox) : Bool := decide (m.Notices.length ≤ 30) && !anyI (noticeBad m.Notices) 0 m.Notices
def challengeBad (b : D.ChallengeBook) (i : Nat) (n : D.Challenge) : Bool := !inR n.Id 0 (IntKind.i64.wrap (b.Next - 1)) || ((decide (0 < i) && decide ((b.Open.getD (i - 1) default).Id ≥ n.Id)) || (!inR n.Account 0 1000005 || !inR n.Until 0 1000005))
def bookOkF (b : D.ChallengeBook) : Bool := inR b.Next 0 1000000 && decide (b.Open.length ≤ 16) && !anyI (challengeBad b) 0 b.Open
def credBad (a : D.Account) (i : Nat) (n : D.Credential) : Bool := (!inR n.Handle 0 1000000 || ((decide (0 < i) && decide ((a.Credentials.getD (i - 1) default).Handle ≥ n.Handle)) || (privF n.Public == 0 || !inR n.Counter 0 1000000))) || (a.Credentials.take i).any fun q => q.Public == n.Public
def accountOkF (a : D.Account) : Bool := inR a.Id 0 1000000 && inR a.Minimum 1 3 && decide (a.Credentials.length ≤ 8) && !anyI (credBad a) 0 a.Credentials
def entryHashF (e : D.LogEntry) : Int := hashI [229, e.Index, e.Kind, e.Device, e.By, e.Previous]
def logHeadF (l : List D.LogEntry) : Int := bif (l.length : Int) == 0 then 0 else entryHashF (l.getD (l.length - 1) default)
def stepOkF (l : List D.LogEntry) (e : D.LogEntry) : Bool :=
  e.Index == (l.length : Int) && (e.Previous == logHeadF l && ((hasF (devicesOfF l) e.By || ((l.length : Int) == 0 && e.By == e.Device)) && (verifyF e.By [entryHashF e] e.Signature &&
    (bif e.Kind == 2 then hasF (devicesOfF l) e.Device && decide (((devicesOfF l).length : Int) > 1) else !removedF l e.Device && (e.Kind == 1 && (!hasF (devicesOfF l) e.Device && decide (((devicesOfF l).length : Int) < 6)))))))
def logOkF (l : List D.LogEntry) : Bool := inR (l.length : Int) 1 40 && !anyI (fun i e => !stepOkF (l.take i) e) 0 l
theorem hasF_pos {l : List Int} {x : Int} (h : hasF l x = true) : 0 < l.length := by
  cases l with
  | nil => simp [hasF] at h
  | cons a r => simp
def splitA : List UInt8 → List UInt8 → List (List UInt8)
  | cur, [] => [cur]
  | cur, b :: r => bif b == 46 then cur :: splitA [] r else splitA (cur ++ [b]) r
theorem occ46 (s : List UInt8) (i : Nat) : Lib.occAt s [46] i = decide (s[i]? = some 46) := by
  unfold Lib.occAt
  cases h : s.drop i with
  | nil =>
    have : s.length ≤ i := List.drop_eq_nil_iff.1 h
    simp [List.getElem?_eq_none this, List.isPrefixOf]
  | cons b r =>
    have e : s[i]? = some b := by
      have := List.getElem?_drop (xs := s) (i := i) (j := 0)
      rw [h] at this; simpa using this.symm
    rw [e]; simp only [List.isPrefixOf, Bool.and_true, Option.some.injEq]
    rw [Bool.eq_iff_iff]; simp only [beq_iff_eq, decide_eq_true_eq]; exact eq_comm
theorem splitA_app : ∀ (a cur r : List UInt8), (∀ b ∈ a, b ≠ 46) → splitA cur (a ++ 46 :: r) = (cur ++ a) :: splitA [] r
  | [], cur, r, _ => by simp [splitA]
  | b :: a, cur, r, h => by
    have hb : (b == 46) = false := by simpa using h b (by simp)
    rw [List.cons_append, splitA, hb, cond_false, splitA_app a _ r (fun x hx => h x (List.mem_cons_of_mem _ hx))]; simp
theorem splitA_none : ∀ (a cur : List UInt8), (∀ b ∈ a, b ≠ 46) → splitA cur a = [cur ++ a]
  | [], cur, _ => by simp [splitA]
  | b :: a, cur, h => by
    have hb : (b == 46) = false := by simpa using h b (by simp)
    rw [splitA, hb, cond_false, splitA_none a _ (fun x hx => h x (List.mem_cons_of_mem _ hx))]; simp
theorem splitK_A : ∀ (n : Nat) (s : List UInt8), s.length < n → Lib.splitK [46] 0 (Lib.count s [46]) s = splitA [] s
  | 0, s, h => absurd h (Nat.not_lt_zero _)
  | n + 1, s, h => by
    rcases Lib.index_spec s [46] with ⟨h1, h2⟩ | ⟨i, h1, h2, h3, h4⟩
    · rw [Lib.count_miss h1, splitA_none s [] (fun b hb e => by
        obtain ⟨j, hj, ej⟩ := List.getElem_of_mem hb
        have := h2 j (by omega)
        rw [occ46, List.getElem?_eq_getElem hj, ej, e] at this; simp at this)]; rfl
    · rw [occ46] at h3
      have h3 : s[i]? = some 46 := by simpa using h3
      have hi : i < s.length := by
        rcases Nat.lt_or_ge i s.length with hlt | hge
        · exact hlt
        · rw [List.getElem?_eq_none hge] at h3; cases h3
      rw [Lib.count_hit (by simp) h1, Nat.add_comm, Lib.splitK, h1]
      have hne : ((i : Int) == -1) = false := by simp
      rw [hne]
      simp only [Int.toNat_natCast, Nat.add_zero, List.length_cons, List.length_nil, Nat.zero_add]
      rw [if_neg (by simp), splitK_A n (s.drop (i + 1)) (by rw [List.length_drop]; omega)]
      have es : s = s.take i ++ 46 :: s.drop (i + 1) := by
        have e2 : s[i] = 46 := by rw [List.getElem?_eq_getElem hi] at h3; exact Option.some.inj h3
        rw [← e2, List.getElem_cons_drop hi, List.take_append_drop]
      conv => rhs; rw [es]
      rw [splitA_app (s.take i) [] _ (fun b hb e => by
        obtain ⟨j, hj, ej⟩ := List.getElem_of_mem hb
        rw [List.length_take] at hj
        have := h4 j (by omega)
        rw [occ46, List.getElem?_eq_getElem (by omega)] at this
        rw [List.getElem_take] at ej
        rw [ej, e] at this; simp at this)]; simp
def labelsF (s : ByteArray) : List ByteArray := (splitA [] s.data.toList).map fun l => ⟨l.toArray⟩
theorem splitF_dot (s : ByteArray) : splitF s ⟨#[46]⟩ = labelsF s := by
  have h1 : (splitF s ⟨#[46]⟩).map (·.data.toList) = splitA [] s.data.toList := by
    rw [splitF, Lib.splitB_data]; exact splitK_A _ _ (Nat.lt_succ_self _)
  unfold labelsF
  rw [← h1, List.map_map]
  conv => lhs; rw [← List.map_id (splitF s ⟨#[46]⟩)]
  congr 1
def charOkF (b : Int) : Bool := inR b 97 122 || inR b 48 57 || b == 45
def labelOkF (s : ByteArray) : Bool := decide (1 ≤ s.size) && decide (s.size ≤ 20) && !((bytesI s).getD 0 0 == 45) && !((bytesI s).getD (s.size - 1) 0 == 45) && !((bytesI s).any fun b => !charOkF b)
def isHostF (s : ByteArray) : Bool := decide (s.size ≤ 60) && !((labelsF s).any fun l => !labelOkF l)
theorem bytesI_len (s : ByteArray) : (bytesI s).length = s.size := by simp only [bytesI, List.length_map]; rfl
theorem atqB {s : ByteArray} {i : Nat} (h : i < s.size) : atq (bytesI s) (i : Int) = some ((bytesI s)[i]'(by rw [bytesI_len]; exact h)) := atq_nat _
theorem ext_list (s : ByteArray) (a b : Nat) : s.extract a b = ⟨((s.data.toList.drop a).take (b - a)).toArray⟩ := by
  apply ByteArray.ext
  apply Array.toList_inj.1
  rw [Lib.extract_data]
theorem splitA_len : ∀ (s cur : List UInt8), (splitA cur s).length ≤ s.length + 1
  | [], _ => by simp [splitA]
  | b :: r, cur => by
    rw [splitA]
    cases b == 46 with
    | true => have := splitA_len r []; simp; omega
    | false => have := splitA_len r (cur ++ [b]); simp at this ⊢; omega
theorem splitA_size : ∀ (s cur : List UInt8) (l : List UInt8), l ∈ splitA cur s → l.length ≤ cur.length + s.length
  | [], cur, l, h => by simp [splitA] at h; subst h; simp
  | b :: r, cur, l, h => by
    rw [splitA] at h
    cases hb : b == 46 with
    | true =>
      rw [hb, cond_true] at h
      rcases List.mem_cons.1 h with rfl | h
      · omega
      · have := splitA_size r [] l h; simp at this ⊢; omega
    | false => rw [hb, cond_false] at h; have := splitA_size r _ l h; simp at this ⊢; omega
theorem labelsF_len (s : ByteArray) : (labelsF s).length ≤ s.size + 1 := by
  unfold labelsF; rw [List.length_map]; exact splitA_len _ _
theorem labelsF_size (s l : ByteArray) (h : l ∈ labelsF s) : l.size ≤ s.size := by
  unfold labelsF at h
  obtain ⟨q, hq, rfl⟩ := List.mem_map.1 h
  have := splitA_size _ _ q hq
  have h2 : (⟨q.toArray⟩ : ByteArray).size = q.length := rfl
  have h3 : s.data.toList.length = s.size := rfl
  have h4 : ([] : List UInt8).length = 0 := rfl
  omega
theorem toL0 (z : ByteArray) : (z.toList == (⟨#[]⟩ : ByteArray).toList) = decide (z.size = 0) := by
  rw [ByteArray.toList_eq, ByteArray.toList_eq, Bool.eq_iff_iff]
  simp only [beq_iff_eq, decide_eq_true_eq]
  constructor
  · intro h
    show z.data.size = 0
    rw [← Array.length_toList, h]; rfl
  · intro h
    exact List.eq_nil_of_length_eq_zero h
theorem splitA_count : ∀ (s cur : List UInt8), (splitA cur s).length = s.countP (· == 46) + 1
  | [], _ => rfl
  | b :: r, cur => by
    rw [splitA, List.countP_cons]
    cases b == 46 with
    | true => rw [cond_true, List.length_cons, splitA_count r []]; simp
    | false => rw [cond_false, splitA_count r _]; simp
theorem labelsF_pos (s : ByteArray) : 0 < (labelsF s).length := by
  unfold labelsF; rw [List.length_map, splitA_count]; omega
def hasDotF (s : ByteArray) : Bool := (bytesI s).any fun b => b == 46
theorem hasDot_labels (s : ByteArray) : hasDotF s = decide (2 ≤ (labelsF s).length) := by
  unfold hasDotF labelsF bytesI
  rw [List.length_map, splitA_count, List.any_map]
  have e : (fun b : Int => b == 46) ∘ (fun b : UInt8 => (b.toNat : Int)) = fun b : UInt8 => b == 46 := by
    funext b
    rw [Bool.eq_iff_iff]
    simp only [Function.comp, beq_iff_eq]
    constructor
    · intro q; apply UInt8.toNat_inj.1; show _ = 46; omega
    · intro q; rw [q]; rfl
  rw [e, Bool.eq_iff_iff, List.any_eq_true, decide_eq_true_eq]
  have := List.countP_pos_iff (p := fun b : UInt8 => b == 46) (l := s.data.toList)
  constructor
  · intro h; have := this.2 h; omega
  · intro h; exact this.1 (by omega)
def regF (s : ByteArray) : ByteArray := bif isHostF s then (bif (labelsF s).length == 1 then s else joinB ⟨#[46]⟩ ((labelsF s).drop ((labelsF s).length - 2))) else ⟨#[]⟩
theorem join2 {l : List ByteArray} (h : 2 ≤ l.length) : ∃ a ∈ l, ∃ b ∈ l, joinB ⟨#[46]⟩ (l.drop (l.length - 2)) = a ++ ⟨#[46]⟩ ++ b := by
  have hl : (l.drop (l.length - 2)).length = 2 := by rw [List.length_drop]; omega
  match hm : l.drop (l.length - 2), hl with
  | [a, b], _ =>
    refine ⟨a, List.mem_of_mem_drop (i := l.length - 2) (by rw [hm]; simp), b, List.mem_of_mem_drop (i := l.length - 2) (by rw [hm]; simp), ?_⟩
    rw [show [a, b] = [a] ++ [b] from rfl, joinB_s _ _ _ (by simp), joinB_1]
theorem isHost_size {s : ByteArray} (h : isHostF s = true) : s.size ≤ 60 ∧ 0 < s.size := by
  unfold isHostF at h
  rw [Bool.and_eq_true, decide_eq_true_eq] at h
  refine ⟨h.1, Nat.pos_of_ne_zero fun e => ?_⟩
  have e2 : s.data.toList = [] := List.eq_nil_of_length_eq_zero e
  have e3 : labelsF s = [⟨#[]⟩] := by unfold labelsF; rw [e2]; rfl
  rw [e3] at h
  exact absurd h.2 (by decide)
theorem regF_ne {s : ByteArray} (h : isHostF s = true) : decide ((regF s).size = 0) = false := by
  have hs := isHost_size h
  have hp := labelsF_pos s
  unfold regF
  rw [h, cond_true]
  refine decide_eq_false ?_
  cases h1 : (labelsF s).length == 1 with
  | true => rw [cond_true]; omega
  | false =>
    rw [cond_false]
    have : (labelsF s).length ≠ 1 := by simpa using h1
    obtain ⟨a, _, b, _, e⟩ := join2 (l := labelsF s) (by omega)
    rw [e, ByteArray.size_append, ByteArray.size_append]
    have : (⟨#[46]⟩ : ByteArray).size = 1 := rfl
    omega
def nameOkF (s : ByteArray) (seed : Int) : Bool := isHostF s && decide (2 ≤ (labelsF s).length) && keyF seed
def accBad (l : List D.Account) (i : Nat) (n : D.Account) : Bool := !accountOkF n || (decide (0 < i) && decide ((l.getD (i - 1) default).Id ≥ n.Id))
def siteOkF (s : D.Site) : Bool := nameOkF s.Name s.Book.Seed && decide (s.Accounts.length ≤ 8) && bookOkF s.Book && !anyI (accBad s.Accounts) 0 s.Accounts
def SOk (s : D.Site) : Prop := s.Name.size ≤ 34359738368 ∧ s.Accounts.length ≤ 34359738368 ∧ s.Book.Open.length ≤ 34359738368 ∧ ∀ a ∈ s.Accounts, a.Credentials.length ≤ 34359738368
instance (s : D.Site) : Decidable (SOk s) := inferInstanceAs (Decidable (_ ∧ _))
def newSiteF (name : ByteArray) (seed : Int) : D.Site := bif nameOkF name seed then ⟨name, [], ⟨seed, 0, []⟩, []⟩ else ⟨⟨#[]⟩, [], ⟨0, 0, []⟩, []⟩
theorem newSite_ne (name : ByteArray) (seed : Int) : decide ((newSiteF name seed).Name.size = 0) = !nameOkF name seed := by
  unfold newSiteF
  cases h : nameOkF name seed with
  | false => rfl
  | true =>
    have : isHostF name = true := by unfold nameOkF at h; rw [Bool.and_eq_true, Bool.and_eq_true] at h; exact h.1.1
    have := isHost_size this
    exact decide_eq_false (by show ¬ name.size = 0; omega)
def siteNameF (i : Int) : ByteArray := bif i == 0 then ⟨#[98, 97, 110, 107, 46, 99, 111, 109]⟩ else bif i == 1 then ⟨#[115, 104, 111, 112, 46, 111, 114, 103]⟩ else ⟨#[]⟩
def siteBadW (i : Nat) (s : D.Site) : Bool := !siteOkF s || !(s.Name.toList == (siteNameF (i : Int)).toList)
def worldOkF (w : D.World) : Bool := inR w.Now 0 999900 && inR (w.Devices.length : Int) 1 6 && (w.Stolen.length : Int) == (w.Devices.length : Int) && (w.Sites.length : Int) == 2 && mailOkF w.Mail && logOkF w.Cloud.Log && keyF w.Seed && !anyI siteBadW 0 w.Sites
def WOk2 (w : D.World) : Prop := WOk w ∧ w.Mail.Notices.length ≤ 34359738368 ∧ w.Hosts.length ≤ 34359738368 ∧ ∀ s ∈ w.Sites, SOk s
instance (w : D.World) : Decidable (WOk2 w) := inferInstanceAs (Decidable (_ ∧ _))
theorem le_sum {α : Type} {g : α → Nat} {x : α} : ∀ {l : List α}, x ∈ l → g x ≤ (l.map g).sum
  | y :: r, h => by
    rw [List.map_cons, List.sum_cons]
    rcases List.mem_cons.1 h with rfl | h
    · omega
    · have := le_sum (g := g) h; omega
theorem SOk.of {s : D.Site} (h : s.sz ≤ 1048576) : SOk s := by
  simp only [D.Site.sz] at h
  refine ⟨by omega, by omega, by omega, fun a ha => ?_⟩
  have := le_sum (g := D.Account.sz) ha
  simp only [D.Account.sz] at this h
  omega
theorem WOk2.of {w : D.World} (h : w.sz ≤ 1048576) : WOk2 w := by
  refine ⟨WOk.of h, ?_, ?_, fun s hs => SOk.of ?_⟩
  · simp only [D.World.sz] at h; omega
  · simp only [D.World.sz] at h; omega
  · have := le_sum (g := D.Site.sz) hs
    simp only [D.World.sz] at h; omega
abbrev joinP (a : List Int) (r : List (List Int)) : Prop := a.length + r.flatten.length ≤ 68719476736 ∧ r.length ≤ 1099511627776
def kless (a b : D.Entry) : Bool := decide (a.Site < b.Site) || (a.Site == b.Site && decide (a.Handle < b.Handle))
def lessF (a : D.Entry) (s h : Int) : Bool := decide (a.Site < s) || (a.Site == s && decide (a.Handle < h))
def badE (l : List D.Entry) (i : Nat) (e : D.Entry) : Bool := !inR e.Site 0 2147483646 || (!inR e.Handle 0 1000000 || (!inR e.Version 1 1000000 || (decide ((i : Int) > 0) && !kless (l.getD (i - 1) default) e)))
def bundleOkF (b : D.Bundle) : Bool := decide ((b.Entries.length : Int) ≤ 20) && !anyI (badE b.Entries) 0 b.Entries
def setF (b : D.Bundle) (x : D.Entry) : D.Bundle := bif decide (findEntryF b x.Site x.Handle ≥ 0) then ⟨b.Entries.set (findEntryF b x.Site x.Handle).toNat x⟩ else ⟨b.Entries.takeWhile (fun e => lessF e x.Site x.Handle) ++ [x] ++ b.Entries.dropWhile (fun e => lessF e x.Site x.Handle)⟩
theorem kless_key {a b c : D.Entry} (h : a.Site = b.Site ∧ a.Handle = b.Handle) : kless a c = kless b c := by
  unfold kless; rw [h.1, h.2]
theorem kless_key' {a b c : D.Entry} (h : a.Site = b.Site ∧ a.Handle = b.Handle) : kless c a = kless c b := by
  unfold kless; rw [h.1, h.2]
theorem findP_yes {α : Type} {p : α → Bool} : ∀ {l : List α} {i : Nat}, 0 ≤ findP p i l → ∃ l1 e l2, l = l1 ++ e :: l2 ∧ p e = true ∧ findP p i l = ((i + l1.length : Nat) : Int)
  | [], i, h => by simp [findP] at h
  | x :: l, i, h => by
    simp only [findP] at h ⊢
    cases hp : p x with
    | true => exact ⟨[], x, l, rfl, hp, by simp⟩
    | false =>
      rw [hp, cond_false] at h
      obtain ⟨l1, e, l2, h1, h2, h3⟩ := findP_yes h
      exact ⟨x :: l1, e, l2, by rw [h1]; rfl, h2, by rw [cond_false, h3]; simp only [List.length_cons]; omega⟩
theorem gd_ap1 {α β : Type} {s : List α} (hs : s.length ≤ 34359738368) (x : α) (k : Option β) : gd (apOk s [x]) k = k := gd_t (by unfold apOk; simp only [List.length_singleton]; omega)
theorem gd_ap0 {α β : Type} {s : List α} (hs : s.length ≤ 34359738368) (k : Option β) : gd (apOk [] s) k = k := gd_t (by unfold apOk; simp only [List.length_nil]; omega)
theorem foldl_id {α : Type} {l s : List α} : l.foldl (fun s x => s ++ [x]) s = s ++ l := by
  have := foldl_app (f := fun x : α => [x]) (l := l) (s := s)
  rw [this]; congr 1
  induction l with
  | nil => rfl
  | cons x l ih => simp [ih]
theorem copyL {α : Type} {l : List α} {F : (Nat × List α → Option (List α)) → Nat × List α → Option (List α)} (hl : l.length ≤ 34359738368)
    (hF : ∀ rec i s (hi : i < l.length), s.length ≤ 34359738368 → F rec (i, s) = rec (i + 1, s ++ [l[i]])) (hE : ∀ rec s, F rec (l.length, s) = some s) : EV.itr FUEL F (0, []) = some l := by
  rw [foldLoopL (l := l) (fun s x => s ++ [x]) (fun i s => s.length = i) (fun s => some s) (by omega) rfl (fun i s hi hv => by simp; omega) (fun rec i s hi hv => hF rec i s hi (by omega)) (fun rec s _ => hE rec s), foldl_id, List.nil_append]
theorem copyR {α : Type} {l : List α} {F : (List α × Nat → Option (List α)) → List α × Nat → Option (List α)} (hl : l.length ≤ 34359738368)
    (hF : ∀ rec i s (hi : i < l.length), s.length ≤ 34359738368 → F rec (s, i) = rec (s ++ [l[i]], i + 1)) (hE : ∀ rec s, F rec (s, l.length) = some s) : EV.itr FUEL F ([], 0) = some l := by
  rw [foldLoopR (l := l) (fun s x => s ++ [x]) (fun i s => s.length = i) (fun s => some s) (by omega) rfl (fun i s hi hv => by simp; omega) (fun rec i s hi hv => hF rec i s hi (by omega)) (fun rec s _ => hE rec s), foldl_id, List.nil_append]
abbrev szL {α : Type} (f : α → Nat) (l : List α) : Nat := l.length + (l.map f).sum
theorem itr_s {S τ : Type} {F : (S → Option τ) → S → Option τ} {n : Nat} {s : S} : EV.itr (n + 1) F s = F (EV.itr n F) s := rfl
theorem bb_some {α : Type} {c : Bool} {x y : α} : (bif c then some x else some y) = some (bif c then x else y) := by cases c <;> rfl
theorem sum_set {α : Type} {f : α → Nat} : ∀ {l : List α} {i : Nat} {x : α}, ((l.set i x).map f).sum ≤ (l.map f).sum + f x
  | [], i, x => by simp
  | y :: l, 0, x => by simp only [List.set_cons_zero, List.map_cons, List.sum_cons]; omega
  | y :: l, i + 1, x => by
    have := sum_set (f := f) (l := l) (i := i) (x := x)
    simp only [List.set_cons_succ, List.map_cons, List.sum_cons]; omega
theorem getD_sz {α : Type} [Inhabited α] {f : α → Nat} {l : List α} {i : Nat} (h : i < l.length) : f (l.getD i default) ≤ (l.map f).sum := by
  rw [List.getD, List.getElem?_eq_getElem h]; exact le_sumI h
theorem gd_eqz {α : Type} {n : Nat} {x : α} {β : Type} {k : Option β} (h : n ≤ 68719476736) : gd (EqZ n x x) k = k := gd_t ⟨rfl, by omega⟩
theorem not_self {α : Type} [BEq α] [ReflBEq α] {r : α} : (!r == r) = false := by rw [beq_self_eq_true]; rfl
def cS (l : List D.Share) (i : Nat) (k : Int) : Bool := (l.take i).any fun q => q.Index == k
theorem bb_and {c d : Bool} : (bif c then some d else some false) = some (c && d) := by cases c <;> rfl
def putV (b : D.Bundle) (s h : Int) : Int := bif decide (findEntryF b s h ≥ 0) then IntKind.i64.wrap ((b.Entries.getD (findEntryF b s h).toNat default).Version + 1) else 1
def putE (b : D.Bundle) (s h : Int) : D.Entry := ⟨s, h, putV b s h, false⟩
def putF (b : D.Bundle) (s h : Int) : D.Bundle × Bool := bif !(decide (findEntryF b s h ≥ 0) && !(b.Entries.getD (findEntryF b s h).toNat default).Deleted) && (bundleOkF b && bundleOkF (setF b (putE b s h))) then (setF b (putE b s h), true) else (b, false)
def delE (b : D.Bundle) (s h : Int) : D.Entry := ⟨s, h, IntKind.i64.wrap ((b.Entries.getD (findEntryF b s h).toNat default).Version + 1), true⟩
def delF (b : D.Bundle) (s h : Int) : D.Bundle × Bool := bif !bundleOkF b || (decide (findEntryF b s h < 0) || ((b.Entries.getD (findEntryF b s h).toNat default).Deleted || (b.Entries.getD (findEntryF b s h).toNat default).Version == 1000000)) then (b, false) else (setF b (delE b s h), true)
def changeB (d : D.Device) (n : ByteArray) (h : Int) (rm : Bool) : D.Bundle × Bool := bif rm then delF d.Bundle (siteHashF n) h else putF d.Bundle (siteHashF n) h
def changeF (d : D.Device) (n : ByteArray) (h : Int) (rm : Bool) : D.Device × Bool := bif (changeB d n h rm).2 then ({ d with Bundle := (changeB d n h rm).1 }, true) else (d, false)
def editF (w : D.World) (d : Int) (n : ByteArray) (h : Int) (rm : Bool) : D.World × Bool := bif worldOkF w && hasDevF w d then (bif (changeF (devAt w d) n h rm).2 then ({ w with Devices := w.Devices.set d.toNat (changeF (devAt w d) n h rm).1 }, true) else (w, false)) else (w, false)
theorem b2i_len (b : List Int) : (b2iF b).length = b.length + 1 := by simp [b2iF, Nat.add_comm]
theorem map_idI (l : List Int) : List.map (fun (n : Int) => n) l = l := List.map_id l
theorem setF_len (b : D.Bundle) (x : D.Entry) : (setF b x).Entries.length ≤ b.Entries.length + 1 := by
  unfold setF
  cases decide (findEntryF b x.Site x.Handle ≥ 0) with
  | true => simp
  | false =>
    have := congrArg List.length (List.takeWhile_append_dropWhile (p := fun e => lessF e x.Site x.Handle) (l := b.Entries))
    simp only [List.length_append] at this
    simp only [cond_false, List.length_append, List.length_singleton]; omega
theorem put_len (b : D.Bundle) (s h : Int) : (putF b s h).1.Entries.length ≤ b.Entries.length + 1 := by
  unfold putF
  have := setF_len b (putE b s h)
  cases (!(decide (findEntryF b s h ≥ 0) && !(b.Entries.getD (findEntryF b s h).toNat default).Deleted) && (bundleOkF b && bundleOkF (setF b (putE b s h)))) with
  | true => exact this
  | false => simp
theorem del_len (b : D.Bundle) (s h : Int) : (delF b s h).1.Entries.length ≤ b.Entries.length + 1 := by
  unfold delF
  have := setF_len b (delE b s h)
  cases (!bundleOkF b || (decide (findEntryF b s h < 0) || ((b.Entries.getD (findEntryF b s h).toNat default).Deleted || (b.Entries.getD (findEntryF b s h).toNat default).Version == 1000000))) with
  | true => simp
  | false => exact this
theorem change_sz (d : D.Device) (n : ByteArray) (h : Int) (rm : Bool) : (changeF d n h rm).1.sz ≤ d.sz + 1 := by
  unfold changeF
  have : (changeB d n h rm).1.Entries.length ≤ d.Bundle.Entries.length + 1 := by
    unfold changeB; cases rm with
    | true => exact del_len _ _ _
    | false => exact put_len _ _ _
  cases (changeB d n h rm).2 with
  | true => simp only [cond_true, D.Device.sz]; omega
  | false => simp
theorem edit_sz (w : D.World) (d : Int) (n : ByteArray) (h : Int) (rm : Bool) : (editF w d n h rm).1.sz ≤ 2 * w.sz + 1 := by
  unfold editF
  cases hc : (worldOkF w && hasDevF w d) with
  | false => simp only [cond_false]; omega
  | true =>
    have hd := (Bool.and_eq_true_iff.1 hc).2
    simp only [hasDevF, Bool.and_eq_true, decide_eq_true_eq] at hd
    cases (changeF (devAt w d) n h rm).2 with
    | false => simp only [cond_true, cond_false]; omega
    | true =>
      have h1 := sum_set (f := D.Device.sz) (l := w.Devices) (i := d.toNat) (x := (changeF (devAt w d) n h rm).1)
      have h2 := change_sz (devAt w d) n h rm
      have h3 : (devAt w d).sz ≤ (w.Devices.map D.Device.sz).sum := getD_sz (f := D.Device.sz) (by omega)
      simp only [cond_true, D.World.sz, List.length_set]; omega
end Go.VK
