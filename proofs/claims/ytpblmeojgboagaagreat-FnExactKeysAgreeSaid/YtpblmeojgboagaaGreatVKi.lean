/-
  THE VALUE KIT, ninth part: decimal numerals as Go's strconv and the reference write them; joined strings. Plain theorems.
-/
import Derived.Test.YtpblmeojgboagaaGreatVKh
import Derived.Lib.ItoaLen
import Derived.Sort.Grow
set_option linter.unusedVariables false
set_option linter.unusedSimpArgs false
namespace Go.VK
open Go.RowKit

def fmtInt (n : Int) : ByteArray := ⟨(Lib.itoa (IntKind.i64.wrap n)).toArray⟩
theorem wrap64_id {n : Int} (h0 : -9223372036854775808 ≤ n) (h1 : n ≤ 9223372036854775807) : IntKind.i64.wrap n = n := by rw [IntKind.wrap_i64]; omega
theorem fmtInt_eq {n : Int} (h0 : -9223372036854775808 ≤ n) (h1 : n ≤ 9223372036854775807) : fmtInt n = ⟨(Lib.itoa n).toArray⟩ := by rw [fmtInt, wrap64_id h0 h1]
theorem fmtInt_sz (n : Int) : (fmtInt n).size ≤ 21 := by
  have h := wrap_range .i64 n
  have h1 := Lib.itoa_length_le (IntKind.i64.wrap n) h.1 h.2
  simpa [fmtInt, ByteArray.size] using h1
theorem fmtInt_sz1 (n : Int) : (fmtInt n).size ≤ 9223372036854775807 := Nat.le_trans (fmtInt_sz n) (by decide)
theorem ext_grow (w : World) (q : Nat) (os : Array Obj) : Ext w (Sort.grow (w.drewN q) os) :=
  ⟨rfl, rfl, rfl, by simp [Sort.grow], fun i hi => by
    show ((w.drewN q).heap ++ os)[i]? = _
    rw [Array.getElem?_append_left (by show i < w.heap.size; omega)]
    rfl⟩
/-- The digits of a number's absolute value; none of 0. -/
def absd (x : Int) : List UInt8 := if x = 0 then [] else Lib.decDigits x.natAbs
theorem absd_0 : absd 0 = [] := rfl
theorem tdiv10 (x : Int) : (x.tdiv 10).natAbs = x.natAbs / 10 := by rw [Int.natAbs_tdiv]; rfl
theorem absd_step {x : Int} (h : x ≠ 0) : absd x = absd (x.tdiv 10) ++ [UInt8.ofNat (48 + x.natAbs % 10)] := by
  unfold absd
  rw [if_neg h, Lib.decDigits]
  by_cases h1 : x.natAbs < 10
  · rw [dif_pos h1, if_pos (by have := tdiv10 x; omega), Nat.mod_eq_of_lt h1]; rfl
  · rw [dif_neg h1, if_neg (by have := tdiv10 x; omega), tdiv10]
theorem absd_len {x : Int} (h0 : -9223372036854775808 ≤ x) (h1 : x ≤ 9223372036854775807) : (absd x).length ≤ 20 := by
  unfold absd
  split
  · simp
  · rw [Lib.decDigits_length]; exact Lib.nDigits_le20 _ (by omega)
theorem digit_byte {x d : Int} (h : d = ((x.natAbs % 10 : Nat) : Int)) : UInt8.ofNat (IntKind.u8.wrap (IntKind.i64.wrap (48 + d))).toNat = UInt8.ofNat (48 + x.natAbs % 10) := by
  have h1 : IntKind.i64.wrap (48 + d) = 48 + d := wrap64_id (by omega) (by omega)
  have h2 : IntKind.u8.wrap (48 + d) = 48 + d := by
    rw [IntKind.wrap_u8]; omega
  rw [h1, h2]; congr 1; omega
theorem tmod_abs (x : Int) : x.tmod 10 = ((x.natAbs % 10 : Nat) : Int) ∨ x.tmod 10 = -((x.natAbs % 10 : Nat) : Int) := by
  rcases Int.eq_nat_or_neg x with ⟨k, rfl | rfl⟩
  · left; rw [Int.natAbs_natCast]; exact (Int.ofNat_tmod k 10).symm
  · right; rw [Int.natAbs_neg, Int.natAbs_natCast, Int.neg_tmod]; exact congrArg _ (Int.ofNat_tmod k 10).symm
theorem fmtInt_0 : fmtInt 0 = ⟨#[48]⟩ := by
  rw [fmtInt_eq (by decide) (by decide), Lib.itoa, if_neg (by decide), Lib.decDigits_one (by decide)]; rfl
theorem fmtInt_pos {n : Int} {s : ByteArray} (h0 : 0 < n) (h1 : n ≤ 9223372036854775807) (h : absd 0 ++ s.data.toList = absd n) : s = fmtInt n := by
  rw [fmtInt_eq (by omega) h1]
  rw [absd_0, List.nil_append, absd, if_neg (by omega)] at h
  unfold Lib.itoa
  rw [if_neg (by omega), show n.toNat = n.natAbs by omega, ← h]
theorem fmtInt_neg {n : Int} {s : ByteArray} (h0 : n < 0) (h1 : -9223372036854775808 ≤ n) (h : absd 0 ++ s.data.toList = absd n) : (⟨#[45]⟩ : ByteArray) ++ s = fmtInt n := by
  rw [fmtInt_eq h1 (by omega)]
  rw [absd_0, List.nil_append, absd, if_neg (by omega)] at h
  unfold Lib.itoa
  rw [if_pos (by omega), ← h]
  apply ByteArray.ext
  simp [ByteArray.data_append]
theorem absd_put {x m : Int} {s : ByteArray} {n : Int} (h : absd x ++ s.data.toList = absd n) (hx : x ≠ 0) (hm : UInt8.ofNat m.toNat = UInt8.ofNat (48 + x.natAbs % 10)) :
    absd (x.tdiv 10) ++ ([m].foldl (fun r n => r.push (UInt8.ofNat n.toNat)) ByteArray.empty ++ s).data.toList = absd n := by
  rw [← h, absd_step hx, ← hm]
  simp [ByteArray.data_append, ByteArray.data_push]
theorem absd_sz {x : Int} {s : ByteArray} {n : Int} (h : absd x ++ s.data.toList = absd n) (h0 : -9223372036854775808 ≤ n) (h1 : n ≤ 9223372036854775807) : s.size ≤ 20 := by
  have h2 := absd_len h0 h1
  rw [← h, List.length_append] at h2
  have : s.size = s.data.toList.length := (Array.length_toList).symm
  omega
theorem push_sz (m : Int) : ([m].foldl (fun r n => r.push (UInt8.ofNat n.toNat)) ByteArray.empty).size = 1 := rfl
/-- a ≤ n ≤ b. -/
def inR (n a b : Int) : Bool := decide (a ≤ n) && decide (n ≤ b)
theorem inR_t {n a b : Int} (h : inR n a b = true) : a ≤ n ∧ n ≤ b := by simpa [inR] using h
theorem inR_f {n a b : Int} (h : inR n a b = false) : ¬ (a ≤ n ∧ n ≤ b) := by intro hh; simp [inR, hh] at h
end Go.VK
