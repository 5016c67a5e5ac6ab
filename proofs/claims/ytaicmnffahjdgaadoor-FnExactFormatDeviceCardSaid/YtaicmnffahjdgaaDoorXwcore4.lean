/-
  Printed by wip/tools (own work of this part): walks over the value kit
-/
import Derived.Test.YtaicmnffahjdgaaDoorXd4
import Derived.Test.YtaicmnffahjdgaaDoorTrydShelf
set_option linter.unusedVariables false
set_option linter.unusedSimpArgs false
set_option maxRecDepth 100000
set_option maxHeartbeats 4000000
namespace Go.VK
open Go.RowKit Go.Proofs
theorem sp_strings_Join (l : List ByteArray) (sep : ByteArray) (h0 : l ≠ []) (hsz : (joinB sep l).size ≤ 140737488355328) (hln : l.length ≤ 140737488355328) : Spec Tryd.prog G0 57 [.slice 1 (l.map sV), .str sep] (fun r => r = .str (joinB sep l)) :=
  spec_join (fun args w => by kernel_rfl) Tryd.strings_Join l sep h0 hsz hln
theorem sp_strconv_Itoa (n : Int) : Spec Tryd.prog G0 80 [.int .i64 n] (fun r => r = .str (fmtInt n)) := by
  refine ⟨fun args w => by kernel_rfl, fun w X0 vs hG hX0 hvs => ?_⟩
  obtain ⟨v, rfl⟩ : ∃ v, vs = [v] := by
    match vs, hvs.1 with
    | [v], _ => exact ⟨v, rfl⟩
  obtain ⟨rfl, h0, h1⟩ := (hvs.2 0 v _ rfl rfl).int_inv
  refine (Tryd.strconv_Itoa n h0 h1 w hG).mono ?_
  rintro e w' ⟨rfl, k, os, rfl⟩
  refine ⟨_, _, rfl, rfl, ?_, ext_grow _ _ _⟩
  rw [← fmtInt_eq h0 h1]
  exact .str (by have := fmtInt_sz n; unfold maxLen; omega)

theorem sp_impl_FormatInt (n : Int) : Spec Tryd.prog G0 44 [.int .i64 n] (fun r => r = .str (fmtInt n)) := by
  refine enter (l := [.tmp 2]) Tryd.func44 rfl Tryd.ntmps44 rfl T.en44 fun E => ?_
  simp only [List.length_cons, List.length_nil, List.replicate_succ, List.replicate_zero, List.cons_append, List.nil_append, Nat.reduceAdd, Nat.reduceSub]
  refine sr <| m (as_ (.s rfl)) u2 <| e ?_
  refine sr <| m (mv (.t n0)) u3 <| c (call (sp_strconv_Itoa _) (.c (.t n3) rfl .n)) u4 <| m (as_ (.t n4)) u2 <| e ?_
  refine rt (ret1 (.t n2 (.p rfl) .n) ?_)
  rfl

theorem sp_spec_FormatInt (n : Int) : Spec Tryd.prog G0 41 [.int .i64 n] (fun r => r = .str (fmtInt n)) := by
  refine enter (l := [.tmp 2]) Tryd.func41 rfl Tryd.ntmps41 rfl T.en41 fun E => ?_
  simp only [List.length_cons, List.length_nil, List.replicate_succ, List.replicate_zero, List.cons_append, List.nil_append, Nat.reduceAdd, Nat.reduceSub]
  refine rng n0 fun hn0 hn1 => ?_
  refine sr <| m (as_ (.s rfl)) u2 <| e ?_
  refine sq ?_
  refine sr <| m (mv (.t n0)) u6 <| m (eql (.t n6) (.i rfl)) u7 <| e ?_
  refine cnd n7 (fun h1 => ?_) (fun h1 => ?_)
  ·
    replace h1 := eq_of_beq h1
    refine sr <| m (as_ (.s rfl)) u2 <| e ?_
    refine rt (ret1 (.t n2 (.p rfl) .n) ?_)
    show V.str _ = V.str _
    rw [h1, fmtInt_0]
  ·
    replace h1 := ne_of_beq_false h1
    refine skp ?_
    refine sr <| m (as_ (.s rfl)) u3 <| e ?_
    refine sq ?_
    refine sr <| m (mv (.t n0)) u8 <| m (as_ (.t n8)) u4 <| e ?_
    refine bk ?_
    refine lp (fun x0 : Int × ByteArray => ⟨[.int .i64 n, .any, .any, .str x0.2, .int .i64 x0.1, .any, .any, .any, .any, .any, .any, .any, .any, .any, .any, .any, .any, .any, .any, .any, .any, .any, .any, .any, .any, .any, .any, .any, .any, .any, .any], []⟩) (fun x0 : Int × ByteArray => -9223372036854775808 ≤ x0.1 ∧ x0.1 ≤ 9223372036854775807 ∧ absd x0.1 ++ x0.2.data.toList = absd n) (fun x0 : Int × ByteArray => x0.1.natAbs) ((n, ⟨#[]⟩)) ⟨hn0, hn1, by simp⟩ (le [] (by decide) (.c (.e rfl rfl) (.c .a (.c .a (.c (.e rfl rfl) (.c (.e rfl rfl) (.c .a (.c .a (.c .a (.c .a (.c .a (.c .a (.c .a (.c .a (.c .a (.c .a (.c .a (.c .a (.c .a (.c .a (.c .a (.c .a (.c .a (.c .a (.c .a (.c .a (.c .a (.c .a (.c .a (.c .a (.c .a (.c .a .n))))))))))))))))))))))))))))))) .n) ?_
    rintro ⟨x, s⟩ hJ
    try dsimp only at hJ ⊢
    refine sq ?_
    refine sr <| m (mv (.t n4)) u9 <| m (neq (.t n9) (.i rfl)) u10 <| e ?_
    refine cnd n10 (fun h2 => ?_) (fun h2 => ?_)
    ·
      replace h2 := bne_iff_ne.1 h2
      refine skp ?_
      refine sq ?_
      refine bk ?_
      refine sr <| m (mv (.t n4)) u13 <| m (rem (by decide) (.t n13) (.i rfl)) u14 <| m (as_ (.t n14)) u5 <| e ?_
      refine sq ?_
      refine sr <| m (mv (.t n5)) u15 <| m (lss (.t n15) (.i rfl)) u16 <| e ?_
      refine cnd n16 (fun h3 => ?_) (fun h3 => ?_)
      ·
        replace h3 := of_decide_eq_true h3
        refine rg <| m (mv (.t n5)) u17 <| m (neg_ (.t n17)) u18 <| m (as_ (.t n18)) u5 <| e ?_
        refine rg <| m (mv (.t n5)) u19 <| m (add (.i rfl) (.t n19)) u20 <| m (cnv T.is3 Tryd.underlying5 (.t n20)) u21 <| k (bs T.s146 rfl rfl (.c (.t n21) rfl rfl rfl .n) u22) <| m (b2s (ns := [_]) Tryd.underlying146 Tryd.underlying5 Tryd.underlying9 (by simp [maxLen]) (.t n22)) u23 <| m (mv (.t n3)) u24 <| m (sadd (by have h := absd_sz hJ.2.2 hn0 hn1; have h2 := push_sz; simp only [h2]; omega) (.t n23) (.t n24)) u25 <| m (as_ (.t n25)) u3 <| e ?_
        refine rg <| m (mv (.t n4)) u11 <| m (quo (by decide) (.t n11) (.i rfl)) u12 <| m (as_ (.t n12)) u4 <| e ?_
        have ht := tdiv10 x
        have hw : IntKind.i64.wrap (x.tdiv 10) = x.tdiv 10 := wrap64_id (by omega) (by omega)
        rw [hw]
        exact ⟨(x.tdiv 10, _), ⟨by omega, by omega, absd_put hJ.2.2 h2 (digit_byte (by first | (rw [wrap64_id (by have := tmod_abs x; omega) (by have := tmod_abs x; omega)]; have := tmod_abs x; omega) | (have := tmod_abs x; omega)))⟩, (by have := tdiv10 x; omega), le [] (by decide) (.c (.e rfl rfl) (.c .a (.c .a (.c (.e rfl rfl) (.c (.e rfl rfl) (.c .a (.c .a (.c .a (.c .a (.c .a (.c .a (.c .a (.c .a (.c .a (.c .a (.c .a (.c .a (.c .a (.c .a (.c .a (.c .a (.c .a (.c .a (.c .a (.c .a (.c .a (.c .a (.c .a (.c .a (.c .a (.c .a .n))))))))))))))))))))))))))))))) .n⟩
      ·
        replace h3 := of_decide_eq_false h3
        refine skp ?_
        refine rg <| m (mv (.t n5)) u19 <| m (add (.i rfl) (.t n19)) u20 <| m (cnv T.is3 Tryd.underlying5 (.t n20)) u21 <| k (bs T.s146 rfl rfl (.c (.t n21) rfl rfl rfl .n) u22) <| m (b2s (ns := [_]) Tryd.underlying146 Tryd.underlying5 Tryd.underlying9 (by simp [maxLen]) (.t n22)) u23 <| m (mv (.t n3)) u24 <| m (sadd (by have h := absd_sz hJ.2.2 hn0 hn1; have h2 := push_sz; simp only [h2]; omega) (.t n23) (.t n24)) u25 <| m (as_ (.t n25)) u3 <| e ?_
        refine rg <| m (mv (.t n4)) u11 <| m (quo (by decide) (.t n11) (.i rfl)) u12 <| m (as_ (.t n12)) u4 <| e ?_
        have ht := tdiv10 x
        have hw : IntKind.i64.wrap (x.tdiv 10) = x.tdiv 10 := wrap64_id (by omega) (by omega)
        rw [hw]
        exact ⟨(x.tdiv 10, _), ⟨by omega, by omega, absd_put hJ.2.2 h2 (digit_byte (by first | (rw [wrap64_id (by have := tmod_abs x; omega) (by have := tmod_abs x; omega)]; have := tmod_abs x; omega) | (have := tmod_abs x; omega)))⟩, (by have := tdiv10 x; omega), le [] (by decide) (.c (.e rfl rfl) (.c .a (.c .a (.c (.e rfl rfl) (.c (.e rfl rfl) (.c .a (.c .a (.c .a (.c .a (.c .a (.c .a (.c .a (.c .a (.c .a (.c .a (.c .a (.c .a (.c .a (.c .a (.c .a (.c .a (.c .a (.c .a (.c .a (.c .a (.c .a (.c .a (.c .a (.c .a (.c .a (.c .a .n))))))))))))))))))))))))))))))) .n⟩
    ·
      replace h2 := eq_of_bne h2
      refine ex (x1 ?_)
      refine sq ?_
      refine sr <| m (mv (.t n0)) u26 <| m (lss (.t n26) (.i rfl)) u27 <| e ?_
      refine cnd n27 (fun h4 => ?_) (fun h4 => ?_)
      ·
        replace h4 := of_decide_eq_true h4
        refine sr <| m (mv (.t n3)) u28 <| m (sadd (by have h := absd_sz hJ.2.2 hn0 hn1; have h2 : (⟨#[45]⟩ : ByteArray).size = 1 := rfl; omega) (.s rfl) (.t n28)) u29 <| m (as_ (.t n29)) u2 <| e ?_
        refine rt (ret1 (.t n2 (.p rfl) .n) ?_)
        show V.str _ = V.str _
        have hj := hJ.2.2
        rw [h2] at hj
        exact congrArg _ (fmtInt_neg (by omega) hn0 hj)
      ·
        replace h4 := of_decide_eq_false h4
        refine skp ?_
        refine sr <| m (mv (.t n3)) u30 <| m (as_ (.t n30)) u2 <| e ?_
        refine rt (ret1 (.t n2 (.p rfl) .n) ?_)
        show V.str _ = V.str _
        have hj := hJ.2.2
        rw [h2] at hj
        exact congrArg _ (fmtInt_pos (by omega) hn1 hj)

theorem sp_impl_InRange (n a b : Int) : Spec Tryd.prog G0 43 [.int .i64 n, .int .i64 a, .int .i64 b] (fun r => r = .bool (inR n a b)) := by
  refine enter (l := [.tmp 6]) Tryd.func43 rfl Tryd.ntmps43 rfl T.en43 fun E => ?_
  simp only [List.length_cons, List.length_nil, List.replicate_succ, List.replicate_zero, List.cons_append, List.nil_append, Nat.reduceAdd, Nat.reduceSub]
  refine sr <| m (as_ .b) u6 <| e ?_
  refine sr <| m (mv (.t n1)) u7 <| m (mv (.t n0)) u8 <| m (leq (.t n7) (.t n8)) u9 <| m (mv (.t n9)) u10 <| sp n10 u10 u10 (fun h1 => ?_) (fun h1 => ?_)
  ·
    replace h1 := of_decide_eq_true h1
    refine mg n3 rfl n10 (mv (.t n0)) u11 <| mg n3 rfl n10 (mv (.t n2)) u12 <| mg n3 rfl n10 (leq (.t n11) (.t n12)) u13 <| m (pkt (.t n10) (.t n13)) u14 <| m (as_ (.t n14)) u6 <| e ?_
    refine rt (ret1 (.t n6 (.p rfl) .n) ?_)
    simp [inR, h1]
  ·
    replace h1 := of_decide_eq_false h1
    refine sk n3 rfl n10 rfl u11 <| sk n3 rfl n10 rfl u12 <| sk n3 rfl n10 rfl u13 <| m (pkf (.t n10) .b) u14 <| m (as_ (.t n14)) u6 <| e ?_
    refine rt (ret1 (.t n6 (.p rfl) .n) ?_)
    simp [inR, h1]

theorem sp_spec_l1In (n a b : Int) : Spec Tryd.prog G0 40 [.int .i64 n, .int .i64 a, .int .i64 b] (fun r => r = .bool (inR n a b)) := by
  refine enter (l := [.tmp 6]) Tryd.func40 rfl Tryd.ntmps40 rfl T.en40 fun E => ?_
  simp only [List.length_cons, List.length_nil, List.replicate_succ, List.replicate_zero, List.cons_append, List.nil_append, Nat.reduceAdd, Nat.reduceSub]
  refine sr <| m (as_ .b) u6 <| e ?_
  refine sr <| m (mv (.t n0)) u7 <| m (mv (.t n1)) u8 <| m (geq (.t n7) (.t n8)) u9 <| m (mv (.t n9)) u10 <| sp n10 u10 u10 (fun h1 => ?_) (fun h1 => ?_)
  ·
    replace h1 := of_decide_eq_true h1
    refine mg n3 rfl n10 (mv (.t n0)) u11 <| mg n3 rfl n10 (mv (.t n2)) u12 <| mg n3 rfl n10 (leq (.t n11) (.t n12)) u13 <| m (pkt (.t n10) (.t n13)) u14 <| m (as_ (.t n14)) u6 <| e ?_
    refine rt (ret1 (.t n6 (.p rfl) .n) ?_)
    simp [inR, h1]
  ·
    replace h1 := of_decide_eq_false h1
    refine sk n3 rfl n10 rfl u11 <| sk n3 rfl n10 rfl u12 <| sk n3 rfl n10 rfl u13 <| m (pkf (.t n10) .b) u14 <| m (as_ (.t n14)) u6 <| e ?_
    refine rt (ret1 (.t n6 (.p rfl) .n) ?_)
    simp [inR, h1]
end Go.VK
