/-
  Printed by wip/tools (own work of this part): models of functions, walks over the value kit, and proofs.
-/
import Derived.Test.YtancgejlilbjnaaGreatDoorXkaw0
set_option linter.unusedVariables false
set_option linter.unusedSimpArgs false
set_option maxRecDepth 100000
set_option maxHeartbeats 4000000
namespace Go.VK
open Go.RowKit Go.Proofs
theorem sp_impl_Registrable (host_ : ByteArray) (r : ByteArray) (hm : m_impl_Registrable host_ = some r) : Spec Tryz.prog G0 272 [.str host_] (fun v => v = .str r) := by
 rw [m_impl_Registrable] at hm
 refine enter (l := [.tmp 2]) Tryz.func272 rfl Tryz.ntmps272 rfl T.en272 fun E => ?_
 simp only [List.length_cons, List.length_nil, List.replicate_succ, List.replicate_zero, List.cons_append, List.nil_append, Nat.reduceAdd, Nat.reduceSub]
 refine sr <| m (as_ (.s rfl)) u2 <| e ?_
 refine sq ?_
 refine sr <| m (mv (.t n0)) u4 <| c (call (tot_impl_IsHost host_) (.c (.t n4) rfl .n)) u5 <| m (not_ (.t n5)) u6 <| e ?_
 refine cnd n6 (fun h1 => ?_) (fun h1 => ?_)
 ·
  replace hm := ct h1 hm
  refine sr <| m (as_ (.s rfl)) u2 <| e ?_
  replace hm := sj hm
  subst hm
  exact rt (ret1 (.t n2 (.p rfl) .n) rfl)
 ·
  replace hm := cf h1 hm
  refine skp ?_
  obtain ⟨c2, hm⟩ := gd_some hm
  obtain ⟨c3, hm⟩ := gd_some hm
  refine sr <| m (mv (.t n0)) u7 <| c (call (sp_strings_Split host_ (⟨#[46]⟩ : ByteArray) c2 c3) (.c (.t n7) rfl (.c (.s rfl) rfl .n))) u8 <| m (as_ (.t n8)) u3 <| e ?_
  refine sq ?_
  refine sr <| m (mv (.t n3)) u9 <| m (lenm (l := (splitF host_ (⟨#[46]⟩ : ByteArray))) (f := sV) T.s290 (.t n9)) u10 <| m (eql (.t n10) (.i rfl)) u11 <| e ?_
  refine cnd n11 (fun h4 => ?_) (fun h4 => ?_)
  ·
   replace hm := ct h4 hm
   refine sr <| m (mv (.t n0)) u12 <| m (as_ (.t n12)) u2 <| e ?_
   replace hm := sj hm
   subst hm
   exact rt (ret1 (.t n2 (.p rfl) .n) rfl)
  ·
   replace hm := cf h4 hm
   refine skp ?_
   obtain ⟨c5, hm⟩ := gd_some hm
   obtain ⟨c6, hm⟩ := gd_some hm
   obtain ⟨c7, hm⟩ := gd_some hm
   obtain ⟨c8, hm⟩ := gd_some hm
   refine sr <| m (mv (.t n3)) u13 <| m (mv (.t n3)) u14 <| m (lenm (l := (splitF host_ (⟨#[46]⟩ : ByteArray))) (f := sV) T.s290 (.t n14)) u15 <| m (sub (.t n15) (.i rfl)) u16 <| m (slq2 (l := (splitF host_ (⟨#[46]⟩ : ByteArray))) (f := sV) c5 T.s290 (.t n13) (.t n16)) u17 <| c (call (sp_strings_JoinL ((splitF host_ (⟨#[46]⟩ : ByteArray)).drop (IntKind.i64.wrap (((splitF host_ (⟨#[46]⟩ : ByteArray)).length : Int) - (2 : Int))).toNat) (⟨#[46]⟩ : ByteArray) c6 c7 c8) (.c (.t n17) rfl (.c (.s rfl) rfl .n))) u18 <| m (as_ (.t n18)) u2 <| e ?_
   replace hm := sj hm
   subst hm
   exact rt (ret1 (.t n2 (.p rfl) .n) rfl)

theorem tot_impl_Registrable (host_ : ByteArray)  : Spec Tryz.prog G0 272 [.str host_] (fun v => v = .str (regF host_)) := sp_impl_Registrable host_ _ (t_impl_Registrable host_)

theorem sp_spec_l10Device (s_ : D.KeyStore) (r : Int) (hm : m_spec_l10Device s_ = some r) : Spec Tryz.prog G0 215 [.agg (D.KeyStore.V s_)] (fun v => v = .int .i64 r) := by
 rw [m_spec_l10Device] at hm
 refine enter (l := [.tmp 2]) Tryz.func215 rfl Tryz.ntmps215 rfl T.en215 fun E => ?_
 simp only [List.length_cons, List.length_nil, List.replicate_succ, List.replicate_zero, List.cons_append, List.nil_append, Nat.reduceAdd, Nat.reduceSub]
 refine sr <| k (bx rfl s0 u1 (.t n0)) <| m (as_ (.i rfl)) u2 <| e ?_
 obtain ⟨c1, hm⟩ := gd_some hm
 refine sr <| m (fab 2 rfl T.f113_2 (.t n1)) u3 <| m (ldb T.o3 n0 n2 (.t n3)) u4 <| k (bsm ([(181 : Int)] : List Int) iV T.s108 rfl rfl (.c (.i rfl) rfl rfl rfl .n) rfl u5) <| c (call (tot_spec_DeriveKey s_.Seed ([(181 : Int)] : List Int) c1) (.c (.t n4) rfl (.c (.t n5) rfl .n))) u6 <| m (as_ (.t n6)) u2 <| e ?_
 replace hm := sj hm
 subst hm
 exact rt (ret1 (.t n2 (.p rfl) .n) rfl)

theorem tot_spec_l10Device (s_ : D.KeyStore)  : Spec Tryz.prog G0 215 [.agg (D.KeyStore.V s_)] (fun v => v = .int .i64 (devKeyF s_)) := sp_spec_l10Device s_ _ (t_spec_l10Device s_)

theorem sp_spec_DevicePublic (s_ : D.KeyStore) (r : Int) (hm : m_spec_DevicePublic s_ = some r) : Spec Tryz.prog G0 211 [.agg (D.KeyStore.V s_)] (fun v => v = .int .i64 r) := by
 rw [m_spec_DevicePublic] at hm
 refine enter (l := [.tmp 2]) Tryz.func211 rfl Tryz.ntmps211 rfl T.en211 fun E => ?_
 simp only [List.length_cons, List.length_nil, List.replicate_succ, List.replicate_zero, List.cons_append, List.nil_append, Nat.reduceAdd, Nat.reduceSub]
 refine sr <| k (bx rfl s0 u1 (.t n0)) <| m (as_ (.i rfl)) u2 <| e ?_
 refine sr <| m (lab T.a113 n0 d0 k4 (.t n1)) u3 <| c (call (tot_spec_l10Device s_) (.c (.t n3) rfl .n)) u4 <| c (call (tot_spec_PublicKey (devKeyF s_)) (.c (.t n4) rfl .n)) u5 <| m (as_ (.t n5)) u2 <| e ?_
 replace hm := sj hm
 subst hm
 exact rt (ret1 (.t n2 (.p rfl) .n) rfl)

theorem tot_spec_DevicePublic (s_ : D.KeyStore)  : Spec Tryz.prog G0 211 [.agg (D.KeyStore.V s_)] (fun v => v = .int .i64 (devPubF s_)) := sp_spec_DevicePublic s_ _ (t_spec_DevicePublic s_)

theorem sp_impl_DevicePublic (s_ : D.KeyStore) (r : Int) (hm : m_impl_DevicePublic s_ = some r) : Spec Tryz.prog G0 217 [.agg (D.KeyStore.V s_)] (fun v => v = .int .i64 r) := by
 rw [m_impl_DevicePublic] at hm
 refine enter (l := [.tmp 2]) Tryz.func217 rfl Tryz.ntmps217 rfl T.en217 fun E => ?_
 simp only [List.length_cons, List.length_nil, List.replicate_succ, List.replicate_zero, List.cons_append, List.nil_append, Nat.reduceAdd, Nat.reduceSub]
 refine sr <| k (bx rfl s0 u1 (.t n0)) <| m (as_ (.i rfl)) u2 <| e ?_
 obtain ⟨c1, hm⟩ := gd_some hm
 refine sr <| m (fab 2 rfl T.f113_2 (.t n1)) u3 <| m (ldb T.o3 n0 n2 (.t n3)) u4 <| k (bsm ([(181 : Int)] : List Int) iV T.s108 rfl rfl (.c (.i rfl) rfl rfl rfl .n) rfl u5) <| c (call (tot_impl_DeriveKey s_.Seed ([(181 : Int)] : List Int) c1) (.c (.t n4) rfl (.c (.t n5) rfl .n))) u6 <| c (call (tot_impl_PublicKey (deriveF s_.Seed ([(181 : Int)] : List Int))) (.c (.t n6) rfl .n)) u7 <| m (as_ (.t n7)) u2 <| e ?_
 replace hm := sj hm
 subst hm
 exact rt (ret1 (.t n2 (.p rfl) .n) rfl)

theorem tot_impl_DevicePublic (s_ : D.KeyStore)  : Spec Tryz.prog G0 217 [.agg (D.KeyStore.V s_)] (fun v => v = .int .i64 (devPubF s_)) := sp_impl_DevicePublic s_ _ (t_impl_DevicePublic s_)

theorem sp_spec_IsValidBook (b_ : D.ChallengeBook) (r : Bool) (hm : m_spec_IsValidBook b_ = some r) : Spec Tryz.prog G0 178 [.agg (D.ChallengeBook.V b_)] (fun v => v = .bool r) := by
 rw [m_spec_IsValidBook] at hm
 refine enter (l := [.tmp 2]) Tryz.func178 rfl Tryz.ntmps178 rfl T.en178 fun E => ?_
 simp only [List.length_cons, List.length_nil, List.replicate_succ, List.replicate_zero, List.cons_append, List.nil_append, Nat.reduceAdd, Nat.reduceSub]
 refine sr <| k (bx rfl s0 u1 (.t n0)) <| m (as_ .b) u2 <| e ?_
 refine sq ?_
 refine sr <| m (as_ (.i rfl)) u3 <| e ?_
 refine jmx hm (fun _ : Unit => ⟨[.any, .box 0 0, .any, .any, .any, .any, .any, .any, .any, .any, .any, .any, .any, .any, .any, .any, .any, .any, .any, .any, .any, .any, .any, .any, .any, .any, .any, .any, .any, .any, .any, .any, .any, .any, .any, .any, .any, .any, .any, .any, .any, .any, .any, .any, .any, .any, .any, .any, .any, .any, .any, .any, .any, .any, .any, .any, .any, .any, .any, .any, .any], [.box 150 [.int .i64 b_.Seed, .int .i64 b_.Next, .slice 3 (b_.Open.map D.Challenge.V)]]⟩) (fun _ hm hq1 => ?_) (fun _ hm => ?_)
 ·
  refine bk ?_
  refine lpf (m := m_spec_IsValidBook_l0 b_) hm (fun i0 : Nat => ⟨[.any, .box 0 0, .any, .int .i64 (i0 : Int), .any, .any, .any, .any, .any, .any, .any, .any, .any, .any, .any, .any, .any, .any, .any, .any, .any, .any, .any, .any, .any, .any, .any, .any, .any, .any, .any, .any, .any, .any, .any, .any, .any, .any, .any, .any, .any, .any, .any, .any, .any, .any, .any, .any, .any, .any, .any, .any, .any, .any, .any, .any, .any, .any, .any, .any, .any], [.box 150 [.int .i64 b_.Seed, .int .i64 b_.Next, .slice 3 (b_.Open.map D.Challenge.V)]]⟩) (fun _ => rfl) (le [0] (by decide) (.c .a (.c (.b n0) (.c .a (.c (.e rfl rfl) (.x32 (.x16 (.x8 (.c .a .n)))))))) (.b n0 (.c (.e rfl rfl) (.c (.e rfl rfl) (.c (.e rfl rfl) .n))) .n)) ?_
  rintro f i0 hm
  rw [m_spec_IsValidBook_l0] at hm
  refine sq ?_
  refine sr <| m (mv (.t n3)) u5 <| m (fab 2 rfl T.f150_2 (.t n1)) u6 <| m (ldb T.o148 n0 n2 (.t n6)) u7 <| m (lenm (l := b_.Open) (f := D.Challenge.V) T.s148 (.t n7)) u8 <| m (lss (.t n5) (.t n8)) u9 <| e ?_
  refine rng n8 fun _ ra2 => ?_
  replace ra2 := (show (_ : Int) ≤ 9223372036854775807 from ra2)
  refine cnd n9 (fun h3 => ?_) (fun h3 => ?_)
  ·
   replace hm := ct h3 hm
   have h3d := of_decide_eq_true h3
   refine skp ?_
   refine sq ?_
   refine bk ?_
   obtain ⟨z4, e5, hm⟩ := bd_some hm
   refine sr <| m (fab 2 rfl T.f150_2 (.t n1)) u12 <| m (ldb T.o148 n0 n2 (.t n12)) u13 <| m (mv (.t n3)) u14 <| m (ixq (f := D.Challenge.V) e5 T.s148 (.t n13) (.t n14)) u15 <| m (lae T.a269 k3 (.t n15)) u16 <| k (al T.z269 s1 u4) <| k (sta T.a269 rfl rfl n1 (.z (.z (.z .n))) q1 (.t n4) (.t n16)) <| e ?_
   refine sd none [(0, true), (1, true), (2, true), (3, true), (4, true), (5, false), (6, true), (7, true), (8, true), (9, true), (10, true), (11, true), (12, true), (13, true), (14, true), (15, true), (16, true), (17, true), (18, true), (19, true), (20, true), (21, true), (22, true), (23, true), (24, true), (25, true), (26, false), (27, true), (28, true), (29, true), (30, true), (31, true), (32, false), (33, true), (34, true)] T.mix (by kernel_rfl) <| rob hm (fun j1_51 : Bool => ⟨[.any, .box 0 0, .any, .int .i64 (i0 : Int), .any, .any, .any, .any, .any, .any, .any, .any, .any, .any, .any, .any, .any, .any, .any, .any, .any, .any, .any, .any, .any, .any, .any, .any, .any, .any, .any, .any, .any, .any, .any, .any, .any, .any, .any, .any, .any, .any, .any, .any, .any, .any, .any, .any, .any, .any, .any, .bool j1_51, .any, .any, .any, .any, .any, .any, .any, .any, .any], [.box 150 [.int .i64 b_.Seed, .int .i64 b_.Next, .slice 3 (b_.Open.map D.Challenge.V)]]⟩) (fun _ hm hq6 => ?_) (fun j1_51 hm => ?_)
   ·
    refine om n0 (fab 0 rfl T.f269_0 (.t n4)) u17 <| om n1 (ldb T.o3 n1 n0 (.t n17)) u18 <| om n2 (fab 1 rfl T.f150_1 (.t n1)) u19 <| om n3 (ldb T.o3 n0 n1 (.t n19)) u20 <| om n4 (sub (.t n20) (.i rfl)) u21 <| oc n5 (call (tot_spec_l1In z4.Id (0 : Int) (IntKind.i64.wrap (b_.Next - (1 : Int)))) (.c (.t n18) rfl (.c (.i rfl) rfl (.c (.t n21) rfl .n)))) u22 <| om n6 (not_ (.t n22)) u23 <| om n7 (mv (.t n23)) u24 <| osp n24 u24 u24 (fun h7 => ?_) (fun h7 => ?_)
    ·
     replace hm := ct h7 hm
     refine os n8 n7 rfl n24 rfl u25 <| os n9 n7 rfl n24 rfl u26 <| os n10 n7 rfl n24 rfl u27 <| osu n11 n10 rfl n27 u28 <| osu n12 n10 rfl n27 u29 <| osu n13 n10 rfl n27 u30 <| osu n14 n10 rfl n27 u31 <| osu n15 n10 rfl n27 u32 <| osu n16 n10 rfl n27 u33 <| osu n17 n10 rfl n27 u34 <| osu n18 n10 rfl n27 u35 <| osu n19 n10 rfl n27 u36 <| osu n20 n10 rfl n27 u37 <| os n21 n7 rfl n24 rfl u38 <| om n22 (pkt (.t n24) .b) u39 <| om n23 (mv (.t n39)) u40 <| os n24 n23 rfl n40 rfl u41 <| os n25 n23 rfl n40 rfl u42 <| osf n26 n23 rfl n40 rfl u43 <| os n27 n23 rfl n40 rfl u44 <| om n28 (pkt (.t n40) .b) u45 <| om n29 (mv (.t n45)) u46 <| os n30 n29 rfl n46 rfl u47 <| os n31 n29 rfl n46 rfl u48 <| osf n32 n29 rfl n46 rfl u49 <| os n33 n29 rfl n46 rfl u50 <| om n34 (pkt (.t n46) .b) u51 <| oe ?_
     replace hm := sj hm
     subst hm
     have hm := hq6
     exact ⟨true, hm, le [0] (by decide) (.c .a (.c (.b n0) (.c .a (.c (.e rfl rfl) (.x32 (.x8 (.x4 (.x2 (.c .a (.c (.e rfl rfl) (.x8 (.c .a .n)))))))))))) (.b n0 (.c (.e rfl rfl) (.c (.e rfl rfl) (.c (.e rfl rfl) .n))) .n)⟩
    ·
     replace hm := cf h7 hm
     refine omg n8 n7 rfl n24 (mv (.t n3)) u25 <| omg n9 n7 rfl n24 (gtr (.t n25) (.i rfl)) u26 <| omg n10 n7 rfl n24 (mv (.t n26)) u27 <| osp n27 u27 u27 (fun h8 => ?_) (fun h8 => ?_)
     ·
      replace hm := ct h8 hm
      obtain ⟨z9, e10, hm⟩ := bd_some hm
      refine omg n11 n10 rfl n27 (fab 2 rfl T.f150_2 (.t n1)) u28 <| omg n12 n10 rfl n27 (ldb T.o148 n0 n2 (.t n28)) u29 <| omg n13 n10 rfl n27 (mv (.t n3)) u30 <| omg n14 n10 rfl n27 (sub (.t n30) (.i rfl)) u31 <| omg n15 n10 rfl n27 (ixq (f := D.Challenge.V) e10 T.s148 (.t n29) (.t n31)) u32 <| omg n16 n10 rfl n27 (fae T.f269_0 d0 (.t n32)) u33 <| omg n17 n10 rfl n27 (lde T.o3 n0 (.t n33)) u34 <| omg n18 n10 rfl n27 (fab 0 rfl T.f269_0 (.t n4)) u35 <| omg n19 n10 rfl n27 (ldb T.o3 n1 n0 (.t n35)) u36 <| omg n20 n10 rfl n27 (geq (.t n34) (.t n36)) u37 <| omg n21 n7 rfl n24 (pkt (.t n27) (.t n37)) u38 <| om n22 (pkf (.t n24) (.t n38)) u39 <| om n23 (mv (.t n39)) u40 <| osp n40 u40 u40 (fun h11 => ?_) (fun h11 => ?_)
      ·
       replace hm := ct h11 hm
       refine os n24 n23 rfl n40 rfl u41 <| os n25 n23 rfl n40 rfl u42 <| osf n26 n23 rfl n40 rfl u43 <| os n27 n23 rfl n40 rfl u44 <| om n28 (pkt (.t n40) .b) u45 <| om n29 (mv (.t n45)) u46 <| os n30 n29 rfl n46 rfl u47 <| os n31 n29 rfl n46 rfl u48 <| osf n32 n29 rfl n46 rfl u49 <| os n33 n29 rfl n46 rfl u50 <| om n34 (pkt (.t n46) .b) u51 <| oe ?_
       replace hm := sj hm
       subst hm
       have hm := hq6
       exact ⟨true, hm, le [0] (by decide) (.c .a (.c (.b n0) (.c .a (.c (.e rfl rfl) (.x32 (.x8 (.x4 (.x2 (.c .a (.c (.e rfl rfl) (.x8 (.c .a .n)))))))))))) (.b n0 (.c (.e rfl rfl) (.c (.e rfl rfl) (.c (.e rfl rfl) .n))) .n)⟩
      ·
       replace hm := cf h11 hm
       refine omg n24 n23 rfl n40 (fab 1 rfl T.f269_1 (.t n4)) u41 <| omg n25 n23 rfl n40 (ldb T.o3 n1 n1 (.t n41)) u42 <| ocg n26 n23 rfl n40 (call (tot_spec_l1In z4.Account (0 : Int) (1000005 : Int)) (.c (.t n42) rfl (.c (.i rfl) rfl (.c (.i rfl) rfl .n)))) u43 <| omg n27 n23 rfl n40 (not_ (.t n43)) u44 <| om n28 (pkf (.t n40) (.t n44)) u45 <| om n29 (mv (.t n45)) u46 <| osp n46 u46 u46 (fun h12 => ?_) (fun h12 => ?_)
       ·
        replace hm := ct h12 hm
        refine os n30 n29 rfl n46 rfl u47 <| os n31 n29 rfl n46 rfl u48 <| osf n32 n29 rfl n46 rfl u49 <| os n33 n29 rfl n46 rfl u50 <| om n34 (pkt (.t n46) .b) u51 <| oe ?_
        replace hm := sj hm
        subst hm
        have hm := hq6
        exact ⟨true, hm, le [0] (by decide) (.c .a (.c (.b n0) (.c .a (.c (.e rfl rfl) (.x32 (.x8 (.x4 (.x2 (.c .a (.c (.e rfl rfl) (.x8 (.c .a .n)))))))))))) (.b n0 (.c (.e rfl rfl) (.c (.e rfl rfl) (.c (.e rfl rfl) .n))) .n)⟩
       ·
        replace hm := cf h12 hm
        refine omg n30 n29 rfl n46 (fab 2 rfl T.f269_2 (.t n4)) u47 <| omg n31 n29 rfl n46 (ldb T.o3 n1 n2 (.t n47)) u48 <| ocg n32 n29 rfl n46 (call (tot_spec_l1In z4.Until (0 : Int) (1000005 : Int)) (.c (.t n48) rfl (.c (.i rfl) rfl (.c (.i rfl) rfl .n)))) u49 <| omg n33 n29 rfl n46 (not_ (.t n49)) u50 <| om n34 (pkf (.t n46) (.t n50)) u51 <| oe ?_
        replace hm := sj hm
        subst hm
        have hm := hq6
        exact ⟨(!(inR z4.Until (0 : Int) (1000005 : Int))), hm, le [0] (by decide) (.c .a (.c (.b n0) (.c .a (.c (.e rfl rfl) (.x32 (.x8 (.x4 (.x2 (.c .a (.c (.e rfl rfl) (.x8 (.c .a .n)))))))))))) (.b n0 (.c (.e rfl rfl) (.c (.e rfl rfl) (.c (.e rfl rfl) .n))) .n)⟩
     ·
      replace hm := cf h8 hm
      refine os n11 n10 rfl n27 rfl u28 <| os n12 n10 rfl n27 rfl u29 <| os n13 n10 rfl n27 rfl u30 <| os n14 n10 rfl n27 rfl u31 <| os n15 n10 rfl n27 rfl u32 <| os n16 n10 rfl n27 rfl u33 <| os n17 n10 rfl n27 rfl u34 <| os n18 n10 rfl n27 rfl u35 <| os n19 n10 rfl n27 rfl u36 <| os n20 n10 rfl n27 rfl u37 <| omg n21 n7 rfl n24 (pkf (.t n27) .b) u38 <| om n22 (pkf (.t n24) (.t n38)) u39 <| om n23 (mv (.t n39)) u40 <| omg n24 n23 rfl n40 (fab 1 rfl T.f269_1 (.t n4)) u41 <| omg n25 n23 rfl n40 (ldb T.o3 n1 n1 (.t n41)) u42 <| ocg n26 n23 rfl n40 (call (tot_spec_l1In z4.Account (0 : Int) (1000005 : Int)) (.c (.t n42) rfl (.c (.i rfl) rfl (.c (.i rfl) rfl .n)))) u43 <| omg n27 n23 rfl n40 (not_ (.t n43)) u44 <| om n28 (pkf (.t n40) (.t n44)) u45 <| om n29 (mv (.t n45)) u46 <| osp n46 u46 u46 (fun h13 => ?_) (fun h13 => ?_)
      ·
       replace hm := ct h13 hm
       refine os n30 n29 rfl n46 rfl u47 <| os n31 n29 rfl n46 rfl u48 <| osf n32 n29 rfl n46 rfl u49 <| os n33 n29 rfl n46 rfl u50 <| om n34 (pkt (.t n46) .b) u51 <| oe ?_
       replace hm := sj hm
       subst hm
       have hm := hq6
       exact ⟨true, hm, le [0] (by decide) (.c .a (.c (.b n0) (.c .a (.c (.e rfl rfl) (.x32 (.x8 (.x4 (.x2 (.c .a (.c (.e rfl rfl) (.x8 (.c .a .n)))))))))))) (.b n0 (.c (.e rfl rfl) (.c (.e rfl rfl) (.c (.e rfl rfl) .n))) .n)⟩
      ·
       replace hm := cf h13 hm
       refine omg n30 n29 rfl n46 (fab 2 rfl T.f269_2 (.t n4)) u47 <| omg n31 n29 rfl n46 (ldb T.o3 n1 n2 (.t n47)) u48 <| ocg n32 n29 rfl n46 (call (tot_spec_l1In z4.Until (0 : Int) (1000005 : Int)) (.c (.t n48) rfl (.c (.i rfl) rfl (.c (.i rfl) rfl .n)))) u49 <| omg n33 n29 rfl n46 (not_ (.t n49)) u50 <| om n34 (pkf (.t n46) (.t n50)) u51 <| oe ?_
       replace hm := sj hm
       subst hm
       have hm := hq6
       exact ⟨(!(inR z4.Until (0 : Int) (1000005 : Int))), hm, le [0] (by decide) (.c .a (.c (.b n0) (.c .a (.c (.e rfl rfl) (.x32 (.x8 (.x4 (.x2 (.c .a (.c (.e rfl rfl) (.x8 (.c .a .n)))))))))))) (.b n0 (.c (.e rfl rfl) (.c (.e rfl rfl) (.c (.e rfl rfl) .n))) .n)⟩
   ·
    refine cnd n51 (fun h14 => ?_) (fun h14 => ?_)
    ·
     replace hm := ct h14 hm
     refine sr <| m (as_ .b) u2 <| e ?_
     replace hm := inl1 hm hq1
     subst hm
     exact rt (ret1 (.t n2 (.p rfl) .n) rfl)
    ·
     replace hm := cf h14 hm
     refine skp ?_
     refine rg <| m (mv (.t n3)) u10 <| m (add (.t n10) (.i rfl)) u11 <| m (as_ (.t n11)) u3 <| e ?_
     exact ⟨i0 + 1, hm, le [0] (by decide) (.c .a (.c (.b n0) (.c .a (.c (.e (wi (by omega)) rfl) (.x32 (.x16 (.x8 (.c .a .n)))))))) (.b n0 (.c (.e rfl rfl) (.c (.e rfl rfl) (.c (.e rfl rfl) .n))) .n)⟩
  ·
   replace hm := cf h3 hm
   have h3d := of_decide_eq_false h3
   refine ex (x1 ?_)
   replace hm := inr1 hm hq1
   exact ⟨(), hm, le [0] (by decide) (.c .a (.c (.b n0) (.x32 (.x16 (.x8 (.x2 (.c .a .n))))))) (.b n0 (.c (.e rfl rfl) (.c (.e rfl rfl) (.c (.e rfl rfl) .n))) .n)⟩
 ·
  refine sr <| rjb hm (fun j2_2 : Bool => ⟨[.any, .any, .bool j2_2, .any, .any, .any, .any, .any, .any, .any, .any, .any, .any, .any, .any, .any, .any, .any, .any, .any, .any, .any, .any, .any, .any, .any, .any, .any, .any, .any, .any, .any, .any, .any, .any, .any, .any, .any, .any, .any, .any, .any, .any, .any, .any, .any, .any, .any, .any, .any, .any, .any, .any, .any, .any, .any, .any, .any, .any, .any, .any], []⟩) (fun _ hm hq15 => ?_) (fun j2_2 hm => ?_)
  ·
   refine m (fab 1 rfl T.f150_1 (.t n1)) u52 <| m (ldb T.o3 n0 n1 (.t n52)) u53 <| c (call (tot_spec_l1In b_.Next (0 : Int) (1000000 : Int)) (.c (.t n53) rfl (.c (.i rfl) rfl (.c (.i rfl) rfl .n)))) u54 <| m (mv (.t n54)) u55 <| sp n55 u55 u55 (fun h16 => ?_) (fun h16 => ?_)
   ·
    replace hm := ct h16 hm
    refine mg n3 rfl n55 (fab 2 rfl T.f150_2 (.t n1)) u56 <| mg n3 rfl n55 (ldb T.o148 n0 n2 (.t n56)) u57 <| mg n3 rfl n55 (lenm (l := b_.Open) (f := D.Challenge.V) T.s148 (.t n57)) u58 <| mg n3 rfl n55 (leq (.t n58) (.i rfl)) u59 <| m (pkt (.t n55) (.t n59)) u60 <| m (as_ (.t n60)) u2 <| e ?_
    replace hm := sj hm
    subst hm
    have hm := hq15
    exact ⟨decide ((b_.Open.length : Int) ≤ (16 : Int)), hm, le [] (by decide) (.x2 (.c (.e rfl rfl) (.x32 (.x16 (.x8 (.x2 .n)))))) .n⟩
   ·
    replace hm := cf h16 hm
    refine sk n3 rfl n55 rfl u56 <| sk n3 rfl n55 rfl u57 <| sk n3 rfl n55 rfl u58 <| sk n3 rfl n55 rfl u59 <| m (pkf (.t n55) .b) u60 <| m (as_ (.t n60)) u2 <| e ?_
    replace hm := sj hm
    subst hm
    have hm := hq15
    exact ⟨false, hm, le [] (by decide) (.x2 (.c (.e rfl rfl) (.x32 (.x16 (.x8 (.x2 .n)))))) .n⟩
  ·
   replace hm := sj hm
   subst hm
   exact rt (ret1 (.t n2 (.p rfl) .n) rfl)

theorem tot_spec_IsValidBook (b_ : D.ChallengeBook) (hp0 : b_.Open.length ≤ 34359738368) : Spec Tryz.prog G0 178 [.agg (D.ChallengeBook.V b_)] (fun v => v = .bool (bookOkF b_)) := sp_spec_IsValidBook b_ _ (t_spec_IsValidBook b_ hp0)

theorem sp_impl_IsValidBook (b_ : D.ChallengeBook) (r : Bool) (hm : m_impl_IsValidBook b_ = some r) : Spec Tryz.prog G0 192 [.agg (D.ChallengeBook.V b_)] (fun v => v = .bool r) := by
 rw [m_impl_IsValidBook] at hm
 refine enter (l := [.tmp 2]) Tryz.func192 rfl Tryz.ntmps192 rfl T.en192 fun E => ?_
 simp only [List.length_cons, List.length_nil, List.replicate_succ, List.replicate_zero, List.cons_append, List.nil_append, Nat.reduceAdd, Nat.reduceSub]
 refine sr <| k (bx rfl s0 u1 (.t n0)) <| m (as_ .b) u2 <| e ?_
 refine sq ?_
 refine sr <| rjb hm (fun j0_14 : Bool => ⟨[.any, .box 0 0, .any, .any, .any, .any, .any, .any, .any, .any, .any, .any, .any, .any, .bool j0_14, .any, .any, .any, .any, .any, .any, .any, .any, .any, .any, .any, .any, .any, .any, .any, .any, .any, .any, .any, .any, .any, .any, .any, .any, .any, .any, .any, .any, .any, .any, .any, .any, .any, .any, .any, .any, .any, .any, .any, .any, .any, .any, .any, .any], [.box 150 [.int .i64 b_.Seed, .int .i64 b_.Next, .slice 3 (b_.Open.map D.Challenge.V)]]⟩) (fun _ hm hq1 => ?_) (fun j0_14 hm => ?_)
 ·
  refine m (fab 1 rfl T.f150_1 (.t n1)) u5 <| m (ldb T.o3 n0 n1 (.t n5)) u6 <| c (call (tot_impl_InRange b_.Next (0 : Int) (1000000 : Int)) (.c (.t n6) rfl (.c (.i rfl) rfl (.c (.i rfl) rfl .n)))) u7 <| m (not_ (.t n7)) u8 <| m (mv (.t n8)) u9 <| sp n9 u9 u9 (fun h2 => ?_) (fun h2 => ?_)
  ·
   replace hm := ct h2 hm
   refine sk n4 rfl n9 rfl u10 <| sk n4 rfl n9 rfl u11 <| sk n4 rfl n9 rfl u12 <| sk n4 rfl n9 rfl u13 <| m (pkt (.t n9) .b) u14 <| e ?_
   replace hm := sj hm
   subst hm
   have hm := hq1
   exact ⟨true, hm, le [0] (by decide) (.c .a (.c (.b n0) (.x8 (.x4 (.c (.e rfl rfl) (.x32 (.x8 (.x4 .n)))))))) (.b n0 (.c (.e rfl rfl) (.c (.e rfl rfl) (.c (.e rfl rfl) .n))) .n)⟩
  ·
   replace hm := cf h2 hm
   refine mg n4 rfl n9 (fab 2 rfl T.f150_2 (.t n1)) u10 <| mg n4 rfl n9 (ldb T.o148 n0 n2 (.t n10)) u11 <| mg n4 rfl n9 (lenm (l := b_.Open) (f := D.Challenge.V) T.s148 (.t n11)) u12 <| mg n4 rfl n9 (gtr (.t n12) (.i rfl)) u13 <| m (pkf (.t n9) (.t n13)) u14 <| e ?_
   replace hm := sj hm
   subst hm
   have hm := hq1
   exact ⟨decide ((b_.Open.length : Int) > (16 : Int)), hm, le [0] (by decide) (.c .a (.c (.b n0) (.x8 (.x4 (.c (.e rfl rfl) (.x32 (.x8 (.x4 .n)))))))) (.b n0 (.c (.e rfl rfl) (.c (.e rfl rfl) (.c (.e rfl rfl) .n))) .n)⟩
 ·
  refine cnd n14 (fun h3 => ?_) (fun h3 => ?_)
  ·
   replace hm := ct h3 hm
   refine sr <| m (as_ .b) u2 <| e ?_
   replace hm := sj hm
   subst hm
   exact rt (ret1 (.t n2 (.p rfl) .n) rfl)
  ·
   replace hm := cf h3 hm
   refine skp ?_
   refine sq ?_
   refine sr <| m (fab 2 rfl T.f150_2 (.t n1)) u15 <| m (ldb T.o148 n0 n2 (.t n15)) u16 <| m (lenm (l := b_.Open) (f := D.Challenge.V) T.s148 (.t n16)) u17 <| m (mv (.i rfl)) u18 <| e ?_
   refine jmx hm (fun _ : Unit => ⟨[.any, .any, .any, .any, .any, .any, .any, .any, .any, .any, .any, .any, .any, .any, .any, .any, .any, .any, .any, .any, .any, .any, .any, .any, .any, .any, .any, .any, .any, .any, .any, .any, .any, .any, .any, .any, .any, .any, .any, .any, .any, .any, .any, .any, .any, .any, .any, .any, .any, .any, .any, .any, .any, .any, .any, .any, .any, .any, .any], []⟩) (fun _ hm hq4 => ?_) (fun _ hm => ?_)
   ·
    refine bk ?_
    refine lpf (m := m_impl_IsValidBook_l0 b_) hm (fun i0 : Nat => ⟨[.any, .box 0 0, .any, .any, .any, .any, .any, .any, .any, .any, .any, .any, .any, .any, .any, .any, .slice 3 (b_.Open.map D.Challenge.V), .int .i64 (b_.Open.length : Int), .int .i64 (i0 : Int), .any, .any, .any, .any, .any, .any, .any, .any, .any, .any, .any, .any, .any, .any, .any, .any, .any, .any, .any, .any, .any, .any, .any, .any, .any, .any, .any, .any, .any, .any, .any, .any, .any, .any, .any, .any, .any, .any, .any, .any], [.box 150 [.int .i64 b_.Seed, .int .i64 b_.Next, .slice 3 (b_.Open.map D.Challenge.V)]]⟩) (fun _ => rfl) (le [0] (by decide) (.c .a (.c (.b n0) (.x8 (.x4 (.x2 (.c (.e rfl rfl) (.c (.e rfl rfl) (.c (.e rfl rfl) (.x32 (.x8 .n)))))))))) (.b n0 (.c (.e rfl rfl) (.c (.e rfl rfl) (.c (.e rfl rfl) .n))) .n)) ?_
    rintro f i0 hm
    rw [m_impl_IsValidBook_l0] at hm
    refine sr <| m (lss (.t n18) (.t n17)) u19 <| e ?_
    refine rng n17 fun _ ra5 => ?_
    replace ra5 := (show (_ : Int) ≤ 9223372036854775807 from ra5)
    refine sq ?_
    refine cnd n19 (fun h6 => ?_) (fun h6 => ?_)
    ·
     replace hm := ct h6 hm
     have h6d := of_decide_eq_true h6
     refine skp ?_
     refine sq ?_
     refine bk ?_
     obtain ⟨z7, e8, hm⟩ := bd_some hm
     refine sr <| m (mv (.t n18)) u20 <| m (ixq (f := D.Challenge.V) e8 T.s148 (.t n16) (.t n18)) u21 <| m (lae T.a269 k3 (.t n21)) u22 <| k (al T.z269 s1 u4) <| m (as_ (.t n20)) u3 <| k (sta T.a269 rfl rfl n1 (.z (.z (.z .n))) q1 (.t n4) (.t n22)) <| e ?_
     refine sd none [(0, true), (1, true), (2, true), (3, true), (4, true), (5, false), (6, true), (7, true), (8, true), (9, true), (10, true), (11, true), (12, true), (13, true), (14, true), (15, true), (16, true), (17, true), (18, true), (19, true), (20, true), (21, true), (22, true), (23, true), (24, true), (25, true), (26, false), (27, true), (28, true), (29, true), (30, true), (31, true), (32, false), (33, true), (34, true)] T.mix (by kernel_rfl) <| rob hm (fun j2_57 : Bool => ⟨[.any, .box 0 0, .any, .any, .any, .any, .any, .any, .any, .any, .any, .any, .any, .any, .any, .any, .slice 3 (b_.Open.map D.Challenge.V), .int .i64 (b_.Open.length : Int), .int .i64 (i0 : Int), .any, .any, .any, .any, .any, .any, .any, .any, .any, .any, .any, .any, .any, .any, .any, .any, .any, .any, .any, .any, .any, .any, .any, .any, .any, .any, .any, .any, .any, .any, .any, .any, .any, .any, .any, .any, .any, .any, .bool j2_57, .any], [.box 150 [.int .i64 b_.Seed, .int .i64 b_.Next, .slice 3 (b_.Open.map D.Challenge.V)]]⟩) (fun _ hm hq9 => ?_) (fun j2_57 hm => ?_)
     ·
      refine om n0 (fab 0 rfl T.f269_0 (.t n4)) u23 <| om n1 (ldb T.o3 n1 n0 (.t n23)) u24 <| om n2 (fab 1 rfl T.f150_1 (.t n1)) u25 <| om n3 (ldb T.o3 n0 n1 (.t n25)) u26 <| om n4 (sub (.t n26) (.i rfl)) u27 <| oc n5 (call (tot_impl_InRange z7.Id (0 : Int) (IntKind.i64.wrap (b_.Next - (1 : Int)))) (.c (.t n24) rfl (.c (.i rfl) rfl (.c (.t n27) rfl .n)))) u28 <| om n6 (not_ (.t n28)) u29 <| om n7 (mv (.t n29)) u30 <| osp n30 u30 u30 (fun h10 => ?_) (fun h10 => ?_)
      ·
       replace hm := ct h10 hm
       refine os n8 n7 rfl n30 rfl u31 <| os n9 n7 rfl n30 rfl u32 <| os n10 n7 rfl n30 rfl u33 <| osu n11 n10 rfl n33 u34 <| osu n12 n10 rfl n33 u35 <| osu n13 n10 rfl n33 u36 <| osu n14 n10 rfl n33 u37 <| osu n15 n10 rfl n33 u38 <| osu n16 n10 rfl n33 u39 <| osu n17 n10 rfl n33 u40 <| osu n18 n10 rfl n33 u41 <| osu n19 n10 rfl n33 u42 <| osu n20 n10 rfl n33 u43 <| os n21 n7 rfl n30 rfl u44 <| om n22 (pkt (.t n30) .b) u45 <| om n23 (mv (.t n45)) u46 <| os n24 n23 rfl n46 rfl u47 <| os n25 n23 rfl n46 rfl u48 <| osf n26 n23 rfl n46 rfl u49 <| os n27 n23 rfl n46 rfl u50 <| om n28 (pkt (.t n46) .b) u51 <| om n29 (mv (.t n51)) u52 <| os n30 n29 rfl n52 rfl u53 <| os n31 n29 rfl n52 rfl u54 <| osf n32 n29 rfl n52 rfl u55 <| os n33 n29 rfl n52 rfl u56 <| om n34 (pkt (.t n52) .b) u57 <| oe ?_
       replace hm := sj hm
       subst hm
       have hm := hq9
       exact ⟨true, hm, le [0] (by decide) (.c .a (.c (.b n0) (.x8 (.x4 (.x2 (.c (.e rfl rfl) (.c (.e rfl rfl) (.c (.e rfl rfl) (.x32 (.x4 (.x2 (.c (.e rfl rfl) (.c .a .n))))))))))))) (.b n0 (.c (.e rfl rfl) (.c (.e rfl rfl) (.c (.e rfl rfl) .n))) .n)⟩
      ·
       replace hm := cf h10 hm
       refine omg n8 n7 rfl n30 (mv (.t n3)) u31 <| omg n9 n7 rfl n30 (gtr (.t n31) (.i rfl)) u32 <| omg n10 n7 rfl n30 (mv (.t n32)) u33 <| osp n33 u33 u33 (fun h11 => ?_) (fun h11 => ?_)
       ·
        replace hm := ct h11 hm
        obtain ⟨z12, e13, hm⟩ := bd_some hm
        refine omg n11 n10 rfl n33 (fab 2 rfl T.f150_2 (.t n1)) u34 <| omg n12 n10 rfl n33 (ldb T.o148 n0 n2 (.t n34)) u35 <| omg n13 n10 rfl n33 (mv (.t n3)) u36 <| omg n14 n10 rfl n33 (sub (.t n36) (.i rfl)) u37 <| omg n15 n10 rfl n33 (ixq (f := D.Challenge.V) e13 T.s148 (.t n35) (.t n37)) u38 <| omg n16 n10 rfl n33 (fae T.f269_0 d0 (.t n38)) u39 <| omg n17 n10 rfl n33 (lde T.o3 n0 (.t n39)) u40 <| omg n18 n10 rfl n33 (fab 0 rfl T.f269_0 (.t n4)) u41 <| omg n19 n10 rfl n33 (ldb T.o3 n1 n0 (.t n41)) u42 <| omg n20 n10 rfl n33 (geq (.t n40) (.t n42)) u43 <| omg n21 n7 rfl n30 (pkt (.t n33) (.t n43)) u44 <| om n22 (pkf (.t n30) (.t n44)) u45 <| om n23 (mv (.t n45)) u46 <| osp n46 u46 u46 (fun h14 => ?_) (fun h14 => ?_)
        ·
         replace hm := ct h14 hm
         refine os n24 n23 rfl n46 rfl u47 <| os n25 n23 rfl n46 rfl u48 <| osf n26 n23 rfl n46 rfl u49 <| os n27 n23 rfl n46 rfl u50 <| om n28 (pkt (.t n46) .b) u51 <| om n29 (mv (.t n51)) u52 <| os n30 n29 rfl n52 rfl u53 <| os n31 n29 rfl n52 rfl u54 <| osf n32 n29 rfl n52 rfl u55 <| os n33 n29 rfl n52 rfl u56 <| om n34 (pkt (.t n52) .b) u57 <| oe ?_
         replace hm := sj hm
         subst hm
         have hm := hq9
         exact ⟨true, hm, le [0] (by decide) (.c .a (.c (.b n0) (.x8 (.x4 (.x2 (.c (.e rfl rfl) (.c (.e rfl rfl) (.c (.e rfl rfl) (.x32 (.x4 (.x2 (.c (.e rfl rfl) (.c .a .n))))))))))))) (.b n0 (.c (.e rfl rfl) (.c (.e rfl rfl) (.c (.e rfl rfl) .n))) .n)⟩
        ·
         replace hm := cf h14 hm
         refine omg n24 n23 rfl n46 (fab 1 rfl T.f269_1 (.t n4)) u47 <| omg n25 n23 rfl n46 (ldb T.o3 n1 n1 (.t n47)) u48 <| ocg n26 n23 rfl n46 (call (tot_impl_InRange z7.Account (0 : Int) (1000005 : Int)) (.c (.t n48) rfl (.c (.i rfl) rfl (.c (.i rfl) rfl .n)))) u49 <| omg n27 n23 rfl n46 (not_ (.t n49)) u50 <| om n28 (pkf (.t n46) (.t n50)) u51 <| om n29 (mv (.t n51)) u52 <| osp n52 u52 u52 (fun h15 => ?_) (fun h15 => ?_)
         ·
          replace hm := ct h15 hm
          refine os n30 n29 rfl n52 rfl u53 <| os n31 n29 rfl n52 rfl u54 <| osf n32 n29 rfl n52 rfl u55 <| os n33 n29 rfl n52 rfl u56 <| om n34 (pkt (.t n52) .b) u57 <| oe ?_
          replace hm := sj hm
          subst hm
          have hm := hq9
          exact ⟨true, hm, le [0] (by decide) (.c .a (.c (.b n0) (.x8 (.x4 (.x2 (.c (.e rfl rfl) (.c (.e rfl rfl) (.c (.e rfl rfl) (.x32 (.x4 (.x2 (.c (.e rfl rfl) (.c .a .n))))))))))))) (.b n0 (.c (.e rfl rfl) (.c (.e rfl rfl) (.c (.e rfl rfl) .n))) .n)⟩
         ·
          replace hm := cf h15 hm
          refine omg n30 n29 rfl n52 (fab 2 rfl T.f269_2 (.t n4)) u53 <| omg n31 n29 rfl n52 (ldb T.o3 n1 n2 (.t n53)) u54 <| ocg n32 n29 rfl n52 (call (tot_impl_InRange z7.Until (0 : Int) (1000005 : Int)) (.c (.t n54) rfl (.c (.i rfl) rfl (.c (.i rfl) rfl .n)))) u55 <| omg n33 n29 rfl n52 (not_ (.t n55)) u56 <| om n34 (pkf (.t n52) (.t n56)) u57 <| oe ?_
          replace hm := sj hm
          subst hm
          have hm := hq9
          exact ⟨(!(inR z7.Until (0 : Int) (1000005 : Int))), hm, le [0] (by decide) (.c .a (.c (.b n0) (.x8 (.x4 (.x2 (.c (.e rfl rfl) (.c (.e rfl rfl) (.c (.e rfl rfl) (.x32 (.x4 (.x2 (.c (.e rfl rfl) (.c .a .n))))))))))))) (.b n0 (.c (.e rfl rfl) (.c (.e rfl rfl) (.c (.e rfl rfl) .n))) .n)⟩
       ·
        replace hm := cf h11 hm
        refine os n11 n10 rfl n33 rfl u34 <| os n12 n10 rfl n33 rfl u35 <| os n13 n10 rfl n33 rfl u36 <| os n14 n10 rfl n33 rfl u37 <| os n15 n10 rfl n33 rfl u38 <| os n16 n10 rfl n33 rfl u39 <| os n17 n10 rfl n33 rfl u40 <| os n18 n10 rfl n33 rfl u41 <| os n19 n10 rfl n33 rfl u42 <| os n20 n10 rfl n33 rfl u43 <| omg n21 n7 rfl n30 (pkf (.t n33) .b) u44 <| om n22 (pkf (.t n30) (.t n44)) u45 <| om n23 (mv (.t n45)) u46 <| omg n24 n23 rfl n46 (fab 1 rfl T.f269_1 (.t n4)) u47 <| omg n25 n23 rfl n46 (ldb T.o3 n1 n1 (.t n47)) u48 <| ocg n26 n23 rfl n46 (call (tot_impl_InRange z7.Account (0 : Int) (1000005 : Int)) (.c (.t n48) rfl (.c (.i rfl) rfl (.c (.i rfl) rfl .n)))) u49 <| omg n27 n23 rfl n46 (not_ (.t n49)) u50 <| om n28 (pkf (.t n46) (.t n50)) u51 <| om n29 (mv (.t n51)) u52 <| osp n52 u52 u52 (fun h16 => ?_) (fun h16 => ?_)
        ·
         replace hm := ct h16 hm
         refine os n30 n29 rfl n52 rfl u53 <| os n31 n29 rfl n52 rfl u54 <| osf n32 n29 rfl n52 rfl u55 <| os n33 n29 rfl n52 rfl u56 <| om n34 (pkt (.t n52) .b) u57 <| oe ?_
         replace hm := sj hm
         subst hm
         have hm := hq9
         exact ⟨true, hm, le [0] (by decide) (.c .a (.c (.b n0) (.x8 (.x4 (.x2 (.c (.e rfl rfl) (.c (.e rfl rfl) (.c (.e rfl rfl) (.x32 (.x4 (.x2 (.c (.e rfl rfl) (.c .a .n))))))))))))) (.b n0 (.c (.e rfl rfl) (.c (.e rfl rfl) (.c (.e rfl rfl) .n))) .n)⟩
        ·
         replace hm := cf h16 hm
         refine omg n30 n29 rfl n52 (fab 2 rfl T.f269_2 (.t n4)) u53 <| omg n31 n29 rfl n52 (ldb T.o3 n1 n2 (.t n53)) u54 <| ocg n32 n29 rfl n52 (call (tot_impl_InRange z7.Until (0 : Int) (1000005 : Int)) (.c (.t n54) rfl (.c (.i rfl) rfl (.c (.i rfl) rfl .n)))) u55 <| omg n33 n29 rfl n52 (not_ (.t n55)) u56 <| om n34 (pkf (.t n52) (.t n56)) u57 <| oe ?_
         replace hm := sj hm
         subst hm
         have hm := hq9
         exact ⟨(!(inR z7.Until (0 : Int) (1000005 : Int))), hm, le [0] (by decide) (.c .a (.c (.b n0) (.x8 (.x4 (.x2 (.c (.e rfl rfl) (.c (.e rfl rfl) (.c (.e rfl rfl) (.x32 (.x4 (.x2 (.c (.e rfl rfl) (.c .a .n))))))))))))) (.b n0 (.c (.e rfl rfl) (.c (.e rfl rfl) (.c (.e rfl rfl) .n))) .n)⟩
     ·
      refine cnd n57 (fun h17 => ?_) (fun h17 => ?_)
      ·
       replace hm := ct h17 hm
       refine sr <| m (as_ .b) u2 <| e ?_
       replace hm := inl1 hm hq4
       subst hm
       exact rt (ret1 (.t n2 (.p rfl) .n) rfl)
      ·
       replace hm := cf h17 hm
       refine skp ?_
       refine rg <| m (add (.t n18) (.i rfl)) u58 <| m (mv (.t n58)) u18 <| e ?_
       exact ⟨i0 + 1, hm, le [0] (by decide) (.c .a (.c (.b n0) (.x8 (.x4 (.x2 (.c (.e rfl rfl) (.c (.e rfl rfl) (.c (.e (wi (by omega)) rfl) (.x32 (.x8 .n)))))))))) (.b n0 (.c (.e rfl rfl) (.c (.e rfl rfl) (.c (.e rfl rfl) .n))) .n)⟩
    ·
     replace hm := cf h6 hm
     have h6d := of_decide_eq_false h6
     refine ex (x1 ?_)
     replace hm := inr1 hm hq4
     exact ⟨(), hm, le [] (by decide) (.x32 (.x16 (.x8 (.x2 (.c .a .n))))) .n⟩
   ·
    refine sr <| m (as_ .b) u2 <| e ?_
    replace hm := sj hm
    subst hm
    exact rt (ret1 (.t n2 (.p rfl) .n) rfl)

theorem tot_impl_IsValidBook (b_ : D.ChallengeBook) (hp0 : b_.Open.length ≤ 34359738368) : Spec Tryz.prog G0 192 [.agg (D.ChallengeBook.V b_)] (fun v => v = .bool (bookOkF b_)) := sp_impl_IsValidBook b_ _ (t_impl_IsValidBook b_ hp0)

theorem sp_spec_IsValidAccount (a_ : D.Account) (r : Bool) (hm : m_spec_IsValidAccount a_ = some r) : Spec Tryz.prog G0 176 [.agg (D.Account.V a_)] (fun v => v = .bool r) := by
 rw [m_spec_IsValidAccount] at hm
 refine enter (l := [.tmp 2]) Tryz.func176 rfl Tryz.ntmps176 rfl T.en176 fun E => ?_
 simp only [List.length_cons, List.length_nil, List.replicate_succ, List.replicate_zero, List.cons_append, List.nil_append, Nat.reduceAdd, Nat.reduceSub]
 refine sr <| k (bx rfl s0 u1 (.t n0)) <| m (as_ .b) u2 <| e ?_
 refine sq ?_
 refine sr <| m (as_ (.i rfl)) u3 <| e ?_
 refine jmx hm (fun _ : Unit => ⟨[.any, .box 0 0, .any, .any, .any, .any, .any, .any, .any, .any, .any, .any, .any, .any, .any, .any, .any, .any, .any, .any, .any, .any, .any, .any, .any, .any, .any, .any, .any, .any, .any, .any, .any, .any, .any, .any, .any, .any, .any, .any, .any, .any, .any, .any, .any, .any, .any, .any, .any, .any, .any, .any, .any, .any, .any, .any, .any, .any, .any, .any, .any, .any, .any, .any, .any, .any, .any, .any, .any, .any, .any, .any, .any, .any, .any, .any, .any, .any], [.box 174 [.int .i64 a_.Id, .int .i64 a_.Minimum, .slice 4 (a_.Credentials.map D.Credential.V)]]⟩) (fun _ hm hq1 => ?_) (fun _ hm => ?_)
 ·
  refine bk ?_
  refine lpf (m := m_spec_IsValidAccount_l0 a_) hm (fun i0 : Nat => ⟨[.any, .box 0 0, .any, .int .i64 (i0 : Int), .any, .any, .any, .any, .any, .any, .any, .any, .any, .any, .any, .any, .any, .any, .any, .any, .any, .any, .any, .any, .any, .any, .any, .any, .any, .any, .any, .any, .any, .any, .any, .any, .any, .any, .any, .any, .any, .any, .any, .any, .any, .any, .any, .any, .any, .any, .any, .any, .any, .any, .any, .any, .any, .any, .any, .any, .any, .any, .any, .any, .any, .any, .any, .any, .any, .any, .any, .any, .any, .any, .any, .any, .any, .any], [.box 174 [.int .i64 a_.Id, .int .i64 a_.Minimum, .slice 4 (a_.Credentials.map D.Credential.V)]]⟩) (fun _ => rfl) (le [0] (by decide) (.c .a (.c (.b n0) (.c .a (.c (.e rfl rfl) (.x32 (.x32 (.x8 (.x2 .n)))))))) (.b n0 (.c (.e rfl rfl) (.c (.e rfl rfl) (.c (.e rfl rfl) .n))) .n)) ?_
  rintro f i0 hm
  rw [m_spec_IsValidAccount_l0] at hm
  refine sq ?_
  refine sr <| m (mv (.t n3)) u6 <| m (fab 2 rfl T.f174_2 (.t n1)) u7 <| m (ldb T.o172 n0 n2 (.t n7)) u8 <| m (lenm (l := a_.Credentials) (f := D.Credential.V) T.s172 (.t n8)) u9 <| m (lss (.t n6) (.t n9)) u10 <| e ?_
  refine rng n9 fun _ ra2 => ?_
  replace ra2 := (show (_ : Int) ≤ 9223372036854775807 from ra2)
  refine cnd n10 (fun h3 => ?_) (fun h3 => ?_)
  ·
   replace hm := ct h3 hm
   have h3d := of_decide_eq_true h3
   refine skp ?_
   refine sq ?_
   refine jmx hm (fun _ : Unit => ⟨[.any, .box 0 0, .any, .int .i64 (i0 : Int), .any, .any, .any, .any, .any, .any, .any, .any, .any, .any, .any, .any, .any, .any, .any, .any, .any, .any, .any, .any, .any, .any, .any, .any, .any, .any, .any, .any, .any, .any, .any, .any, .any, .any, .any, .any, .any, .any, .any, .any, .any, .any, .any, .any, .any, .any, .any, .any, .any, .any, .any, .any, .any, .any, .any, .any, .any, .any, .any, .any, .any, .any, .any, .any, .any, .any, .any, .any, .any, .any, .any, .any, .any, .any], [.box 174 [.int .i64 a_.Id, .int .i64 a_.Minimum, .slice 4 (a_.Credentials.map D.Credential.V)]]⟩) (fun _ hm hq4 => ?_) (fun _ hm => ?_)
   ·
    refine bk ?_
    obtain ⟨z5, e6, hm⟩ := bd_some hm
    refine sr <| m (fab 2 rfl T.f174_2 (.t n1)) u13 <| m (ldb T.o172 n0 n2 (.t n13)) u14 <| m (mv (.t n3)) u15 <| m (ixq (f := D.Credential.V) e6 T.s172 (.t n14) (.t n15)) u16 <| m (lae T.a176 k4 (.t n16)) u17 <| k (al T.z176 s1 u4) <| k (sta T.a176 rfl rfl n1 (.z (.z (.z (.z .n)))) q1 (.t n4) (.t n17)) <| e ?_
    refine sq ?_
    refine sd none [(0, true), (1, true), (2, false), (3, true), (4, true), (5, true), (6, true), (7, true), (8, true), (9, true), (10, true), (11, true), (12, true), (13, true), (14, true), (15, true), (16, true), (17, true), (18, true), (19, true), (20, true), (21, true), (22, true), (23, false), (24, true), (25, true), (26, true), (27, true), (28, true), (29, false), (30, true), (31, true)] T.mix (by kernel_rfl) <| rob hm (fun j2_49 : Bool => ⟨[.any, .box 0 0, .any, .int .i64 (i0 : Int), .box 1 0, .any, .any, .any, .any, .any, .any, .any, .any, .any, .any, .any, .any, .any, .any, .any, .any, .any, .any, .any, .any, .any, .any, .any, .any, .any, .any, .any, .any, .any, .any, .any, .any, .any, .any, .any, .any, .any, .any, .any, .any, .any, .any, .any, .any, .bool j2_49, .any, .any, .any, .any, .any, .any, .any, .any, .any, .any, .any, .any, .any, .any, .any, .any, .any, .any, .any, .any, .any, .any, .any, .any, .any, .any, .any, .any], [.box 174 [.int .i64 a_.Id, .int .i64 a_.Minimum, .slice 4 (a_.Credentials.map D.Credential.V)], .box 176 [.int .i64 z5.Handle, .int .i64 z5.Public, .int .i64 z5.Counter, .bool z5.Cut]]⟩) (fun _ hm hq7 => ?_) (fun j2_49 hm => ?_)
    ·
     refine om n0 (fab 0 rfl T.f176_0 (.t n4)) u18 <| om n1 (ldb T.o3 n1 n0 (.t n18)) u19 <| oc n2 (call (tot_spec_l1In z5.Handle (0 : Int) (1000000 : Int)) (.c (.t n19) rfl (.c (.i rfl) rfl (.c (.i rfl) rfl .n)))) u20 <| om n3 (not_ (.t n20)) u21 <| om n4 (mv (.t n21)) u22 <| osp n22 u22 u22 (fun h8 => ?_) (fun h8 => ?_)
     ·
      replace hm := ct h8 hm
      refine os n5 n4 rfl n22 rfl u23 <| os n6 n4 rfl n22 rfl u24 <| os n7 n4 rfl n22 rfl u25 <| osu n8 n7 rfl n25 u26 <| osu n9 n7 rfl n25 u27 <| osu n10 n7 rfl n25 u28 <| osu n11 n7 rfl n25 u29 <| osu n12 n7 rfl n25 u30 <| osu n13 n7 rfl n25 u31 <| osu n14 n7 rfl n25 u32 <| osu n15 n7 rfl n25 u33 <| osu n16 n7 rfl n25 u34 <| osu n17 n7 rfl n25 u35 <| os n18 n4 rfl n22 rfl u36 <| om n19 (pkt (.t n22) .b) u37 <| om n20 (mv (.t n37)) u38 <| os n21 n20 rfl n38 rfl u39 <| os n22 n20 rfl n38 rfl u40 <| osf n23 n20 rfl n38 rfl u41 <| os n24 n20 rfl n38 rfl u42 <| om n25 (pkt (.t n38) .b) u43 <| om n26 (mv (.t n43)) u44 <| os n27 n26 rfl n44 rfl u45 <| os n28 n26 rfl n44 rfl u46 <| osf n29 n26 rfl n44 rfl u47 <| os n30 n26 rfl n44 rfl u48 <| om n31 (pkt (.t n44) .b) u49 <| oe ?_
      replace hm := sj hm
      subst hm
      have hm := hq7
      exact ⟨true, hm, le [0, 1] (by decide) (.c .a (.c (.b n0) (.c .a (.c (.e rfl rfl) (.c (.b n1) (.x32 (.x8 (.x4 (.c (.e rfl rfl) (.x16 (.x8 (.x4 .n)))))))))))) (.b n0 (.c (.e rfl rfl) (.c (.e rfl rfl) (.c (.e rfl rfl) .n))) (.b n1 (.c (.e rfl rfl) (.c (.e rfl rfl) (.c (.e rfl rfl) (.c (.e rfl rfl) .n)))) .n))⟩
     ·
      replace hm := cf h8 hm
      refine omg n5 n4 rfl n22 (mv (.t n3)) u23 <| omg n6 n4 rfl n22 (gtr (.t n23) (.i rfl)) u24 <| omg n7 n4 rfl n22 (mv (.t n24)) u25 <| osp n25 u25 u25 (fun h9 => ?_) (fun h9 => ?_)
      ·
       replace hm := ct h9 hm
       obtain ⟨z10, e11, hm⟩ := bd_some hm
       refine omg n8 n7 rfl n25 (fab 2 rfl T.f174_2 (.t n1)) u26 <| omg n9 n7 rfl n25 (ldb T.o172 n0 n2 (.t n26)) u27 <| omg n10 n7 rfl n25 (mv (.t n3)) u28 <| omg n11 n7 rfl n25 (sub (.t n28) (.i rfl)) u29 <| omg n12 n7 rfl n25 (ixq (f := D.Credential.V) e11 T.s172 (.t n27) (.t n29)) u30 <| omg n13 n7 rfl n25 (fae T.f176_0 d0 (.t n30)) u31 <| omg n14 n7 rfl n25 (lde T.o3 n0 (.t n31)) u32 <| omg n15 n7 rfl n25 (fab 0 rfl T.f176_0 (.t n4)) u33 <| omg n16 n7 rfl n25 (ldb T.o3 n1 n0 (.t n33)) u34 <| omg n17 n7 rfl n25 (geq (.t n32) (.t n34)) u35 <| omg n18 n4 rfl n22 (pkt (.t n25) (.t n35)) u36 <| om n19 (pkf (.t n22) (.t n36)) u37 <| om n20 (mv (.t n37)) u38 <| osp n38 u38 u38 (fun h12 => ?_) (fun h12 => ?_)
       ·
        replace hm := ct h12 hm
        refine os n21 n20 rfl n38 rfl u39 <| os n22 n20 rfl n38 rfl u40 <| osf n23 n20 rfl n38 rfl u41 <| os n24 n20 rfl n38 rfl u42 <| om n25 (pkt (.t n38) .b) u43 <| om n26 (mv (.t n43)) u44 <| os n27 n26 rfl n44 rfl u45 <| os n28 n26 rfl n44 rfl u46 <| osf n29 n26 rfl n44 rfl u47 <| os n30 n26 rfl n44 rfl u48 <| om n31 (pkt (.t n44) .b) u49 <| oe ?_
        replace hm := sj hm
        subst hm
        have hm := hq7
        exact ⟨true, hm, le [0, 1] (by decide) (.c .a (.c (.b n0) (.c .a (.c (.e rfl rfl) (.c (.b n1) (.x32 (.x8 (.x4 (.c (.e rfl rfl) (.x16 (.x8 (.x4 .n)))))))))))) (.b n0 (.c (.e rfl rfl) (.c (.e rfl rfl) (.c (.e rfl rfl) .n))) (.b n1 (.c (.e rfl rfl) (.c (.e rfl rfl) (.c (.e rfl rfl) (.c (.e rfl rfl) .n)))) .n))⟩
       ·
        replace hm := cf h12 hm
        refine omg n21 n20 rfl n38 (fab 1 rfl T.f176_1 (.t n4)) u39 <| omg n22 n20 rfl n38 (ldb T.o3 n1 n1 (.t n39)) u40 <| ocg n23 n20 rfl n38 (call (tot_spec_PrivateKey z5.Public) (.c (.t n40) rfl .n)) u41 <| omg n24 n20 rfl n38 (eql (.t n41) (.i rfl)) u42 <| om n25 (pkf (.t n38) (.t n42)) u43 <| om n26 (mv (.t n43)) u44 <| osp n44 u44 u44 (fun h13 => ?_) (fun h13 => ?_)
        ·
         replace hm := ct h13 hm
         refine os n27 n26 rfl n44 rfl u45 <| os n28 n26 rfl n44 rfl u46 <| osf n29 n26 rfl n44 rfl u47 <| os n30 n26 rfl n44 rfl u48 <| om n31 (pkt (.t n44) .b) u49 <| oe ?_
         replace hm := sj hm
         subst hm
         have hm := hq7
         exact ⟨true, hm, le [0, 1] (by decide) (.c .a (.c (.b n0) (.c .a (.c (.e rfl rfl) (.c (.b n1) (.x32 (.x8 (.x4 (.c (.e rfl rfl) (.x16 (.x8 (.x4 .n)))))))))))) (.b n0 (.c (.e rfl rfl) (.c (.e rfl rfl) (.c (.e rfl rfl) .n))) (.b n1 (.c (.e rfl rfl) (.c (.e rfl rfl) (.c (.e rfl rfl) (.c (.e rfl rfl) .n)))) .n))⟩
        ·
         replace hm := cf h13 hm
         refine omg n27 n26 rfl n44 (fab 2 rfl T.f176_2 (.t n4)) u45 <| omg n28 n26 rfl n44 (ldb T.o3 n1 n2 (.t n45)) u46 <| ocg n29 n26 rfl n44 (call (tot_spec_l1In z5.Counter (0 : Int) (1000000 : Int)) (.c (.t n46) rfl (.c (.i rfl) rfl (.c (.i rfl) rfl .n)))) u47 <| omg n30 n26 rfl n44 (not_ (.t n47)) u48 <| om n31 (pkf (.t n44) (.t n48)) u49 <| oe ?_
         replace hm := sj hm
         subst hm
         have hm := hq7
         exact ⟨(!(inR z5.Counter (0 : Int) (1000000 : Int))), hm, le [0, 1] (by decide) (.c .a (.c (.b n0) (.c .a (.c (.e rfl rfl) (.c (.b n1) (.x32 (.x8 (.x4 (.c (.e rfl rfl) (.x16 (.x8 (.x4 .n)))))))))))) (.b n0 (.c (.e rfl rfl) (.c (.e rfl rfl) (.c (.e rfl rfl) .n))) (.b n1 (.c (.e rfl rfl) (.c (.e rfl rfl) (.c (.e rfl rfl) (.c (.e rfl rfl) .n)))) .n))⟩
      ·
       replace hm := cf h9 hm
       refine os n8 n7 rfl n25 rfl u26 <| os n9 n7 rfl n25 rfl u27 <| os n10 n7 rfl n25 rfl u28 <| os n11 n7 rfl n25 rfl u29 <| os n12 n7 rfl n25 rfl u30 <| os n13 n7 rfl n25 rfl u31 <| os n14 n7 rfl n25 rfl u32 <| os n15 n7 rfl n25 rfl u33 <| os n16 n7 rfl n25 rfl u34 <| os n17 n7 rfl n25 rfl u35 <| omg n18 n4 rfl n22 (pkf (.t n25) .b) u36 <| om n19 (pkf (.t n22) (.t n36)) u37 <| om n20 (mv (.t n37)) u38 <| omg n21 n20 rfl n38 (fab 1 rfl T.f176_1 (.t n4)) u39 <| omg n22 n20 rfl n38 (ldb T.o3 n1 n1 (.t n39)) u40 <| ocg n23 n20 rfl n38 (call (tot_spec_PrivateKey z5.Public) (.c (.t n40) rfl .n)) u41 <| omg n24 n20 rfl n38 (eql (.t n41) (.i rfl)) u42 <| om n25 (pkf (.t n38) (.t n42)) u43 <| om n26 (mv (.t n43)) u44 <| osp n44 u44 u44 (fun h14 => ?_) (fun h14 => ?_)
       ·
        replace hm := ct h14 hm
        refine os n27 n26 rfl n44 rfl u45 <| os n28 n26 rfl n44 rfl u46 <| osf n29 n26 rfl n44 rfl u47 <| os n30 n26 rfl n44 rfl u48 <| om n31 (pkt (.t n44) .b) u49 <| oe ?_
        replace hm := sj hm
        subst hm
        have hm := hq7
        exact ⟨true, hm, le [0, 1] (by decide) (.c .a (.c (.b n0) (.c .a (.c (.e rfl rfl) (.c (.b n1) (.x32 (.x8 (.x4 (.c (.e rfl rfl) (.x16 (.x8 (.x4 .n)))))))))))) (.b n0 (.c (.e rfl rfl) (.c (.e rfl rfl) (.c (.e rfl rfl) .n))) (.b n1 (.c (.e rfl rfl) (.c (.e rfl rfl) (.c (.e rfl rfl) (.c (.e rfl rfl) .n)))) .n))⟩
       ·
        replace hm := cf h14 hm
        refine omg n27 n26 rfl n44 (fab 2 rfl T.f176_2 (.t n4)) u45 <| omg n28 n26 rfl n44 (ldb T.o3 n1 n2 (.t n45)) u46 <| ocg n29 n26 rfl n44 (call (tot_spec_l1In z5.Counter (0 : Int) (1000000 : Int)) (.c (.t n46) rfl (.c (.i rfl) rfl (.c (.i rfl) rfl .n)))) u47 <| omg n30 n26 rfl n44 (not_ (.t n47)) u48 <| om n31 (pkf (.t n44) (.t n48)) u49 <| oe ?_
        replace hm := sj hm
        subst hm
        have hm := hq7
        exact ⟨(!(inR z5.Counter (0 : Int) (1000000 : Int))), hm, le [0, 1] (by decide) (.c .a (.c (.b n0) (.c .a (.c (.e rfl rfl) (.c (.b n1) (.x32 (.x8 (.x4 (.c (.e rfl rfl) (.x16 (.x8 (.x4 .n)))))))))))) (.b n0 (.c (.e rfl rfl) (.c (.e rfl rfl) (.c (.e rfl rfl) .n))) (.b n1 (.c (.e rfl rfl) (.c (.e rfl rfl) (.c (.e rfl rfl) (.c (.e rfl rfl) .n)))) .n))⟩
    ·
     refine cnd n49 (fun h15 => ?_) (fun h15 => ?_)
     ·
      replace hm := ct h15 hm
      refine sr <| m (as_ .b) u2 <| e ?_
      replace hm := inl1 hm hq4
      replace hm := inl2 hm hq1
      subst hm
      exact rt (ret1 (.t n2 (.p rfl) .n) rfl)
     ·
      replace hm := cf h15 hm
      refine skp ?_
      refine sr <| m (as_ (.i rfl)) u5 <| e ?_
      refine jmx hm (fun _ : Unit => ⟨[.any, .box 0 0, .any, .int .i64 (i0 : Int), .any, .any, .any, .any, .any, .any, .any, .any, .any, .any, .any, .any, .any, .any, .any, .any, .any, .any, .any, .any, .any, .any, .any, .any, .any, .any, .any, .any, .any, .any, .any, .any, .any, .any, .any, .any, .any, .any, .any, .any, .any, .any, .any, .any, .any, .any, .any, .any, .any, .any, .any, .any, .any, .any, .any, .any, .any, .any, .any, .any, .any, .any, .any, .any, .any, .any, .any, .any, .any, .any, .any, .any, .any, .any], [.box 174 [.int .i64 a_.Id, .int .i64 a_.Minimum, .slice 4 (a_.Credentials.map D.Credential.V)]]⟩) (fun _ hm hq16 => ?_) (fun _ hm => ?_)
      ·
       refine bk ?_
       refine lpf (m := m_spec_IsValidAccount_l1 a_ i0 z5) hm (fun i1 : Nat => ⟨[.any, .box 0 0, .any, .int .i64 (i0 : Int), .box 1 0, .int .i64 (i1 : Int), .any, .any, .any, .any, .any, .any, .any, .any, .any, .any, .any, .any, .any, .any, .any, .any, .any, .any, .any, .any, .any, .any, .any, .any, .any, .any, .any, .any, .any, .any, .any, .any, .any, .any, .any, .any, .any, .any, .any, .any, .any, .any, .any, .any, .any, .any, .any, .any, .any, .any, .any, .any, .any, .any, .any, .any, .any, .any, .any, .any, .any, .any, .any, .any, .any, .any, .any, .any, .any, .any, .any, .any], [.box 174 [.int .i64 a_.Id, .int .i64 a_.Minimum, .slice 4 (a_.Credentials.map D.Credential.V)], .box 176 [.int .i64 z5.Handle, .int .i64 z5.Public, .int .i64 z5.Counter, .bool z5.Cut]]⟩) (fun _ => rfl) (le [0, 1] (by decide) (.c .a (.c (.b n0) (.c .a (.c (.e rfl rfl) (.c (.b n1) (.c (.e rfl rfl) (.x32 (.x32 (.x8 .n))))))))) (.b n0 (.c (.e rfl rfl) (.c (.e rfl rfl) (.c (.e rfl rfl) .n))) (.b n1 (.c (.e rfl rfl) (.c (.e rfl rfl) (.c (.e rfl rfl) (.c (.e rfl rfl) .n)))) .n))) ?_
       rintro f i1 hm
       rw [m_spec_IsValidAccount_l1] at hm
       refine sq ?_
       refine sr <| m (mv (.t n5)) u50 <| m (mv (.t n3)) u51 <| m (lss (.t n50) (.t n51)) u52 <| e ?_
       refine cnd n52 (fun h17 => ?_) (fun h17 => ?_)
       ·
        replace hm := ct h17 hm
        have h17d := of_decide_eq_true h17
        refine skp ?_
        refine sq ?_
        refine bk ?_
        obtain ⟨z18, e19, hm⟩ := bd_some hm
        refine sd none [(0, true), (1, true), (2, true), (3, true), (4, true), (5, true), (6, true), (7, true), (8, true)] T.mix (by kernel_rfl) <| om n0 (fab 2 rfl T.f174_2 (.t n1)) u55 <| om n1 (ldb T.o172 n0 n2 (.t n55)) u56 <| om n2 (mv (.t n5)) u57 <| om n3 (ixq (f := D.Credential.V) e19 T.s172 (.t n56) (.t n57)) u58 <| om n4 (fae T.f176_1 d1 (.t n58)) u59 <| om n5 (lde T.o3 n0 (.t n59)) u60 <| om n6 (fab 1 rfl T.f176_1 (.t n4)) u61 <| om n7 (ldb T.o3 n1 n1 (.t n61)) u62 <| om n8 (eql (.t n60) (.t n62)) u63 <| oe ?_
        refine cnd n63 (fun h20 => ?_) (fun h20 => ?_)
        ·
         replace hm := ct h20 hm
         refine sr <| m (as_ .b) u2 <| e ?_
         replace hm := inl1 hm hq16
         replace hm := inl2 hm hq4
         replace hm := inl2 hm hq1
         subst hm
         exact rt (ret1 (.t n2 (.p rfl) .n) rfl)
        ·
         replace hm := cf h20 hm
         refine skp ?_
         refine rg <| m (mv (.t n5)) u53 <| m (add (.t n53) (.i rfl)) u54 <| m (as_ (.t n54)) u5 <| e ?_
         obtain ⟨c21, hm⟩ := gd_some hm
         exact ⟨i1 + 1, hm, le [0, 1] (by decide) (.c .a (.c (.b n0) (.c .a (.c (.e rfl rfl) (.c (.b n1) (.c (.e (wi c21) rfl) (.x32 (.x32 (.x8 .n))))))))) (.b n0 (.c (.e rfl rfl) (.c (.e rfl rfl) (.c (.e rfl rfl) .n))) (.b n1 (.c (.e rfl rfl) (.c (.e rfl rfl) (.c (.e rfl rfl) (.c (.e rfl rfl) .n)))) .n))⟩
       ·
        replace hm := cf h17 hm
        have h17d := of_decide_eq_false h17
        refine ex (x1 ?_)
        replace hm := inr1 hm hq16
        exact ⟨(), hm, le [0] (by decide) (.c .a (.c (.b n0) (.c .a (.c (.e rfl rfl) (.x32 (.x32 (.x8 (.x2 .n)))))))) (.b n0 (.c (.e rfl rfl) (.c (.e rfl rfl) (.c (.e rfl rfl) .n))) .n)⟩
      ·
       replace hm := inr1 hm hq4
       exact ⟨(), hm, le [0] (by decide) (.c .a (.c (.b n0) (.c .a (.c (.e rfl rfl) (.x32 (.x32 (.x8 (.x2 .n)))))))) (.b n0 (.c (.e rfl rfl) (.c (.e rfl rfl) (.c (.e rfl rfl) .n))) .n)⟩
   ·
    refine rg <| m (mv (.t n3)) u11 <| m (add (.t n11) (.i rfl)) u12 <| m (as_ (.t n12)) u3 <| e ?_
    exact ⟨i0 + 1, hm, le [0] (by decide) (.c .a (.c (.b n0) (.c .a (.c (.e (wi (by omega)) rfl) (.x32 (.x32 (.x8 (.x2 .n)))))))) (.b n0 (.c (.e rfl rfl) (.c (.e rfl rfl) (.c (.e rfl rfl) .n))) .n)⟩
  ·
   replace hm := cf h3 hm
   have h3d := of_decide_eq_false h3
   refine ex (x1 ?_)
   replace hm := inr1 hm hq1
   exact ⟨(), hm, le [0] (by decide) (.c .a (.c (.b n0) (.x32 (.x32 (.x8 (.x4 .n)))))) (.b n0 (.c (.e rfl rfl) (.c (.e rfl rfl) (.c (.e rfl rfl) .n))) .n)⟩
 ·
  refine sr <| rjb hm (fun j4_2 : Bool => ⟨[.any, .any, .bool j4_2, .any, .any, .any, .any, .any, .any, .any, .any, .any, .any, .any, .any, .any, .any, .any, .any, .any, .any, .any, .any, .any, .any, .any, .any, .any, .any, .any, .any, .any, .any, .any, .any, .any, .any, .any, .any, .any, .any, .any, .any, .any, .any, .any, .any, .any, .any, .any, .any, .any, .any, .any, .any, .any, .any, .any, .any, .any, .any, .any, .any, .any, .any, .any, .any, .any, .any, .any, .any, .any, .any, .any, .any, .any, .any, .any], []⟩) (fun _ hm hq22 => ?_) (fun j4_2 hm => ?_)
  ·
   refine m (fab 0 rfl T.f174_0 (.t n1)) u64 <| m (ldb T.o3 n0 n0 (.t n64)) u65 <| c (call (tot_spec_l1In a_.Id (0 : Int) (1000000 : Int)) (.c (.t n65) rfl (.c (.i rfl) rfl (.c (.i rfl) rfl .n)))) u66 <| m (mv (.t n66)) u67 <| sp n67 u67 u67 (fun h23 => ?_) (fun h23 => ?_)
   ·
    replace hm := ct h23 hm
    refine mg n3 rfl n67 (fab 1 rfl T.f174_1 (.t n1)) u68 <| mg n3 rfl n67 (ldb T.o3 n0 n1 (.t n68)) u69 <| cg n3 rfl n67 (call (tot_spec_l1In a_.Minimum (1 : Int) (3 : Int)) (.c (.t n69) rfl (.c (.i rfl) rfl (.c (.i rfl) rfl .n)))) u70 <| m (pkt (.t n67) (.t n70)) u71 <| m (mv (.t n71)) u72 <| sp n72 u72 u72 (fun h24 => ?_) (fun h24 => ?_)
    ·
     replace hm := ct h24 hm
     refine mg n8 rfl n72 (fab 2 rfl T.f174_2 (.t n1)) u73 <| mg n8 rfl n72 (ldb T.o172 n0 n2 (.t n73)) u74 <| mg n8 rfl n72 (lenm (l := a_.Credentials) (f := D.Credential.V) T.s172 (.t n74)) u75 <| mg n8 rfl n72 (leq (.t n75) (.i rfl)) u76 <| m (pkt (.t n72) (.t n76)) u77 <| m (as_ (.t n77)) u2 <| e ?_
     replace hm := sj hm
     subst hm
     have hm := hq22
     exact ⟨decide ((a_.Credentials.length : Int) ≤ (8 : Int)), hm, le [] (by decide) (.x2 (.c (.e rfl rfl) (.x32 (.x32 (.x8 (.x2 (.c .a .n))))))) .n⟩
    ·
     replace hm := cf h24 hm
     refine sk n8 rfl n72 rfl u73 <| sk n8 rfl n72 rfl u74 <| sk n8 rfl n72 rfl u75 <| sk n8 rfl n72 rfl u76 <| m (pkf (.t n72) .b) u77 <| m (as_ (.t n77)) u2 <| e ?_
     replace hm := sj hm
     subst hm
     have hm := hq22
     exact ⟨false, hm, le [] (by decide) (.x2 (.c (.e rfl rfl) (.x32 (.x32 (.x8 (.x2 (.c .a .n))))))) .n⟩
   ·
    replace hm := cf h23 hm
    refine sk n3 rfl n67 rfl u68 <| sk n3 rfl n67 rfl u69 <| sk n3 rfl n67 rfl u70 <| m (pkf (.t n67) .b) u71 <| m (mv (.t n71)) u72 <| sk n8 rfl n72 rfl u73 <| sk n8 rfl n72 rfl u74 <| sk n8 rfl n72 rfl u75 <| sk n8 rfl n72 rfl u76 <| m (pkf (.t n72) .b) u77 <| m (as_ (.t n77)) u2 <| e ?_
    replace hm := sj hm
    subst hm
    have hm := hq22
    exact ⟨false, hm, le [] (by decide) (.x2 (.c (.e rfl rfl) (.x32 (.x32 (.x8 (.x2 (.c .a .n))))))) .n⟩
  ·
   replace hm := sj hm
   subst hm
   exact rt (ret1 (.t n2 (.p rfl) .n) rfl)

theorem tot_spec_IsValidAccount (a_ : D.Account) (hp0 : a_.Credentials.length ≤ 34359738368) : Spec Tryz.prog G0 176 [.agg (D.Account.V a_)] (fun v => v = .bool (accountOkF a_)) := sp_spec_IsValidAccount a_ _ (t_spec_IsValidAccount a_ hp0)

theorem sp_impl_IsValidAccount (a_ : D.Account) (r : Bool) (hm : m_impl_IsValidAccount a_ = some r) : Spec Tryz.prog G0 193 [.agg (D.Account.V a_)] (fun v => v = .bool r) := by
 rw [m_impl_IsValidAccount] at hm
 refine enter (l := [.tmp 2]) Tryz.func193 rfl Tryz.ntmps193 rfl T.en193 fun E => ?_
 simp only [List.length_cons, List.length_nil, List.replicate_succ, List.replicate_zero, List.cons_append, List.nil_append, Nat.reduceAdd, Nat.reduceSub]
 refine sr <| k (bx rfl s0 u1 (.t n0)) <| m (as_ .b) u2 <| e ?_
 refine sq ?_
 refine sr <| rjb hm (fun j0_22 : Bool => ⟨[.any, .box 0 0, .any, .any, .any, .any, .any, .any, .any, .any, .any, .any, .any, .any, .any, .any, .any, .any, .any, .any, .any, .any, .bool j0_22, .any, .any, .any, .any, .any, .any, .any, .any, .any, .any, .any, .any, .any, .any, .any, .any, .any, .any, .any, .any, .any, .any, .any, .any, .any, .any, .any, .any, .any, .any, .any, .any, .any, .any, .any, .any, .any, .any, .any, .any, .any, .any, .any, .any, .any, .any, .any, .any, .any, .any, .any, .any, .any, .any, .any, .any], [.box 174 [.int .i64 a_.Id, .int .i64 a_.Minimum, .slice 4 (a_.Credentials.map D.Credential.V)]]⟩) (fun _ hm hq1 => ?_) (fun j0_22 hm => ?_)
 ·
  refine m (fab 0 rfl T.f174_0 (.t n1)) u7 <| m (ldb T.o3 n0 n0 (.t n7)) u8 <| c (call (tot_impl_InRange a_.Id (0 : Int) (1000000 : Int)) (.c (.t n8) rfl (.c (.i rfl) rfl (.c (.i rfl) rfl .n)))) u9 <| m (not_ (.t n9)) u10 <| m (mv (.t n10)) u11 <| sp n11 u11 u11 (fun h2 => ?_) (fun h2 => ?_)
  ·
   replace hm := ct h2 hm
   refine sk n4 rfl n11 rfl u12 <| sk n4 rfl n11 rfl u13 <| sk n4 rfl n11 rfl u14 <| sk n4 rfl n11 rfl u15 <| m (pkt (.t n11) .b) u16 <| m (mv (.t n16)) u17 <| sk n10 rfl n17 rfl u18 <| sk n10 rfl n17 rfl u19 <| sk n10 rfl n17 rfl u20 <| sk n10 rfl n17 rfl u21 <| m (pkt (.t n17) .b) u22 <| e ?_
   replace hm := sj hm
   subst hm
   have hm := hq1
   exact ⟨true, hm, le [0] (by decide) (.c .a (.c (.b n0) (.x16 (.x4 (.c (.e rfl rfl) (.x32 (.x16 (.x8 .n)))))))) (.b n0 (.c (.e rfl rfl) (.c (.e rfl rfl) (.c (.e rfl rfl) .n))) .n)⟩
  ·
   replace hm := cf h2 hm
   refine mg n4 rfl n11 (fab 1 rfl T.f174_1 (.t n1)) u12 <| mg n4 rfl n11 (ldb T.o3 n0 n1 (.t n12)) u13 <| cg n4 rfl n11 (call (tot_impl_InRange a_.Minimum (1 : Int) (3 : Int)) (.c (.t n13) rfl (.c (.i rfl) rfl (.c (.i rfl) rfl .n)))) u14 <| mg n4 rfl n11 (not_ (.t n14)) u15 <| m (pkf (.t n11) (.t n15)) u16 <| m (mv (.t n16)) u17 <| sp n17 u17 u17 (fun h3 => ?_) (fun h3 => ?_)
   ·
    replace hm := ct h3 hm
    refine sk n10 rfl n17 rfl u18 <| sk n10 rfl n17 rfl u19 <| sk n10 rfl n17 rfl u20 <| sk n10 rfl n17 rfl u21 <| m (pkt (.t n17) .b) u22 <| e ?_
    replace hm := sj hm
    subst hm
    have hm := hq1
    exact ⟨true, hm, le [0] (by decide) (.c .a (.c (.b n0) (.x16 (.x4 (.c (.e rfl rfl) (.x32 (.x16 (.x8 .n)))))))) (.b n0 (.c (.e rfl rfl) (.c (.e rfl rfl) (.c (.e rfl rfl) .n))) .n)⟩
   ·
    replace hm := cf h3 hm
    refine mg n10 rfl n17 (fab 2 rfl T.f174_2 (.t n1)) u18 <| mg n10 rfl n17 (ldb T.o172 n0 n2 (.t n18)) u19 <| mg n10 rfl n17 (lenm (l := a_.Credentials) (f := D.Credential.V) T.s172 (.t n19)) u20 <| mg n10 rfl n17 (gtr (.t n20) (.i rfl)) u21 <| m (pkf (.t n17) (.t n21)) u22 <| e ?_
    replace hm := sj hm
    subst hm
    have hm := hq1
    exact ⟨decide ((a_.Credentials.length : Int) > (8 : Int)), hm, le [0] (by decide) (.c .a (.c (.b n0) (.x16 (.x4 (.c (.e rfl rfl) (.x32 (.x16 (.x8 .n)))))))) (.b n0 (.c (.e rfl rfl) (.c (.e rfl rfl) (.c (.e rfl rfl) .n))) .n)⟩
 ·
  refine cnd n22 (fun h4 => ?_) (fun h4 => ?_)
  ·
   replace hm := ct h4 hm
   refine sr <| m (as_ .b) u2 <| e ?_
   replace hm := sj hm
   subst hm
   exact rt (ret1 (.t n2 (.p rfl) .n) rfl)
  ·
   replace hm := cf h4 hm
   refine skp ?_
   refine sq ?_
   refine sr <| m (fab 2 rfl T.f174_2 (.t n1)) u23 <| m (ldb T.o172 n0 n2 (.t n23)) u24 <| m (lenm (l := a_.Credentials) (f := D.Credential.V) T.s172 (.t n24)) u25 <| m (mv (.i rfl)) u26 <| e ?_
   refine jmx hm (fun _ : Unit => ⟨[.any, .any, .any, .any, .any, .any, .any, .any, .any, .any, .any, .any, .any, .any, .any, .any, .any, .any, .any, .any, .any, .any, .any, .any, .any, .any, .any, .any, .any, .any, .any, .any, .any, .any, .any, .any, .any, .any, .any, .any, .any, .any, .any, .any, .any, .any, .any, .any, .any, .any, .any, .any, .any, .any, .any, .any, .any, .any, .any, .any, .any, .any, .any, .any, .any, .any, .any, .any, .any, .any, .any, .any, .any, .any, .any, .any, .any, .any, .any], []⟩) (fun _ hm hq5 => ?_) (fun _ hm => ?_)
   ·
    refine bk ?_
    refine lpf (m := m_impl_IsValidAccount_l0 a_) hm (fun i0 : Nat => ⟨[.any, .box 0 0, .any, .any, .any, .any, .any, .any, .any, .any, .any, .any, .any, .any, .any, .any, .any, .any, .any, .any, .any, .any, .any, .any, .slice 4 (a_.Credentials.map D.Credential.V), .int .i64 (a_.Credentials.length : Int), .int .i64 (i0 : Int), .any, .any, .any, .any, .any, .any, .any, .any, .any, .any, .any, .any, .any, .any, .any, .any, .any, .any, .any, .any, .any, .any, .any, .any, .any, .any, .any, .any, .any, .any, .any, .any, .any, .any, .any, .any, .any, .any, .any, .any, .any, .any, .any, .any, .any, .any, .any, .any, .any, .any, .any, .any], [.box 174 [.int .i64 a_.Id, .int .i64 a_.Minimum, .slice 4 (a_.Credentials.map D.Credential.V)]]⟩) (fun _ => rfl) (le [0] (by decide) (.c .a (.c (.b n0) (.x16 (.x4 (.x2 (.c (.e rfl rfl) (.c (.e rfl rfl) (.c (.e rfl rfl) (.x32 (.x16 (.x4 .n))))))))))) (.b n0 (.c (.e rfl rfl) (.c (.e rfl rfl) (.c (.e rfl rfl) .n))) .n)) ?_
    rintro f i0 hm
    rw [m_impl_IsValidAccount_l0] at hm
    refine sr <| m (lss (.t n26) (.t n25)) u27 <| e ?_
    refine rng n25 fun _ ra6 => ?_
    replace ra6 := (show (_ : Int) ≤ 9223372036854775807 from ra6)
    refine sq ?_
    refine cnd n27 (fun h7 => ?_) (fun h7 => ?_)
    ·
     replace hm := ct h7 hm
     have h7d := of_decide_eq_true h7
     refine skp ?_
     refine sq ?_
     refine jmx hm (fun _ : Unit => ⟨[.any, .box 0 0, .any, .any, .any, .any, .any, .any, .any, .any, .any, .any, .any, .any, .any, .any, .any, .any, .any, .any, .any, .any, .any, .any, .slice 4 (a_.Credentials.map D.Credential.V), .int .i64 (a_.Credentials.length : Int), .int .i64 (i0 : Int), .any, .any, .any, .any, .any, .any, .any, .any, .any, .any, .any, .any, .any, .any, .any, .any, .any, .any, .any, .any, .any, .any, .any, .any, .any, .any, .any, .any, .any, .any, .any, .any, .any, .any, .any, .any, .any, .any, .any, .any, .any, .any, .any, .any, .any, .any, .any, .any, .any, .any, .any, .any], [.box 174 [.int .i64 a_.Id, .int .i64 a_.Minimum, .slice 4 (a_.Credentials.map D.Credential.V)]]⟩) (fun _ hm hq8 => ?_) (fun _ hm => ?_)
     ·
      refine bk ?_
      obtain ⟨z9, e10, hm⟩ := bd_some hm
      refine sr <| m (mv (.t n26)) u28 <| m (ixq (f := D.Credential.V) e10 T.s172 (.t n24) (.t n26)) u29 <| m (lae T.a176 k4 (.t n29)) u30 <| k (al T.z176 s1 u4) <| m (as_ (.t n28)) u3 <| k (sta T.a176 rfl rfl n1 (.z (.z (.z (.z .n)))) q1 (.t n4) (.t n30)) <| e ?_
      refine sq ?_
      refine sd none [(0, true), (1, true), (2, false), (3, true), (4, true), (5, true), (6, true), (7, true), (8, true), (9, true), (10, true), (11, true), (12, true), (13, true), (14, true), (15, true), (16, true), (17, true), (18, true), (19, true), (20, true), (21, true), (22, true), (23, false), (24, true), (25, true), (26, true), (27, true), (28, true), (29, false), (30, true), (31, true)] T.mix (by kernel_rfl) <| rob hm (fun j3_62 : Bool => ⟨[.any, .box 0 0, .any, .int .i64 (i0 : Int), .box 1 0, .any, .any, .any, .any, .any, .any, .any, .any, .any, .any, .any, .any, .any, .any, .any, .any, .any, .any, .any, .slice 4 (a_.Credentials.map D.Credential.V), .int .i64 (a_.Credentials.length : Int), .int .i64 (i0 : Int), .any, .any, .any, .any, .any, .any, .any, .any, .any, .any, .any, .any, .any, .any, .any, .any, .any, .any, .any, .any, .any, .any, .any, .any, .any, .any, .any, .any, .any, .any, .any, .any, .any, .any, .any, .bool j3_62, .any, .any, .any, .any, .any, .any, .any, .any, .any, .any, .any, .any, .any, .any, .any, .any], [.box 174 [.int .i64 a_.Id, .int .i64 a_.Minimum, .slice 4 (a_.Credentials.map D.Credential.V)], .box 176 [.int .i64 z9.Handle, .int .i64 z9.Public, .int .i64 z9.Counter, .bool z9.Cut]]⟩) (fun _ hm hq11 => ?_) (fun j3_62 hm => ?_)
      ·
       refine om n0 (fab 0 rfl T.f176_0 (.t n4)) u31 <| om n1 (ldb T.o3 n1 n0 (.t n31)) u32 <| oc n2 (call (tot_impl_InRange z9.Handle (0 : Int) (1000000 : Int)) (.c (.t n32) rfl (.c (.i rfl) rfl (.c (.i rfl) rfl .n)))) u33 <| om n3 (not_ (.t n33)) u34 <| om n4 (mv (.t n34)) u35 <| osp n35 u35 u35 (fun h12 => ?_) (fun h12 => ?_)
       ·
        replace hm := ct h12 hm
        refine os n5 n4 rfl n35 rfl u36 <| os n6 n4 rfl n35 rfl u37 <| os n7 n4 rfl n35 rfl u38 <| osu n8 n7 rfl n38 u39 <| osu n9 n7 rfl n38 u40 <| osu n10 n7 rfl n38 u41 <| osu n11 n7 rfl n38 u42 <| osu n12 n7 rfl n38 u43 <| osu n13 n7 rfl n38 u44 <| osu n14 n7 rfl n38 u45 <| osu n15 n7 rfl n38 u46 <| osu n16 n7 rfl n38 u47 <| osu n17 n7 rfl n38 u48 <| os n18 n4 rfl n35 rfl u49 <| om n19 (pkt (.t n35) .b) u50 <| om n20 (mv (.t n50)) u51 <| os n21 n20 rfl n51 rfl u52 <| os n22 n20 rfl n51 rfl u53 <| osf n23 n20 rfl n51 rfl u54 <| os n24 n20 rfl n51 rfl u55 <| om n25 (pkt (.t n51) .b) u56 <| om n26 (mv (.t n56)) u57 <| os n27 n26 rfl n57 rfl u58 <| os n28 n26 rfl n57 rfl u59 <| osf n29 n26 rfl n57 rfl u60 <| os n30 n26 rfl n57 rfl u61 <| om n31 (pkt (.t n57) .b) u62 <| oe ?_
        replace hm := sj hm
        subst hm
        have hm := hq11
        exact ⟨true, hm, le [0, 1] (by decide) (.c .a (.c (.b n0) (.c .a (.c (.e rfl rfl) (.c (.b n1) (.x16 (.x2 (.c .a (.c (.e rfl rfl) (.c (.e rfl rfl) (.c (.e rfl rfl) (.x32 (.x2 (.c .a (.c (.e rfl rfl) (.x16 .n)))))))))))))))) (.b n0 (.c (.e rfl rfl) (.c (.e rfl rfl) (.c (.e rfl rfl) .n))) (.b n1 (.c (.e rfl rfl) (.c (.e rfl rfl) (.c (.e rfl rfl) (.c (.e rfl rfl) .n)))) .n))⟩
       ·
        replace hm := cf h12 hm
        refine omg n5 n4 rfl n35 (mv (.t n3)) u36 <| omg n6 n4 rfl n35 (gtr (.t n36) (.i rfl)) u37 <| omg n7 n4 rfl n35 (mv (.t n37)) u38 <| osp n38 u38 u38 (fun h13 => ?_) (fun h13 => ?_)
        ·
         replace hm := ct h13 hm
         obtain ⟨z14, e15, hm⟩ := bd_some hm
         refine omg n8 n7 rfl n38 (fab 2 rfl T.f174_2 (.t n1)) u39 <| omg n9 n7 rfl n38 (ldb T.o172 n0 n2 (.t n39)) u40 <| omg n10 n7 rfl n38 (mv (.t n3)) u41 <| omg n11 n7 rfl n38 (sub (.t n41) (.i rfl)) u42 <| omg n12 n7 rfl n38 (ixq (f := D.Credential.V) e15 T.s172 (.t n40) (.t n42)) u43 <| omg n13 n7 rfl n38 (fae T.f176_0 d0 (.t n43)) u44 <| omg n14 n7 rfl n38 (lde T.o3 n0 (.t n44)) u45 <| omg n15 n7 rfl n38 (fab 0 rfl T.f176_0 (.t n4)) u46 <| omg n16 n7 rfl n38 (ldb T.o3 n1 n0 (.t n46)) u47 <| omg n17 n7 rfl n38 (geq (.t n45) (.t n47)) u48 <| omg n18 n4 rfl n35 (pkt (.t n38) (.t n48)) u49 <| om n19 (pkf (.t n35) (.t n49)) u50 <| om n20 (mv (.t n50)) u51 <| osp n51 u51 u51 (fun h16 => ?_) (fun h16 => ?_)
         ·
          replace hm := ct h16 hm
          refine os n21 n20 rfl n51 rfl u52 <| os n22 n20 rfl n51 rfl u53 <| osf n23 n20 rfl n51 rfl u54 <| os n24 n20 rfl n51 rfl u55 <| om n25 (pkt (.t n51) .b) u56 <| om n26 (mv (.t n56)) u57 <| os n27 n26 rfl n57 rfl u58 <| os n28 n26 rfl n57 rfl u59 <| osf n29 n26 rfl n57 rfl u60 <| os n30 n26 rfl n57 rfl u61 <| om n31 (pkt (.t n57) .b) u62 <| oe ?_
          replace hm := sj hm
          subst hm
          have hm := hq11
          exact ⟨true, hm, le [0, 1] (by decide) (.c .a (.c (.b n0) (.c .a (.c (.e rfl rfl) (.c (.b n1) (.x16 (.x2 (.c .a (.c (.e rfl rfl) (.c (.e rfl rfl) (.c (.e rfl rfl) (.x32 (.x2 (.c .a (.c (.e rfl rfl) (.x16 .n)))))))))))))))) (.b n0 (.c (.e rfl rfl) (.c (.e rfl rfl) (.c (.e rfl rfl) .n))) (.b n1 (.c (.e rfl rfl) (.c (.e rfl rfl) (.c (.e rfl rfl) (.c (.e rfl rfl) .n)))) .n))⟩
         ·
          replace hm := cf h16 hm
          refine omg n21 n20 rfl n51 (fab 1 rfl T.f176_1 (.t n4)) u52 <| omg n22 n20 rfl n51 (ldb T.o3 n1 n1 (.t n52)) u53 <| ocg n23 n20 rfl n51 (call (tot_impl_PrivateKey z9.Public) (.c (.t n53) rfl .n)) u54 <| omg n24 n20 rfl n51 (eql (.t n54) (.i rfl)) u55 <| om n25 (pkf (.t n51) (.t n55)) u56 <| om n26 (mv (.t n56)) u57 <| osp n57 u57 u57 (fun h17 => ?_) (fun h17 => ?_)
          ·
           replace hm := ct h17 hm
           refine os n27 n26 rfl n57 rfl u58 <| os n28 n26 rfl n57 rfl u59 <| osf n29 n26 rfl n57 rfl u60 <| os n30 n26 rfl n57 rfl u61 <| om n31 (pkt (.t n57) .b) u62 <| oe ?_
           replace hm := sj hm
           subst hm
           have hm := hq11
           exact ⟨true, hm, le [0, 1] (by decide) (.c .a (.c (.b n0) (.c .a (.c (.e rfl rfl) (.c (.b n1) (.x16 (.x2 (.c .a (.c (.e rfl rfl) (.c (.e rfl rfl) (.c (.e rfl rfl) (.x32 (.x2 (.c .a (.c (.e rfl rfl) (.x16 .n)))))))))))))))) (.b n0 (.c (.e rfl rfl) (.c (.e rfl rfl) (.c (.e rfl rfl) .n))) (.b n1 (.c (.e rfl rfl) (.c (.e rfl rfl) (.c (.e rfl rfl) (.c (.e rfl rfl) .n)))) .n))⟩
          ·
           replace hm := cf h17 hm
           refine omg n27 n26 rfl n57 (fab 2 rfl T.f176_2 (.t n4)) u58 <| omg n28 n26 rfl n57 (ldb T.o3 n1 n2 (.t n58)) u59 <| ocg n29 n26 rfl n57 (call (tot_impl_InRange z9.Counter (0 : Int) (1000000 : Int)) (.c (.t n59) rfl (.c (.i rfl) rfl (.c (.i rfl) rfl .n)))) u60 <| omg n30 n26 rfl n57 (not_ (.t n60)) u61 <| om n31 (pkf (.t n57) (.t n61)) u62 <| oe ?_
           replace hm := sj hm
           subst hm
           have hm := hq11
           exact ⟨(!(inR z9.Counter (0 : Int) (1000000 : Int))), hm, le [0, 1] (by decide) (.c .a (.c (.b n0) (.c .a (.c (.e rfl rfl) (.c (.b n1) (.x16 (.x2 (.c .a (.c (.e rfl rfl) (.c (.e rfl rfl) (.c (.e rfl rfl) (.x32 (.x2 (.c .a (.c (.e rfl rfl) (.x16 .n)))))))))))))))) (.b n0 (.c (.e rfl rfl) (.c (.e rfl rfl) (.c (.e rfl rfl) .n))) (.b n1 (.c (.e rfl rfl) (.c (.e rfl rfl) (.c (.e rfl rfl) (.c (.e rfl rfl) .n)))) .n))⟩
        ·
         replace hm := cf h13 hm
         refine os n8 n7 rfl n38 rfl u39 <| os n9 n7 rfl n38 rfl u40 <| os n10 n7 rfl n38 rfl u41 <| os n11 n7 rfl n38 rfl u42 <| os n12 n7 rfl n38 rfl u43 <| os n13 n7 rfl n38 rfl u44 <| os n14 n7 rfl n38 rfl u45 <| os n15 n7 rfl n38 rfl u46 <| os n16 n7 rfl n38 rfl u47 <| os n17 n7 rfl n38 rfl u48 <| omg n18 n4 rfl n35 (pkf (.t n38) .b) u49 <| om n19 (pkf (.t n35) (.t n49)) u50 <| om n20 (mv (.t n50)) u51 <| omg n21 n20 rfl n51 (fab 1 rfl T.f176_1 (.t n4)) u52 <| omg n22 n20 rfl n51 (ldb T.o3 n1 n1 (.t n52)) u53 <| ocg n23 n20 rfl n51 (call (tot_impl_PrivateKey z9.Public) (.c (.t n53) rfl .n)) u54 <| omg n24 n20 rfl n51 (eql (.t n54) (.i rfl)) u55 <| om n25 (pkf (.t n51) (.t n55)) u56 <| om n26 (mv (.t n56)) u57 <| osp n57 u57 u57 (fun h18 => ?_) (fun h18 => ?_)
         ·
          replace hm := ct h18 hm
          refine os n27 n26 rfl n57 rfl u58 <| os n28 n26 rfl n57 rfl u59 <| osf n29 n26 rfl n57 rfl u60 <| os n30 n26 rfl n57 rfl u61 <| om n31 (pkt (.t n57) .b) u62 <| oe ?_
          replace hm := sj hm
          subst hm
          have hm := hq11
          exact ⟨true, hm, le [0, 1] (by decide) (.c .a (.c (.b n0) (.c .a (.c (.e rfl rfl) (.c (.b n1) (.x16 (.x2 (.c .a (.c (.e rfl rfl) (.c (.e rfl rfl) (.c (.e rfl rfl) (.x32 (.x2 (.c .a (.c (.e rfl rfl) (.x16 .n)))))))))))))))) (.b n0 (.c (.e rfl rfl) (.c (.e rfl rfl) (.c (.e rfl rfl) .n))) (.b n1 (.c (.e rfl rfl) (.c (.e rfl rfl) (.c (.e rfl rfl) (.c (.e rfl rfl) .n)))) .n))⟩
         ·
          replace hm := cf h18 hm
          refine omg n27 n26 rfl n57 (fab 2 rfl T.f176_2 (.t n4)) u58 <| omg n28 n26 rfl n57 (ldb T.o3 n1 n2 (.t n58)) u59 <| ocg n29 n26 rfl n57 (call (tot_impl_InRange z9.Counter (0 : Int) (1000000 : Int)) (.c (.t n59) rfl (.c (.i rfl) rfl (.c (.i rfl) rfl .n)))) u60 <| omg n30 n26 rfl n57 (not_ (.t n60)) u61 <| om n31 (pkf (.t n57) (.t n61)) u62 <| oe ?_
          replace hm := sj hm
          subst hm
          have hm := hq11
          exact ⟨(!(inR z9.Counter (0 : Int) (1000000 : Int))), hm, le [0, 1] (by decide) (.c .a (.c (.b n0) (.c .a (.c (.e rfl rfl) (.c (.b n1) (.x16 (.x2 (.c .a (.c (.e rfl rfl) (.c (.e rfl rfl) (.c (.e rfl rfl) (.x32 (.x2 (.c .a (.c (.e rfl rfl) (.x16 .n)))))))))))))))) (.b n0 (.c (.e rfl rfl) (.c (.e rfl rfl) (.c (.e rfl rfl) .n))) (.b n1 (.c (.e rfl rfl) (.c (.e rfl rfl) (.c (.e rfl rfl) (.c (.e rfl rfl) .n)))) .n))⟩
      ·
       refine cnd n62 (fun h19 => ?_) (fun h19 => ?_)
       ·
        replace hm := ct h19 hm
        refine sr <| m (as_ .b) u2 <| e ?_
        replace hm := inl1 hm hq8
        replace hm := inl2 hm hq5
        subst hm
        exact rt (ret1 (.t n2 (.p rfl) .n) rfl)
       ·
        replace hm := cf h19 hm
        refine skp ?_
        obtain ⟨c20, hm⟩ := gd_some hm
        refine sr <| m (fab 2 rfl T.f174_2 (.t n1)) u63 <| m (ldb T.o172 n0 n2 (.t n63)) u64 <| m (mv (.t n3)) u65 <| m (slq1 (l := a_.Credentials) (f := D.Credential.V) c20 T.s172 (.t n64) (.t n65)) u66 <| m (lenm (l := (a_.Credentials.take (i0 : Int).toNat)) (f := D.Credential.V) T.s172 (.t n66)) u67 <| m (mv (.i rfl)) u68 <| e ?_
        refine jmx hm (fun _ : Unit => ⟨[.any, .box 0 0, .any, .any, .any, .any, .any, .any, .any, .any, .any, .any, .any, .any, .any, .any, .any, .any, .any, .any, .any, .any, .any, .any, .slice 4 (a_.Credentials.map D.Credential.V), .int .i64 (a_.Credentials.length : Int), .int .i64 (i0 : Int), .any, .any, .any, .any, .any, .any, .any, .any, .any, .any, .any, .any, .any, .any, .any, .any, .any, .any, .any, .any, .any, .any, .any, .any, .any, .any, .any, .any, .any, .any, .any, .any, .any, .any, .any, .any, .any, .any, .any, .any, .any, .any, .any, .any, .any, .any, .any, .any, .any, .any, .any, .any], [.box 174 [.int .i64 a_.Id, .int .i64 a_.Minimum, .slice 4 (a_.Credentials.map D.Credential.V)]]⟩) (fun _ hm hq21 => ?_) (fun _ hm => ?_)
        ·
         refine bk ?_
         refine lpf (m := m_impl_IsValidAccount_l1 a_ i0 z9) hm (fun i1 : Nat => ⟨[.any, .box 0 0, .any, .any, .box 1 0, .any, .any, .any, .any, .any, .any, .any, .any, .any, .any, .any, .any, .any, .any, .any, .any, .any, .any, .any, .slice 4 (a_.Credentials.map D.Credential.V), .int .i64 (a_.Credentials.length : Int), .int .i64 (i0 : Int), .any, .any, .any, .any, .any, .any, .any, .any, .any, .any, .any, .any, .any, .any, .any, .any, .any, .any, .any, .any, .any, .any, .any, .any, .any, .any, .any, .any, .any, .any, .any, .any, .any, .any, .any, .any, .any, .any, .any, .slice 4 ((a_.Credentials.take (i0 : Int).toNat).map D.Credential.V), .int .i64 ((a_.Credentials.take (i0 : Int).toNat).length : Int), .int .i64 (i1 : Int), .any, .any, .any, .any, .any, .any, .any, .any, .any, .any], [.box 174 [.int .i64 a_.Id, .int .i64 a_.Minimum, .slice 4 (a_.Credentials.map D.Credential.V)], .box 176 [.int .i64 z9.Handle, .int .i64 z9.Public, .int .i64 z9.Counter, .bool z9.Cut]]⟩) (fun _ => rfl) (le [0, 1] (by decide) (.c .a (.c (.b n0) (.x2 (.c (.b n1) (.x16 (.x2 (.c .a (.c (.e rfl rfl) (.c (.e rfl rfl) (.c (.e rfl rfl) (.x32 (.x4 (.x2 (.c .a (.c (.e rfl rfl) (.c (.e rfl rfl) (.c (.e rfl rfl) (.x8 (.x2 .n))))))))))))))))))) (.b n0 (.c (.e rfl rfl) (.c (.e rfl rfl) (.c (.e rfl rfl) .n))) (.b n1 (.c (.e rfl rfl) (.c (.e rfl rfl) (.c (.e rfl rfl) (.c (.e rfl rfl) .n)))) .n))) ?_
         rintro f i1 hm
         rw [m_impl_IsValidAccount_l1] at hm
         refine sr <| m (lss (.t n68) (.t n67)) u69 <| e ?_
         refine rng n67 fun _ ra22 => ?_
         replace ra22 := (show (_ : Int) ≤ 9223372036854775807 from ra22)
         refine sq ?_
         refine cnd n69 (fun h23 => ?_) (fun h23 => ?_)
         ·
          replace hm := ct h23 hm
          have h23d := of_decide_eq_true h23
          refine skp ?_
          refine sq ?_
          refine bk ?_
          obtain ⟨z24, e25, hm⟩ := bd_some hm
          refine sr <| m (ixq (f := D.Credential.V) e25 T.s172 (.t n66) (.t n68)) u70 <| m (lae T.a176 k4 (.t n70)) u71 <| k (al T.z176 s2 u6) <| k (sta T.a176 rfl rfl n2 (.z (.z (.z (.z .n)))) q2 (.t n6) (.t n71)) <| e ?_
          refine sr <| m (fab 1 rfl T.f176_1 (.t n6)) u72 <| m (ldb T.o3 n2 n1 (.t n72)) u73 <| m (fab 1 rfl T.f176_1 (.t n4)) u74 <| m (ldb T.o3 n1 n1 (.t n74)) u75 <| m (eql (.t n73) (.t n75)) u76 <| e ?_
          refine cnd n76 (fun h26 => ?_) (fun h26 => ?_)
          ·
           replace hm := ct h26 hm
           refine sr <| m (as_ .b) u2 <| e ?_
           replace hm := inl1 hm hq21
           replace hm := inl2 hm hq8
           replace hm := inl2 hm hq5
           subst hm
           exact rt (ret1 (.t n2 (.p rfl) .n) rfl)
          ·
           replace hm := cf h26 hm
           refine skp ?_
           refine rg <| m (add (.t n68) (.i rfl)) u77 <| m (mv (.t n77)) u68 <| e ?_
           exact ⟨i1 + 1, hm, le [0, 1] (by decide) (.c .a (.c (.b n0) (.x2 (.c (.b n1) (.x16 (.x2 (.c .a (.c (.e rfl rfl) (.c (.e rfl rfl) (.c (.e rfl rfl) (.x32 (.x4 (.x2 (.c .a (.c (.e rfl rfl) (.c (.e rfl rfl) (.c (.e (wi (by omega)) rfl) (.x8 (.x2 .n))))))))))))))))))) (.b n0 (.c (.e rfl rfl) (.c (.e rfl rfl) (.c (.e rfl rfl) .n))) (.b n1 (.c (.e rfl rfl) (.c (.e rfl rfl) (.c (.e rfl rfl) (.c (.e rfl rfl) .n)))) .n))⟩
         ·
          replace hm := cf h23 hm
          have h23d := of_decide_eq_false h23
          refine ex (x1 ?_)
          replace hm := inr1 hm hq21
          exact ⟨(), hm, le [0] (by decide) (.c .a (.c (.b n0) (.x16 (.x4 (.x2 (.c (.e rfl rfl) (.c (.e rfl rfl) (.c (.e rfl rfl) (.x32 (.x16 (.x4 .n))))))))))) (.b n0 (.c (.e rfl rfl) (.c (.e rfl rfl) (.c (.e rfl rfl) .n))) .n)⟩
        ·
         replace hm := inr1 hm hq8
         exact ⟨(), hm, le [0] (by decide) (.c .a (.c (.b n0) (.x16 (.x4 (.x2 (.c (.e rfl rfl) (.c (.e rfl rfl) (.c (.e rfl rfl) (.x32 (.x16 (.x4 .n))))))))))) (.b n0 (.c (.e rfl rfl) (.c (.e rfl rfl) (.c (.e rfl rfl) .n))) .n)⟩
     ·
      refine rg <| m (add (.t n26) (.i rfl)) u78 <| m (mv (.t n78)) u26 <| e ?_
      exact ⟨i0 + 1, hm, le [0] (by decide) (.c .a (.c (.b n0) (.x16 (.x4 (.x2 (.c (.e rfl rfl) (.c (.e rfl rfl) (.c (.e (wi (by omega)) rfl) (.x32 (.x16 (.x4 .n))))))))))) (.b n0 (.c (.e rfl rfl) (.c (.e rfl rfl) (.c (.e rfl rfl) .n))) .n)⟩
    ·
     replace hm := cf h7 hm
     have h7d := of_decide_eq_false h7
     refine ex (x1 ?_)
     replace hm := inr1 hm hq5
     exact ⟨(), hm, le [] (by decide) (.x32 (.x32 (.x8 (.x4 (.x2 (.c .a .n)))))) .n⟩
   ·
    refine sr <| m (as_ .b) u2 <| e ?_
    replace hm := sj hm
    subst hm
    exact rt (ret1 (.t n2 (.p rfl) .n) rfl)

theorem tot_impl_IsValidAccount (a_ : D.Account) (hp0 : a_.Credentials.length ≤ 34359738368) : Spec Tryz.prog G0 193 [.agg (D.Account.V a_)] (fun v => v = .bool (accountOkF a_)) := sp_impl_IsValidAccount a_ _ (t_impl_IsValidAccount a_ hp0)

theorem sp_spec_FindAccount (s_ : D.Site) (id_ : Int) (r : Int) (hm : m_spec_FindAccount s_ id_ = some r) : Spec Tryz.prog G0 112 [.agg (D.Site.V s_), .int .i64 id_] (fun v => v = .int .i64 r) := by
 rw [m_spec_FindAccount] at hm
 refine enter (l := [.tmp 4]) Tryz.func112 rfl Tryz.ntmps112 rfl T.en112 fun E => ?_
 simp only [List.length_cons, List.length_nil, List.replicate_succ, List.replicate_zero, List.cons_append, List.nil_append, Nat.reduceAdd, Nat.reduceSub]
 refine sr <| k (bx rfl s0 u2 (.t n0)) <| m (as_ (.i rfl)) u4 <| e ?_
 refine sq ?_
 refine sr <| m (as_ (.i rfl)) u5 <| e ?_
 refine jmx hm (fun _ : Unit => ⟨[.any, .any, .any, .any, .any, .any, .any, .any, .any, .any, .any, .any, .any, .any, .any, .any, .any, .any, .any, .any, .any, .any], []⟩) (fun _ hm hq1 => ?_) (fun _ hm => ?_)
 ·
  refine bk ?_
  refine lpf (m := m_spec_FindAccount_l0 s_ id_) hm (fun i0 : Nat => ⟨[.any, .int .i64 id_, .box 0 0, .any, .any, .int .i64 (i0 : Int), .any, .any, .any, .any, .any, .any, .any, .any, .any, .any, .any, .any, .any, .any, .any, .any], [.box 152 [.str s_.Name, .slice 3 (s_.Accounts.map D.Account.V), .int .i64 s_.Book.Seed, .int .i64 s_.Book.Next, .slice 3 (s_.Book.Open.map D.Challenge.V), .slice 1 (s_.Logins.map iV)]]⟩) (fun _ => rfl) (le [0] (by decide) (.c .a (.c (.e rfl rfl) (.c (.b n0) (.x2 (.c (.e rfl rfl) (.x16 .n)))))) (.b n0 (.c (.e rfl rfl) (.c (.e rfl rfl) (.c (.e rfl rfl) (.c (.e rfl rfl) (.c (.e rfl rfl) (.c (.e rfl rfl) .n)))))) .n)) ?_
  rintro f i0 hm
  rw [m_spec_FindAccount_l0] at hm
  refine sq ?_
  refine sr <| m (mv (.t n5)) u6 <| m (fab 1 rfl T.f152_1 (.t n2)) u7 <| m (ldb T.o147 n0 n1 (.t n7)) u8 <| m (lenm (l := s_.Accounts) (f := D.Account.V) T.s147 (.t n8)) u9 <| m (lss (.t n6) (.t n9)) u10 <| e ?_
  refine rng n9 fun _ ra2 => ?_
  replace ra2 := (show (_ : Int) ≤ 9223372036854775807 from ra2)
  refine cnd n10 (fun h3 => ?_) (fun h3 => ?_)
  ·
   replace hm := ct h3 hm
   have h3d := of_decide_eq_true h3
   refine skp ?_
   refine sq ?_
   refine bk ?_
   obtain ⟨z4, e5, hm⟩ := bd_some hm
   refine sr <| m (fab 1 rfl T.f152_1 (.t n2)) u13 <| m (ldb T.o147 n0 n1 (.t n13)) u14 <| m (mv (.t n5)) u15 <| m (ixq (f := D.Account.V) e5 T.s147 (.t n14) (.t n15)) u16 <| m (fae T.f174_0 d0 (.t n16)) u17 <| m (lde T.o3 n0 (.t n17)) u18 <| m (mv (.t n1)) u19 <| m (eql (.t n18) (.t n19)) u20 <| e ?_
   refine cnd n20 (fun h6 => ?_) (fun h6 => ?_)
   ·
    replace hm := ct h6 hm
    refine sr <| m (mv (.t n5)) u21 <| m (as_ (.t n21)) u4 <| e ?_
    replace hm := inl1 hm hq1
    subst hm
    exact rt (ret1 (.t n4 (.p rfl) .n) rfl)
   ·
    replace hm := cf h6 hm
    refine skp ?_
    refine rg <| m (mv (.t n5)) u11 <| m (add (.t n11) (.i rfl)) u12 <| m (as_ (.t n12)) u5 <| e ?_
    exact ⟨i0 + 1, hm, le [0] (by decide) (.c .a (.c (.e rfl rfl) (.c (.b n0) (.x2 (.c (.e (wi (by omega)) rfl) (.x16 .n)))))) (.b n0 (.c (.e rfl rfl) (.c (.e rfl rfl) (.c (.e rfl rfl) (.c (.e rfl rfl) (.c (.e rfl rfl) (.c (.e rfl rfl) .n)))))) .n)⟩
  ·
   replace hm := cf h3 hm
   have h3d := of_decide_eq_false h3
   refine ex (x1 ?_)
   replace hm := inr1 hm hq1
   exact ⟨(), hm, le [] (by decide) (.x16 (.x4 (.x2 .n))) .n⟩
 ·
  refine sr <| m (as_ (.i rfl)) u4 <| e ?_
  replace hm := sj hm
  subst hm
  exact rt (ret1 (.t n4 (.p rfl) .n) rfl)

theorem tot_spec_FindAccount (s_ : D.Site) (id_ : Int)  : Spec Tryz.prog G0 112 [.agg (D.Site.V s_), .int .i64 id_] (fun v => v = .int .i64 (findAccountF s_ id_)) := sp_spec_FindAccount s_ id_ _ (t_spec_FindAccount s_ id_)

theorem sp_spec_NewSite (name_ : ByteArray) (seed_ : Int) (r : D.Site) (hm : m_spec_NewSite name_ seed_ = some r) : Spec Tryz.prog G0 177 [.str name_, .int .i64 seed_] (fun v => v = .agg (D.Site.V r)) := by
 rw [m_spec_NewSite] at hm
 refine enter (l := [.cell 4 152]) Tryz.func177 rfl Tryz.ntmps177 rfl T.en177 fun E => ?_
 simp only [List.length_cons, List.length_nil, List.replicate_succ, List.replicate_zero, List.cons_append, List.nil_append, Nat.reduceAdd, Nat.reduceSub]
 refine sr <| k (al T.z152 s0 u4) <| e ?_
 refine sq ?_
 refine sr <| rjb hm (fun j0_18 : Bool => ⟨[.str name_, .int .i64 seed_, .any, .any, .box 0 0, .any, .any, .any, .any, .any, .any, .any, .any, .any, .any, .any, .any, .any, .bool j0_18, .any, .any, .any, .any, .any], [.box 152 [.str (⟨#[]⟩ : ByteArray), .nil, .int .i64 (0 : Int), .int .i64 (0 : Int), .nil, .nil]]⟩) (fun _ hm hq1 => ?_) (fun j0_18 hm => ?_)
 ·
  obtain ⟨c2, hm⟩ := gd_some hm
  refine m (mv (.t n0)) u5 <| c (call (tot_spec_IsHost name_ c2) (.c (.t n5) rfl .n)) u6 <| m (not_ (.t n6)) u7 <| m (mv (.t n7)) u8 <| sp n8 u8 u8 (fun h3 => ?_) (fun h3 => ?_)
  ·
   replace hm := ct h3 hm
   refine sk n3 rfl n8 rfl u9 <| sk n3 rfl n8 rfl u10 <| sk n3 rfl n8 rfl u11 <| sk n3 rfl n8 rfl u12 <| m (pkt (.t n8) .b) u13 <| m (mv (.t n13)) u14 <| sk n9 rfl n14 rfl u15 <| sk n9 rfl n14 rfl u16 <| sk n9 rfl n14 rfl u17 <| m (pkt (.t n14) .b) u18 <| e ?_
   replace hm := sj hm
   subst hm
   have hm := hq1
   exact ⟨true, hm, le [0] (by decide) (.c (.e rfl rfl) (.c (.e rfl rfl) (.x2 (.c (.b n0) (.x8 (.x4 (.c .a (.c (.e rfl rfl) (.x4 (.c .a .n)))))))))) (.b n0 (.c (.e rfl rfl) (.c (.e rfl rfl) (.c (.e rfl rfl) (.c (.e rfl rfl) (.c (.e rfl rfl) (.c (.e rfl rfl) .n)))))) .n)⟩
  ·
   replace hm := cf h3 hm
   obtain ⟨c4, hm⟩ := gd_some hm
   refine mg n3 rfl n8 (mv (.t n0)) u9 <| cg n3 rfl n8 (call (tot_spec_l9Labels name_ c4) (.c (.t n9) rfl .n)) u10 <| mg n3 rfl n8 (lenm (l := (labelsF name_)) (f := sV) T.s290 (.t n10)) u11 <| mg n3 rfl n8 (lss (.t n11) (.i rfl)) u12 <| m (pkf (.t n8) (.t n12)) u13 <| m (mv (.t n13)) u14 <| sp n14 u14 u14 (fun h5 => ?_) (fun h5 => ?_)
   ·
    replace hm := ct h5 hm
    refine sk n9 rfl n14 rfl u15 <| sk n9 rfl n14 rfl u16 <| sk n9 rfl n14 rfl u17 <| m (pkt (.t n14) .b) u18 <| e ?_
    replace hm := sj hm
    subst hm
    have hm := hq1
    exact ⟨true, hm, le [0] (by decide) (.c (.e rfl rfl) (.c (.e rfl rfl) (.x2 (.c (.b n0) (.x8 (.x4 (.c .a (.c (.e rfl rfl) (.x4 (.c .a .n)))))))))) (.b n0 (.c (.e rfl rfl) (.c (.e rfl rfl) (.c (.e rfl rfl) (.c (.e rfl rfl) (.c (.e rfl rfl) (.c (.e rfl rfl) .n)))))) .n)⟩
   ·
    replace hm := cf h5 hm
    refine mg n9 rfl n14 (mv (.t n1)) u15 <| cg n9 rfl n14 (call (tot_spec_IsValidKey seed_) (.c (.t n15) rfl .n)) u16 <| mg n9 rfl n14 (not_ (.t n16)) u17 <| m (pkf (.t n14) (.t n17)) u18 <| e ?_
    replace hm := sj hm
    subst hm
    have hm := hq1
    exact ⟨(!(keyF seed_)), hm, le [0] (by decide) (.c (.e rfl rfl) (.c (.e rfl rfl) (.x2 (.c (.b n0) (.x8 (.x4 (.c .a (.c (.e rfl rfl) (.x4 (.c .a .n)))))))))) (.b n0 (.c (.e rfl rfl) (.c (.e rfl rfl) (.c (.e rfl rfl) (.c (.e rfl rfl) (.c (.e rfl rfl) (.c (.e rfl rfl) .n)))))) .n)⟩
 ·
  refine cnd n18 (fun h6 => ?_) (fun h6 => ?_)
  ·
   replace hm := ct h6 hm
   refine sr <| m (bld T.z152 T.p152 .n) u19 <| k (sta T.a152 rfl rfl n0 (.z (.z (.z (.z (.z (.z .n)))))) q0 (.t n4) (.t n19)) <| e ?_
   replace hm := sj hm
   subst hm
   exact rt (ret1 (.a n4 T.a152 n0 rfl (.c (.p rfl) (.c .n (.c (.p rfl) (.c (.p rfl) (.c .n (.c .n .n)))))) .n) rfl)
  ·
   replace hm := cf h6 hm
   refine skp ?_
   refine sr <| m (mv (.t n0)) u20 <| m (mv (.t n1)) u21 <| m (bld T.z150 T.p150 (.c (.t n21) n0 rfl rfl (.z .n) .n)) u22 <| m (bld T.z152 T.p152 (.c (.t n20) n0 rfl rfl (.z .n) (.c (.t n22) n2 rfl rfl (.s (.s (.z (.z (.z .n))))) .n))) u23 <| k (sta T.a152 rfl rfl n0 (.z (.z (.z (.z (.z (.z .n)))))) q0 (.t n4) (.t n23)) <| e ?_
   replace hm := sj hm
   subst hm
   exact rt (ret1 (.a n4 T.a152 n0 rfl (.c (.p rfl) (.c .n (.c (.p rfl) (.c (.p rfl) (.c .n (.c .n .n)))))) .n) rfl)

theorem tot_spec_NewSite (name_ : ByteArray) (seed_ : Int) (hp0 : name_.size ≤ 34359738368) : Spec Tryz.prog G0 177 [.str name_, .int .i64 seed_] (fun v => v = .agg (D.Site.V (newSiteF name_ seed_))) := sp_spec_NewSite name_ seed_ _ (t_spec_NewSite name_ seed_ hp0)

theorem sp_spec_IsValidSite (s_ : D.Site) (r : Bool) (hm : m_spec_IsValidSite s_ = some r) : Spec Tryz.prog G0 86 [.agg (D.Site.V s_)] (fun v => v = .bool r) := by
 rw [m_spec_IsValidSite] at hm
 refine enter (l := [.tmp 2]) Tryz.func86 rfl Tryz.ntmps86 rfl T.en86 fun E => ?_
 simp only [List.length_cons, List.length_nil, List.replicate_succ, List.replicate_zero, List.cons_append, List.nil_append, Nat.reduceAdd, Nat.reduceSub]
 refine sr <| k (bx rfl s0 u1 (.t n0)) <| m (as_ .b) u2 <| e ?_
 refine sq ?_
 refine sr <| m (as_ (.i rfl)) u3 <| e ?_
 refine jmx hm (fun _ : Unit => ⟨[.any, .box 0 0, .any, .any, .any, .any, .any, .any, .any, .any, .any, .any, .any, .any, .any, .any, .any, .any, .any, .any, .any, .any, .any, .any, .any, .any, .any, .any, .any, .any, .any, .any, .any, .any, .any, .any, .any, .any, .any, .any, .any, .any, .any, .any, .any, .any, .any, .any, .any, .any, .any, .any, .any, .any, .any, .any, .any], [.box 152 [.str s_.Name, .slice 3 (s_.Accounts.map D.Account.V), .int .i64 s_.Book.Seed, .int .i64 s_.Book.Next, .slice 3 (s_.Book.Open.map D.Challenge.V), .slice 1 (s_.Logins.map iV)]]⟩) (fun _ hm hq1 => ?_) (fun _ hm => ?_)
 ·
  refine bk ?_
  refine lpf (m := m_spec_IsValidSite_l0 s_) hm (fun i0 : Nat => ⟨[.any, .box 0 0, .any, .int .i64 (i0 : Int), .any, .any, .any, .any, .any, .any, .any, .any, .any, .any, .any, .any, .any, .any, .any, .any, .any, .any, .any, .any, .any, .any, .any, .any, .any, .any, .any, .any, .any, .any, .any, .any, .any, .any, .any, .any, .any, .any, .any, .any, .any, .any, .any, .any, .any, .any, .any, .any, .any, .any, .any, .any, .any], [.box 152 [.str s_.Name, .slice 3 (s_.Accounts.map D.Account.V), .int .i64 s_.Book.Seed, .int .i64 s_.Book.Next, .slice 3 (s_.Book.Open.map D.Challenge.V), .slice 1 (s_.Logins.map iV)]]⟩) (fun _ => rfl) (le [0] (by decide) (.c .a (.c (.b n0) (.c .a (.c (.e rfl rfl) (.x32 (.x16 (.x4 (.c .a .n)))))))) (.b n0 (.c (.e rfl rfl) (.c (.e rfl rfl) (.c (.e rfl rfl) (.c (.e rfl rfl) (.c (.e rfl rfl) (.c (.e rfl rfl) .n)))))) .n)) ?_
  rintro f i0 hm
  rw [m_spec_IsValidSite_l0] at hm
  refine sq ?_
  refine sr <| m (mv (.t n3)) u4 <| m (fab 1 rfl T.f152_1 (.t n1)) u5 <| m (ldb T.o147 n0 n1 (.t n5)) u6 <| m (lenm (l := s_.Accounts) (f := D.Account.V) T.s147 (.t n6)) u7 <| m (lss (.t n4) (.t n7)) u8 <| e ?_
  refine rng n7 fun _ ra2 => ?_
  replace ra2 := (show (_ : Int) ≤ 9223372036854775807 from ra2)
  refine cnd n8 (fun h3 => ?_) (fun h3 => ?_)
  ·
   replace hm := ct h3 hm
   have h3d := of_decide_eq_true h3
   refine skp ?_
   refine sq ?_
   refine bk ?_
   refine sd none [(0, true), (1, true), (2, true), (3, true), (4, true), (5, false), (6, true), (7, true), (8, true), (9, true), (10, true), (11, true), (12, true), (13, true), (14, true), (15, true), (16, true), (17, true), (18, true), (19, true), (20, true), (21, true), (22, true), (23, true), (24, true), (25, true), (26, true)] T.mix (by kernel_rfl) <| rob hm (fun j1_37 : Bool => ⟨[.any, .box 0 0, .any, .int .i64 (i0 : Int), .any, .any, .any, .any, .any, .any, .any, .any, .any, .any, .any, .any, .any, .any, .any, .any, .any, .any, .any, .any, .any, .any, .any, .any, .any, .any, .any, .any, .any, .any, .any, .any, .any, .bool j1_37, .any, .any, .any, .any, .any, .any, .any, .any, .any, .any, .any, .any, .any, .any, .any, .any, .any, .any, .any], [.box 152 [.str s_.Name, .slice 3 (s_.Accounts.map D.Account.V), .int .i64 s_.Book.Seed, .int .i64 s_.Book.Next, .slice 3 (s_.Book.Open.map D.Challenge.V), .slice 1 (s_.Logins.map iV)]]⟩) (fun _ hm hq4 => ?_) (fun j1_37 hm => ?_)
   ·
    obtain ⟨z5, e6, hm⟩ := bd_some hm
    obtain ⟨c7, hm⟩ := gd_some hm
    refine om n0 (fab 1 rfl T.f152_1 (.t n1)) u11 <| om n1 (ldb T.o147 n0 n1 (.t n11)) u12 <| om n2 (mv (.t n3)) u13 <| om n3 (ixq (f := D.Account.V) e6 T.s147 (.t n12) (.t n13)) u14 <| om n4 (lae T.a174 k3 (.t n14)) u15 <| oc n5 (call (tot_spec_IsValidAccount z5 c7) (.c (.t n15) rfl .n)) u16 <| om n6 (not_ (.t n16)) u17 <| om n7 (mv (.t n17)) u18 <| osp n18 u18 u18 (fun h8 => ?_) (fun h8 => ?_)
    ·
     replace hm := ct h8 hm
     refine os n8 n7 rfl n18 rfl u19 <| os n9 n7 rfl n18 rfl u20 <| os n10 n7 rfl n18 rfl u21 <| osu n11 n10 rfl n21 u22 <| osu n12 n10 rfl n21 u23 <| osu n13 n10 rfl n21 u24 <| osu n14 n10 rfl n21 u25 <| osu n15 n10 rfl n21 u26 <| osu n16 n10 rfl n21 u27 <| osu n17 n10 rfl n21 u28 <| osu n18 n10 rfl n21 u29 <| osu n19 n10 rfl n21 u30 <| osu n20 n10 rfl n21 u31 <| osu n21 n10 rfl n21 u32 <| osu n22 n10 rfl n21 u33 <| osu n23 n10 rfl n21 u34 <| osu n24 n10 rfl n21 u35 <| os n25 n7 rfl n18 rfl u36 <| om n26 (pkt (.t n18) .b) u37 <| oe ?_
     replace hm := sj hm
     subst hm
     have hm := hq4
     exact ⟨true, hm, le [0] (by decide) (.c .a (.c (.b n0) (.c .a (.c (.e rfl rfl) (.x32 (.c .a (.c (.e rfl rfl) (.x16 (.x2 (.c .a .n)))))))))) (.b n0 (.c (.e rfl rfl) (.c (.e rfl rfl) (.c (.e rfl rfl) (.c (.e rfl rfl) (.c (.e rfl rfl) (.c (.e rfl rfl) .n)))))) .n)⟩
    ·
     replace hm := cf h8 hm
     refine omg n8 n7 rfl n18 (mv (.t n3)) u19 <| omg n9 n7 rfl n18 (gtr (.t n19) (.i rfl)) u20 <| omg n10 n7 rfl n18 (mv (.t n20)) u21 <| osp n21 u21 u21 (fun h9 => ?_) (fun h9 => ?_)
     ·
      replace hm := ct h9 hm
      obtain ⟨z10, e11, hm⟩ := bd_some hm
      refine omg n11 n10 rfl n21 (fab 1 rfl T.f152_1 (.t n1)) u22 <| omg n12 n10 rfl n21 (ldb T.o147 n0 n1 (.t n22)) u23 <| omg n13 n10 rfl n21 (mv (.t n3)) u24 <| omg n14 n10 rfl n21 (sub (.t n24) (.i rfl)) u25 <| omg n15 n10 rfl n21 (ixq (f := D.Account.V) e11 T.s147 (.t n23) (.t n25)) u26 <| omg n16 n10 rfl n21 (fae T.f174_0 d0 (.t n26)) u27 <| omg n17 n10 rfl n21 (lde T.o3 n0 (.t n27)) u28 <| omg n18 n10 rfl n21 (fab 1 rfl T.f152_1 (.t n1)) u29 <| omg n19 n10 rfl n21 (ldb T.o147 n0 n1 (.t n29)) u30 <| omg n20 n10 rfl n21 (mv (.t n3)) u31 <| omg n21 n10 rfl n21 (ixq (f := D.Account.V) e6 T.s147 (.t n30) (.t n31)) u32 <| omg n22 n10 rfl n21 (fae T.f174_0 d0 (.t n32)) u33 <| omg n23 n10 rfl n21 (lde T.o3 n0 (.t n33)) u34 <| omg n24 n10 rfl n21 (geq (.t n28) (.t n34)) u35 <| omg n25 n7 rfl n18 (pkt (.t n21) (.t n35)) u36 <| om n26 (pkf (.t n18) (.t n36)) u37 <| oe ?_
      replace hm := sj hm
      subst hm
      have hm := hq4
      exact ⟨decide (z10.Id ≥ z5.Id), hm, le [0] (by decide) (.c .a (.c (.b n0) (.c .a (.c (.e rfl rfl) (.x32 (.c .a (.c (.e rfl rfl) (.x16 (.x2 (.c .a .n)))))))))) (.b n0 (.c (.e rfl rfl) (.c (.e rfl rfl) (.c (.e rfl rfl) (.c (.e rfl rfl) (.c (.e rfl rfl) (.c (.e rfl rfl) .n)))))) .n)⟩
     ·
      replace hm := cf h9 hm
      refine os n11 n10 rfl n21 rfl u22 <| os n12 n10 rfl n21 rfl u23 <| os n13 n10 rfl n21 rfl u24 <| os n14 n10 rfl n21 rfl u25 <| os n15 n10 rfl n21 rfl u26 <| os n16 n10 rfl n21 rfl u27 <| os n17 n10 rfl n21 rfl u28 <| os n18 n10 rfl n21 rfl u29 <| os n19 n10 rfl n21 rfl u30 <| os n20 n10 rfl n21 rfl u31 <| os n21 n10 rfl n21 rfl u32 <| os n22 n10 rfl n21 rfl u33 <| os n23 n10 rfl n21 rfl u34 <| os n24 n10 rfl n21 rfl u35 <| omg n25 n7 rfl n18 (pkf (.t n21) .b) u36 <| om n26 (pkf (.t n18) (.t n36)) u37 <| oe ?_
      replace hm := sj hm
      subst hm
      have hm := hq4
      exact ⟨false, hm, le [0] (by decide) (.c .a (.c (.b n0) (.c .a (.c (.e rfl rfl) (.x32 (.c .a (.c (.e rfl rfl) (.x16 (.x2 (.c .a .n)))))))))) (.b n0 (.c (.e rfl rfl) (.c (.e rfl rfl) (.c (.e rfl rfl) (.c (.e rfl rfl) (.c (.e rfl rfl) (.c (.e rfl rfl) .n)))))) .n)⟩
   ·
    refine cnd n37 (fun h12 => ?_) (fun h12 => ?_)
    ·
     replace hm := ct h12 hm
     refine sr <| m (as_ .b) u2 <| e ?_
     replace hm := inl1 hm hq1
     subst hm
     exact rt (ret1 (.t n2 (.p rfl) .n) rfl)
    ·
     replace hm := cf h12 hm
     refine skp ?_
     refine rg <| m (mv (.t n3)) u9 <| m (add (.t n9) (.i rfl)) u10 <| m (as_ (.t n10)) u3 <| e ?_
     exact ⟨i0 + 1, hm, le [0] (by decide) (.c .a (.c (.b n0) (.c .a (.c (.e (wi (by omega)) rfl) (.x32 (.x16 (.x4 (.c .a .n)))))))) (.b n0 (.c (.e rfl rfl) (.c (.e rfl rfl) (.c (.e rfl rfl) (.c (.e rfl rfl) (.c (.e rfl rfl) (.c (.e rfl rfl) .n)))))) .n)⟩
  ·
   replace hm := cf h3 hm
   have h3d := of_decide_eq_false h3
   refine ex (x1 ?_)
   replace hm := inr1 hm hq1
   exact ⟨(), hm, le [0] (by decide) (.c .a (.c (.b n0) (.x32 (.x16 (.x4 (.x2 (.c .a .n))))))) (.b n0 (.c (.e rfl rfl) (.c (.e rfl rfl) (.c (.e rfl rfl) (.c (.e rfl rfl) (.c (.e rfl rfl) (.c (.e rfl rfl) .n)))))) .n)⟩
 ·
  refine sr <| rjb hm (fun j2_2 : Bool => ⟨[.any, .any, .bool j2_2, .any, .any, .any, .any, .any, .any, .any, .any, .any, .any, .any, .any, .any, .any, .any, .any, .any, .any, .any, .any, .any, .any, .any, .any, .any, .any, .any, .any, .any, .any, .any, .any, .any, .any, .any, .any, .any, .any, .any, .any, .any, .any, .any, .any, .any, .any, .any, .any, .any, .any, .any, .any, .any, .any], []⟩) (fun _ hm hq13 => ?_) (fun j2_2 hm => ?_)
  ·
   obtain ⟨c14, hm⟩ := gd_some hm
   refine m (fab 0 rfl T.f152_0 (.t n1)) u38 <| m (ldb T.o9 n0 n0 (.t n38)) u39 <| m (fab 2 rfl T.f152_2 (.t n1)) u40 <| m (fab 2 rfl T.f150_0 (.t n40)) u41 <| m (ldb T.o3 n0 n2 (.t n41)) u42 <| c (call (tot_spec_NewSite s_.Name s_.Book.Seed c14) (.c (.t n39) rfl (.c (.t n42) rfl .n))) u43 <| m (fld1 T.ft152_0 T.o9 n0 (.t n43)) u44 <| m (sne (.t n44) (.s rfl)) u45 <| m (mv (.t n45)) u46 <| sp n46 u46 u46 (fun h15 => ?_) (fun h15 => ?_)
   ·
    replace hm := ct h15 hm
    refine mg n8 rfl n46 (fab 1 rfl T.f152_1 (.t n1)) u47 <| mg n8 rfl n46 (ldb T.o147 n0 n1 (.t n47)) u48 <| mg n8 rfl n46 (lenm (l := s_.Accounts) (f := D.Account.V) T.s147 (.t n48)) u49 <| mg n8 rfl n46 (leq (.t n49) (.i rfl)) u50 <| m (pkt (.t n46) (.t n50)) u51 <| m (mv (.t n51)) u52 <| sp n52 u52 u52 (fun h16 => ?_) (fun h16 => ?_)
    ·
     replace hm := ct h16 hm
     obtain ⟨c17, hm⟩ := gd_some hm
     refine mg n14 rfl n52 (fab 2 rfl T.f152_2 (.t n1)) u53 <| mg n14 rfl n52 (lab T.a150 n0 d2 k3 (.t n53)) u54 <| cg n14 rfl n52 (call (tot_spec_IsValidBook s_.Book c17) (.c (.t n54) rfl .n)) u55 <| m (pkt (.t n52) (.t n55)) u56 <| m (as_ (.t n56)) u2 <| e ?_
     replace hm := sj hm
     subst hm
     have hm := hq13
     exact ⟨(bookOkF s_.Book), hm, le [] (by decide) (.x2 (.c (.e rfl rfl) (.x32 (.x16 (.x4 (.x2 .n)))))) .n⟩
    ·
     replace hm := cf h16 hm
     refine sk n14 rfl n52 rfl u53 <| sk n14 rfl n52 rfl u54 <| sk n14 rfl n52 rfl u55 <| m (pkf (.t n52) .b) u56 <| m (as_ (.t n56)) u2 <| e ?_
     replace hm := sj hm
     subst hm
     have hm := hq13
     exact ⟨false, hm, le [] (by decide) (.x2 (.c (.e rfl rfl) (.x32 (.x16 (.x4 (.x2 .n)))))) .n⟩
   ·
    replace hm := cf h15 hm
    refine sk n8 rfl n46 rfl u47 <| sk n8 rfl n46 rfl u48 <| sk n8 rfl n46 rfl u49 <| sk n8 rfl n46 rfl u50 <| m (pkf (.t n46) .b) u51 <| m (mv (.t n51)) u52 <| sk n14 rfl n52 rfl u53 <| sk n14 rfl n52 rfl u54 <| sk n14 rfl n52 rfl u55 <| m (pkf (.t n52) .b) u56 <| m (as_ (.t n56)) u2 <| e ?_
    replace hm := sj hm
    subst hm
    have hm := hq13
    exact ⟨false, hm, le [] (by decide) (.x2 (.c (.e rfl rfl) (.x32 (.x16 (.x4 (.x2 .n)))))) .n⟩
  ·
   replace hm := sj hm
   subst hm
   exact rt (ret1 (.t n2 (.p rfl) .n) rfl)

theorem tot_spec_IsValidSite (s_ : D.Site) (hp0 : SOk s_) : Spec Tryz.prog G0 86 [.agg (D.Site.V s_)] (fun v => v = .bool (siteOkF s_)) := sp_spec_IsValidSite s_ _ (t_spec_IsValidSite s_ hp0)

theorem sp_impl_hasDot (s_ : ByteArray) (r : Bool) (hm : m_impl_hasDot s_ = some r) : Spec Tryz.prog G0 273 [.str s_] (fun v => v = .bool r) := by
 rw [m_impl_hasDot] at hm
 refine enter (l := [.tmp 2]) Tryz.func273 rfl Tryz.ntmps273 rfl T.en273 fun E => ?_
 simp only [List.length_cons, List.length_nil, List.replicate_succ, List.replicate_zero, List.cons_append, List.nil_append, Nat.reduceAdd, Nat.reduceSub]
 refine sr <| m (as_ .b) u2 <| e ?_
 refine sq ?_
 refine sr <| m (as_ (.i rfl)) u3 <| e ?_
 refine jmx hm (fun _ : Unit => ⟨[.any, .any, .any, .any, .any, .any, .any, .any, .any, .any, .any, .any, .any, .any], []⟩) (fun _ hm hq1 => ?_) (fun _ hm => ?_)
 ·
  refine bk ?_
  refine lpf (m := m_impl_hasDot_l0 s_) hm (fun i0 : Nat => ⟨[.str s_, .any, .any, .int .i64 (i0 : Int), .any, .any, .any, .any, .any, .any, .any, .any, .any, .any], []⟩) (fun _ => rfl) (le [] (by decide) (.c (.e rfl rfl) (.x2 (.c (.e rfl rfl) (.x8 (.x2 .n))))) .n) ?_
  rintro f i0 hm
  rw [m_impl_hasDot_l0] at hm
  refine sq ?_
  refine sr <| m (mv (.t n3)) u4 <| m (mv (.t n0)) u5 <| m (lenS Tryz.underlying9 (.t n5)) u6 <| m (lss (.t n4) (.t n6)) u7 <| e ?_
  refine rng n6 fun _ ra2 => ?_
  replace ra2 := (show (_ : Int) ≤ 9223372036854775807 from ra2)
  refine cnd n7 (fun h3 => ?_) (fun h3 => ?_)
  ·
   replace hm := ct h3 hm
   have h3d := of_decide_eq_true h3
   refine skp ?_
   refine sq ?_
   refine bk ?_
   obtain ⟨z4, e5, hm⟩ := bd_some hm
   refine sr <| m (mv (.t n0)) u10 <| m (mv (.t n3)) u11 <| m (sidx e5 Tryz.underlying9 (.t n10) (.t n11)) u12 <| m (eql (.t n12) (.i rfl)) u13 <| e ?_
   refine cnd n13 (fun h6 => ?_) (fun h6 => ?_)
   ·
    replace hm := ct h6 hm
    refine sr <| m (as_ .b) u2 <| e ?_
    replace hm := inl1 hm hq1
    subst hm
    exact rt (ret1 (.t n2 (.p rfl) .n) rfl)
   ·
    replace hm := cf h6 hm
    refine skp ?_
    refine rg <| m (mv (.t n3)) u8 <| m (add (.t n8) (.i rfl)) u9 <| m (as_ (.t n9)) u3 <| e ?_
    exact ⟨i0 + 1, hm, le [] (by decide) (.c (.e rfl rfl) (.x2 (.c (.e (wi (by omega)) rfl) (.x8 (.x2 .n))))) .n⟩
  ·
   replace hm := cf h3 hm
   have h3d := of_decide_eq_false h3
   refine ex (x1 ?_)
   replace hm := inr1 hm hq1
   exact ⟨(), hm, le [] (by decide) (.x8 (.x4 (.x2 .n))) .n⟩
 ·
  refine sr <| m (as_ .b) u2 <| e ?_
  replace hm := sj hm
  subst hm
  exact rt (ret1 (.t n2 (.p rfl) .n) rfl)

theorem tot_impl_hasDot (s_ : ByteArray)  : Spec Tryz.prog G0 273 [.str s_] (fun v => v = .bool (hasDotF s_)) := sp_impl_hasDot s_ _ (t_impl_hasDot s_)

theorem sp_impl_mayHaveName (name_ : ByteArray) (seed_ : Int) (r : Bool) (hm : m_impl_mayHaveName name_ seed_ = some r) : Spec Tryz.prog G0 191 [.str name_, .int .i64 seed_] (fun v => v = .bool r) := by
 rw [m_impl_mayHaveName] at hm
 refine enter (l := [.tmp 4]) Tryz.func191 rfl Tryz.ntmps191 rfl T.en191 fun E => ?_
 simp only [List.length_cons, List.length_nil, List.replicate_succ, List.replicate_zero, List.cons_append, List.nil_append, Nat.reduceAdd, Nat.reduceSub]
 refine sr <| m (as_ .b) u4 <| e ?_
 refine sr <| rjb hm (fun j0_4 : Bool => ⟨[.any, .any, .any, .any, .bool j0_4, .any, .any, .any, .any, .any, .any, .any, .any, .any, .any, .any, .any, .any, .any, .any], []⟩) (fun _ hm hq1 => ?_) (fun j0_4 hm => ?_)
 ·
  refine m (mv (.t n0)) u5 <| c (call (tot_impl_IsHost name_) (.c (.t n5) rfl .n)) u6 <| m (mv (.t n6)) u7 <| sp n7 u7 u7 (fun h2 => ?_) (fun h2 => ?_)
  ·
   replace hm := ct h2 hm
   refine mg n2 rfl n7 (mv (.t n0)) u8 <| cg n2 rfl n7 (call (tot_impl_Registrable name_) (.c (.t n8) rfl .n)) u9 <| mg n2 rfl n7 (sne (.t n9) (.s rfl)) u10 <| m (pkt (.t n7) (.t n10)) u11 <| m (mv (.t n11)) u12 <| sp n12 u12 u12 (fun h3 => ?_) (fun h3 => ?_)
   ·
    replace hm := ct h3 hm
    refine mg n7 rfl n12 (mv (.t n0)) u13 <| cg n7 rfl n12 (call (tot_impl_hasDot name_) (.c (.t n13) rfl .n)) u14 <| m (pkt (.t n12) (.t n14)) u15 <| m (mv (.t n15)) u16 <| sp n16 u16 u16 (fun h4 => ?_) (fun h4 => ?_)
    ·
     replace hm := ct h4 hm
     refine mg n11 rfl n16 (mv (.t n1)) u17 <| cg n11 rfl n16 (call (tot_impl_IsValidKey seed_) (.c (.t n17) rfl .n)) u18 <| m (pkt (.t n16) (.t n18)) u19 <| m (as_ (.t n19)) u4 <| e ?_
     replace hm := sj hm
     subst hm
     have hm := hq1
     exact ⟨(keyF seed_), hm, le [] (by decide) (.x4 (.c (.e rfl rfl) (.x8 (.x4 (.x2 (.c .a .n)))))) .n⟩
    ·
     replace hm := cf h4 hm
     refine sk n11 rfl n16 rfl u17 <| sk n11 rfl n16 rfl u18 <| m (pkf (.t n16) .b) u19 <| m (as_ (.t n19)) u4 <| e ?_
     replace hm := sj hm
     subst hm
     have hm := hq1
     exact ⟨false, hm, le [] (by decide) (.x4 (.c (.e rfl rfl) (.x8 (.x4 (.x2 (.c .a .n)))))) .n⟩
   ·
    replace hm := cf h3 hm
    refine sk n7 rfl n12 rfl u13 <| sk n7 rfl n12 rfl u14 <| m (pkf (.t n12) .b) u15 <| m (mv (.t n15)) u16 <| sk n11 rfl n16 rfl u17 <| sk n11 rfl n16 rfl u18 <| m (pkf (.t n16) .b) u19 <| m (as_ (.t n19)) u4 <| e ?_
    replace hm := sj hm
    subst hm
    have hm := hq1
    exact ⟨false, hm, le [] (by decide) (.x4 (.c (.e rfl rfl) (.x8 (.x4 (.x2 (.c .a .n)))))) .n⟩
  ·
   replace hm := cf h2 hm
   refine sk n2 rfl n7 rfl u8 <| sk n2 rfl n7 rfl u9 <| sk n2 rfl n7 rfl u10 <| m (pkf (.t n7) .b) u11 <| m (mv (.t n11)) u12 <| sk n7 rfl n12 rfl u13 <| sk n7 rfl n12 rfl u14 <| m (pkf (.t n12) .b) u15 <| m (mv (.t n15)) u16 <| sk n11 rfl n16 rfl u17 <| sk n11 rfl n16 rfl u18 <| m (pkf (.t n16) .b) u19 <| m (as_ (.t n19)) u4 <| e ?_
   replace hm := sj hm
   subst hm
   have hm := hq1
   exact ⟨false, hm, le [] (by decide) (.x4 (.c (.e rfl rfl) (.x8 (.x4 (.x2 (.c .a .n)))))) .n⟩
 ·
  replace hm := sj hm
  subst hm
  exact rt (ret1 (.t n4 (.p rfl) .n) rfl)

theorem tot_impl_mayHaveName (name_ : ByteArray) (seed_ : Int)  : Spec Tryz.prog G0 191 [.str name_, .int .i64 seed_] (fun v => v = .bool (nameOkF name_ seed_)) := sp_impl_mayHaveName name_ seed_ _ (t_impl_mayHaveName name_ seed_)

theorem sp_impl_IsValidSite (s_ : D.Site) (r : Bool) (hm : m_impl_IsValidSite s_ = some r) : Spec Tryz.prog G0 99 [.agg (D.Site.V s_)] (fun v => v = .bool r) := by
 rw [m_impl_IsValidSite] at hm
 refine enter (l := [.tmp 2]) Tryz.func99 rfl Tryz.ntmps99 rfl T.en99 fun E => ?_
 simp only [List.length_cons, List.length_nil, List.replicate_succ, List.replicate_zero, List.cons_append, List.nil_append, Nat.reduceAdd, Nat.reduceSub]
 refine sr <| k (bx rfl s0 u1 (.t n0)) <| m (as_ .b) u2 <| e ?_
 refine sq ?_
 refine sr <| rjb hm (fun j0_23 : Bool => ⟨[.any, .box 0 0, .any, .any, .any, .any, .any, .any, .any, .any, .any, .any, .any, .any, .any, .any, .any, .any, .any, .any, .any, .any, .any, .bool j0_23, .any, .any, .any, .any, .any, .any, .any, .any, .any, .any, .any, .any, .any, .any, .any, .any, .any, .any, .any, .any, .any, .any, .any, .any, .any, .any, .any, .any], [.box 152 [.str s_.Name, .slice 3 (s_.Accounts.map D.Account.V), .int .i64 s_.Book.Seed, .int .i64 s_.Book.Next, .slice 3 (s_.Book.Open.map D.Challenge.V), .slice 1 (s_.Logins.map iV)]]⟩) (fun _ hm hq1 => ?_) (fun j0_23 hm => ?_)
 ·
  refine m (fab 0 rfl T.f152_0 (.t n1)) u5 <| m (ldb T.o9 n0 n0 (.t n5)) u6 <| m (fab 2 rfl T.f152_2 (.t n1)) u7 <| m (fab 2 rfl T.f150_0 (.t n7)) u8 <| m (ldb T.o3 n0 n2 (.t n8)) u9 <| c (call (tot_impl_mayHaveName s_.Name s_.Book.Seed) (.c (.t n6) rfl (.c (.t n9) rfl .n))) u10 <| m (not_ (.t n10)) u11 <| m (mv (.t n11)) u12 <| sp n12 u12 u12 (fun h2 => ?_) (fun h2 => ?_)
  ·
   replace hm := ct h2 hm
   refine sk n7 rfl n12 rfl u13 <| sk n7 rfl n12 rfl u14 <| sk n7 rfl n12 rfl u15 <| sk n7 rfl n12 rfl u16 <| m (pkt (.t n12) .b) u17 <| m (mv (.t n17)) u18 <| sk n13 rfl n18 rfl u19 <| sk n13 rfl n18 rfl u20 <| sk n13 rfl n18 rfl u21 <| sk n13 rfl n18 rfl u22 <| m (pkt (.t n18) .b) u23 <| e ?_
   replace hm := sj hm
   subst hm
   have hm := hq1
   exact ⟨true, hm, le [0] (by decide) (.c .a (.c (.b n0) (.x16 (.x4 (.c .a (.c (.e rfl rfl) (.x16 (.x8 (.x4 .n))))))))) (.b n0 (.c (.e rfl rfl) (.c (.e rfl rfl) (.c (.e rfl rfl) (.c (.e rfl rfl) (.c (.e rfl rfl) (.c (.e rfl rfl) .n)))))) .n)⟩
  ·
   replace hm := cf h2 hm
   refine mg n7 rfl n12 (fab 1 rfl T.f152_1 (.t n1)) u13 <| mg n7 rfl n12 (ldb T.o147 n0 n1 (.t n13)) u14 <| mg n7 rfl n12 (lenm (l := s_.Accounts) (f := D.Account.V) T.s147 (.t n14)) u15 <| mg n7 rfl n12 (gtr (.t n15) (.i rfl)) u16 <| m (pkf (.t n12) (.t n16)) u17 <| m (mv (.t n17)) u18 <| sp n18 u18 u18 (fun h3 => ?_) (fun h3 => ?_)
   ·
    replace hm := ct h3 hm
    refine sk n13 rfl n18 rfl u19 <| sk n13 rfl n18 rfl u20 <| sk n13 rfl n18 rfl u21 <| sk n13 rfl n18 rfl u22 <| m (pkt (.t n18) .b) u23 <| e ?_
    replace hm := sj hm
    subst hm
    have hm := hq1
    exact ⟨true, hm, le [0] (by decide) (.c .a (.c (.b n0) (.x16 (.x4 (.c .a (.c (.e rfl rfl) (.x16 (.x8 (.x4 .n))))))))) (.b n0 (.c (.e rfl rfl) (.c (.e rfl rfl) (.c (.e rfl rfl) (.c (.e rfl rfl) (.c (.e rfl rfl) (.c (.e rfl rfl) .n)))))) .n)⟩
   ·
    replace hm := cf h3 hm
    obtain ⟨c4, hm⟩ := gd_some hm
    refine mg n13 rfl n18 (fab 2 rfl T.f152_2 (.t n1)) u19 <| mg n13 rfl n18 (lab T.a150 n0 d2 k3 (.t n19)) u20 <| cg n13 rfl n18 (call (tot_impl_IsValidBook s_.Book c4) (.c (.t n20) rfl .n)) u21 <| mg n13 rfl n18 (not_ (.t n21)) u22 <| m (pkf (.t n18) (.t n22)) u23 <| e ?_
    replace hm := sj hm
    subst hm
    have hm := hq1
    exact ⟨(!(bookOkF s_.Book)), hm, le [0] (by decide) (.c .a (.c (.b n0) (.x16 (.x4 (.c .a (.c (.e rfl rfl) (.x16 (.x8 (.x4 .n))))))))) (.b n0 (.c (.e rfl rfl) (.c (.e rfl rfl) (.c (.e rfl rfl) (.c (.e rfl rfl) (.c (.e rfl rfl) (.c (.e rfl rfl) .n)))))) .n)⟩
 ·
  refine cnd n23 (fun h5 => ?_) (fun h5 => ?_)
  ·
   replace hm := ct h5 hm
   refine sr <| m (as_ .b) u2 <| e ?_
   replace hm := sj hm
   subst hm
   exact rt (ret1 (.t n2 (.p rfl) .n) rfl)
  ·
   replace hm := cf h5 hm
   refine skp ?_
   refine sq ?_
   refine sr <| m (fab 1 rfl T.f152_1 (.t n1)) u24 <| m (ldb T.o147 n0 n1 (.t n24)) u25 <| m (lenm (l := s_.Accounts) (f := D.Account.V) T.s147 (.t n25)) u26 <| m (mv (.i rfl)) u27 <| e ?_
   refine jmx hm (fun _ : Unit => ⟨[.any, .any, .any, .any, .any, .any, .any, .any, .any, .any, .any, .any, .any, .any, .any, .any, .any, .any, .any, .any, .any, .any, .any, .any, .any, .any, .any, .any, .any, .any, .any, .any, .any, .any, .any, .any, .any, .any, .any, .any, .any, .any, .any, .any, .any, .any, .any, .any, .any, .any, .any, .any], []⟩) (fun _ hm hq6 => ?_) (fun _ hm => ?_)
   ·
    refine bk ?_
    refine lpf (m := m_impl_IsValidSite_l0 s_) hm (fun i0 : Nat => ⟨[.any, .box 0 0, .any, .any, .any, .any, .any, .any, .any, .any, .any, .any, .any, .any, .any, .any, .any, .any, .any, .any, .any, .any, .any, .any, .any, .slice 3 (s_.Accounts.map D.Account.V), .int .i64 (s_.Accounts.length : Int), .int .i64 (i0 : Int), .any, .any, .any, .any, .any, .any, .any, .any, .any, .any, .any, .any, .any, .any, .any, .any, .any, .any, .any, .any, .any, .any, .any, .any], [.box 152 [.str s_.Name, .slice 3 (s_.Accounts.map D.Account.V), .int .i64 s_.Book.Seed, .int .i64 s_.Book.Next, .slice 3 (s_.Book.Open.map D.Challenge.V), .slice 1 (s_.Logins.map iV)]]⟩) (fun _ => rfl) (le [0] (by decide) (.c .a (.c (.b n0) (.x16 (.x4 (.x2 (.c .a (.c (.e rfl rfl) (.c (.e rfl rfl) (.c (.e rfl rfl) (.x16 (.x8 .n))))))))))) (.b n0 (.c (.e rfl rfl) (.c (.e rfl rfl) (.c (.e rfl rfl) (.c (.e rfl rfl) (.c (.e rfl rfl) (.c (.e rfl rfl) .n)))))) .n)) ?_
    rintro f i0 hm
    rw [m_impl_IsValidSite_l0] at hm
    refine sr <| m (lss (.t n27) (.t n26)) u28 <| e ?_
    refine rng n26 fun _ ra7 => ?_
    replace ra7 := (show (_ : Int) ≤ 9223372036854775807 from ra7)
    refine sq ?_
    refine cnd n28 (fun h8 => ?_) (fun h8 => ?_)
    ·
     replace hm := ct h8 hm
     have h8d := of_decide_eq_true h8
     refine skp ?_
     refine sq ?_
     refine bk ?_
     obtain ⟨z9, e10, hm⟩ := bd_some hm
     refine sr <| m (mv (.t n27)) u29 <| m (ixq (f := D.Account.V) e10 T.s147 (.t n25) (.t n27)) u30 <| m (lae T.a174 k3 (.t n30)) u31 <| k (al T.z174 s1 u4) <| m (as_ (.t n29)) u3 <| k (sta T.a174 rfl rfl n1 (.z (.z (.z .n))) q1 (.t n4) (.t n31)) <| e ?_
     refine sd none [(0, true), (1, false), (2, true), (3, true), (4, true), (5, true), (6, true), (7, true), (8, true), (9, true), (10, true), (11, true), (12, true), (13, true), (14, true), (15, true), (16, true), (17, true), (18, true)] T.mix (by kernel_rfl) <| rob hm (fun j2_50 : Bool => ⟨[.any, .box 0 0, .any, .any, .any, .any, .any, .any, .any, .any, .any, .any, .any, .any, .any, .any, .any, .any, .any, .any, .any, .any, .any, .any, .any, .slice 3 (s_.Accounts.map D.Account.V), .int .i64 (s_.Accounts.length : Int), .int .i64 (i0 : Int), .any, .any, .any, .any, .any, .any, .any, .any, .any, .any, .any, .any, .any, .any, .any, .any, .any, .any, .any, .any, .any, .any, .bool j2_50, .any], [.box 152 [.str s_.Name, .slice 3 (s_.Accounts.map D.Account.V), .int .i64 s_.Book.Seed, .int .i64 s_.Book.Next, .slice 3 (s_.Book.Open.map D.Challenge.V), .slice 1 (s_.Logins.map iV)]]⟩) (fun _ hm hq11 => ?_) (fun j2_50 hm => ?_)
     ·
      obtain ⟨c12, hm⟩ := gd_some hm
      refine om n0 (lab T.a174 n1 d0 k3 (.t n4)) u32 <| oc n1 (call (tot_impl_IsValidAccount z9 c12) (.c (.t n32) rfl .n)) u33 <| om n2 (not_ (.t n33)) u34 <| om n3 (mv (.t n34)) u35 <| osp n35 u35 u35 (fun h13 => ?_) (fun h13 => ?_)
      ·
       replace hm := ct h13 hm
       refine os n4 n3 rfl n35 rfl u36 <| os n5 n3 rfl n35 rfl u37 <| os n6 n3 rfl n35 rfl u38 <| osu n7 n6 rfl n38 u39 <| osu n8 n6 rfl n38 u40 <| osu n9 n6 rfl n38 u41 <| osu n10 n6 rfl n38 u42 <| osu n11 n6 rfl n38 u43 <| osu n12 n6 rfl n38 u44 <| osu n13 n6 rfl n38 u45 <| osu n14 n6 rfl n38 u46 <| osu n15 n6 rfl n38 u47 <| osu n16 n6 rfl n38 u48 <| os n17 n3 rfl n35 rfl u49 <| om n18 (pkt (.t n35) .b) u50 <| oe ?_
       replace hm := sj hm
       subst hm
       have hm := hq11
       exact ⟨true, hm, le [0] (by decide) (.c .a (.c (.b n0) (.x16 (.x4 (.x2 (.c .a (.c (.e rfl rfl) (.c (.e rfl rfl) (.c (.e rfl rfl) (.x16 (.x4 (.x2 (.c (.e rfl rfl) (.c .a .n)))))))))))))) (.b n0 (.c (.e rfl rfl) (.c (.e rfl rfl) (.c (.e rfl rfl) (.c (.e rfl rfl) (.c (.e rfl rfl) (.c (.e rfl rfl) .n)))))) .n)⟩
      ·
       replace hm := cf h13 hm
       refine omg n4 n3 rfl n35 (mv (.t n3)) u36 <| omg n5 n3 rfl n35 (gtr (.t n36) (.i rfl)) u37 <| omg n6 n3 rfl n35 (mv (.t n37)) u38 <| osp n38 u38 u38 (fun h14 => ?_) (fun h14 => ?_)
       ·
        replace hm := ct h14 hm
        obtain ⟨z15, e16, hm⟩ := bd_some hm
        refine omg n7 n6 rfl n38 (fab 1 rfl T.f152_1 (.t n1)) u39 <| omg n8 n6 rfl n38 (ldb T.o147 n0 n1 (.t n39)) u40 <| omg n9 n6 rfl n38 (mv (.t n3)) u41 <| omg n10 n6 rfl n38 (sub (.t n41) (.i rfl)) u42 <| omg n11 n6 rfl n38 (ixq (f := D.Account.V) e16 T.s147 (.t n40) (.t n42)) u43 <| omg n12 n6 rfl n38 (fae T.f174_0 d0 (.t n43)) u44 <| omg n13 n6 rfl n38 (lde T.o3 n0 (.t n44)) u45 <| omg n14 n6 rfl n38 (fab 0 rfl T.f174_0 (.t n4)) u46 <| omg n15 n6 rfl n38 (ldb T.o3 n1 n0 (.t n46)) u47 <| omg n16 n6 rfl n38 (geq (.t n45) (.t n47)) u48 <| omg n17 n3 rfl n35 (pkt (.t n38) (.t n48)) u49 <| om n18 (pkf (.t n35) (.t n49)) u50 <| oe ?_
        replace hm := sj hm
        subst hm
        have hm := hq11
        exact ⟨decide (z15.Id ≥ z9.Id), hm, le [0] (by decide) (.c .a (.c (.b n0) (.x16 (.x4 (.x2 (.c .a (.c (.e rfl rfl) (.c (.e rfl rfl) (.c (.e rfl rfl) (.x16 (.x4 (.x2 (.c (.e rfl rfl) (.c .a .n)))))))))))))) (.b n0 (.c (.e rfl rfl) (.c (.e rfl rfl) (.c (.e rfl rfl) (.c (.e rfl rfl) (.c (.e rfl rfl) (.c (.e rfl rfl) .n)))))) .n)⟩
       ·
        replace hm := cf h14 hm
        refine os n7 n6 rfl n38 rfl u39 <| os n8 n6 rfl n38 rfl u40 <| os n9 n6 rfl n38 rfl u41 <| os n10 n6 rfl n38 rfl u42 <| os n11 n6 rfl n38 rfl u43 <| os n12 n6 rfl n38 rfl u44 <| os n13 n6 rfl n38 rfl u45 <| os n14 n6 rfl n38 rfl u46 <| os n15 n6 rfl n38 rfl u47 <| os n16 n6 rfl n38 rfl u48 <| omg n17 n3 rfl n35 (pkf (.t n38) .b) u49 <| om n18 (pkf (.t n35) (.t n49)) u50 <| oe ?_
        replace hm := sj hm
        subst hm
        have hm := hq11
        exact ⟨false, hm, le [0] (by decide) (.c .a (.c (.b n0) (.x16 (.x4 (.x2 (.c .a (.c (.e rfl rfl) (.c (.e rfl rfl) (.c (.e rfl rfl) (.x16 (.x4 (.x2 (.c (.e rfl rfl) (.c .a .n)))))))))))))) (.b n0 (.c (.e rfl rfl) (.c (.e rfl rfl) (.c (.e rfl rfl) (.c (.e rfl rfl) (.c (.e rfl rfl) (.c (.e rfl rfl) .n)))))) .n)⟩
     ·
      refine cnd n50 (fun h17 => ?_) (fun h17 => ?_)
      ·
       replace hm := ct h17 hm
       refine sr <| m (as_ .b) u2 <| e ?_
       replace hm := inl1 hm hq6
       subst hm
       exact rt (ret1 (.t n2 (.p rfl) .n) rfl)
      ·
       replace hm := cf h17 hm
       refine skp ?_
       refine rg <| m (add (.t n27) (.i rfl)) u51 <| m (mv (.t n51)) u27 <| e ?_
       exact ⟨i0 + 1, hm, le [0] (by decide) (.c .a (.c (.b n0) (.x16 (.x4 (.x2 (.c .a (.c (.e rfl rfl) (.c (.e rfl rfl) (.c (.e (wi (by omega)) rfl) (.x16 (.x8 .n))))))))))) (.b n0 (.c (.e rfl rfl) (.c (.e rfl rfl) (.c (.e rfl rfl) (.c (.e rfl rfl) (.c (.e rfl rfl) (.c (.e rfl rfl) .n)))))) .n)⟩
    ·
     replace hm := cf h8 hm
     have h8d := of_decide_eq_false h8
     refine ex (x1 ?_)
     replace hm := inr1 hm hq6
     exact ⟨(), hm, le [] (by decide) (.x32 (.x16 (.x4 .n))) .n⟩
   ·
    refine sr <| m (as_ .b) u2 <| e ?_
    replace hm := sj hm
    subst hm
    exact rt (ret1 (.t n2 (.p rfl) .n) rfl)

theorem tot_impl_IsValidSite (s_ : D.Site) (hp0 : SOk s_) : Spec Tryz.prog G0 99 [.agg (D.Site.V s_)] (fun v => v = .bool (siteOkF s_)) := sp_impl_IsValidSite s_ _ (t_impl_IsValidSite s_ hp0)

theorem sp_impl_FindAccount (s_ : D.Site) (id_ : Int) (r : Int) (hm : m_impl_FindAccount s_ id_ = some r) : Spec Tryz.prog G0 118 [.agg (D.Site.V s_), .int .i64 id_] (fun v => v = .int .i64 r) := by
 rw [m_impl_FindAccount] at hm
 refine enter (l := [.tmp 4]) Tryz.func118 rfl Tryz.ntmps118 rfl T.en118 fun E => ?_
 simp only [List.length_cons, List.length_nil, List.replicate_succ, List.replicate_zero, List.cons_append, List.nil_append, Nat.reduceAdd, Nat.reduceSub]
 refine sr <| k (bx rfl s0 u2 (.t n0)) <| m (as_ (.i rfl)) u4 <| e ?_
 refine sq ?_
 refine sr <| m (fab 1 rfl T.f152_1 (.t n2)) u7 <| m (ldb T.o147 n0 n1 (.t n7)) u8 <| m (lenm (l := s_.Accounts) (f := D.Account.V) T.s147 (.t n8)) u9 <| m (mv (.i rfl)) u10 <| e ?_
 refine jmx hm (fun _ : Unit => ⟨[.any, .any, .any, .any, .any, .any, .any, .any, .any, .any, .any, .any, .any, .any, .any, .any, .any, .any, .any, .any, .any], []⟩) (fun _ hm hq1 => ?_) (fun _ hm => ?_)
 ·
  refine bk ?_
  refine lpf (m := m_impl_FindAccount_l0 s_ id_) hm (fun i0 : Nat => ⟨[.any, .int .i64 id_, .any, .any, .any, .any, .any, .any, .slice 3 (s_.Accounts.map D.Account.V), .int .i64 (s_.Accounts.length : Int), .int .i64 (i0 : Int), .any, .any, .any, .any, .any, .any, .any, .any, .any, .any], []⟩) (fun _ => rfl) (le [] (by decide) (.c .a (.c (.e rfl rfl) (.x4 (.x2 (.c (.e rfl rfl) (.c (.e rfl rfl) (.c (.e rfl rfl) (.x8 (.x2 .n))))))))) .n) ?_
  rintro f i0 hm
  rw [m_impl_FindAccount_l0] at hm
  refine sr <| m (lss (.t n10) (.t n9)) u11 <| e ?_
  refine rng n9 fun _ ra2 => ?_
  replace ra2 := (show (_ : Int) ≤ 9223372036854775807 from ra2)
  refine sq ?_
  refine cnd n11 (fun h3 => ?_) (fun h3 => ?_)
  ·
   replace hm := ct h3 hm
   have h3d := of_decide_eq_true h3
   refine skp ?_
   refine sq ?_
   refine bk ?_
   obtain ⟨z4, e5, hm⟩ := bd_some hm
   refine sr <| m (mv (.t n10)) u12 <| m (ixq (f := D.Account.V) e5 T.s147 (.t n8) (.t n10)) u13 <| m (lae T.a174 k3 (.t n13)) u14 <| k (al T.z174 s0 u6) <| m (as_ (.t n12)) u5 <| k (sta T.a174 rfl rfl n0 (.z (.z (.z .n))) q0 (.t n6) (.t n14)) <| e ?_
   refine sr <| m (fab 0 rfl T.f174_0 (.t n6)) u15 <| m (ldb T.o3 n0 n0 (.t n15)) u16 <| m (mv (.t n1)) u17 <| m (eql (.t n16) (.t n17)) u18 <| e ?_
   refine cnd n18 (fun h6 => ?_) (fun h6 => ?_)
   ·
    replace hm := ct h6 hm
    refine sr <| m (mv (.t n5)) u19 <| m (as_ (.t n19)) u4 <| e ?_
    replace hm := inl1 hm hq1
    subst hm
    exact rt (ret1 (.t n4 (.p rfl) .n) rfl)
   ·
    replace hm := cf h6 hm
    refine skp ?_
    refine rg <| m (add (.t n10) (.i rfl)) u20 <| m (mv (.t n20)) u10 <| e ?_
    exact ⟨i0 + 1, hm, le [] (by decide) (.c .a (.c (.e rfl rfl) (.x4 (.x2 (.c (.e rfl rfl) (.c (.e rfl rfl) (.c (.e (wi (by omega)) rfl) (.x8 (.x2 .n))))))))) .n⟩
  ·
   replace hm := cf h3 hm
   have h3d := of_decide_eq_false h3
   refine ex (x1 ?_)
   replace hm := inr1 hm hq1
   exact ⟨(), hm, le [] (by decide) (.x16 (.x4 (.c .a .n))) .n⟩
 ·
  refine sr <| m (as_ (.i rfl)) u4 <| e ?_
  replace hm := sj hm
  subst hm
  exact rt (ret1 (.t n4 (.p rfl) .n) rfl)

theorem tot_impl_FindAccount (s_ : D.Site) (id_ : Int)  : Spec Tryz.prog G0 118 [.agg (D.Site.V s_), .int .i64 id_] (fun v => v = .int .i64 (findAccountF s_ id_)) := sp_impl_FindAccount s_ id_ _ (t_impl_FindAccount s_ id_)

theorem sp_spec_l19Has (l_ : List Int) (x_ : Int) (r : Bool) (hm : m_spec_l19Has l_ x_ = some r) : Spec Tryz.prog G0 212 [.slice 1 (l_.map iV), .int .i64 x_] (fun v => v = .bool r) := by
 rw [m_spec_l19Has] at hm
 refine enter (l := [.tmp 4]) Tryz.func212 rfl Tryz.ntmps212 rfl T.en212 fun E => ?_
 simp only [List.length_cons, List.length_nil, List.replicate_succ, List.replicate_zero, List.cons_append, List.nil_append, Nat.reduceAdd, Nat.reduceSub]
 refine sr <| m (as_ .b) u4 <| e ?_
 refine sq ?_
 refine sr <| m (as_ (.i rfl)) u5 <| e ?_
 refine jmx hm (fun _ : Unit => ⟨[.any, .any, .any, .any, .any, .any, .any, .any, .any, .any, .any, .any, .any, .any, .any, .any, .any, .any], []⟩) (fun _ hm hq1 => ?_) (fun _ hm => ?_)
 ·
  refine bk ?_
  refine lpf (m := m_spec_l19Has_l0 l_ x_) hm (fun i0 : Nat => ⟨[.slice 1 (l_.map iV), .int .i64 x_, .any, .any, .any, .int .i64 (i0 : Int), .any, .any, .any, .any, .any, .any, .any, .any, .any, .any, .any, .any], []⟩) (fun _ => rfl) (le [] (by decide) (.c (.e rfl rfl) (.c (.e rfl rfl) (.x2 (.c .a (.c (.e rfl rfl) (.x8 (.x4 .n))))))) .n) ?_
  rintro f i0 hm
  rw [m_spec_l19Has_l0] at hm
  refine sq ?_
  refine sr <| m (mv (.t n5)) u6 <| m (mv (.t n0)) u7 <| m (lenm (l := l_) (f := iV) T.s108 (.t n7)) u8 <| m (lss (.t n6) (.t n8)) u9 <| e ?_
  refine rng n8 fun _ ra2 => ?_
  replace ra2 := (show (_ : Int) ≤ 9223372036854775807 from ra2)
  refine cnd n9 (fun h3 => ?_) (fun h3 => ?_)
  ·
   replace hm := ct h3 hm
   have h3d := of_decide_eq_true h3
   refine skp ?_
   refine sq ?_
   refine bk ?_
   obtain ⟨z4, e5, hm⟩ := bd_some hm
   refine sr <| m (mv (.t n0)) u12 <| m (mv (.t n5)) u13 <| m (ixq (f := iV) e5 T.s108 (.t n12) (.t n13)) u14 <| m (lde T.o3 n0 (.t n14)) u15 <| m (mv (.t n1)) u16 <| m (eql (.t n15) (.t n16)) u17 <| e ?_
   refine cnd n17 (fun h6 => ?_) (fun h6 => ?_)
   ·
    replace hm := ct h6 hm
    refine sr <| m (as_ .b) u4 <| e ?_
    replace hm := inl1 hm hq1
    subst hm
    exact rt (ret1 (.t n4 (.p rfl) .n) rfl)
   ·
    replace hm := cf h6 hm
    refine skp ?_
    refine rg <| m (mv (.t n5)) u10 <| m (add (.t n10) (.i rfl)) u11 <| m (as_ (.t n11)) u5 <| e ?_
    exact ⟨i0 + 1, hm, le [] (by decide) (.c (.e rfl rfl) (.c (.e rfl rfl) (.x2 (.c .a (.c (.e (wi (by omega)) rfl) (.x8 (.x4 .n))))))) .n⟩
  ·
   replace hm := cf h3 hm
   have h3d := of_decide_eq_false h3
   refine ex (x1 ?_)
   replace hm := inr1 hm hq1
   exact ⟨(), hm, le [] (by decide) (.x16 (.x2 .n)) .n⟩
 ·
  refine sr <| m (as_ .b) u4 <| e ?_
  replace hm := sj hm
  subst hm
  exact rt (ret1 (.t n4 (.p rfl) .n) rfl)

theorem tot_spec_l19Has (l_ : List Int) (x_ : Int)  : Spec Tryz.prog G0 212 [.slice 1 (l_.map iV), .int .i64 x_] (fun v => v = .bool (hasF l_ x_)) := sp_spec_l19Has l_ x_ _ (t_spec_l19Has l_ x_)

theorem sp_spec_DevicesOf (log_ : List D.LogEntry) (r : (List Int)) (hm : m_spec_DevicesOf log_ = some r) : Spec Tryz.prog G0 213 [.slice 6 (log_.map D.LogEntry.V)] (fun v => v = .slice 1 (r.map iV)) := by
 rw [m_spec_DevicesOf] at hm
 refine enter (l := [.tmp 2]) Tryz.func213 rfl Tryz.ntmps213 rfl T.en213 fun E => ?_
 simp only [List.length_cons, List.length_nil, List.replicate_succ, List.replicate_zero, List.cons_append, List.nil_append, Nat.reduceAdd, Nat.reduceSub]
 refine sr <| m (as_ .n) u2 <| e ?_
 refine sr <| k (bom ([] : List Int) iV T.s108 rfl rfl .n rfl s0 u8) <| m (as_ (.t n8)) u3 <| e ?_
 refine sq ?_
 refine sr <| m (as_ (.i rfl)) u4 <| e ?_
 refine jmb hm (fun j0_3r : List Int => ⟨[.any, .any, .any, .own 0, .any, .any, .any, .any, .any, .any, .any, .any, .any, .any, .any, .any, .any, .any, .any, .any, .any, .any, .any, .any, .any, .any, .any, .any, .any, .any, .any, .any, .any, .any, .any, .any, .any, .any, .any, .any, .any, .any, .any, .any, .any, .any, .any, .any, .any, .any, .any, .any, .any, .any, .any, .any, .any, .any, .any, .any, .any, .any, .any, .any, .any, .any], [.row 3 1 (j0_3r.map iV)]⟩) (fun _ hm hq1 => ?_) (fun j0_3r hm => ?_)
 ·
  refine bk ?_
  refine lpf (m := m_spec_DevicesOf_l0 log_) hm (fun yy2_ : Nat × (List Int) => ⟨[.slice 6 (log_.map D.LogEntry.V), .any, .any, .own 0, .int .i64 (yy2_.1 : Int), .any, .any, .any, .any, .any, .any, .any, .any, .any, .any, .any, .any, .any, .any, .any, .any, .any, .any, .any, .any, .any, .any, .any, .any, .any, .any, .any, .any, .any, .any, .any, .any, .any, .any, .any, .any, .any, .any, .any, .any, .any, .any, .any, .any, .any, .any, .any, .any, .any, .any, .any, .any, .any, .any, .any, .any, .any, .any, .any, .any, .any], [.row 3 1 (yy2_.2.map iV)]⟩) (fun _ => rfl) (le [0] (by decide) (.c (.e rfl rfl) (.x2 (.c (.w n0) (.c (.e rfl rfl) (.x32 (.x16 (.x8 (.x4 (.c .a .n))))))))) (.r n0 rfl .n)) ?_
  rintro f ⟨i0, v0_3r⟩ hm
  rw [m_spec_DevicesOf_l0] at hm
  dsimp only at hm ⊢
  refine sq ?_
  refine sr <| m (mv (.t n4)) u9 <| m (mv (.t n0)) u10 <| m (lenm (l := log_) (f := D.LogEntry.V) T.s43 (.t n10)) u11 <| m (lss (.t n9) (.t n11)) u12 <| e ?_
  refine rng n11 fun _ ra3 => ?_
  replace ra3 := (show (_ : Int) ≤ 9223372036854775807 from ra3)
  refine cnd n12 (fun h4 => ?_) (fun h4 => ?_)
  ·
   replace hm := ct h4 hm
   have h4d := of_decide_eq_true h4
   refine skp ?_
   refine sq ?_
   refine jmb hm (fun j1_3r : List Int => ⟨[.slice 6 (log_.map D.LogEntry.V), .any, .any, .own 0, .int .i64 (i0 : Int), .any, .any, .any, .any, .any, .any, .any, .any, .any, .any, .any, .any, .any, .any, .any, .any, .any, .any, .any, .any, .any, .any, .any, .any, .any, .any, .any, .any, .any, .any, .any, .any, .any, .any, .any, .any, .any, .any, .any, .any, .any, .any, .any, .any, .any, .any, .any, .any, .any, .any, .any, .any, .any, .any, .any, .any, .any, .any, .any, .any, .any], [.row 3 1 (j1_3r.map iV)]⟩) (fun _ hm hq5 => ?_) (fun j1_3r hm => ?_)
   ·
    refine bk ?_
    obtain ⟨z6, e7, hm⟩ := bd_some hm
    refine sr <| m (mv (.t n0)) u15 <| m (mv (.t n4)) u16 <| m (ixq (f := D.LogEntry.V) e7 T.s43 (.t n15) (.t n16)) u17 <| m (fae T.f220_2 d2 (.t n17)) u18 <| m (lde T.o3 n0 (.t n18)) u19 <| m (as_ (.t n19)) u5 <| e ?_
    refine jmb hm (fun j2_3r : List Int => ⟨[.slice 6 (log_.map D.LogEntry.V), .any, .any, .own 0, .int .i64 (i0 : Int), .any, .any, .any, .any, .any, .any, .any, .any, .any, .any, .any, .any, .any, .any, .any, .any, .any, .any, .any, .any, .any, .any, .any, .any, .any, .any, .any, .any, .any, .any, .any, .any, .any, .any, .any, .any, .any, .any, .any, .any, .any, .any, .any, .any, .any, .any, .any, .any, .any, .any, .any, .any, .any, .any, .any, .any, .any, .any, .any, .any, .any], [.row 3 1 (j2_3r.map iV)]⟩) (fun _ hm hq8 => ?_) (fun j2_3r hm => ?_)
    ·
     refine bk ?_
     refine sr <| rjb hm (fun j3_20 : Bool => ⟨[.slice 6 (log_.map D.LogEntry.V), .any, .any, .own 0, .int .i64 (i0 : Int), .int .i64 z6.Device, .any, .any, .any, .any, .any, .any, .any, .any, .any, .any, .any, .any, .any, .any, .bool j3_20, .any, .any, .any, .any, .any, .any, .any, .any, .any, .any, .any, .any, .any, .any, .any, .any, .any, .any, .any, .any, .any, .any, .any, .any, .any, .any, .any, .any, .any, .any, .any, .any, .any, .any, .any, .any, .any, .any, .any, .any, .any, .any, .any, .any, .any], [.row 3 1 (v0_3r.map iV)]⟩) (fun _ hm hq9 => ?_) (fun j3_20 hm => ?_)
     ·
      refine m (mv (.t n0)) u21 <| m (mv (.t n4)) u22 <| m (ixq (f := D.LogEntry.V) e7 T.s43 (.t n21) (.t n22)) u23 <| m (fae T.f220_1 d1 (.t n23)) u24 <| m (lde T.o3 n0 (.t n24)) u25 <| m (eql (.t n25) (.i rfl)) u26 <| m (mv (.t n26)) u27 <| sp n27 u27 u27 (fun h10 => ?_) (fun h10 => ?_)
      ·
       replace hm := ct h10 hm
       refine mg n6 rfl n27 (mv (.t n3)) u28 <| mg n6 rfl n27 (mv (.t n5)) u29 <| cg n6 rfl n27 (callm (tot_spec_l19Has v0_3r z6.Device) rfl (.c (.t n28) (.o n0) (.c (.t n29) (.p rfl) .n))) u30 <| mg n6 rfl n27 (not_ (.t n30)) u31 <| m (pkt (.t n27) (.t n31)) u32 <| m (as_ (.t n32)) u20 <| e ?_
       replace hm := sj hm
       subst hm
       have hm := hq9
       exact ⟨(!(hasF v0_3r z6.Device)), hm, le [0] (by decide) (.c (.e rfl rfl) (.x2 (.c (.w n0) (.c (.e rfl rfl) (.c (.e rfl rfl) (.x8 (.x4 (.x2 (.c (.e rfl rfl) (.x32 (.x8 (.x4 (.c .a .n))))))))))))) (.r n0 rfl .n)⟩
      ·
       replace hm := cf h10 hm
       refine sk n6 rfl n27 rfl u28 <| sk n6 rfl n27 rfl u29 <| sk n6 rfl n27 rfl u30 <| sk n6 rfl n27 rfl u31 <| m (pkf (.t n27) .b) u32 <| m (as_ (.t n32)) u20 <| e ?_
       replace hm := sj hm
       subst hm
       have hm := hq9
       exact ⟨false, hm, le [0] (by decide) (.c (.e rfl rfl) (.x2 (.c (.w n0) (.c (.e rfl rfl) (.c (.e rfl rfl) (.x8 (.x4 (.x2 (.c (.e rfl rfl) (.x32 (.x8 (.x4 (.c .a .n))))))))))))) (.r n0 rfl .n)⟩
     ·
      refine cnd n20 (fun h11 => ?_) (fun h11 => ?_)
      ·
       replace hm := ct h11 hm
       obtain ⟨c12, hm⟩ := gd_some hm
       refine rg <| m (mv (.t n3)) u33 <| m (mv (.t n5)) u34 <| k (bsm ([z6.Device] : List Int) iV T.s108 rfl rfl (.c (.t n34) rfl rfl rfl .n) rfl u35) <| dr u3 <| k (apm (l := v0_3r) (l2 := ([z6.Device] : List Int)) (f := iV) 33 c12 rfl (fun _ => rfl) T.s108 rfl n33 u33 n0 (.t n35) q0 rfl u36) <| m (as_ (.t n36)) u3 <| e ?_
       replace hm := sj hm
       subst hm
       have hm := hq8
       exact ⟨(v0_3r ++ ([z6.Device] : List Int)), hm, le [0] (by decide) (.c (.e rfl rfl) (.x2 (.c (.w n0) (.c (.e rfl rfl) (.x32 (.x16 (.x8 (.x4 (.c .a .n))))))))) (.r n0 rfl .n)⟩
      ·
       replace hm := cf h11 hm
       refine sr <| m (mv (.t n0)) u38 <| m (mv (.t n4)) u39 <| m (ixq (f := D.LogEntry.V) e7 T.s43 (.t n38) (.t n39)) u40 <| m (fae T.f220_1 d1 (.t n40)) u41 <| m (lde T.o3 n0 (.t n41)) u42 <| m (eql (.t n42) (.i rfl)) u43 <| m (as_ (.t n43)) u37 <| e ?_
       refine cnd n37 (fun h13 => ?_) (fun h13 => ?_)
       ·
        replace hm := ct h13 hm
        refine sr <| k (bom ([] : List Int) iV T.s108 rfl rfl .n rfl s1 u44) <| m (as_ (.t n44)) u6 <| e ?_
        refine sq ?_
        refine sr <| m (as_ (.i rfl)) u7 <| e ?_
        refine jmb hm (fun j4r6 : List Int => ⟨[.slice 6 (log_.map D.LogEntry.V), .any, .any, .any, .int .i64 (i0 : Int), .any, .own 0, .any, .any, .any, .any, .any, .any, .any, .any, .any, .any, .any, .any, .any, .any, .any, .any, .any, .any, .any, .any, .any, .any, .any, .any, .any, .any, .any, .any, .any, .any, .any, .any, .any, .any, .any, .any, .any, .any, .any, .any, .any, .any, .any, .any, .any, .any, .any, .any, .any, .any, .any, .any, .any, .any, .any, .any, .any, .any, .any], [.row 3 1 (j4r6.map iV)]⟩) (fun _ hm hq14 => ?_) (fun j4r6 hm => ?_)
        ·
         refine bk ?_
         refine lpf (m := m_spec_DevicesOf_l1 v0_3r z6) hm (fun yy15_ : Nat × (List Int) => ⟨[.slice 6 (log_.map D.LogEntry.V), .any, .any, .own 0, .int .i64 (i0 : Int), .int .i64 z6.Device, .own 1, .int .i64 (yy15_.1 : Int), .any, .any, .any, .any, .any, .any, .any, .any, .any, .any, .any, .any, .any, .any, .any, .any, .any, .any, .any, .any, .any, .any, .any, .any, .any, .any, .any, .any, .any, .any, .any, .any, .any, .any, .any, .any, .any, .any, .any, .any, .any, .any, .any, .any, .any, .any, .any, .any, .any, .any, .any, .any, .any, .any, .any, .any, .any, .any], [.row 3 1 (v0_3r.map iV), .row 3 1 (yy15_.2.map iV)]⟩) (fun _ => rfl) (le [0, 1] (by decide) (.c (.e rfl rfl) (.x2 (.c (.w n0) (.c (.e rfl rfl) (.c (.e rfl rfl) (.c (.w n1) (.c (.e rfl rfl) (.x32 (.x16 (.x8 (.x2 .n))))))))))) (.r n0 rfl (.r n1 rfl .n))) ?_
         rintro f ⟨i1, v1r6⟩ hm
         rw [m_spec_DevicesOf_l1] at hm
         dsimp only at hm ⊢
         refine sq ?_
         refine sr <| m (mv (.t n7)) u45 <| m (mv (.t n3)) u46 <| m (lenom (l := v0_3r) (f := iV) T.s108 n0 (.t n46)) u47 <| m (lss (.t n45) (.t n47)) u48 <| e ?_
         refine rng n47 fun _ ra16 => ?_
         replace ra16 := (show (_ : Int) ≤ 9223372036854775807 from ra16)
         refine cnd n48 (fun h17 => ?_) (fun h17 => ?_)
         ·
          replace hm := ct h17 hm
          have h17d := of_decide_eq_true h17
          refine skp ?_
          refine sq ?_
          refine jmb hm (fun j5r6 : List Int => ⟨[.slice 6 (log_.map D.LogEntry.V), .any, .any, .own 0, .int .i64 (i0 : Int), .int .i64 z6.Device, .own 1, .int .i64 (i1 : Int), .any, .any, .any, .any, .any, .any, .any, .any, .any, .any, .any, .any, .any, .any, .any, .any, .any, .any, .any, .any, .any, .any, .any, .any, .any, .any, .any, .any, .any, .any, .any, .any, .any, .any, .any, .any, .any, .any, .any, .any, .any, .any, .any, .any, .any, .any, .any, .any, .any, .any, .any, .any, .any, .any, .any, .any, .any, .any], [.row 3 1 (v0_3r.map iV), .row 3 1 (j5r6.map iV)]⟩) (fun _ hm hq18 => ?_) (fun j5r6 hm => ?_)
          ·
           refine bk ?_
           obtain ⟨z19, e20, hm⟩ := bd_some hm
           refine sr <| m (mv (.t n3)) u51 <| m (mv (.t n7)) u52 <| m (oixq (f := iV) e20 T.s108 n0 (.t n51) (.t n52)) u53 <| m (ldm1 0 e20 T.o3 n0 rfl n0 (.t n53)) u54 <| m (mv (.t n5)) u55 <| m (neq (.t n54) (.t n55)) u56 <| e ?_
           refine cnd n56 (fun h21 => ?_) (fun h21 => ?_)
           ·
            replace hm := ct h21 hm
            obtain ⟨c22, hm⟩ := gd_some hm
            refine rg <| m (mv (.t n6)) u57 <| m (mv (.t n3)) u58 <| m (mv (.t n7)) u59 <| m (oixq (f := iV) e20 T.s108 n0 (.t n58) (.t n59)) u60 <| m (ldm1 0 e20 T.o3 n0 rfl n0 (.t n60)) u61 <| k (bsm ([z19] : List Int) iV T.s108 rfl rfl (.c (.t n61) rfl rfl rfl .n) rfl u62) <| dr u6 <| k (apm (l := v1r6) (l2 := ([z19] : List Int)) (f := iV) 57 c22 rfl (fun _ => rfl) T.s108 rfl n57 u57 n1 (.t n62) q1 rfl u63) <| m (as_ (.t n63)) u6 <| e ?_
            replace hm := sj hm
            subst hm
            have hm := hq18
            exact ⟨(v1r6 ++ ([z19] : List Int)), hm, le [0, 1] (by decide) (.c (.e rfl rfl) (.x2 (.c (.w n0) (.c (.e rfl rfl) (.c (.e rfl rfl) (.c (.w n1) (.c (.e rfl rfl) (.x32 (.x16 (.x8 (.x2 .n))))))))))) (.r n0 rfl (.r n1 rfl .n))⟩
           ·
            replace hm := cf h21 hm
            refine skp ?_
            replace hm := sj hm
            subst hm
            have hm := hq18
            exact ⟨v1r6, hm, le [0, 1] (by decide) (.c (.e rfl rfl) (.x2 (.c (.w n0) (.c (.e rfl rfl) (.c (.e rfl rfl) (.c (.w n1) (.c (.e rfl rfl) (.x32 (.x16 (.x8 (.x2 .n))))))))))) (.r n0 rfl (.r n1 rfl .n))⟩
          ·
           refine rg <| m (mv (.t n7)) u49 <| m (add (.t n49) (.i rfl)) u50 <| m (as_ (.t n50)) u7 <| e ?_
           exact ⟨(i1 + 1, j5r6), hm, le [0, 1] (by decide) (.c (.e rfl rfl) (.x2 (.c (.w n0) (.c (.e rfl rfl) (.c (.e rfl rfl) (.c (.w n1) (.c (.e (wi (by omega)) rfl) (.x32 (.x16 (.x8 (.x2 .n))))))))))) (.r n0 rfl (.r n1 rfl .n))⟩
         ·
          replace hm := cf h17 hm
          have h17d := of_decide_eq_false h17
          refine ex (x1 ?_)
          replace hm := sj hm
          subst hm
          have hm := hq14
          exact ⟨v1r6, hm, le [1] (by decide) (.c (.e rfl rfl) (.x2 (.c .a (.c (.e rfl rfl) (.c .a (.c (.w n0) (.x32 (.x16 (.x8 (.x2 (.c .a .n))))))))))) (.r n1 rfl .n)⟩
        ·
         refine rg <| m (mv (.t n6)) u64 <| m (as_ (.t n64)) u3 <| e ?_
         replace hm := sj hm
         subst hm
         have hm := hq8
         exact ⟨j4r6, hm, le [0] (by decide) (.c (.e rfl rfl) (.x2 (.c (.w n0) (.c (.e rfl rfl) (.x32 (.x16 (.x8 (.x4 (.c .a .n))))))))) (.r n0 rfl .n)⟩
       ·
        replace hm := cf h13 hm
        refine skp ?_
        replace hm := sj hm
        subst hm
        have hm := hq8
        exact ⟨v0_3r, hm, le [0] (by decide) (.c (.e rfl rfl) (.x2 (.c (.w n0) (.c (.e rfl rfl) (.x32 (.x16 (.x8 (.x4 (.c .a .n))))))))) (.r n0 rfl .n)⟩
    ·
     replace hm := sj hm
     subst hm
     have hm := hq5
     exact ⟨j2_3r, hm, le [0] (by decide) (.c (.e rfl rfl) (.x2 (.c (.w n0) (.c (.e rfl rfl) (.x32 (.x16 (.x8 (.x4 (.c .a .n))))))))) (.r n0 rfl .n)⟩
   ·
    refine rg <| m (mv (.t n4)) u13 <| m (add (.t n13) (.i rfl)) u14 <| m (as_ (.t n14)) u4 <| e ?_
    exact ⟨(i0 + 1, j1_3r), hm, le [0] (by decide) (.c (.e rfl rfl) (.x2 (.c (.w n0) (.c (.e (wi (by omega)) rfl) (.x32 (.x16 (.x8 (.x4 (.c .a .n))))))))) (.r n0 rfl .n)⟩
  ·
   replace hm := cf h4 hm
   have h4d := of_decide_eq_false h4
   refine ex (x1 ?_)
   replace hm := sj hm
   subst hm
   have hm := hq1
   exact ⟨v0_3r, hm, le [0] (by decide) (.x2 (.c .a (.c (.w n0) (.x32 (.x16 (.x8 (.x4 (.x2 .n)))))))) (.r n0 rfl .n)⟩
 ·
  refine sr <| m (mv (.t n3)) u65 <| m (as_ (.t n65)) u2 <| e ?_
  replace hm := sj hm
  subst hm
  exact rt (ret1 (.t n2 (.o n0) .n) rfl)

theorem tot_spec_DevicesOf (log_ : List D.LogEntry) (hp0 : log_.length ≤ 34359738368) : Spec Tryz.prog G0 213 [.slice 6 (log_.map D.LogEntry.V)] (fun v => v = .slice 1 ((devicesOfF log_).map iV)) := sp_spec_DevicesOf log_ _ (t_spec_DevicesOf log_ hp0)

theorem sp_spec_EpochOf (log_ : List D.LogEntry) (r : Int) (hm : m_spec_EpochOf log_ = some r) : Spec Tryz.prog G0 115 [.slice 6 (log_.map D.LogEntry.V)] (fun v => v = .int .i64 r) := by
 rw [m_spec_EpochOf] at hm
 refine enter (l := [.tmp 2]) Tryz.func115 rfl Tryz.ntmps115 rfl T.en115 fun E => ?_
 simp only [List.length_cons, List.length_nil, List.replicate_succ, List.replicate_zero, List.cons_append, List.nil_append, Nat.reduceAdd, Nat.reduceSub]
 refine sr <| m (as_ (.i rfl)) u2 <| e ?_
 refine sr <| m (as_ (.i rfl)) u3 <| e ?_
 refine sq ?_
 refine sr <| m (as_ (.i rfl)) u4 <| e ?_
 refine jmb hm (fun j0_3 : Int => ⟨[.any, .any, .any, .int .i64 j0_3, .any, .any, .any, .any, .any, .any, .any, .any, .any, .any, .any, .any, .any, .any, .any, .any], []⟩) (fun _ hm hq1 => ?_) (fun j0_3 hm => ?_)
 ·
  refine bk ?_
  refine lpf (m := m_spec_EpochOf_l0 log_) hm (fun yy2_ : Int × Nat => ⟨[.slice 6 (log_.map D.LogEntry.V), .any, .any, .int .i64 yy2_.1, .int .i64 (yy2_.2 : Int), .any, .any, .any, .any, .any, .any, .any, .any, .any, .any, .any, .any, .any, .any, .any], []⟩) (fun _ => rfl) (le [] (by decide) (.c (.e rfl rfl) (.x2 (.c (.e rfl rfl) (.c (.e rfl rfl) (.x8 (.x4 (.x2 (.c .a .n)))))))) .n) ?_
  rintro f ⟨v0_3, i0⟩ hm
  rw [m_spec_EpochOf_l0] at hm
  dsimp only at hm ⊢
  refine sq ?_
  refine sr <| m (mv (.t n4)) u5 <| m (mv (.t n0)) u6 <| m (lenm (l := log_) (f := D.LogEntry.V) T.s43 (.t n6)) u7 <| m (lss (.t n5) (.t n7)) u8 <| e ?_
  refine rng n7 fun _ ra3 => ?_
  replace ra3 := (show (_ : Int) ≤ 9223372036854775807 from ra3)
  refine cnd n8 (fun h4 => ?_) (fun h4 => ?_)
  ·
   replace hm := ct h4 hm
   have h4d := of_decide_eq_true h4
   refine skp ?_
   refine sq ?_
   refine jmb hm (fun j1_3 : Int => ⟨[.slice 6 (log_.map D.LogEntry.V), .any, .any, .int .i64 j1_3, .int .i64 (i0 : Int), .any, .any, .any, .any, .any, .any, .any, .any, .any, .any, .any, .any, .any, .any, .any], []⟩) (fun _ hm hq5 => ?_) (fun j1_3 hm => ?_)
   ·
    refine bk ?_
    obtain ⟨z6, e7, hm⟩ := bd_some hm
    refine sr <| m (mv (.t n0)) u11 <| m (mv (.t n4)) u12 <| m (ixq (f := D.LogEntry.V) e7 T.s43 (.t n11) (.t n12)) u13 <| m (fae T.f220_1 d1 (.t n13)) u14 <| m (lde T.o3 n0 (.t n14)) u15 <| m (eql (.t n15) (.i rfl)) u16 <| e ?_
    refine cnd n16 (fun h8 => ?_) (fun h8 => ?_)
    ·
     replace hm := ct h8 hm
     refine rg <| m (mv (.t n3)) u17 <| m (add (.t n17) (.i rfl)) u18 <| m (as_ (.t n18)) u3 <| e ?_
     replace hm := sj hm
     subst hm
     have hm := hq5
     exact ⟨IntKind.i64.wrap (v0_3 + (1 : Int)), hm, le [] (by decide) (.c (.e rfl rfl) (.x2 (.c (.e rfl rfl) (.c (.e rfl rfl) (.x8 (.x4 (.x2 (.c .a .n)))))))) .n⟩
    ·
     replace hm := cf h8 hm
     refine skp ?_
     replace hm := sj hm
     subst hm
     have hm := hq5
     exact ⟨v0_3, hm, le [] (by decide) (.c (.e rfl rfl) (.x2 (.c (.e rfl rfl) (.c (.e rfl rfl) (.x8 (.x4 (.x2 (.c .a .n)))))))) .n⟩
   ·
    refine rg <| m (mv (.t n4)) u9 <| m (add (.t n9) (.i rfl)) u10 <| m (as_ (.t n10)) u4 <| e ?_
    exact ⟨(j1_3, i0 + 1), hm, le [] (by decide) (.c (.e rfl rfl) (.x2 (.c (.e rfl rfl) (.c (.e (wi (by omega)) rfl) (.x8 (.x4 (.x2 (.c .a .n)))))))) .n⟩
  ·
   replace hm := cf h4 hm
   have h4d := of_decide_eq_false h4
   refine ex (x1 ?_)
   replace hm := sj hm
   subst hm
   have hm := hq1
   exact ⟨v0_3, hm, le [] (by decide) (.x2 (.c .a (.c (.e rfl rfl) (.x16 .n)))) .n⟩
 ·
  refine sr <| m (mv (.t n3)) u19 <| m (as_ (.t n19)) u2 <| e ?_
  replace hm := sj hm
  subst hm
  exact rt (ret1 (.t n2 (.p rfl) .n) rfl)

theorem tot_spec_EpochOf (log_ : List D.LogEntry)  : Spec Tryz.prog G0 115 [.slice 6 (log_.map D.LogEntry.V)] (fun v => v = .int .i64 (epochOfF log_)) := sp_spec_EpochOf log_ _ (t_spec_EpochOf log_)

theorem sp_spec_EntryHash (e_ : D.LogEntry) (r : Int) (hm : m_spec_EntryHash e_ = some r) : Spec Tryz.prog G0 264 [.agg (D.LogEntry.V e_)] (fun v => v = .int .i64 r) := by
 rw [m_spec_EntryHash] at hm
 refine enter (l := [.tmp 2]) Tryz.func264 rfl Tryz.ntmps264 rfl T.en264 fun E => ?_
 simp only [List.length_cons, List.length_nil, List.replicate_succ, List.replicate_zero, List.cons_append, List.nil_append, Nat.reduceAdd, Nat.reduceSub]
 refine sr <| k (bx rfl s0 u1 (.t n0)) <| m (as_ (.i rfl)) u2 <| e ?_
 refine sr <| m (fab 0 rfl T.f220_0 (.t n1)) u3 <| m (ldb T.o3 n0 n0 (.t n3)) u4 <| m (fab 1 rfl T.f220_1 (.t n1)) u5 <| m (ldb T.o3 n0 n1 (.t n5)) u6 <| m (fab 2 rfl T.f220_2 (.t n1)) u7 <| m (ldb T.o3 n0 n2 (.t n7)) u8 <| m (fab 3 rfl T.f220_3 (.t n1)) u9 <| m (ldb T.o3 n0 n3 (.t n9)) u10 <| m (fab 4 rfl T.f220_4 (.t n1)) u11 <| m (ldb T.o3 n0 n4 (.t n11)) u12 <| k (bsm ([(229 : Int), e_.Index, e_.Kind, e_.Device, e_.By, e_.Previous] : List Int) iV T.s108 rfl rfl (.c (.i rfl) rfl rfl rfl (.c (.t n4) rfl rfl rfl (.c (.t n6) rfl rfl rfl (.c (.t n8) rfl rfl rfl (.c (.t n10) rfl rfl rfl (.c (.t n12) rfl rfl rfl .n)))))) rfl u13) <| c (call (tot_spec_Hash ([(229 : Int), e_.Index, e_.Kind, e_.Device, e_.By, e_.Previous] : List Int)) (.c (.t n13) rfl .n)) u14 <| m (as_ (.t n14)) u2 <| e ?_
 replace hm := sj hm
 subst hm
 exact rt (ret1 (.t n2 (.p rfl) .n) rfl)

theorem tot_spec_EntryHash (e_ : D.LogEntry)  : Spec Tryz.prog G0 264 [.agg (D.LogEntry.V e_)] (fun v => v = .int .i64 (entryHashF e_)) := sp_spec_EntryHash e_ _ (t_spec_EntryHash e_)

theorem sp_spec_LogHead (log_ : List D.LogEntry) (r : Int) (hm : m_spec_LogHead log_ = some r) : Spec Tryz.prog G0 262 [.slice 6 (log_.map D.LogEntry.V)] (fun v => v = .int .i64 r) := by
 rw [m_spec_LogHead] at hm
 refine enter (l := [.tmp 2]) Tryz.func262 rfl Tryz.ntmps262 rfl T.en262 fun E => ?_
 simp only [List.length_cons, List.length_nil, List.replicate_succ, List.replicate_zero, List.cons_append, List.nil_append, Nat.reduceAdd, Nat.reduceSub]
 refine sr <| m (as_ (.i rfl)) u2 <| e ?_
 refine sq ?_
 refine sr <| m (mv (.t n0)) u3 <| m (lenm (l := log_) (f := D.LogEntry.V) T.s43 (.t n3)) u4 <| m (eql (.t n4) (.i rfl)) u5 <| e ?_
 refine cnd n5 (fun h1 => ?_) (fun h1 => ?_)
 ·
  replace hm := ct h1 hm
  refine sr <| m (as_ (.i rfl)) u2 <| e ?_
  replace hm := sj hm
  subst hm
  exact rt (ret1 (.t n2 (.p rfl) .n) rfl)
 ·
  replace hm := cf h1 hm
  refine skp ?_
  obtain ⟨z2, e3, hm⟩ := bd_some hm
  refine sr <| m (mv (.t n0)) u6 <| m (mv (.t n0)) u7 <| m (lenm (l := log_) (f := D.LogEntry.V) T.s43 (.t n7)) u8 <| m (sub (.t n8) (.i rfl)) u9 <| m (ixq (f := D.LogEntry.V) e3 T.s43 (.t n6) (.t n9)) u10 <| m (lae T.a220 k6 (.t n10)) u11 <| c (call (tot_spec_EntryHash z2) (.c (.t n11) rfl .n)) u12 <| m (as_ (.t n12)) u2 <| e ?_
  replace hm := sj hm
  subst hm
  exact rt (ret1 (.t n2 (.p rfl) .n) rfl)

theorem tot_spec_LogHead (log_ : List D.LogEntry) (hp0 : log_.length ≤ 34359738368) : Spec Tryz.prog G0 262 [.slice 6 (log_.map D.LogEntry.V)] (fun v => v = .int .i64 (logHeadF log_)) := sp_spec_LogHead log_ _ (t_spec_LogHead log_ hp0)
end Go.VK
