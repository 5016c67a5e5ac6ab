/-
  Printed by wip/tools (own work of this part): models of functions, walks over the value kit, and proofs.
-/
import Derived.Test.YtancgejlilbjnaaGreatDoorXkaw1
set_option linter.unusedVariables false
set_option linter.unusedSimpArgs false
set_option maxRecDepth 100000
set_option maxHeartbeats 4000000
namespace Go.VK
open Go.RowKit Go.Proofs
theorem sp_spec_l19Step (before_ : List D.LogEntry) (e_ : D.LogEntry) (r : Bool) (hm : m_spec_l19Step before_ e_ = some r) : Spec Tryz.prog G0 179 [.slice 6 (before_.map D.LogEntry.V), .agg (D.LogEntry.V e_)] (fun v => v = .bool r) := by
 rw [m_spec_l19Step] at hm
 refine enter (l := [.tmp 4]) Tryz.func179 rfl Tryz.ntmps179 rfl T.en179 fun E => ?_
 simp only [List.length_cons, List.length_nil, List.replicate_succ, List.replicate_zero, List.cons_append, List.nil_append, Nat.reduceAdd, Nat.reduceSub]
 refine sr <| k (bx rfl s0 u3 (.t n1)) <| m (as_ .b) u4 <| e ?_
 obtain ⟨c1, hm⟩ := gd_some hm
 refine sr <| m (mv (.t n0)) u8 <| c (call (tot_spec_DevicesOf before_ c1) (.c (.t n8) rfl .n)) u9 <| m (as_ (.t n9)) u5 <| e ?_
 refine sr <| rjb hm (fun j0_6 : Bool => ⟨[.slice 6 (before_.map D.LogEntry.V), .any, .any, .box 0 0, .any, .slice 1 ((devicesOfF before_).map iV), .bool j0_6, .any, .any, .any, .any, .any, .any, .any, .any, .any, .any, .any, .any, .any, .any, .any, .any, .any, .any, .any, .any, .any, .any, .any, .any, .any, .any, .any, .any, .any, .any, .any, .any, .any, .any, .any, .any, .any, .any, .any, .any, .any, .any, .any, .any, .any, .any, .any, .any, .any, .any, .any, .any, .any, .any, .any, .any, .any, .any, .any, .any, .any, .any, .any, .any, .any, .any, .any, .any, .any, .any, .any, .any, .any, .any, .any, .any, .any, .any, .any, .any, .any, .any, .any, .any, .any, .any, .any, .any, .any, .any, .any, .any, .any, .any, .any], [.box 220 [.int .i64 e_.Index, .int .i64 e_.Kind, .int .i64 e_.Device, .int .i64 e_.By, .int .i64 e_.Previous, .int .i64 e_.Signature]]⟩) (fun _ hm hq2 => ?_) (fun j0_6 hm => ?_)
 ·
  refine m (mv (.t n5)) u10 <| m (fab 3 rfl T.f220_3 (.t n3)) u11 <| m (ldb T.o3 n0 n3 (.t n11)) u12 <| c (call (tot_spec_l19Has (devicesOfF before_) e_.By) (.c (.t n10) rfl (.c (.t n12) rfl .n))) u13 <| m (mv (.t n13)) u14 <| sp n14 u14 u14 (fun h3 => ?_) (fun h3 => ?_)
  ·
   replace hm := ct h3 hm
   refine sk n4 rfl n14 rfl u15 <| sk n4 rfl n14 rfl u16 <| sk n4 rfl n14 rfl u17 <| sk n4 rfl n14 rfl u18 <| sku n8 rfl n18 u19 <| sku n8 rfl n18 u20 <| sku n8 rfl n18 u21 <| sku n8 rfl n18 u22 <| sku n8 rfl n18 u23 <| sk n4 rfl n14 rfl u24 <| m (pkt (.t n14) .b) u25 <| m (as_ (.t n25)) u6 <| e ?_
   replace hm := sj hm
   subst hm
   have hm := hq2
   exact ⟨true, hm, le [0] (by decide) (.c (.e rfl rfl) (.x2 (.c (.b n0) (.c .a (.c (.e rfl rfl) (.c (.e rfl rfl) (.x32 (.x32 (.x16 (.x8 (.x4 (.x2 (.c .a .n))))))))))))) (.b n0 (.c (.e rfl rfl) (.c (.e rfl rfl) (.c (.e rfl rfl) (.c (.e rfl rfl) (.c (.e rfl rfl) (.c (.e rfl rfl) .n)))))) .n)⟩
  ·
   replace hm := cf h3 hm
   refine mg n4 rfl n14 (mv (.t n0)) u15 <| mg n4 rfl n14 (lenm (l := before_) (f := D.LogEntry.V) T.s43 (.t n15)) u16 <| mg n4 rfl n14 (eql (.t n16) (.i rfl)) u17 <| mg n4 rfl n14 (mv (.t n17)) u18 <| sp n18 u18 u18 (fun h4 => ?_) (fun h4 => ?_)
   ·
    replace hm := ct h4 hm
    refine mg n8 rfl n18 (fab 3 rfl T.f220_3 (.t n3)) u19 <| mg n8 rfl n18 (ldb T.o3 n0 n3 (.t n19)) u20 <| mg n8 rfl n18 (fab 2 rfl T.f220_2 (.t n3)) u21 <| mg n8 rfl n18 (ldb T.o3 n0 n2 (.t n21)) u22 <| mg n8 rfl n18 (eql (.t n20) (.t n22)) u23 <| mg n4 rfl n14 (pkt (.t n18) (.t n23)) u24 <| m (pkf (.t n14) (.t n24)) u25 <| m (as_ (.t n25)) u6 <| e ?_
    replace hm := sj hm
    subst hm
    have hm := hq2
    exact ⟨(e_.By == e_.Device), hm, le [0] (by decide) (.c (.e rfl rfl) (.x2 (.c (.b n0) (.c .a (.c (.e rfl rfl) (.c (.e rfl rfl) (.x32 (.x32 (.x16 (.x8 (.x4 (.x2 (.c .a .n))))))))))))) (.b n0 (.c (.e rfl rfl) (.c (.e rfl rfl) (.c (.e rfl rfl) (.c (.e rfl rfl) (.c (.e rfl rfl) (.c (.e rfl rfl) .n)))))) .n)⟩
   ·
    replace hm := cf h4 hm
    refine sk n8 rfl n18 rfl u19 <| sk n8 rfl n18 rfl u20 <| sk n8 rfl n18 rfl u21 <| sk n8 rfl n18 rfl u22 <| sk n8 rfl n18 rfl u23 <| mg n4 rfl n14 (pkf (.t n18) .b) u24 <| m (pkf (.t n14) (.t n24)) u25 <| m (as_ (.t n25)) u6 <| e ?_
    replace hm := sj hm
    subst hm
    have hm := hq2
    exact ⟨false, hm, le [0] (by decide) (.c (.e rfl rfl) (.x2 (.c (.b n0) (.c .a (.c (.e rfl rfl) (.c (.e rfl rfl) (.x32 (.x32 (.x16 (.x8 (.x4 (.x2 (.c .a .n))))))))))))) (.b n0 (.c (.e rfl rfl) (.c (.e rfl rfl) (.c (.e rfl rfl) (.c (.e rfl rfl) (.c (.e rfl rfl) (.c (.e rfl rfl) .n)))))) .n)⟩
 ·
  refine sq ?_
  refine sd none [(0, true), (1, true), (2, true), (3, true), (4, true), (5, true), (6, true), (7, true), (8, true), (9, false), (10, true), (11, true), (12, true), (13, true), (14, true), (15, true), (16, true), (17, true), (18, true), (19, true), (22, true), (23, true), (20, false), (21, false), (24, false), (25, true), (26, true)] T.mix (by kernel_rfl) <| rob hm (fun j1_52 : Bool => ⟨[.slice 6 (before_.map D.LogEntry.V), .any, .any, .box 0 0, .any, .slice 1 ((devicesOfF before_).map iV), .any, .any, .any, .any, .any, .any, .any, .any, .any, .any, .any, .any, .any, .any, .any, .any, .any, .any, .any, .any, .any, .any, .any, .any, .any, .any, .any, .any, .any, .any, .any, .any, .any, .any, .any, .any, .any, .any, .any, .any, .any, .any, .any, .any, .any, .any, .bool j1_52, .any, .any, .any, .any, .any, .any, .any, .any, .any, .any, .any, .any, .any, .any, .any, .any, .any, .any, .any, .any, .any, .any, .any, .any, .any, .any, .any, .any, .any, .any, .any, .any, .any, .any, .any, .any, .any, .any, .any, .any, .any, .any, .any, .any, .any, .any, .any, .any, .any], [.box 220 [.int .i64 e_.Index, .int .i64 e_.Kind, .int .i64 e_.Device, .int .i64 e_.By, .int .i64 e_.Previous, .int .i64 e_.Signature]]⟩) (fun _ hm hq5 => ?_) (fun j1_52 hm => ?_)
  ·
   refine om n0 (fab 0 rfl T.f220_0 (.t n3)) u26 <| om n1 (ldb T.o3 n0 n0 (.t n26)) u27 <| om n2 (mv (.t n0)) u28 <| om n3 (lenm (l := before_) (f := D.LogEntry.V) T.s43 (.t n28)) u29 <| om n4 (neq (.t n27) (.t n29)) u30 <| om n5 (mv (.t n30)) u31 <| osp n31 u31 u31 (fun h6 => ?_) (fun h6 => ?_)
   ·
    replace hm := ct h6 hm
    refine os n6 n5 rfl n31 rfl u32 <| os n7 n5 rfl n31 rfl u33 <| os n8 n5 rfl n31 rfl u34 <| osf n9 n5 rfl n31 rfl u35 <| os n10 n5 rfl n31 rfl u36 <| om n11 (pkt (.t n31) .b) u37 <| om n12 (mv (.t n37)) u38 <| os n13 n12 rfl n38 rfl u39 <| os n14 n12 rfl n38 rfl u40 <| om n15 (pkt (.t n38) .b) u41 <| om n16 (mv (.t n41)) u42 <| os n17 n16 rfl n42 rfl u43 <| os n18 n16 rfl n42 rfl u44 <| os n19 n16 rfl n42 rfl u45 <| os n22 n16 rfl n42 rfl u48 <| os n23 n16 rfl n42 rfl u49 <| osf n20 n16 rfl n42 rfl u46 <| osf n21 n16 rfl n42 rfl u47 <| osf n24 n16 rfl n42 rfl u50 <| os n25 n16 rfl n42 rfl u51 <| om n26 (pkt (.t n42) .b) u52 <| oe ?_
    replace hm := sj hm
    subst hm
    have hm := hq5
    exact ⟨true, hm, le [0] (by decide) (.c (.e rfl rfl) (.x2 (.c (.b n0) (.c .a (.c (.e rfl rfl) (.x32 (.x8 (.x4 (.x2 (.c (.e rfl rfl) (.x32 (.x16 (.c .a .n))))))))))))) (.b n0 (.c (.e rfl rfl) (.c (.e rfl rfl) (.c (.e rfl rfl) (.c (.e rfl rfl) (.c (.e rfl rfl) (.c (.e rfl rfl) .n)))))) .n)⟩
   ·
    replace hm := cf h6 hm
    obtain ⟨c7, hm⟩ := gd_some hm
    refine omg n6 n5 rfl n31 (fab 4 rfl T.f220_4 (.t n3)) u32 <| omg n7 n5 rfl n31 (ldb T.o3 n0 n4 (.t n32)) u33 <| omg n8 n5 rfl n31 (mv (.t n0)) u34 <| ocg n9 n5 rfl n31 (call (tot_spec_LogHead before_ c7) (.c (.t n34) rfl .n)) u35 <| omg n10 n5 rfl n31 (neq (.t n33) (.t n35)) u36 <| om n11 (pkf (.t n31) (.t n36)) u37 <| om n12 (mv (.t n37)) u38 <| osp n38 u38 u38 (fun h8 => ?_) (fun h8 => ?_)
    ·
     replace hm := ct h8 hm
     refine os n13 n12 rfl n38 rfl u39 <| os n14 n12 rfl n38 rfl u40 <| om n15 (pkt (.t n38) .b) u41 <| om n16 (mv (.t n41)) u42 <| os n17 n16 rfl n42 rfl u43 <| os n18 n16 rfl n42 rfl u44 <| os n19 n16 rfl n42 rfl u45 <| os n22 n16 rfl n42 rfl u48 <| os n23 n16 rfl n42 rfl u49 <| osf n20 n16 rfl n42 rfl u46 <| osf n21 n16 rfl n42 rfl u47 <| osf n24 n16 rfl n42 rfl u50 <| os n25 n16 rfl n42 rfl u51 <| om n26 (pkt (.t n42) .b) u52 <| oe ?_
     replace hm := sj hm
     subst hm
     have hm := hq5
     exact ⟨true, hm, le [0] (by decide) (.c (.e rfl rfl) (.x2 (.c (.b n0) (.c .a (.c (.e rfl rfl) (.x32 (.x8 (.x4 (.x2 (.c (.e rfl rfl) (.x32 (.x16 (.c .a .n))))))))))))) (.b n0 (.c (.e rfl rfl) (.c (.e rfl rfl) (.c (.e rfl rfl) (.c (.e rfl rfl) (.c (.e rfl rfl) (.c (.e rfl rfl) .n)))))) .n)⟩
    ·
     replace hm := cf h8 hm
     refine omg n13 n12 rfl n38 (mv (.t n6)) u39 <| omg n14 n12 rfl n38 (not_ (.t n39)) u40 <| om n15 (pkf (.t n38) (.t n40)) u41 <| om n16 (mv (.t n41)) u42 <| osp n42 u42 u42 (fun h9 => ?_) (fun h9 => ?_)
     ·
      replace hm := ct h9 hm
      refine os n17 n16 rfl n42 rfl u43 <| os n18 n16 rfl n42 rfl u44 <| os n19 n16 rfl n42 rfl u45 <| os n22 n16 rfl n42 rfl u48 <| os n23 n16 rfl n42 rfl u49 <| osf n20 n16 rfl n42 rfl u46 <| osf n21 n16 rfl n42 rfl u47 <| osf n24 n16 rfl n42 rfl u50 <| os n25 n16 rfl n42 rfl u51 <| om n26 (pkt (.t n42) .b) u52 <| oe ?_
      replace hm := sj hm
      subst hm
      have hm := hq5
      exact ⟨true, hm, le [0] (by decide) (.c (.e rfl rfl) (.x2 (.c (.b n0) (.c .a (.c (.e rfl rfl) (.x32 (.x8 (.x4 (.x2 (.c (.e rfl rfl) (.x32 (.x16 (.c .a .n))))))))))))) (.b n0 (.c (.e rfl rfl) (.c (.e rfl rfl) (.c (.e rfl rfl) (.c (.e rfl rfl) (.c (.e rfl rfl) (.c (.e rfl rfl) .n)))))) .n)⟩
     ·
      replace hm := cf h9 hm
      obtain ⟨c10, hm⟩ := gd_some hm
      refine omg n17 n16 rfl n42 (fab 3 rfl T.f220_3 (.t n3)) u43 <| omg n18 n16 rfl n42 (ldb T.o3 n0 n3 (.t n43)) u44 <| omg n19 n16 rfl n42 (lab T.a220 n0 d0 k6 (.t n3)) u45 <| omg n22 n16 rfl n42 (fab 5 rfl T.f220_5 (.t n3)) u48 <| omg n23 n16 rfl n42 (ldb T.o3 n0 n5 (.t n48)) u49 <| ocg n20 n16 rfl n42 (call (tot_spec_EntryHash e_) (.c (.t n45) rfl .n)) u46 <| okg n21 n16 rfl n42 (bsm ([(entryHashF e_)] : List Int) iV T.s108 rfl rfl (.c (.t n46) rfl rfl rfl .n) rfl u47) <| ocg n24 n16 rfl n42 (call (tot_spec_VerifySignature e_.By ([(entryHashF e_)] : List Int) e_.Signature c10) (.c (.t n44) rfl (.c (.t n47) rfl (.c (.t n49) rfl .n)))) u50 <| omg n25 n16 rfl n42 (not_ (.t n50)) u51 <| om n26 (pkf (.t n42) (.t n51)) u52 <| oe ?_
      replace hm := sj hm
      subst hm
      have hm := hq5
      exact ⟨(!(verifyF e_.By ([(entryHashF e_)] : List Int) e_.Signature)), hm, le [0] (by decide) (.c (.e rfl rfl) (.x2 (.c (.b n0) (.c .a (.c (.e rfl rfl) (.x32 (.x8 (.x4 (.x2 (.c (.e rfl rfl) (.x32 (.x16 (.c .a .n))))))))))))) (.b n0 (.c (.e rfl rfl) (.c (.e rfl rfl) (.c (.e rfl rfl) (.c (.e rfl rfl) (.c (.e rfl rfl) (.c (.e rfl rfl) .n)))))) .n)⟩
  ·
   refine cnd n52 (fun h11 => ?_) (fun h11 => ?_)
   ·
    replace hm := ct h11 hm
    refine sr <| m (as_ .b) u4 <| e ?_
    replace hm := sj hm
    subst hm
    exact rt (ret1 (.t n4 (.p rfl) .n) rfl)
   ·
    replace hm := cf h11 hm
    refine skp ?_
    refine sq ?_
    refine sr <| m (fab 1 rfl T.f220_1 (.t n3)) u53 <| m (ldb T.o3 n0 n1 (.t n53)) u54 <| m (eql (.t n54) (.i rfl)) u55 <| e ?_
    refine cnd n55 (fun h12 => ?_) (fun h12 => ?_)
    ·
     replace hm := ct h12 hm
     refine sr <| rjb hm (fun j2_4 : Bool => ⟨[.any, .any, .any, .any, .bool j2_4, .any, .any, .any, .any, .any, .any, .any, .any, .any, .any, .any, .any, .any, .any, .any, .any, .any, .any, .any, .any, .any, .any, .any, .any, .any, .any, .any, .any, .any, .any, .any, .any, .any, .any, .any, .any, .any, .any, .any, .any, .any, .any, .any, .any, .any, .any, .any, .any, .any, .any, .any, .any, .any, .any, .any, .any, .any, .any, .any, .any, .any, .any, .any, .any, .any, .any, .any, .any, .any, .any, .any, .any, .any, .any, .any, .any, .any, .any, .any, .any, .any, .any, .any, .any, .any, .any, .any, .any, .any, .any, .any, .any, .any, .any, .any, .any, .any], []⟩) (fun _ hm hq13 => ?_) (fun j2_4 hm => ?_)
     ·
      refine m (mv (.t n5)) u56 <| m (fab 2 rfl T.f220_2 (.t n3)) u57 <| m (ldb T.o3 n0 n2 (.t n57)) u58 <| c (call (tot_spec_l19Has (devicesOfF before_) e_.Device) (.c (.t n56) rfl (.c (.t n58) rfl .n))) u59 <| m (mv (.t n59)) u60 <| sp n60 u60 u60 (fun h14 => ?_) (fun h14 => ?_)
      ·
       replace hm := ct h14 hm
       refine mg n4 rfl n60 (mv (.t n5)) u61 <| mg n4 rfl n60 (lenm (l := (devicesOfF before_)) (f := iV) T.s108 (.t n61)) u62 <| mg n4 rfl n60 (gtr (.t n62) (.i rfl)) u63 <| m (pkt (.t n60) (.t n63)) u64 <| m (as_ (.t n64)) u4 <| e ?_
       replace hm := sj hm
       subst hm
       have hm := hq13
       exact ⟨decide (((devicesOfF before_).length : Int) > (1 : Int)), hm, le [] (by decide) (.x4 (.c (.e rfl rfl) (.x32 (.x32 (.x32 (.c .a .n)))))) .n⟩
      ·
       replace hm := cf h14 hm
       refine sk n4 rfl n60 rfl u61 <| sk n4 rfl n60 rfl u62 <| sk n4 rfl n60 rfl u63 <| m (pkf (.t n60) .b) u64 <| m (as_ (.t n64)) u4 <| e ?_
       replace hm := sj hm
       subst hm
       have hm := hq13
       exact ⟨false, hm, le [] (by decide) (.x4 (.c (.e rfl rfl) (.x32 (.x32 (.x32 (.c .a .n)))))) .n⟩
     ·
      replace hm := sj hm
      subst hm
      exact rt (ret1 (.t n4 (.p rfl) .n) rfl)
    ·
     replace hm := cf h12 hm
     refine skp ?_
     refine sq ?_
     refine sr <| m (as_ (.i rfl)) u7 <| e ?_
     refine jmx hm (fun _ : Unit => ⟨[.any, .any, .any, .box 0 0, .any, .slice 1 ((devicesOfF before_).map iV), .any, .any, .any, .any, .any, .any, .any, .any, .any, .any, .any, .any, .any, .any, .any, .any, .any, .any, .any, .any, .any, .any, .any, .any, .any, .any, .any, .any, .any, .any, .any, .any, .any, .any, .any, .any, .any, .any, .any, .any, .any, .any, .any, .any, .any, .any, .any, .any, .any, .any, .any, .any, .any, .any, .any, .any, .any, .any, .any, .any, .any, .any, .any, .any, .any, .any, .any, .any, .any, .any, .any, .any, .any, .any, .any, .any, .any, .any, .any, .any, .any, .any, .any, .any, .any, .any, .any, .any, .any, .any, .any, .any, .any, .any, .any, .any], [.box 220 [.int .i64 e_.Index, .int .i64 e_.Kind, .int .i64 e_.Device, .int .i64 e_.By, .int .i64 e_.Previous, .int .i64 e_.Signature]]⟩) (fun _ hm hq15 => ?_) (fun _ hm => ?_)
     ·
      refine bk ?_
      refine lpf (m := m_spec_l19Step_l0 before_ e_) hm (fun i0 : Nat => ⟨[.slice 6 (before_.map D.LogEntry.V), .any, .any, .box 0 0, .any, .slice 1 ((devicesOfF before_).map iV), .any, .int .i64 (i0 : Int), .any, .any, .any, .any, .any, .any, .any, .any, .any, .any, .any, .any, .any, .any, .any, .any, .any, .any, .any, .any, .any, .any, .any, .any, .any, .any, .any, .any, .any, .any, .any, .any, .any, .any, .any, .any, .any, .any, .any, .any, .any, .any, .any, .any, .any, .any, .any, .any, .any, .any, .any, .any, .any, .any, .any, .any, .any, .any, .any, .any, .any, .any, .any, .any, .any, .any, .any, .any, .any, .any, .any, .any, .any, .any, .any, .any, .any, .any, .any, .any, .any, .any, .any, .any, .any, .any, .any, .any, .any, .any, .any, .any, .any, .any], [.box 220 [.int .i64 e_.Index, .int .i64 e_.Kind, .int .i64 e_.Device, .int .i64 e_.By, .int .i64 e_.Previous, .int .i64 e_.Signature]]⟩) (fun _ => rfl) (le [0] (by decide) (.c (.e rfl rfl) (.x2 (.c (.b n0) (.c .a (.c (.e rfl rfl) (.c .a (.c (.e rfl rfl) (.x32 (.x32 (.x16 (.x8 (.x4 (.x2 .n))))))))))))) (.b n0 (.c (.e rfl rfl) (.c (.e rfl rfl) (.c (.e rfl rfl) (.c (.e rfl rfl) (.c (.e rfl rfl) (.c (.e rfl rfl) .n)))))) .n)) ?_
      rintro f i0 hm
      rw [m_spec_l19Step_l0] at hm
      refine sq ?_
      refine sr <| m (mv (.t n7)) u65 <| m (mv (.t n0)) u66 <| m (lenm (l := before_) (f := D.LogEntry.V) T.s43 (.t n66)) u67 <| m (lss (.t n65) (.t n67)) u68 <| e ?_
      refine rng n67 fun _ ra16 => ?_
      replace ra16 := (show (_ : Int) ≤ 9223372036854775807 from ra16)
      refine cnd n68 (fun h17 => ?_) (fun h17 => ?_)
      ·
       replace hm := ct h17 hm
       have h17d := of_decide_eq_true h17
       refine skp ?_
       refine sq ?_
       refine bk ?_
       refine sd none [(0, true), (1, true), (2, true), (3, true), (4, true), (5, true), (6, true), (7, true), (8, true), (9, true), (10, true), (11, true), (12, true), (13, true), (14, true), (15, true)] T.mix (by kernel_rfl) <| rob hm (fun j4_86 : Bool => ⟨[.slice 6 (before_.map D.LogEntry.V), .any, .any, .box 0 0, .any, .slice 1 ((devicesOfF before_).map iV), .any, .int .i64 (i0 : Int), .any, .any, .any, .any, .any, .any, .any, .any, .any, .any, .any, .any, .any, .any, .any, .any, .any, .any, .any, .any, .any, .any, .any, .any, .any, .any, .any, .any, .any, .any, .any, .any, .any, .any, .any, .any, .any, .any, .any, .any, .any, .any, .any, .any, .any, .any, .any, .any, .any, .any, .any, .any, .any, .any, .any, .any, .any, .any, .any, .any, .any, .any, .any, .any, .any, .any, .any, .any, .any, .any, .any, .any, .any, .any, .any, .any, .any, .any, .bool j4_86, .any, .any, .any, .any, .any, .any, .any, .any, .any, .any, .any, .any, .any, .any, .any], [.box 220 [.int .i64 e_.Index, .int .i64 e_.Kind, .int .i64 e_.Device, .int .i64 e_.By, .int .i64 e_.Previous, .int .i64 e_.Signature]]⟩) (fun _ hm hq18 => ?_) (fun j4_86 hm => ?_)
       ·
        obtain ⟨z19, e20, hm⟩ := bd_some hm
        refine om n0 (mv (.t n0)) u71 <| om n1 (mv (.t n7)) u72 <| om n2 (ixq (f := D.LogEntry.V) e20 T.s43 (.t n71) (.t n72)) u73 <| om n3 (fae T.f220_1 d1 (.t n73)) u74 <| om n4 (lde T.o3 n0 (.t n74)) u75 <| om n5 (eql (.t n75) (.i rfl)) u76 <| om n6 (mv (.t n76)) u77 <| osp n77 u77 u77 (fun h21 => ?_) (fun h21 => ?_)
        ·
         replace hm := ct h21 hm
         refine omg n7 n6 rfl n77 (mv (.t n0)) u78 <| omg n8 n6 rfl n77 (mv (.t n7)) u79 <| omg n9 n6 rfl n77 (ixq (f := D.LogEntry.V) e20 T.s43 (.t n78) (.t n79)) u80 <| omg n10 n6 rfl n77 (fae T.f220_2 d2 (.t n80)) u81 <| omg n11 n6 rfl n77 (lde T.o3 n0 (.t n81)) u82 <| omg n12 n6 rfl n77 (fab 2 rfl T.f220_2 (.t n3)) u83 <| omg n13 n6 rfl n77 (ldb T.o3 n0 n2 (.t n83)) u84 <| omg n14 n6 rfl n77 (eql (.t n82) (.t n84)) u85 <| om n15 (pkt (.t n77) (.t n85)) u86 <| oe ?_
         replace hm := sj hm
         subst hm
         have hm := hq18
         exact ⟨(z19.Device == e_.Device), hm, le [0] (by decide) (.c (.e rfl rfl) (.x2 (.c (.b n0) (.c .a (.c (.e rfl rfl) (.c .a (.c (.e rfl rfl) (.x32 (.x32 (.x8 (.x4 (.x2 (.c (.e rfl rfl) (.x8 (.x4 (.x2 (.c .a .n))))))))))))))))) (.b n0 (.c (.e rfl rfl) (.c (.e rfl rfl) (.c (.e rfl rfl) (.c (.e rfl rfl) (.c (.e rfl rfl) (.c (.e rfl rfl) .n)))))) .n)⟩
        ·
         replace hm := cf h21 hm
         refine os n7 n6 rfl n77 rfl u78 <| os n8 n6 rfl n77 rfl u79 <| os n9 n6 rfl n77 rfl u80 <| os n10 n6 rfl n77 rfl u81 <| os n11 n6 rfl n77 rfl u82 <| os n12 n6 rfl n77 rfl u83 <| os n13 n6 rfl n77 rfl u84 <| os n14 n6 rfl n77 rfl u85 <| om n15 (pkf (.t n77) .b) u86 <| oe ?_
         replace hm := sj hm
         subst hm
         have hm := hq18
         exact ⟨false, hm, le [0] (by decide) (.c (.e rfl rfl) (.x2 (.c (.b n0) (.c .a (.c (.e rfl rfl) (.c .a (.c (.e rfl rfl) (.x32 (.x32 (.x8 (.x4 (.x2 (.c (.e rfl rfl) (.x8 (.x4 (.x2 (.c .a .n))))))))))))))))) (.b n0 (.c (.e rfl rfl) (.c (.e rfl rfl) (.c (.e rfl rfl) (.c (.e rfl rfl) (.c (.e rfl rfl) (.c (.e rfl rfl) .n)))))) .n)⟩
       ·
        refine cnd n86 (fun h22 => ?_) (fun h22 => ?_)
        ·
         replace hm := ct h22 hm
         refine sr <| m (as_ .b) u4 <| e ?_
         replace hm := inl1 hm hq15
         subst hm
         exact rt (ret1 (.t n4 (.p rfl) .n) rfl)
        ·
         replace hm := cf h22 hm
         refine skp ?_
         refine rg <| m (mv (.t n7)) u69 <| m (add (.t n69) (.i rfl)) u70 <| m (as_ (.t n70)) u7 <| e ?_
         exact ⟨i0 + 1, hm, le [0] (by decide) (.c (.e rfl rfl) (.x2 (.c (.b n0) (.c .a (.c (.e rfl rfl) (.c .a (.c (.e (wi (by omega)) rfl) (.x32 (.x32 (.x16 (.x8 (.x4 (.x2 .n))))))))))))) (.b n0 (.c (.e rfl rfl) (.c (.e rfl rfl) (.c (.e rfl rfl) (.c (.e rfl rfl) (.c (.e rfl rfl) (.c (.e rfl rfl) .n)))))) .n)⟩
      ·
       replace hm := cf h17 hm
       have h17d := of_decide_eq_false h17
       refine ex (x1 ?_)
       replace hm := inr1 hm hq15
       exact ⟨(), hm, le [0] (by decide) (.x2 (.c .a (.c (.b n0) (.c .a (.c (.e rfl rfl) (.x32 (.x32 (.x32 .n)))))))) (.b n0 (.c (.e rfl rfl) (.c (.e rfl rfl) (.c (.e rfl rfl) (.c (.e rfl rfl) (.c (.e rfl rfl) (.c (.e rfl rfl) .n)))))) .n)⟩
     ·
      refine sr <| rjb hm (fun j5_4 : Bool => ⟨[.any, .any, .any, .any, .bool j5_4, .any, .any, .any, .any, .any, .any, .any, .any, .any, .any, .any, .any, .any, .any, .any, .any, .any, .any, .any, .any, .any, .any, .any, .any, .any, .any, .any, .any, .any, .any, .any, .any, .any, .any, .any, .any, .any, .any, .any, .any, .any, .any, .any, .any, .any, .any, .any, .any, .any, .any, .any, .any, .any, .any, .any, .any, .any, .any, .any, .any, .any, .any, .any, .any, .any, .any, .any, .any, .any, .any, .any, .any, .any, .any, .any, .any, .any, .any, .any, .any, .any, .any, .any, .any, .any, .any, .any, .any, .any, .any, .any, .any, .any, .any, .any, .any, .any], []⟩) (fun _ hm hq23 => ?_) (fun j5_4 hm => ?_)
      ·
       refine m (fab 1 rfl T.f220_1 (.t n3)) u87 <| m (ldb T.o3 n0 n1 (.t n87)) u88 <| m (eql (.t n88) (.i rfl)) u89 <| m (mv (.t n89)) u90 <| sp n90 u90 u90 (fun h24 => ?_) (fun h24 => ?_)
       ·
        replace hm := ct h24 hm
        refine mg n3 rfl n90 (mv (.t n5)) u91 <| mg n3 rfl n90 (fab 2 rfl T.f220_2 (.t n3)) u92 <| mg n3 rfl n90 (ldb T.o3 n0 n2 (.t n92)) u93 <| cg n3 rfl n90 (call (tot_spec_l19Has (devicesOfF before_) e_.Device) (.c (.t n91) rfl (.c (.t n93) rfl .n))) u94 <| mg n3 rfl n90 (not_ (.t n94)) u95 <| m (pkt (.t n90) (.t n95)) u96 <| m (mv (.t n96)) u97 <| sp n97 u97 u97 (fun h25 => ?_) (fun h25 => ?_)
        ·
         replace hm := ct h25 hm
         refine mg n10 rfl n97 (mv (.t n5)) u98 <| mg n10 rfl n97 (lenm (l := (devicesOfF before_)) (f := iV) T.s108 (.t n98)) u99 <| mg n10 rfl n97 (lss (.t n99) (.i rfl)) (.s u99) <| m (pkt (.t n97) (.t (.s n99))) (.s (.s u99)) <| m (as_ (.t (.s (.s n99)))) u4 <| e ?_
         replace hm := sj hm
         subst hm
         have hm := hq23
         exact ⟨decide (((devicesOfF before_).length : Int) < (6 : Int)), hm, le [] (by decide) (.x4 (.c (.e rfl rfl) (.x32 (.x32 (.x32 (.c .a .n)))))) .n⟩
        ·
         replace hm := cf h25 hm
         refine sk n10 rfl n97 rfl u98 <| sk n10 rfl n97 rfl u99 <| sk n10 rfl n97 rfl (.s u99) <| m (pkf (.t n97) .b) (.s (.s u99)) <| m (as_ (.t (.s (.s n99)))) u4 <| e ?_
         replace hm := sj hm
         subst hm
         have hm := hq23
         exact ⟨false, hm, le [] (by decide) (.x4 (.c (.e rfl rfl) (.x32 (.x32 (.x32 (.c .a .n)))))) .n⟩
       ·
        replace hm := cf h24 hm
        refine sk n3 rfl n90 rfl u91 <| sk n3 rfl n90 rfl u92 <| sk n3 rfl n90 rfl u93 <| sk n3 rfl n90 rfl u94 <| sk n3 rfl n90 rfl u95 <| m (pkf (.t n90) .b) u96 <| m (mv (.t n96)) u97 <| sk n10 rfl n97 rfl u98 <| sk n10 rfl n97 rfl u99 <| sk n10 rfl n97 rfl (.s u99) <| m (pkf (.t n97) .b) (.s (.s u99)) <| m (as_ (.t (.s (.s n99)))) u4 <| e ?_
        replace hm := sj hm
        subst hm
        have hm := hq23
        exact ⟨false, hm, le [] (by decide) (.x4 (.c (.e rfl rfl) (.x32 (.x32 (.x32 (.c .a .n)))))) .n⟩
      ·
       replace hm := sj hm
       subst hm
       exact rt (ret1 (.t n4 (.p rfl) .n) rfl)

theorem tot_spec_l19Step (before_ : List D.LogEntry) (e_ : D.LogEntry) (hp0 : before_.length ≤ 34359738368) : Spec Tryz.prog G0 179 [.slice 6 (before_.map D.LogEntry.V), .agg (D.LogEntry.V e_)] (fun v => v = .bool (stepOkF before_ e_)) := sp_spec_l19Step before_ e_ _ (t_spec_l19Step before_ e_ hp0)

theorem sp_spec_VerifyLog (log_ : List D.LogEntry) (r : Bool) (hm : m_spec_VerifyLog log_ = some r) : Spec Tryz.prog G0 89 [.slice 6 (log_.map D.LogEntry.V)] (fun v => v = .bool r) := by
 rw [m_spec_VerifyLog] at hm
 refine enter (l := [.tmp 2]) Tryz.func89 rfl Tryz.ntmps89 rfl T.en89 fun E => ?_
 simp only [List.length_cons, List.length_nil, List.replicate_succ, List.replicate_zero, List.cons_append, List.nil_append, Nat.reduceAdd, Nat.reduceSub]
 refine sr <| m (as_ .b) u2 <| e ?_
 refine sq ?_
 refine sr <| m (as_ (.i rfl)) u3 <| e ?_
 refine jmx hm (fun _ : Unit => ⟨[.slice 6 (log_.map D.LogEntry.V), .any, .any, .any, .any, .any, .any, .any, .any, .any, .any, .any, .any, .any, .any, .any, .any, .any, .any, .any, .any, .any], []⟩) (fun _ hm hq1 => ?_) (fun _ hm => ?_)
 ·
  refine bk ?_
  refine lpf (m := m_spec_VerifyLog_l0 log_) hm (fun i0 : Nat => ⟨[.slice 6 (log_.map D.LogEntry.V), .any, .any, .int .i64 (i0 : Int), .any, .any, .any, .any, .any, .any, .any, .any, .any, .any, .any, .any, .any, .any, .any, .any, .any, .any], []⟩) (fun _ => rfl) (le [] (by decide) (.c (.e rfl rfl) (.x2 (.c (.e rfl rfl) (.x16 (.x2 .n))))) .n) ?_
  rintro f i0 hm
  rw [m_spec_VerifyLog_l0] at hm
  refine sq ?_
  refine sr <| m (mv (.t n3)) u4 <| m (mv (.t n0)) u5 <| m (lenm (l := log_) (f := D.LogEntry.V) T.s43 (.t n5)) u6 <| m (lss (.t n4) (.t n6)) u7 <| e ?_
  refine rng n6 fun _ ra2 => ?_
  replace ra2 := (show (_ : Int) ≤ 9223372036854775807 from ra2)
  refine cnd n7 (fun h3 => ?_) (fun h3 => ?_)
  ·
   replace hm := ct h3 hm
   have h3d := of_decide_eq_true h3
   refine skp ?_
   refine sq ?_
   refine bk ?_
   obtain ⟨c4, hm⟩ := gd_some hm
   obtain ⟨z5, e6, hm⟩ := bd_some hm
   obtain ⟨c7, hm⟩ := gd_some hm
   refine sd none [(0, true), (1, true), (2, true), (3, true), (4, true), (5, true), (6, true), (7, false), (8, true)] T.mix (by kernel_rfl) <| om n0 (mv (.t n0)) u10 <| om n1 (mv (.t n3)) u11 <| om n2 (slq1 (l := log_) (f := D.LogEntry.V) c4 T.s43 (.t n10) (.t n11)) u12 <| om n3 (mv (.t n0)) u13 <| om n4 (mv (.t n3)) u14 <| om n5 (ixq (f := D.LogEntry.V) e6 T.s43 (.t n13) (.t n14)) u15 <| om n6 (lae T.a220 k6 (.t n15)) u16 <| oc n7 (call (tot_spec_l19Step (log_.take (i0 : Int).toNat) z5 c7) (.c (.t n12) rfl (.c (.t n16) rfl .n))) u17 <| om n8 (not_ (.t n17)) u18 <| oe ?_
   refine cnd n18 (fun h8 => ?_) (fun h8 => ?_)
   ·
    replace hm := ct h8 hm
    refine sr <| m (as_ .b) u2 <| e ?_
    replace hm := inl1 hm hq1
    subst hm
    exact rt (ret1 (.t n2 (.p rfl) .n) rfl)
   ·
    replace hm := cf h8 hm
    refine skp ?_
    refine rg <| m (mv (.t n3)) u8 <| m (add (.t n8) (.i rfl)) u9 <| m (as_ (.t n9)) u3 <| e ?_
    exact ⟨i0 + 1, hm, le [] (by decide) (.c (.e rfl rfl) (.x2 (.c (.e (wi (by omega)) rfl) (.x16 (.x2 .n))))) .n⟩
  ·
   replace hm := cf h3 hm
   have h3d := of_decide_eq_false h3
   refine ex (x1 ?_)
   replace hm := inr1 hm hq1
   exact ⟨(), hm, le [] (by decide) (.c (.e rfl rfl) (.x16 (.x4 (.c .a .n)))) .n⟩
 ·
  refine sr <| m (mv (.t n0)) u19 <| m (lenm (l := log_) (f := D.LogEntry.V) T.s43 (.t n19)) u20 <| c (call (tot_spec_l1In (log_.length : Int) (1 : Int) (40 : Int)) (.c (.t n20) rfl (.c (.i rfl) rfl (.c (.i rfl) rfl .n)))) u21 <| m (as_ (.t n21)) u2 <| e ?_
  replace hm := sj hm
  subst hm
  exact rt (ret1 (.t n2 (.p rfl) .n) rfl)

theorem tot_spec_VerifyLog (log_ : List D.LogEntry) (hp0 : log_.length ≤ 34359738368) : Spec Tryz.prog G0 89 [.slice 6 (log_.map D.LogEntry.V)] (fun v => v = .bool (logOkF log_)) := sp_spec_VerifyLog log_ _ (t_spec_VerifyLog log_ hp0)

theorem sp_impl_has (l_ : List Int) (n_ : Int) (r : Bool) (hm : m_impl_has l_ n_ = some r) : Spec Tryz.prog G0 196 [.slice 1 (l_.map iV), .int .i64 n_] (fun v => v = .bool r) := by
 rw [m_impl_has] at hm
 refine enter (l := [.tmp 4]) Tryz.func196 rfl Tryz.ntmps196 rfl T.en196 fun E => ?_
 simp only [List.length_cons, List.length_nil, List.replicate_succ, List.replicate_zero, List.cons_append, List.nil_append, Nat.reduceAdd, Nat.reduceSub]
 refine sr <| m (as_ .b) u4 <| e ?_
 refine sq ?_
 refine sr <| m (mv (.t n0)) u7 <| m (lenm (l := l_) (f := iV) T.s108 (.t n7)) u8 <| m (mv (.i rfl)) u9 <| e ?_
 refine jmx hm (fun _ : Unit => ⟨[.any, .any, .any, .any, .any, .any, .any, .any, .any, .any, .any, .any, .any, .any, .any, .any, .any], []⟩) (fun _ hm hq1 => ?_) (fun _ hm => ?_)
 ·
  refine bk ?_
  refine lpf (m := m_impl_has_l0 l_ n_) hm (fun i0 : Nat => ⟨[.any, .int .i64 n_, .any, .any, .any, .any, .any, .slice 1 (l_.map iV), .int .i64 (l_.length : Int), .int .i64 (i0 : Int), .any, .any, .any, .any, .any, .any, .any], []⟩) (fun _ => rfl) (le [] (by decide) (.c .a (.c (.e rfl rfl) (.x4 (.c .a (.c (.e rfl rfl) (.c (.e rfl rfl) (.c (.e rfl rfl) (.x4 (.x2 (.c .a .n)))))))))) .n) ?_
  rintro f i0 hm
  rw [m_impl_has_l0] at hm
  refine sr <| m (lss (.t n9) (.t n8)) u10 <| e ?_
  refine rng n8 fun _ ra2 => ?_
  replace ra2 := (show (_ : Int) ≤ 9223372036854775807 from ra2)
  refine sq ?_
  refine cnd n10 (fun h3 => ?_) (fun h3 => ?_)
  ·
   replace hm := ct h3 hm
   have h3d := of_decide_eq_true h3
   refine skp ?_
   refine sq ?_
   refine bk ?_
   obtain ⟨z4, e5, hm⟩ := bd_some hm
   refine sr <| m (ixq (f := iV) e5 T.s108 (.t n7) (.t n9)) u11 <| m (lde T.o3 n0 (.t n11)) u12 <| m (as_ (.t n12)) u6 <| e ?_
   refine sr <| m (mv (.t n6)) u13 <| m (mv (.t n1)) u14 <| m (eql (.t n13) (.t n14)) u15 <| e ?_
   refine cnd n15 (fun h6 => ?_) (fun h6 => ?_)
   ·
    replace hm := ct h6 hm
    refine sr <| m (as_ .b) u4 <| e ?_
    replace hm := inl1 hm hq1
    subst hm
    exact rt (ret1 (.t n4 (.p rfl) .n) rfl)
   ·
    replace hm := cf h6 hm
    refine skp ?_
    refine rg <| m (add (.t n9) (.i rfl)) u16 <| m (mv (.t n16)) u9 <| e ?_
    exact ⟨i0 + 1, hm, le [] (by decide) (.c .a (.c (.e rfl rfl) (.x4 (.c .a (.c (.e rfl rfl) (.c (.e rfl rfl) (.c (.e (wi (by omega)) rfl) (.x4 (.x2 (.c .a .n)))))))))) .n⟩
  ·
   replace hm := cf h3 hm
   have h3d := of_decide_eq_false h3
   refine ex (x1 ?_)
   replace hm := inr1 hm hq1
   exact ⟨(), hm, le [] (by decide) (.x16 (.c .a .n)) .n⟩
 ·
  refine sr <| m (as_ .b) u4 <| e ?_
  replace hm := sj hm
  subst hm
  exact rt (ret1 (.t n4 (.p rfl) .n) rfl)

theorem tot_impl_has (l_ : List Int) (n_ : Int)  : Spec Tryz.prog G0 196 [.slice 1 (l_.map iV), .int .i64 n_] (fun v => v = .bool (hasF l_ n_)) := sp_impl_has l_ n_ _ (t_impl_has l_ n_)

theorem sp_impl_DevicesOf (log_ : List D.LogEntry) (r : (List Int)) (hm : m_impl_DevicesOf log_ = some r) : Spec Tryz.prog G0 194 [.slice 6 (log_.map D.LogEntry.V)] (fun v => v = .slice 1 (r.map iV)) := by
 rw [m_impl_DevicesOf] at hm
 refine enter (l := [.tmp 2]) Tryz.func194 rfl Tryz.ntmps194 rfl T.en194 fun E => ?_
 simp only [List.length_cons, List.length_nil, List.replicate_succ, List.replicate_zero, List.cons_append, List.nil_append, Nat.reduceAdd, Nat.reduceSub]
 refine sr <| m (as_ .n) u2 <| e ?_
 refine sr <| k (bom ([] : List Int) iV T.s108 rfl rfl .n rfl s0 u9) <| m (as_ (.t n9)) u3 <| e ?_
 refine sq ?_
 refine sr <| m (mv (.t n0)) u10 <| m (lenm (l := log_) (f := D.LogEntry.V) T.s43 (.t n10)) u11 <| m (mv (.i rfl)) u12 <| e ?_
 refine jmb hm (fun j0_3r : List Int => ⟨[.any, .any, .any, .own 0, .any, .any, .any, .any, .any, .any, .any, .any, .any, .any, .any, .any, .any, .any, .any, .any, .any, .any, .any, .any, .any, .any, .any, .any, .any, .any, .any, .any, .any, .any, .any, .any, .any, .any, .any, .any, .any, .any, .any, .any, .any, .any, .any, .any, .any, .any, .any], [.row 3 1 (j0_3r.map iV)]⟩) (fun _ hm hq1 => ?_) (fun j0_3r hm => ?_)
 ·
  refine bk ?_
  refine lpf (m := m_impl_DevicesOf_l0 log_) hm (fun yy2_ : Nat × (List Int) => ⟨[.any, .any, .any, .own 0, .any, .any, .any, .any, .any, .any, .slice 6 (log_.map D.LogEntry.V), .int .i64 (log_.length : Int), .int .i64 (yy2_.1 : Int), .any, .any, .any, .any, .any, .any, .any, .any, .any, .any, .any, .any, .any, .any, .any, .any, .any, .any, .any, .any, .any, .any, .any, .any, .any, .any, .any, .any, .any, .any, .any, .any, .any, .any, .any, .any, .any, .any], [.row 3 1 (yy2_.2.map iV)]⟩) (fun _ => rfl) (le [0] (by decide) (.x2 (.c .a (.c (.w n0) (.x4 (.x2 (.c (.e rfl rfl) (.c (.e rfl rfl) (.c (.e rfl rfl) (.x32 (.x4 (.x2 .n))))))))))) (.r n0 rfl .n)) ?_
  rintro f ⟨i0, v0_3r⟩ hm
  rw [m_impl_DevicesOf_l0] at hm
  dsimp only at hm ⊢
  refine sr <| m (lss (.t n12) (.t n11)) u13 <| e ?_
  refine rng n11 fun _ ra3 => ?_
  replace ra3 := (show (_ : Int) ≤ 9223372036854775807 from ra3)
  refine sq ?_
  refine cnd n13 (fun h4 => ?_) (fun h4 => ?_)
  ·
   replace hm := ct h4 hm
   have h4d := of_decide_eq_true h4
   refine skp ?_
   refine sq ?_
   refine jmb hm (fun j1_3r : List Int => ⟨[.any, .any, .any, .own 0, .any, .any, .any, .any, .any, .any, .slice 6 (log_.map D.LogEntry.V), .int .i64 (log_.length : Int), .int .i64 (i0 : Int), .any, .any, .any, .any, .any, .any, .any, .any, .any, .any, .any, .any, .any, .any, .any, .any, .any, .any, .any, .any, .any, .any, .any, .any, .any, .any, .any, .any, .any, .any, .any, .any, .any, .any, .any, .any, .any, .any], [.row 3 1 (j1_3r.map iV)]⟩) (fun _ hm hq5 => ?_) (fun j1_3r hm => ?_)
   ·
    refine bk ?_
    obtain ⟨z6, e7, hm⟩ := bd_some hm
    refine sr <| m (ixq (f := D.LogEntry.V) e7 T.s43 (.t n10) (.t n12)) u14 <| m (lae T.a220 k6 (.t n14)) u15 <| k (al T.z220 s1 u5) <| k (sta T.a220 rfl rfl n1 (.z (.z (.z (.z (.z (.z .n)))))) q1 (.t n5) (.t n15)) <| e ?_
    refine sr <| m (fab 1 rfl T.f220_1 (.t n5)) u16 <| m (ldb T.o3 n1 n1 (.t n16)) u17 <| e ?_
    refine jmb hm (fun j2_3r : List Int => ⟨[.any, .any, .any, .own 0, .any, .any, .any, .any, .any, .any, .slice 6 (log_.map D.LogEntry.V), .int .i64 (log_.length : Int), .int .i64 (i0 : Int), .any, .any, .any, .any, .any, .any, .any, .any, .any, .any, .any, .any, .any, .any, .any, .any, .any, .any, .any, .any, .any, .any, .any, .any, .any, .any, .any, .any, .any, .any, .any, .any, .any, .any, .any, .any, .any, .any], [.row 3 1 (j2_3r.map iV)]⟩) (fun _ hm hq8 => ?_) (fun j2_3r hm => ?_)
    ·
     refine bk ?_
     refine sr <| m (eql (.t n17) (.i rfl)) u19 <| m (as_ (.t n19)) u18 <| e ?_
     refine cnd n18 (fun h9 => ?_) (fun h9 => ?_)
     ·
      replace hm := ct h9 hm
      refine sr <| m (mv (.t n3)) u20 <| m (fab 2 rfl T.f220_2 (.t n5)) u21 <| m (ldb T.o3 n1 n2 (.t n21)) u22 <| c (callm (tot_impl_has v0_3r z6.Device) rfl (.c (.t n20) (.o n0) (.c (.t n22) (.p rfl) .n))) u23 <| m (not_ (.t n23)) u24 <| e ?_
      refine cnd n24 (fun h10 => ?_) (fun h10 => ?_)
      ·
       replace hm := ct h10 hm
       obtain ⟨c11, hm⟩ := gd_some hm
       refine rg <| m (mv (.t n3)) u25 <| m (fab 2 rfl T.f220_2 (.t n5)) u26 <| m (ldb T.o3 n1 n2 (.t n26)) u27 <| k (bsm ([z6.Device] : List Int) iV T.s108 rfl rfl (.c (.t n27) rfl rfl rfl .n) rfl u28) <| dr u3 <| dr u20 <| k (apm (l := v0_3r) (l2 := ([z6.Device] : List Int)) (f := iV) 25 c11 rfl (fun _ => rfl) T.s108 rfl n25 u25 n0 (.t n28) q0 rfl u29) <| m (as_ (.t n29)) u3 <| e ?_
       replace hm := sj hm
       subst hm
       have hm := hq8
       exact ⟨(v0_3r ++ ([z6.Device] : List Int)), hm, le [0] (by decide) (.x2 (.c .a (.c (.w n0) (.x4 (.x2 (.c (.e rfl rfl) (.c (.e rfl rfl) (.c (.e rfl rfl) (.x32 (.x4 (.x2 .n))))))))))) (.r n0 rfl .n)⟩
      ·
       replace hm := cf h10 hm
       refine skp ?_
       replace hm := sj hm
       subst hm
       have hm := hq8
       exact ⟨v0_3r, hm, le [0] (by decide) (.x2 (.c .a (.c (.w n0) (.x4 (.x2 (.c (.e rfl rfl) (.c (.e rfl rfl) (.c (.e rfl rfl) (.x32 (.x4 (.x2 .n))))))))))) (.r n0 rfl .n)⟩
     ·
      replace hm := cf h9 hm
      refine sr <| m (eql (.t n17) (.i rfl)) u31 <| m (as_ (.t n31)) u30 <| e ?_
      refine cnd n30 (fun h12 => ?_) (fun h12 => ?_)
      ·
       replace hm := ct h12 hm
       refine sr <| k (bom ([] : List Int) iV T.s108 rfl rfl .n rfl s2 u32) <| m (as_ (.t n32)) u6 <| e ?_
       refine sq ?_
       refine sr <| m (mv (.t n3)) u33 <| m (lenom (l := v0_3r) (f := iV) T.s108 n0 (.t n33)) u34 <| m (mv (.i rfl)) u35 <| e ?_
       refine jmb hm (fun j3r7 : List Int => ⟨[.any, .any, .any, .any, .any, .any, .own 0, .any, .any, .any, .slice 6 (log_.map D.LogEntry.V), .int .i64 (log_.length : Int), .int .i64 (i0 : Int), .any, .any, .any, .any, .any, .any, .any, .any, .any, .any, .any, .any, .any, .any, .any, .any, .any, .any, .any, .any, .any, .any, .any, .any, .any, .any, .any, .any, .any, .any, .any, .any, .any, .any, .any, .any, .any, .any], [.row 3 1 (j3r7.map iV)]⟩) (fun _ hm hq13 => ?_) (fun j3r7 hm => ?_)
       ·
        refine bk ?_
        refine lpf (m := m_impl_DevicesOf_l1 v0_3r z6) hm (fun yy14_ : Nat × (List Int) => ⟨[.any, .any, .any, .any, .any, .box 1 0, .own 2, .any, .any, .any, .slice 6 (log_.map D.LogEntry.V), .int .i64 (log_.length : Int), .int .i64 (i0 : Int), .any, .any, .any, .any, .any, .any, .any, .any, .any, .any, .any, .any, .any, .any, .any, .any, .any, .any, .any, .any, .own 0, .int .i64 (v0_3r.length : Int), .int .i64 (yy14_.1 : Int), .any, .any, .any, .any, .any, .any, .any, .any, .any, .any, .any, .any, .any, .any, .any], [.row 3 1 (v0_3r.map iV), .box 220 [.int .i64 z6.Index, .int .i64 z6.Kind, .int .i64 z6.Device, .int .i64 z6.By, .int .i64 z6.Previous, .int .i64 z6.Signature], .row 3 1 (yy14_.2.map iV)]⟩) (fun _ => rfl) (le [0, 1, 2] (by decide) (.x4 (.c .a (.c (.b n1) (.c (.w n2) (.x2 (.c .a (.c (.e rfl rfl) (.c (.e rfl rfl) (.c (.e rfl rfl) (.x16 (.x4 (.c (.w n0) (.c (.e rfl rfl) (.c (.e rfl rfl) (.x8 (.x4 (.x2 (.c .a .n)))))))))))))))))) (.r n0 rfl (.b n1 (.c (.e rfl rfl) (.c (.e rfl rfl) (.c (.e rfl rfl) (.c (.e rfl rfl) (.c (.e rfl rfl) (.c (.e rfl rfl) .n)))))) (.r n2 rfl .n)))) ?_
        rintro f ⟨i1, v1r7⟩ hm
        rw [m_impl_DevicesOf_l1] at hm
        dsimp only at hm ⊢
        refine sr <| m (lss (.t n35) (.t n34)) u36 <| e ?_
        refine rng n34 fun _ ra15 => ?_
        replace ra15 := (show (_ : Int) ≤ 9223372036854775807 from ra15)
        refine sq ?_
        refine cnd n36 (fun h16 => ?_) (fun h16 => ?_)
        ·
         replace hm := ct h16 hm
         have h16d := of_decide_eq_true h16
         refine skp ?_
         refine sq ?_
         refine jmb hm (fun j4r7 : List Int => ⟨[.any, .any, .any, .any, .any, .box 1 0, .own 2, .any, .any, .any, .slice 6 (log_.map D.LogEntry.V), .int .i64 (log_.length : Int), .int .i64 (i0 : Int), .any, .any, .any, .any, .any, .any, .any, .any, .any, .any, .any, .any, .any, .any, .any, .any, .any, .any, .any, .any, .own 0, .int .i64 (v0_3r.length : Int), .int .i64 (i1 : Int), .any, .any, .any, .any, .any, .any, .any, .any, .any, .any, .any, .any, .any, .any, .any], [.row 3 1 (v0_3r.map iV), .box 220 [.int .i64 z6.Index, .int .i64 z6.Kind, .int .i64 z6.Device, .int .i64 z6.By, .int .i64 z6.Previous, .int .i64 z6.Signature], .row 3 1 (j4r7.map iV)]⟩) (fun _ hm hq17 => ?_) (fun j4r7 hm => ?_)
         ·
          refine bk ?_
          obtain ⟨z18, e19, hm⟩ := bd_some hm
          refine sr <| m (oixq (f := iV) e19 T.s108 n0 (.t n33) (.t n35)) u37 <| m (ldm1 0 e19 T.o3 n0 rfl n0 (.t n37)) u38 <| m (as_ (.t n38)) u8 <| e ?_
          refine sr <| m (mv (.t n8)) u39 <| m (fab 2 rfl T.f220_2 (.t n5)) u40 <| m (ldb T.o3 n1 n2 (.t n40)) u41 <| m (neq (.t n39) (.t n41)) u42 <| e ?_
          refine cnd n42 (fun h20 => ?_) (fun h20 => ?_)
          ·
           replace hm := ct h20 hm
           obtain ⟨c21, hm⟩ := gd_some hm
           refine rg <| m (mv (.t n6)) u43 <| m (mv (.t n8)) u44 <| k (bsm ([z18] : List Int) iV T.s108 rfl rfl (.c (.t n44) rfl rfl rfl .n) rfl u45) <| dr u6 <| k (apm (l := v1r7) (l2 := ([z18] : List Int)) (f := iV) 43 c21 rfl (fun _ => rfl) T.s108 rfl n43 u43 n2 (.t n45) q2 rfl u46) <| m (as_ (.t n46)) u6 <| e ?_
           replace hm := sj hm
           subst hm
           have hm := hq17
           exact ⟨(v1r7 ++ ([z18] : List Int)), hm, le [0, 1, 2] (by decide) (.x4 (.c .a (.c (.b n1) (.c (.w n2) (.x2 (.c .a (.c (.e rfl rfl) (.c (.e rfl rfl) (.c (.e rfl rfl) (.x16 (.x4 (.c (.w n0) (.c (.e rfl rfl) (.c (.e rfl rfl) (.x8 (.x4 (.x2 (.c .a .n)))))))))))))))))) (.r n0 rfl (.b n1 (.c (.e rfl rfl) (.c (.e rfl rfl) (.c (.e rfl rfl) (.c (.e rfl rfl) (.c (.e rfl rfl) (.c (.e rfl rfl) .n)))))) (.r n2 rfl .n)))⟩
          ·
           replace hm := cf h20 hm
           refine skp ?_
           replace hm := sj hm
           subst hm
           have hm := hq17
           exact ⟨v1r7, hm, le [0, 1, 2] (by decide) (.x4 (.c .a (.c (.b n1) (.c (.w n2) (.x2 (.c .a (.c (.e rfl rfl) (.c (.e rfl rfl) (.c (.e rfl rfl) (.x16 (.x4 (.c (.w n0) (.c (.e rfl rfl) (.c (.e rfl rfl) (.x8 (.x4 (.x2 (.c .a .n)))))))))))))))))) (.r n0 rfl (.b n1 (.c (.e rfl rfl) (.c (.e rfl rfl) (.c (.e rfl rfl) (.c (.e rfl rfl) (.c (.e rfl rfl) (.c (.e rfl rfl) .n)))))) (.r n2 rfl .n)))⟩
         ·
          refine rg <| m (add (.t n35) (.i rfl)) u47 <| m (mv (.t n47)) u35 <| e ?_
          exact ⟨(i1 + 1, j4r7), hm, le [0, 1, 2] (by decide) (.x4 (.c .a (.c (.b n1) (.c (.w n2) (.x2 (.c .a (.c (.e rfl rfl) (.c (.e rfl rfl) (.c (.e rfl rfl) (.x16 (.x4 (.c (.w n0) (.c (.e rfl rfl) (.c (.e (wi (by omega)) rfl) (.x8 (.x4 (.x2 (.c .a .n)))))))))))))))))) (.r n0 rfl (.b n1 (.c (.e rfl rfl) (.c (.e rfl rfl) (.c (.e rfl rfl) (.c (.e rfl rfl) (.c (.e rfl rfl) (.c (.e rfl rfl) .n)))))) (.r n2 rfl .n)))⟩
        ·
         replace hm := cf h16 hm
         have h16d := of_decide_eq_false h16
         refine ex (x1 ?_)
         replace hm := sj hm
         subst hm
         have hm := hq13
         exact ⟨v1r7, hm, le [2] (by decide) (.x4 (.x2 (.c (.w n0) (.x2 (.c .a (.c (.e rfl rfl) (.c (.e rfl rfl) (.c (.e rfl rfl) (.x32 (.x4 (.x2 .n))))))))))) (.r n2 rfl .n)⟩
       ·
        refine rg <| m (mv (.t n6)) u48 <| m (as_ (.t n48)) u3 <| e ?_
        replace hm := sj hm
        subst hm
        have hm := hq8
        exact ⟨j3r7, hm, le [0] (by decide) (.x2 (.c .a (.c (.w n0) (.x4 (.x2 (.c (.e rfl rfl) (.c (.e rfl rfl) (.c (.e rfl rfl) (.x32 (.x4 (.x2 .n))))))))))) (.r n0 rfl .n)⟩
      ·
       replace hm := cf h12 hm
       refine skp ?_
       replace hm := sj hm
       subst hm
       have hm := hq8
       exact ⟨v0_3r, hm, le [0] (by decide) (.x2 (.c .a (.c (.w n0) (.x4 (.x2 (.c (.e rfl rfl) (.c (.e rfl rfl) (.c (.e rfl rfl) (.x32 (.x4 (.x2 .n))))))))))) (.r n0 rfl .n)⟩
    ·
     replace hm := sj hm
     subst hm
     have hm := hq5
     exact ⟨j2_3r, hm, le [0] (by decide) (.x2 (.c .a (.c (.w n0) (.x4 (.x2 (.c (.e rfl rfl) (.c (.e rfl rfl) (.c (.e rfl rfl) (.x32 (.x4 (.x2 .n))))))))))) (.r n0 rfl .n)⟩
   ·
    refine rg <| m (add (.t n12) (.i rfl)) u49 <| m (mv (.t n49)) u12 <| e ?_
    exact ⟨(i0 + 1, j1_3r), hm, le [0] (by decide) (.x2 (.c .a (.c (.w n0) (.x4 (.x2 (.c (.e rfl rfl) (.c (.e rfl rfl) (.c (.e (wi (by omega)) rfl) (.x32 (.x4 (.x2 .n))))))))))) (.r n0 rfl .n)⟩
  ·
   replace hm := cf h4 hm
   have h4d := of_decide_eq_false h4
   refine ex (x1 ?_)
   replace hm := sj hm
   subst hm
   have hm := hq1
   exact ⟨v0_3r, hm, le [0] (by decide) (.x2 (.c .a (.c (.w n0) (.x32 (.x8 (.x4 (.x2 (.c .a .n)))))))) (.r n0 rfl .n)⟩
 ·
  refine sr <| m (mv (.t n3)) u50 <| m (as_ (.t n50)) u2 <| e ?_
  replace hm := sj hm
  subst hm
  exact rt (ret1 (.t n2 (.o n0) .n) rfl)

theorem tot_impl_DevicesOf (log_ : List D.LogEntry) (hp0 : log_.length ≤ 34359738368) : Spec Tryz.prog G0 194 [.slice 6 (log_.map D.LogEntry.V)] (fun v => v = .slice 1 ((devicesOfF log_).map iV)) := sp_impl_DevicesOf log_ _ (t_impl_DevicesOf log_ hp0)

theorem sp_impl_EntryHash (e_ : D.LogEntry) (r : Int) (hm : m_impl_EntryHash e_ = some r) : Spec Tryz.prog G0 199 [.agg (D.LogEntry.V e_)] (fun v => v = .int .i64 r) := by
 rw [m_impl_EntryHash] at hm
 refine enter (l := [.tmp 2]) Tryz.func199 rfl Tryz.ntmps199 rfl T.en199 fun E => ?_
 simp only [List.length_cons, List.length_nil, List.replicate_succ, List.replicate_zero, List.cons_append, List.nil_append, Nat.reduceAdd, Nat.reduceSub]
 refine sr <| k (bx rfl s0 u1 (.t n0)) <| m (as_ (.i rfl)) u2 <| e ?_
 refine sr <| m (fab 0 rfl T.f220_0 (.t n1)) u3 <| m (ldb T.o3 n0 n0 (.t n3)) u4 <| m (fab 1 rfl T.f220_1 (.t n1)) u5 <| m (ldb T.o3 n0 n1 (.t n5)) u6 <| m (fab 2 rfl T.f220_2 (.t n1)) u7 <| m (ldb T.o3 n0 n2 (.t n7)) u8 <| m (fab 3 rfl T.f220_3 (.t n1)) u9 <| m (ldb T.o3 n0 n3 (.t n9)) u10 <| m (fab 4 rfl T.f220_4 (.t n1)) u11 <| m (ldb T.o3 n0 n4 (.t n11)) u12 <| k (bsm ([(229 : Int), e_.Index, e_.Kind, e_.Device, e_.By, e_.Previous] : List Int) iV T.s108 rfl rfl (.c (.i rfl) rfl rfl rfl (.c (.t n4) rfl rfl rfl (.c (.t n6) rfl rfl rfl (.c (.t n8) rfl rfl rfl (.c (.t n10) rfl rfl rfl (.c (.t n12) rfl rfl rfl .n)))))) rfl u13) <| c (call (tot_impl_Hash ([(229 : Int), e_.Index, e_.Kind, e_.Device, e_.By, e_.Previous] : List Int)) (.c (.t n13) rfl .n)) u14 <| m (as_ (.t n14)) u2 <| e ?_
 replace hm := sj hm
 subst hm
 exact rt (ret1 (.t n2 (.p rfl) .n) rfl)

theorem tot_impl_EntryHash (e_ : D.LogEntry)  : Spec Tryz.prog G0 199 [.agg (D.LogEntry.V e_)] (fun v => v = .int .i64 (entryHashF e_)) := sp_impl_EntryHash e_ _ (t_impl_EntryHash e_)

theorem sp_impl_LogHead (log_ : List D.LogEntry) (r : Int) (hm : m_impl_LogHead log_ = some r) : Spec Tryz.prog G0 195 [.slice 6 (log_.map D.LogEntry.V)] (fun v => v = .int .i64 r) := by
 rw [m_impl_LogHead] at hm
 refine enter (l := [.tmp 2]) Tryz.func195 rfl Tryz.ntmps195 rfl T.en195 fun E => ?_
 simp only [List.length_cons, List.length_nil, List.replicate_succ, List.replicate_zero, List.cons_append, List.nil_append, Nat.reduceAdd, Nat.reduceSub]
 refine sr <| m (as_ (.i rfl)) u2 <| e ?_
 refine sq ?_
 refine sr <| m (mv (.t n0)) u3 <| m (lenm (l := log_) (f := D.LogEntry.V) T.s43 (.t n3)) u4 <| m (eql (.t n4) (.i rfl)) u5 <| e ?_
 refine cnd n5 (fun h1 => ?_) (fun h1 => ?_)
 ·
  replace hm := ct h1 hm
  refine sr <| m (as_ (.i rfl)) u2 <| e ?_
  replace hm := sj hm
  subst hm
  exact rt (ret1 (.t n2 (.p rfl) .n) rfl)
 ·
  replace hm := cf h1 hm
  refine skp ?_
  obtain ⟨z2, e3, hm⟩ := bd_some hm
  refine sr <| m (mv (.t n0)) u6 <| m (mv (.t n0)) u7 <| m (lenm (l := log_) (f := D.LogEntry.V) T.s43 (.t n7)) u8 <| m (sub (.t n8) (.i rfl)) u9 <| m (ixq (f := D.LogEntry.V) e3 T.s43 (.t n6) (.t n9)) u10 <| m (lae T.a220 k6 (.t n10)) u11 <| c (call (tot_impl_EntryHash z2) (.c (.t n11) rfl .n)) u12 <| m (as_ (.t n12)) u2 <| e ?_
  replace hm := sj hm
  subst hm
  exact rt (ret1 (.t n2 (.p rfl) .n) rfl)

theorem tot_impl_LogHead (log_ : List D.LogEntry) (hp0 : log_.length ≤ 34359738368) : Spec Tryz.prog G0 195 [.slice 6 (log_.map D.LogEntry.V)] (fun v => v = .int .i64 (logHeadF log_)) := sp_impl_LogHead log_ _ (t_impl_LogHead log_ hp0)

theorem sp_impl_wasRemoved (log_ : List D.LogEntry) (device_ : Int) (r : Bool) (hm : m_impl_wasRemoved log_ device_ = some r) : Spec Tryz.prog G0 197 [.slice 6 (log_.map D.LogEntry.V), .int .i64 device_] (fun v => v = .bool r) := by
 rw [m_impl_wasRemoved] at hm
 refine enter (l := [.tmp 4]) Tryz.func197 rfl Tryz.ntmps197 rfl T.en197 fun E => ?_
 simp only [List.length_cons, List.length_nil, List.replicate_succ, List.replicate_zero, List.cons_append, List.nil_append, Nat.reduceAdd, Nat.reduceSub]
 refine sr <| m (as_ .b) u4 <| e ?_
 refine sq ?_
 refine sr <| m (mv (.t n0)) u7 <| m (lenm (l := log_) (f := D.LogEntry.V) T.s43 (.t n7)) u8 <| m (mv (.i rfl)) u9 <| e ?_
 refine jmx hm (fun _ : Unit => ⟨[.any, .any, .any, .any, .any, .any, .any, .any, .any, .any, .any, .any, .any, .any, .any, .any, .any, .any, .any, .any, .any, .any, .any], []⟩) (fun _ hm hq1 => ?_) (fun _ hm => ?_)
 ·
  refine bk ?_
  refine lpf (m := m_impl_wasRemoved_l0 log_ device_) hm (fun i0 : Nat => ⟨[.any, .int .i64 device_, .any, .any, .any, .any, .any, .slice 6 (log_.map D.LogEntry.V), .int .i64 (log_.length : Int), .int .i64 (i0 : Int), .any, .any, .any, .any, .any, .any, .any, .any, .any, .any, .any, .any, .any], []⟩) (fun _ => rfl) (le [] (by decide) (.c .a (.c (.e rfl rfl) (.x4 (.c .a (.c (.e rfl rfl) (.c (.e rfl rfl) (.c (.e rfl rfl) (.x8 (.x4 (.c .a .n)))))))))) .n) ?_
  rintro f i0 hm
  rw [m_impl_wasRemoved_l0] at hm
  refine sr <| m (lss (.t n9) (.t n8)) u10 <| e ?_
  refine rng n8 fun _ ra2 => ?_
  replace ra2 := (show (_ : Int) ≤ 9223372036854775807 from ra2)
  refine sq ?_
  refine cnd n10 (fun h3 => ?_) (fun h3 => ?_)
  ·
   replace hm := ct h3 hm
   have h3d := of_decide_eq_true h3
   refine skp ?_
   refine sq ?_
   refine bk ?_
   obtain ⟨z4, e5, hm⟩ := bd_some hm
   refine sr <| m (ixq (f := D.LogEntry.V) e5 T.s43 (.t n7) (.t n9)) u11 <| m (lae T.a220 k6 (.t n11)) u12 <| k (al T.z220 s0 u6) <| k (sta T.a220 rfl rfl n0 (.z (.z (.z (.z (.z (.z .n)))))) q0 (.t n6) (.t n12)) <| e ?_
   refine sr <| rjb hm (fun j1_21 : Bool => ⟨[.any, .int .i64 device_, .any, .any, .any, .any, .any, .slice 6 (log_.map D.LogEntry.V), .int .i64 (log_.length : Int), .int .i64 (i0 : Int), .any, .any, .any, .any, .any, .any, .any, .any, .any, .any, .any, .bool j1_21, .any], []⟩) (fun _ hm hq6 => ?_) (fun j1_21 hm => ?_)
   ·
    refine m (fab 1 rfl T.f220_1 (.t n6)) u13 <| m (ldb T.o3 n0 n1 (.t n13)) u14 <| m (eql (.t n14) (.i rfl)) u15 <| m (mv (.t n15)) u16 <| sp n16 u16 u16 (fun h7 => ?_) (fun h7 => ?_)
    ·
     replace hm := ct h7 hm
     refine mg n3 rfl n16 (fab 2 rfl T.f220_2 (.t n6)) u17 <| mg n3 rfl n16 (ldb T.o3 n0 n2 (.t n17)) u18 <| mg n3 rfl n16 (mv (.t n1)) u19 <| mg n3 rfl n16 (eql (.t n18) (.t n19)) u20 <| m (pkt (.t n16) (.t n20)) u21 <| e ?_
     replace hm := sj hm
     subst hm
     have hm := hq6
     exact ⟨(z4.Device == device_), hm, le [] (by decide) (.c .a (.c (.e rfl rfl) (.x4 (.c .a (.c (.e rfl rfl) (.c (.e rfl rfl) (.c (.e rfl rfl) (.x8 (.x2 (.c .a (.c (.e rfl rfl) (.c .a .n)))))))))))) .n⟩
    ·
     replace hm := cf h7 hm
     refine sk n3 rfl n16 rfl u17 <| sk n3 rfl n16 rfl u18 <| sk n3 rfl n16 rfl u19 <| sk n3 rfl n16 rfl u20 <| m (pkf (.t n16) .b) u21 <| e ?_
     replace hm := sj hm
     subst hm
     have hm := hq6
     exact ⟨false, hm, le [] (by decide) (.c .a (.c (.e rfl rfl) (.x4 (.c .a (.c (.e rfl rfl) (.c (.e rfl rfl) (.c (.e rfl rfl) (.x8 (.x2 (.c .a (.c (.e rfl rfl) (.c .a .n)))))))))))) .n⟩
   ·
    refine cnd n21 (fun h8 => ?_) (fun h8 => ?_)
    ·
     replace hm := ct h8 hm
     refine sr <| m (as_ .b) u4 <| e ?_
     replace hm := inl1 hm hq1
     subst hm
     exact rt (ret1 (.t n4 (.p rfl) .n) rfl)
    ·
     replace hm := cf h8 hm
     refine skp ?_
     refine rg <| m (add (.t n9) (.i rfl)) u22 <| m (mv (.t n22)) u9 <| e ?_
     exact ⟨i0 + 1, hm, le [] (by decide) (.c .a (.c (.e rfl rfl) (.x4 (.c .a (.c (.e rfl rfl) (.c (.e rfl rfl) (.c (.e (wi (by omega)) rfl) (.x8 (.x4 (.c .a .n)))))))))) .n⟩
  ·
   replace hm := cf h3 hm
   have h3d := of_decide_eq_false h3
   refine ex (x1 ?_)
   replace hm := inr1 hm hq1
   exact ⟨(), hm, le [] (by decide) (.x16 (.x4 (.x2 (.c .a .n)))) .n⟩
 ·
  refine sr <| m (as_ .b) u4 <| e ?_
  replace hm := sj hm
  subst hm
  exact rt (ret1 (.t n4 (.p rfl) .n) rfl)

theorem tot_impl_wasRemoved (log_ : List D.LogEntry) (device_ : Int)  : Spec Tryz.prog G0 197 [.slice 6 (log_.map D.LogEntry.V), .int .i64 device_] (fun v => v = .bool (removedF log_ device_)) := sp_impl_wasRemoved log_ device_ _ (t_impl_wasRemoved log_ device_)

theorem sp_impl_VerifyLog (log_ : List D.LogEntry) (r : Bool) (hm : m_impl_VerifyLog log_ = some r) : Spec Tryz.prog G0 102 [.slice 6 (log_.map D.LogEntry.V)] (fun v => v = .bool r) := by
 rw [m_impl_VerifyLog] at hm
 refine enter (l := [.tmp 2]) Tryz.func102 rfl Tryz.ntmps102 rfl T.en102 fun E => ?_
 simp only [List.length_cons, List.length_nil, List.replicate_succ, List.replicate_zero, List.cons_append, List.nil_append, Nat.reduceAdd, Nat.reduceSub]
 refine sr <| m (as_ .b) u2 <| e ?_
 refine sq ?_
 refine sr <| rjb hm (fun j0_14 : Bool => ⟨[.slice 6 (log_.map D.LogEntry.V), .any, .any, .any, .any, .any, .any, .any, .any, .any, .any, .any, .any, .any, .bool j0_14, .any, .any, .any, .any, .any, .any, .any, .any, .any, .any, .any, .any, .any, .any, .any, .any, .any, .any, .any, .any, .any, .any, .any, .any, .any, .any, .any, .any, .any, .any, .any, .any, .any, .any, .any, .any, .any, .any, .any, .any, .any, .any, .any, .any, .any, .any, .any, .any, .any, .any, .any, .any, .any, .any, .any, .any, .any, .any, .any, .any, .any, .any, .any, .any, .any, .any, .any, .any, .any, .any, .any, .any, .any, .any, .any, .any, .any, .any, .any, .any, .any, .any, .any], []⟩) (fun _ hm hq1 => ?_) (fun j0_14 hm => ?_)
 ·
  refine m (mv (.t n0)) u7 <| m (lenm (l := log_) (f := D.LogEntry.V) T.s43 (.t n7)) u8 <| m (lss (.t n8) (.i rfl)) u9 <| m (mv (.t n9)) u10 <| sp n10 u10 u10 (fun h2 => ?_) (fun h2 => ?_)
  ·
   replace hm := ct h2 hm
   refine sk n3 rfl n10 rfl u11 <| sk n3 rfl n10 rfl u12 <| sk n3 rfl n10 rfl u13 <| m (pkt (.t n10) .b) u14 <| e ?_
   replace hm := sj hm
   subst hm
   have hm := hq1
   exact ⟨true, hm, le [] (by decide) (.c (.e rfl rfl) (.x8 (.x4 (.c .a (.c (.e rfl rfl) (.x32 (.x32 (.x16 (.x2 (.c .a .n)))))))))) .n⟩
  ·
   replace hm := cf h2 hm
   refine mg n3 rfl n10 (mv (.t n0)) u11 <| mg n3 rfl n10 (lenm (l := log_) (f := D.LogEntry.V) T.s43 (.t n11)) u12 <| mg n3 rfl n10 (gtr (.t n12) (.i rfl)) u13 <| m (pkf (.t n10) (.t n13)) u14 <| e ?_
   replace hm := sj hm
   subst hm
   have hm := hq1
   exact ⟨decide ((log_.length : Int) > (40 : Int)), hm, le [] (by decide) (.c (.e rfl rfl) (.x8 (.x4 (.c .a (.c (.e rfl rfl) (.x32 (.x32 (.x16 (.x2 (.c .a .n)))))))))) .n⟩
 ·
  refine cnd n14 (fun h3 => ?_) (fun h3 => ?_)
  ·
   replace hm := ct h3 hm
   refine sr <| m (as_ .b) u2 <| e ?_
   replace hm := sj hm
   subst hm
   exact rt (ret1 (.t n2 (.p rfl) .n) rfl)
  ·
   replace hm := cf h3 hm
   refine skp ?_
   refine sq ?_
   refine sr <| m (mv (.t n0)) u15 <| m (lenm (l := log_) (f := D.LogEntry.V) T.s43 (.t n15)) u16 <| m (mv (.i rfl)) u17 <| e ?_
   refine jmx hm (fun _ : Unit => ⟨[.any, .any, .any, .any, .any, .any, .any, .any, .any, .any, .any, .any, .any, .any, .any, .any, .any, .any, .any, .any, .any, .any, .any, .any, .any, .any, .any, .any, .any, .any, .any, .any, .any, .any, .any, .any, .any, .any, .any, .any, .any, .any, .any, .any, .any, .any, .any, .any, .any, .any, .any, .any, .any, .any, .any, .any, .any, .any, .any, .any, .any, .any, .any, .any, .any, .any, .any, .any, .any, .any, .any, .any, .any, .any, .any, .any, .any, .any, .any, .any, .any, .any, .any, .any, .any, .any, .any, .any, .any, .any, .any, .any, .any, .any, .any, .any, .any, .any], []⟩) (fun _ hm hq4 => ?_) (fun _ hm => ?_)
   ·
    refine bk ?_
    refine lpf (m := m_impl_VerifyLog_l0 log_) hm (fun i0 : Nat => ⟨[.slice 6 (log_.map D.LogEntry.V), .any, .any, .any, .any, .any, .any, .any, .any, .any, .any, .any, .any, .any, .any, .slice 6 (log_.map D.LogEntry.V), .int .i64 (log_.length : Int), .int .i64 (i0 : Int), .any, .any, .any, .any, .any, .any, .any, .any, .any, .any, .any, .any, .any, .any, .any, .any, .any, .any, .any, .any, .any, .any, .any, .any, .any, .any, .any, .any, .any, .any, .any, .any, .any, .any, .any, .any, .any, .any, .any, .any, .any, .any, .any, .any, .any, .any, .any, .any, .any, .any, .any, .any, .any, .any, .any, .any, .any, .any, .any, .any, .any, .any, .any, .any, .any, .any, .any, .any, .any, .any, .any, .any, .any, .any, .any, .any, .any, .any, .any, .any], []⟩) (fun _ => rfl) (le [] (by decide) (.c (.e rfl rfl) (.x8 (.x4 (.x2 (.c (.e rfl rfl) (.c (.e rfl rfl) (.c (.e rfl rfl) (.x32 (.x32 (.x16 .n)))))))))) .n) ?_
    rintro f i0 hm
    rw [m_impl_VerifyLog_l0] at hm
    refine sr <| m (lss (.t n17) (.t n16)) u18 <| e ?_
    refine rng n16 fun _ ra5 => ?_
    replace ra5 := (show (_ : Int) ≤ 9223372036854775807 from ra5)
    refine sq ?_
    refine cnd n18 (fun h6 => ?_) (fun h6 => ?_)
    ·
     replace hm := ct h6 hm
     have h6d := of_decide_eq_true h6
     refine skp ?_
     refine sq ?_
     refine bk ?_
     obtain ⟨z7, e8, hm⟩ := bd_some hm
     refine sr <| m (mv (.t n17)) u19 <| m (ixq (f := D.LogEntry.V) e8 T.s43 (.t n15) (.t n17)) u20 <| m (lae T.a220 k6 (.t n20)) u21 <| k (al T.z220 s0 u4) <| m (as_ (.t n19)) u3 <| k (sta T.a220 rfl rfl n0 (.z (.z (.z (.z (.z (.z .n)))))) q0 (.t n4) (.t n21)) <| e ?_
     obtain ⟨c9, hm⟩ := gd_some hm
     refine sr <| m (mv (.t n0)) u22 <| m (mv (.t n3)) u23 <| m (slq1 (l := log_) (f := D.LogEntry.V) c9 T.s43 (.t n22) (.t n23)) u24 <| m (as_ (.t n24)) u5 <| e ?_
     obtain ⟨c10, hm⟩ := gd_some hm
     refine sr <| m (mv (.t n5)) u25 <| c (call (tot_impl_DevicesOf (log_.take (i0 : Int).toNat) c10) (.c (.t n25) rfl .n)) u26 <| m (as_ (.t n26)) u6 <| e ?_
     refine sq ?_
     refine sd none [(0, true), (1, true), (2, true), (3, true), (4, true), (5, true), (6, true), (7, true), (8, false), (9, true), (10, true), (11, true), (12, true), (13, true), (14, true), (15, false), (16, true), (17, true), (18, true), (19, true), (20, true), (21, true), (22, true), (23, true), (24, true), (25, true), (26, true), (27, true), (28, true), (29, true)] T.mix (by kernel_rfl) <| rob hm (fun j2_56 : Bool => ⟨[.slice 6 (log_.map D.LogEntry.V), .any, .any, .any, .box 0 0, .slice 6 ((log_.take (i0 : Int).toNat).map D.LogEntry.V), .slice 1 ((devicesOfF (log_.take (i0 : Int).toNat)).map iV), .any, .any, .any, .any, .any, .any, .any, .any, .slice 6 (log_.map D.LogEntry.V), .int .i64 (log_.length : Int), .int .i64 (i0 : Int), .any, .any, .any, .any, .any, .any, .any, .any, .any, .any, .any, .any, .any, .any, .any, .any, .any, .any, .any, .any, .any, .any, .any, .any, .any, .any, .any, .any, .any, .any, .any, .any, .any, .any, .any, .any, .any, .any, .bool j2_56, .any, .any, .any, .any, .any, .any, .any, .any, .any, .any, .any, .any, .any, .any, .any, .any, .any, .any, .any, .any, .any, .any, .any, .any, .any, .any, .any, .any, .any, .any, .any, .any, .any, .any, .any, .any, .any, .any, .any, .any, .any], [.box 220 [.int .i64 z7.Index, .int .i64 z7.Kind, .int .i64 z7.Device, .int .i64 z7.By, .int .i64 z7.Previous, .int .i64 z7.Signature]]⟩) (fun _ hm hq11 => ?_) (fun j2_56 hm => ?_)
     ·
      refine om n0 (fab 0 rfl T.f220_0 (.t n4)) u27 <| om n1 (ldb T.o3 n0 n0 (.t n27)) u28 <| om n2 (mv (.t n3)) u29 <| om n3 (neq (.t n28) (.t n29)) u30 <| om n4 (mv (.t n30)) u31 <| osp n31 u31 u31 (fun h12 => ?_) (fun h12 => ?_)
      ·
       replace hm := ct h12 hm
       refine os n5 n4 rfl n31 rfl u32 <| os n6 n4 rfl n31 rfl u33 <| os n7 n4 rfl n31 rfl u34 <| osf n8 n4 rfl n31 rfl u35 <| os n9 n4 rfl n31 rfl u36 <| om n10 (pkt (.t n31) .b) u37 <| om n11 (mv (.t n37)) u38 <| os n12 n11 rfl n38 rfl u39 <| os n13 n11 rfl n38 rfl u40 <| os n14 n11 rfl n38 rfl u41 <| osf n15 n11 rfl n38 rfl u42 <| os n16 n11 rfl n38 rfl u43 <| os n17 n11 rfl n38 rfl u44 <| osu n18 n17 rfl n44 u45 <| osu n19 n17 rfl n44 u46 <| osu n20 n17 rfl n44 u47 <| osu n21 n20 rfl n47 u48 <| osu n22 n20 rfl n47 u49 <| osu n23 n20 rfl n47 u50 <| osu n24 n20 rfl n47 u51 <| osu n25 n20 rfl n47 u52 <| osu n26 n17 rfl n44 u53 <| osu n27 n17 rfl n44 u54 <| os n28 n11 rfl n38 rfl u55 <| om n29 (pkt (.t n38) .b) u56 <| oe ?_
       replace hm := sj hm
       subst hm
       have hm := hq11
       exact ⟨true, hm, le [0] (by decide) (.c (.e rfl rfl) (.x2 (.c .a (.c (.b n0) (.c (.e rfl rfl) (.c (.e rfl rfl) (.x8 (.c (.e rfl rfl) (.c (.e rfl rfl) (.c (.e rfl rfl) (.x32 (.x4 (.x2 (.c (.e rfl rfl) (.x32 (.x8 (.c .a .n))))))))))))))))) (.b n0 (.c (.e rfl rfl) (.c (.e rfl rfl) (.c (.e rfl rfl) (.c (.e rfl rfl) (.c (.e rfl rfl) (.c (.e rfl rfl) .n)))))) .n)⟩
      ·
       replace hm := cf h12 hm
       obtain ⟨c13, hm⟩ := gd_some hm
       refine omg n5 n4 rfl n31 (fab 4 rfl T.f220_4 (.t n4)) u32 <| omg n6 n4 rfl n31 (ldb T.o3 n0 n4 (.t n32)) u33 <| omg n7 n4 rfl n31 (mv (.t n5)) u34 <| ocg n8 n4 rfl n31 (call (tot_impl_LogHead (log_.take (i0 : Int).toNat) c13) (.c (.t n34) rfl .n)) u35 <| omg n9 n4 rfl n31 (neq (.t n33) (.t n35)) u36 <| om n10 (pkf (.t n31) (.t n36)) u37 <| om n11 (mv (.t n37)) u38 <| osp n38 u38 u38 (fun h14 => ?_) (fun h14 => ?_)
       ·
        replace hm := ct h14 hm
        refine os n12 n11 rfl n38 rfl u39 <| os n13 n11 rfl n38 rfl u40 <| os n14 n11 rfl n38 rfl u41 <| osf n15 n11 rfl n38 rfl u42 <| os n16 n11 rfl n38 rfl u43 <| os n17 n11 rfl n38 rfl u44 <| osu n18 n17 rfl n44 u45 <| osu n19 n17 rfl n44 u46 <| osu n20 n17 rfl n44 u47 <| osu n21 n20 rfl n47 u48 <| osu n22 n20 rfl n47 u49 <| osu n23 n20 rfl n47 u50 <| osu n24 n20 rfl n47 u51 <| osu n25 n20 rfl n47 u52 <| osu n26 n17 rfl n44 u53 <| osu n27 n17 rfl n44 u54 <| os n28 n11 rfl n38 rfl u55 <| om n29 (pkt (.t n38) .b) u56 <| oe ?_
        replace hm := sj hm
        subst hm
        have hm := hq11
        exact ⟨true, hm, le [0] (by decide) (.c (.e rfl rfl) (.x2 (.c .a (.c (.b n0) (.c (.e rfl rfl) (.c (.e rfl rfl) (.x8 (.c (.e rfl rfl) (.c (.e rfl rfl) (.c (.e rfl rfl) (.x32 (.x4 (.x2 (.c (.e rfl rfl) (.x32 (.x8 (.c .a .n))))))))))))))))) (.b n0 (.c (.e rfl rfl) (.c (.e rfl rfl) (.c (.e rfl rfl) (.c (.e rfl rfl) (.c (.e rfl rfl) (.c (.e rfl rfl) .n)))))) .n)⟩
       ·
        replace hm := cf h14 hm
        refine omg n12 n11 rfl n38 (mv (.t n6)) u39 <| omg n13 n11 rfl n38 (fab 3 rfl T.f220_3 (.t n4)) u40 <| omg n14 n11 rfl n38 (ldb T.o3 n0 n3 (.t n40)) u41 <| ocg n15 n11 rfl n38 (call (tot_impl_has (devicesOfF (log_.take (i0 : Int).toNat)) z7.By) (.c (.t n39) rfl (.c (.t n41) rfl .n))) u42 <| omg n16 n11 rfl n38 (not_ (.t n42)) u43 <| omg n17 n11 rfl n38 (mv (.t n43)) u44 <| osp n44 u44 u44 (fun h15 => ?_) (fun h15 => ?_)
        ·
         replace hm := ct h15 hm
         refine omg n18 n17 rfl n44 (mv (.t n3)) u45 <| omg n19 n17 rfl n44 (eql (.t n45) (.i rfl)) u46 <| omg n20 n17 rfl n44 (mv (.t n46)) u47 <| osp n47 u47 u47 (fun h16 => ?_) (fun h16 => ?_)
         ·
          replace hm := ct h16 hm
          refine omg n21 n20 rfl n47 (fab 3 rfl T.f220_3 (.t n4)) u48 <| omg n22 n20 rfl n47 (ldb T.o3 n0 n3 (.t n48)) u49 <| omg n23 n20 rfl n47 (fab 2 rfl T.f220_2 (.t n4)) u50 <| omg n24 n20 rfl n47 (ldb T.o3 n0 n2 (.t n50)) u51 <| omg n25 n20 rfl n47 (eql (.t n49) (.t n51)) u52 <| omg n26 n17 rfl n44 (pkt (.t n47) (.t n52)) u53 <| omg n27 n17 rfl n44 (not_ (.t n53)) u54 <| omg n28 n11 rfl n38 (pkt (.t n44) (.t n54)) u55 <| om n29 (pkf (.t n38) (.t n55)) u56 <| oe ?_
          replace hm := sj hm
          subst hm
          have hm := hq11
          exact ⟨(!(z7.By == z7.Device)), hm, le [0] (by decide) (.c (.e rfl rfl) (.x2 (.c .a (.c (.b n0) (.c (.e rfl rfl) (.c (.e rfl rfl) (.x8 (.c (.e rfl rfl) (.c (.e rfl rfl) (.c (.e rfl rfl) (.x32 (.x4 (.x2 (.c (.e rfl rfl) (.x32 (.x8 (.c .a .n))))))))))))))))) (.b n0 (.c (.e rfl rfl) (.c (.e rfl rfl) (.c (.e rfl rfl) (.c (.e rfl rfl) (.c (.e rfl rfl) (.c (.e rfl rfl) .n)))))) .n)⟩
         ·
          replace hm := cf h16 hm
          refine os n21 n20 rfl n47 rfl u48 <| os n22 n20 rfl n47 rfl u49 <| os n23 n20 rfl n47 rfl u50 <| os n24 n20 rfl n47 rfl u51 <| os n25 n20 rfl n47 rfl u52 <| omg n26 n17 rfl n44 (pkf (.t n47) .b) u53 <| omg n27 n17 rfl n44 (not_ (.t n53)) u54 <| omg n28 n11 rfl n38 (pkt (.t n44) (.t n54)) u55 <| om n29 (pkf (.t n38) (.t n55)) u56 <| oe ?_
          replace hm := sj hm
          subst hm
          have hm := hq11
          exact ⟨(!false), hm, le [0] (by decide) (.c (.e rfl rfl) (.x2 (.c .a (.c (.b n0) (.c (.e rfl rfl) (.c (.e rfl rfl) (.x8 (.c (.e rfl rfl) (.c (.e rfl rfl) (.c (.e rfl rfl) (.x32 (.x4 (.x2 (.c (.e rfl rfl) (.x32 (.x8 (.c .a .n))))))))))))))))) (.b n0 (.c (.e rfl rfl) (.c (.e rfl rfl) (.c (.e rfl rfl) (.c (.e rfl rfl) (.c (.e rfl rfl) (.c (.e rfl rfl) .n)))))) .n)⟩
        ·
         replace hm := cf h15 hm
         refine os n18 n17 rfl n44 rfl u45 <| os n19 n17 rfl n44 rfl u46 <| os n20 n17 rfl n44 rfl u47 <| osu n21 n20 rfl n47 u48 <| osu n22 n20 rfl n47 u49 <| osu n23 n20 rfl n47 u50 <| osu n24 n20 rfl n47 u51 <| osu n25 n20 rfl n47 u52 <| os n26 n17 rfl n44 rfl u53 <| os n27 n17 rfl n44 rfl u54 <| omg n28 n11 rfl n38 (pkf (.t n44) .b) u55 <| om n29 (pkf (.t n38) (.t n55)) u56 <| oe ?_
         replace hm := sj hm
         subst hm
         have hm := hq11
         exact ⟨false, hm, le [0] (by decide) (.c (.e rfl rfl) (.x2 (.c .a (.c (.b n0) (.c (.e rfl rfl) (.c (.e rfl rfl) (.x8 (.c (.e rfl rfl) (.c (.e rfl rfl) (.c (.e rfl rfl) (.x32 (.x4 (.x2 (.c (.e rfl rfl) (.x32 (.x8 (.c .a .n))))))))))))))))) (.b n0 (.c (.e rfl rfl) (.c (.e rfl rfl) (.c (.e rfl rfl) (.c (.e rfl rfl) (.c (.e rfl rfl) (.c (.e rfl rfl) .n)))))) .n)⟩
     ·
      refine cnd n56 (fun h17 => ?_) (fun h17 => ?_)
      ·
       replace hm := ct h17 hm
       refine sr <| m (as_ .b) u2 <| e ?_
       replace hm := inl1 hm hq4
       subst hm
       exact rt (ret1 (.t n2 (.p rfl) .n) rfl)
      ·
       replace hm := cf h17 hm
       refine skp ?_
       refine sq ?_
       refine sr <| m (fab 1 rfl T.f220_1 (.t n4)) u57 <| m (ldb T.o3 n0 n1 (.t n57)) u58 <| e ?_
       refine jmx hm (fun _ : Unit => ⟨[.slice 6 (log_.map D.LogEntry.V), .any, .any, .any, .box 0 0, .any, .any, .any, .any, .any, .any, .any, .any, .any, .any, .slice 6 (log_.map D.LogEntry.V), .int .i64 (log_.length : Int), .int .i64 (i0 : Int), .any, .any, .any, .any, .any, .any, .any, .any, .any, .any, .any, .any, .any, .any, .any, .any, .any, .any, .any, .any, .any, .any, .any, .any, .any, .any, .any, .any, .any, .any, .any, .any, .any, .any, .any, .any, .any, .any, .any, .any, .any, .any, .any, .any, .any, .any, .any, .any, .any, .any, .any, .any, .any, .any, .any, .any, .any, .any, .any, .any, .any, .any, .any, .any, .any, .any, .any, .any, .any, .any, .any, .any, .any, .any, .any, .any, .any, .any, .any, .any], [.box 220 [.int .i64 z7.Index, .int .i64 z7.Kind, .int .i64 z7.Device, .int .i64 z7.By, .int .i64 z7.Previous, .int .i64 z7.Signature]]⟩) (fun _ hm hq18 => ?_) (fun _ hm => ?_)
       ·
        refine bk ?_
        refine sr <| m (eql (.t n58) (.i rfl)) u60 <| m (as_ (.t n60)) u59 <| e ?_
        refine cnd n59 (fun h19 => ?_) (fun h19 => ?_)
        ·
         replace hm := ct h19 hm
         refine sr <| rjb hm (fun j4_75 : Bool => ⟨[.slice 6 (log_.map D.LogEntry.V), .any, .any, .any, .box 0 0, .any, .any, .any, .any, .any, .any, .any, .any, .any, .any, .slice 6 (log_.map D.LogEntry.V), .int .i64 (log_.length : Int), .int .i64 (i0 : Int), .any, .any, .any, .any, .any, .any, .any, .any, .any, .any, .any, .any, .any, .any, .any, .any, .any, .any, .any, .any, .any, .any, .any, .any, .any, .any, .any, .any, .any, .any, .any, .any, .any, .any, .any, .any, .any, .any, .any, .any, .any, .any, .any, .any, .any, .any, .any, .any, .any, .any, .any, .any, .any, .any, .any, .any, .any, .bool j4_75, .any, .any, .any, .any, .any, .any, .any, .any, .any, .any, .any, .any, .any, .any, .any, .any, .any, .any, .any, .any, .any, .any], [.box 220 [.int .i64 z7.Index, .int .i64 z7.Kind, .int .i64 z7.Device, .int .i64 z7.By, .int .i64 z7.Previous, .int .i64 z7.Signature]]⟩) (fun _ hm hq20 => ?_) (fun j4_75 hm => ?_)
         ·
          refine m (mv (.t n6)) u61 <| m (fab 2 rfl T.f220_2 (.t n4)) u62 <| m (ldb T.o3 n0 n2 (.t n62)) u63 <| c (call (tot_impl_has (devicesOfF (log_.take (i0 : Int).toNat)) z7.Device) (.c (.t n61) rfl (.c (.t n63) rfl .n))) u64 <| m (mv (.t n64)) u65 <| sp n65 u65 u65 (fun h21 => ?_) (fun h21 => ?_)
          ·
           replace hm := ct h21 hm
           refine sk n4 rfl n65 rfl u66 <| sk n4 rfl n65 rfl u67 <| sk n4 rfl n65 rfl u68 <| sk n4 rfl n65 rfl u69 <| m (pkt (.t n65) .b) u70 <| m (mv (.t n70)) u71 <| sk n10 rfl n71 rfl u72 <| sk n10 rfl n71 rfl u73 <| sk n10 rfl n71 rfl u74 <| m (pkt (.t n71) .b) u75 <| e ?_
           replace hm := sj hm
           subst hm
           have hm := hq20
           exact ⟨true, hm, le [0] (by decide) (.c (.e rfl rfl) (.x2 (.c .a (.c (.b n0) (.x8 (.x2 (.c (.e rfl rfl) (.c (.e rfl rfl) (.c (.e rfl rfl) (.x32 (.x16 (.x8 (.c .a (.c (.e rfl rfl) (.x16 (.x4 (.x2 .n))))))))))))))))) (.b n0 (.c (.e rfl rfl) (.c (.e rfl rfl) (.c (.e rfl rfl) (.c (.e rfl rfl) (.c (.e rfl rfl) (.c (.e rfl rfl) .n)))))) .n)⟩
          ·
           replace hm := cf h21 hm
           refine mg n4 rfl n65 (mv (.t n5)) u66 <| mg n4 rfl n65 (fab 2 rfl T.f220_2 (.t n4)) u67 <| mg n4 rfl n65 (ldb T.o3 n0 n2 (.t n67)) u68 <| cg n4 rfl n65 (call (tot_impl_wasRemoved (log_.take (i0 : Int).toNat) z7.Device) (.c (.t n66) rfl (.c (.t n68) rfl .n))) u69 <| m (pkf (.t n65) (.t n69)) u70 <| m (mv (.t n70)) u71 <| sp n71 u71 u71 (fun h22 => ?_) (fun h22 => ?_)
           ·
            replace hm := ct h22 hm
            refine sk n10 rfl n71 rfl u72 <| sk n10 rfl n71 rfl u73 <| sk n10 rfl n71 rfl u74 <| m (pkt (.t n71) .b) u75 <| e ?_
            replace hm := sj hm
            subst hm
            have hm := hq20
            exact ⟨true, hm, le [0] (by decide) (.c (.e rfl rfl) (.x2 (.c .a (.c (.b n0) (.x8 (.x2 (.c (.e rfl rfl) (.c (.e rfl rfl) (.c (.e rfl rfl) (.x32 (.x16 (.x8 (.c .a (.c (.e rfl rfl) (.x16 (.x4 (.x2 .n))))))))))))))))) (.b n0 (.c (.e rfl rfl) (.c (.e rfl rfl) (.c (.e rfl rfl) (.c (.e rfl rfl) (.c (.e rfl rfl) (.c (.e rfl rfl) .n)))))) .n)⟩
           ·
            replace hm := cf h22 hm
            refine mg n10 rfl n71 (mv (.t n6)) u72 <| mg n10 rfl n71 (lenm (l := (devicesOfF (log_.take (i0 : Int).toNat))) (f := iV) T.s108 (.t n72)) u73 <| mg n10 rfl n71 (geq (.t n73) (.i rfl)) u74 <| m (pkf (.t n71) (.t n74)) u75 <| e ?_
            replace hm := sj hm
            subst hm
            have hm := hq20
            exact ⟨decide (((devicesOfF (log_.take (i0 : Int).toNat)).length : Int) ≥ (6 : Int)), hm, le [0] (by decide) (.c (.e rfl rfl) (.x2 (.c .a (.c (.b n0) (.x8 (.x2 (.c (.e rfl rfl) (.c (.e rfl rfl) (.c (.e rfl rfl) (.x32 (.x16 (.x8 (.c .a (.c (.e rfl rfl) (.x16 (.x4 (.x2 .n))))))))))))))))) (.b n0 (.c (.e rfl rfl) (.c (.e rfl rfl) (.c (.e rfl rfl) (.c (.e rfl rfl) (.c (.e rfl rfl) (.c (.e rfl rfl) .n)))))) .n)⟩
         ·
          refine cnd n75 (fun h23 => ?_) (fun h23 => ?_)
          ·
           replace hm := ct h23 hm
           refine sr <| m (as_ .b) u2 <| e ?_
           replace hm := inl1 hm hq18
           replace hm := inl2 hm hq4
           subst hm
           exact rt (ret1 (.t n2 (.p rfl) .n) rfl)
          ·
           replace hm := cf h23 hm
           refine skp ?_
           replace hm := inr1 hm hq18
           exact ⟨(), hm, le [0] (by decide) (.c (.e rfl rfl) (.x2 (.c .a (.c (.b n0) (.x8 (.x2 (.c (.e rfl rfl) (.c (.e rfl rfl) (.c (.e rfl rfl) (.x32 (.x32 (.x16 .n)))))))))))) (.b n0 (.c (.e rfl rfl) (.c (.e rfl rfl) (.c (.e rfl rfl) (.c (.e rfl rfl) (.c (.e rfl rfl) (.c (.e rfl rfl) .n)))))) .n)⟩
        ·
         replace hm := cf h19 hm
         refine sr <| m (eql (.t n58) (.i rfl)) u77 <| m (as_ (.t n77)) u76 <| e ?_
         refine cnd n76 (fun h24 => ?_) (fun h24 => ?_)
         ·
          replace hm := ct h24 hm
          refine sr <| rjb hm (fun j5_87 : Bool => ⟨[.slice 6 (log_.map D.LogEntry.V), .any, .any, .any, .box 0 0, .any, .any, .any, .any, .any, .any, .any, .any, .any, .any, .slice 6 (log_.map D.LogEntry.V), .int .i64 (log_.length : Int), .int .i64 (i0 : Int), .any, .any, .any, .any, .any, .any, .any, .any, .any, .any, .any, .any, .any, .any, .any, .any, .any, .any, .any, .any, .any, .any, .any, .any, .any, .any, .any, .any, .any, .any, .any, .any, .any, .any, .any, .any, .any, .any, .any, .any, .any, .any, .any, .any, .any, .any, .any, .any, .any, .any, .any, .any, .any, .any, .any, .any, .any, .any, .any, .any, .any, .any, .any, .any, .any, .any, .any, .any, .any, .bool j5_87, .any, .any, .any, .any, .any, .any, .any, .any, .any, .any], [.box 220 [.int .i64 z7.Index, .int .i64 z7.Kind, .int .i64 z7.Device, .int .i64 z7.By, .int .i64 z7.Previous, .int .i64 z7.Signature]]⟩) (fun _ hm hq25 => ?_) (fun j5_87 hm => ?_)
          ·
           refine m (mv (.t n6)) u78 <| m (fab 2 rfl T.f220_2 (.t n4)) u79 <| m (ldb T.o3 n0 n2 (.t n79)) u80 <| c (call (tot_impl_has (devicesOfF (log_.take (i0 : Int).toNat)) z7.Device) (.c (.t n78) rfl (.c (.t n80) rfl .n))) u81 <| m (not_ (.t n81)) u82 <| m (mv (.t n82)) u83 <| sp n83 u83 u83 (fun h26 => ?_) (fun h26 => ?_)
           ·
            replace hm := ct h26 hm
            refine sk n5 rfl n83 rfl u84 <| sk n5 rfl n83 rfl u85 <| sk n5 rfl n83 rfl u86 <| m (pkt (.t n83) .b) u87 <| e ?_
            replace hm := sj hm
            subst hm
            have hm := hq25
            exact ⟨true, hm, le [0] (by decide) (.c (.e rfl rfl) (.x2 (.c .a (.c (.b n0) (.x8 (.x2 (.c (.e rfl rfl) (.c (.e rfl rfl) (.c (.e rfl rfl) (.x32 (.x32 (.x4 (.c .a (.c (.e rfl rfl) (.x8 (.x2 .n)))))))))))))))) (.b n0 (.c (.e rfl rfl) (.c (.e rfl rfl) (.c (.e rfl rfl) (.c (.e rfl rfl) (.c (.e rfl rfl) (.c (.e rfl rfl) .n)))))) .n)⟩
           ·
            replace hm := cf h26 hm
            refine mg n5 rfl n83 (mv (.t n6)) u84 <| mg n5 rfl n83 (lenm (l := (devicesOfF (log_.take (i0 : Int).toNat))) (f := iV) T.s108 (.t n84)) u85 <| mg n5 rfl n83 (eql (.t n85) (.i rfl)) u86 <| m (pkf (.t n83) (.t n86)) u87 <| e ?_
            replace hm := sj hm
            subst hm
            have hm := hq25
            exact ⟨(((devicesOfF (log_.take (i0 : Int).toNat)).length : Int) == (1 : Int)), hm, le [0] (by decide) (.c (.e rfl rfl) (.x2 (.c .a (.c (.b n0) (.x8 (.x2 (.c (.e rfl rfl) (.c (.e rfl rfl) (.c (.e rfl rfl) (.x32 (.x32 (.x4 (.c .a (.c (.e rfl rfl) (.x8 (.x2 .n)))))))))))))))) (.b n0 (.c (.e rfl rfl) (.c (.e rfl rfl) (.c (.e rfl rfl) (.c (.e rfl rfl) (.c (.e rfl rfl) (.c (.e rfl rfl) .n)))))) .n)⟩
          ·
           refine cnd n87 (fun h27 => ?_) (fun h27 => ?_)
           ·
            replace hm := ct h27 hm
            refine sr <| m (as_ .b) u2 <| e ?_
            replace hm := inl1 hm hq18
            replace hm := inl2 hm hq4
            subst hm
            exact rt (ret1 (.t n2 (.p rfl) .n) rfl)
           ·
            replace hm := cf h27 hm
            refine skp ?_
            replace hm := inr1 hm hq18
            exact ⟨(), hm, le [0] (by decide) (.c (.e rfl rfl) (.x2 (.c .a (.c (.b n0) (.x8 (.x2 (.c (.e rfl rfl) (.c (.e rfl rfl) (.c (.e rfl rfl) (.x32 (.x32 (.x16 .n)))))))))))) (.b n0 (.c (.e rfl rfl) (.c (.e rfl rfl) (.c (.e rfl rfl) (.c (.e rfl rfl) (.c (.e rfl rfl) (.c (.e rfl rfl) .n)))))) .n)⟩
         ·
          replace hm := cf h24 hm
          refine sr <| m (as_ .b) u2 <| e ?_
          replace hm := inl1 hm hq18
          replace hm := inl2 hm hq4
          subst hm
          exact rt (ret1 (.t n2 (.p rfl) .n) rfl)
       ·
        obtain ⟨c28, hm⟩ := gd_some hm
        refine sd none [(0, true), (1, true), (2, true), (5, true), (6, true), (3, false), (4, false), (7, false), (8, true)] T.mix (by kernel_rfl) <| om n0 (fab 3 rfl T.f220_3 (.t n4)) u88 <| om n1 (ldb T.o3 n0 n3 (.t n88)) u89 <| om n2 (lab T.a220 n0 d0 k6 (.t n4)) u90 <| om n5 (fab 5 rfl T.f220_5 (.t n4)) u93 <| om n6 (ldb T.o3 n0 n5 (.t n93)) u94 <| oc n3 (call (tot_impl_EntryHash z7) (.c (.t n90) rfl .n)) u91 <| ok_ n4 (bsm ([(entryHashF z7)] : List Int) iV T.s108 rfl rfl (.c (.t n91) rfl rfl rfl .n) rfl u92) <| oc n7 (call (tot_impl_VerifySignature z7.By ([(entryHashF z7)] : List Int) z7.Signature c28) (.c (.t n89) rfl (.c (.t n92) rfl (.c (.t n94) rfl .n)))) u95 <| om n8 (not_ (.t n95)) u96 <| oe ?_
        refine cnd n96 (fun h29 => ?_) (fun h29 => ?_)
        ·
         replace hm := ct h29 hm
         refine sr <| m (as_ .b) u2 <| e ?_
         replace hm := inl1 hm hq4
         subst hm
         exact rt (ret1 (.t n2 (.p rfl) .n) rfl)
        ·
         replace hm := cf h29 hm
         refine skp ?_
         refine rg <| m (add (.t n17) (.i rfl)) u97 <| m (mv (.t n97)) u17 <| e ?_
         exact ⟨i0 + 1, hm, le [] (by decide) (.c (.e rfl rfl) (.x8 (.x4 (.x2 (.c (.e rfl rfl) (.c (.e rfl rfl) (.c (.e (wi (by omega)) rfl) (.x32 (.x32 (.x16 .n)))))))))) .n⟩
    ·
     replace hm := cf h6 hm
     have h6d := of_decide_eq_false h6
     refine ex (x1 ?_)
     replace hm := inr1 hm hq4
     exact ⟨(), hm, le [] (by decide) (.x32 (.x32 (.x32 (.x2 .n)))) .n⟩
   ·
    refine sr <| m (as_ .b) u2 <| e ?_
    replace hm := sj hm
    subst hm
    exact rt (ret1 (.t n2 (.p rfl) .n) rfl)

theorem tot_impl_VerifyLog (log_ : List D.LogEntry) (hp0 : log_.length ≤ 34359738368) : Spec Tryz.prog G0 102 [.slice 6 (log_.map D.LogEntry.V)] (fun v => v = .bool (logOkF log_)) := sp_impl_VerifyLog log_ _ (t_impl_VerifyLog log_ hp0)

theorem sp_impl_EpochOf (log_ : List D.LogEntry) (r : Int) (hm : m_impl_EpochOf log_ = some r) : Spec Tryz.prog G0 120 [.slice 6 (log_.map D.LogEntry.V)] (fun v => v = .int .i64 r) := by
 rw [m_impl_EpochOf] at hm
 refine enter (l := [.tmp 2]) Tryz.func120 rfl Tryz.ntmps120 rfl T.en120 fun E => ?_
 simp only [List.length_cons, List.length_nil, List.replicate_succ, List.replicate_zero, List.cons_append, List.nil_append, Nat.reduceAdd, Nat.reduceSub]
 refine sr <| m (as_ (.i rfl)) u2 <| e ?_
 refine sr <| m (as_ (.i rfl)) u3 <| e ?_
 refine sq ?_
 refine sr <| m (mv (.t n0)) u6 <| m (lenm (l := log_) (f := D.LogEntry.V) T.s43 (.t n6)) u7 <| m (mv (.i rfl)) u8 <| e ?_
 refine jmb hm (fun j0_3 : Int => ⟨[.any, .any, .any, .int .i64 j0_3, .any, .any, .any, .any, .any, .any, .any, .any, .any, .any, .any, .any, .any, .any, .any], []⟩) (fun _ hm hq1 => ?_) (fun j0_3 hm => ?_)
 ·
  refine bk ?_
  refine lpf (m := m_impl_EpochOf_l0 log_) hm (fun yy2_ : Int × Nat => ⟨[.any, .any, .any, .int .i64 yy2_.1, .any, .any, .slice 6 (log_.map D.LogEntry.V), .int .i64 (log_.length : Int), .int .i64 (yy2_.2 : Int), .any, .any, .any, .any, .any, .any, .any, .any, .any, .any], []⟩) (fun _ => rfl) (le [] (by decide) (.x2 (.c .a (.c (.e rfl rfl) (.x2 (.c (.e rfl rfl) (.c (.e rfl rfl) (.c (.e rfl rfl) (.x8 (.x2 .n))))))))) .n) ?_
  rintro f ⟨v0_3, i0⟩ hm
  rw [m_impl_EpochOf_l0] at hm
  dsimp only at hm ⊢
  refine sr <| m (lss (.t n8) (.t n7)) u9 <| e ?_
  refine rng n7 fun _ ra3 => ?_
  replace ra3 := (show (_ : Int) ≤ 9223372036854775807 from ra3)
  refine sq ?_
  refine cnd n9 (fun h4 => ?_) (fun h4 => ?_)
  ·
   replace hm := ct h4 hm
   have h4d := of_decide_eq_true h4
   refine skp ?_
   refine sq ?_
   refine jmb hm (fun j1_3 : Int => ⟨[.any, .any, .any, .int .i64 j1_3, .any, .any, .slice 6 (log_.map D.LogEntry.V), .int .i64 (log_.length : Int), .int .i64 (i0 : Int), .any, .any, .any, .any, .any, .any, .any, .any, .any, .any], []⟩) (fun _ hm hq5 => ?_) (fun j1_3 hm => ?_)
   ·
    refine bk ?_
    obtain ⟨z6, e7, hm⟩ := bd_some hm
    refine sr <| m (ixq (f := D.LogEntry.V) e7 T.s43 (.t n6) (.t n8)) u10 <| m (lae T.a220 k6 (.t n10)) u11 <| k (al T.z220 s0 u5) <| k (sta T.a220 rfl rfl n0 (.z (.z (.z (.z (.z (.z .n)))))) q0 (.t n5) (.t n11)) <| e ?_
    refine sr <| m (fab 1 rfl T.f220_1 (.t n5)) u12 <| m (ldb T.o3 n0 n1 (.t n12)) u13 <| m (eql (.t n13) (.i rfl)) u14 <| e ?_
    refine cnd n14 (fun h8 => ?_) (fun h8 => ?_)
    ·
     replace hm := ct h8 hm
     refine rg <| m (mv (.t n3)) u15 <| m (add (.t n15) (.i rfl)) u16 <| m (as_ (.t n16)) u3 <| e ?_
     replace hm := sj hm
     subst hm
     have hm := hq5
     exact ⟨IntKind.i64.wrap (v0_3 + (1 : Int)), hm, le [] (by decide) (.x2 (.c .a (.c (.e rfl rfl) (.x2 (.c (.e rfl rfl) (.c (.e rfl rfl) (.c (.e rfl rfl) (.x8 (.x2 .n))))))))) .n⟩
    ·
     replace hm := cf h8 hm
     refine skp ?_
     replace hm := sj hm
     subst hm
     have hm := hq5
     exact ⟨v0_3, hm, le [] (by decide) (.x2 (.c .a (.c (.e rfl rfl) (.x2 (.c (.e rfl rfl) (.c (.e rfl rfl) (.c (.e rfl rfl) (.x8 (.x2 .n))))))))) .n⟩
   ·
    refine rg <| m (add (.t n8) (.i rfl)) u17 <| m (mv (.t n17)) u8 <| e ?_
    exact ⟨(j1_3, i0 + 1), hm, le [] (by decide) (.x2 (.c .a (.c (.e rfl rfl) (.x2 (.c (.e rfl rfl) (.c (.e rfl rfl) (.c (.e (wi (by omega)) rfl) (.x8 (.x2 .n))))))))) .n⟩
  ·
   replace hm := cf h4 hm
   have h4d := of_decide_eq_false h4
   refine ex (x1 ?_)
   replace hm := sj hm
   subst hm
   have hm := hq1
   exact ⟨v0_3, hm, le [] (by decide) (.x2 (.c .a (.c (.e rfl rfl) (.x8 (.x4 (.x2 (.c .a .n))))))) .n⟩
 ·
  refine sr <| m (mv (.t n3)) u18 <| m (as_ (.t n18)) u2 <| e ?_
  replace hm := sj hm
  subst hm
  exact rt (ret1 (.t n2 (.p rfl) .n) rfl)

theorem tot_impl_EpochOf (log_ : List D.LogEntry)  : Spec Tryz.prog G0 120 [.slice 6 (log_.map D.LogEntry.V)] (fun v => v = .int .i64 (epochOfF log_)) := sp_impl_EpochOf log_ _ (t_impl_EpochOf log_)

theorem sp_spec_OpenEpochBoxes (s_ : D.KeyStore) (e_ : D.EpochBoxes) (r : Int × Bool) (hm : m_spec_OpenEpochBoxes s_ e_ = some r) : Spec Tryz.prog G0 114 [.agg (D.KeyStore.V s_), .agg (D.EpochBoxes.V e_)] (fun v => v = .tup [.int .i64 r.1, .bool r.2]) := by
 rw [m_spec_OpenEpochBoxes] at hm
 refine enter (l := [.tmp 4, .tmp 5]) Tryz.func114 rfl Tryz.ntmps114 rfl T.en114 fun E => ?_
 simp only [List.length_cons, List.length_nil, List.replicate_succ, List.replicate_zero, List.cons_append, List.nil_append, Nat.reduceAdd, Nat.reduceSub]
 refine sr <| k (bx rfl s0 u2 (.t n0)) <| k (bx rfl s1 u3 (.t n1)) <| m (as_ (.i rfl)) u4 <| m (as_ .b) u5 <| e ?_
 refine sd none [(0, true), (1, true), (2, true), (3, false), (4, false), (5, true), (6, true), (7, true), (8, true), (9, true)] T.mix (by kernel_rfl) <| om n0 (fab 1 rfl T.f46_1 (.t n3)) u12 <| om n1 (ldb T.o44 n1 n1 (.t n12)) u13 <| om n2 (lab T.a113 n0 d0 k4 (.t n2)) u14 <| oc n3 (call (tot_spec_l10Device s_) (.c (.t n14) rfl .n)) u15 <| oc n4 (call (tot_spec_FindBox e_.Boxes (devKeyF s_)) (.c (.t n13) rfl (.c (.t n15) rfl .n))) u16 <| om n5 (mv (.t n16)) u11 <| om n6 (ext_ n0 (.t n11)) u17 <| om n7 (ext_ n1 (.t n11)) u18 <| om n8 (as_ (.t n17)) u6 <| om n9 (as_ (.t n18)) u7 <| oe ?_
 obtain ⟨c1, hm⟩ := gd_some hm
 refine sr <| m (mv (.t n6)) u20 <| c (call (tot_spec_DecodeInts ((findBoxF e_.Boxes (devKeyF s_)).1) (0 : Int) (2 : Int) c1) (.c (.t n20) rfl (.c (.i rfl) rfl (.c (.i rfl) rfl .n)))) u21 <| m (mv (.t n21)) u19 <| m (ext_ n0 (.t n19)) u22 <| m (ext_ n1 (.t n19)) u23 <| m (ext_ n2 (.t n19)) u24 <| m (as_ (.t n22)) u8 <| m (as_ (.t n23)) u9 <| m (as_ (.t n24)) u10 <| e ?_
 refine sq ?_
 refine sd none [(0, true), (1, true), (2, true), (3, true), (4, true), (5, true), (6, true), (7, true), (8, true), (9, true), (10, true), (11, true), (12, true), (13, true), (14, true), (15, true), (16, true), (17, true), (18, true), (19, true), (20, true), (21, true), (22, true), (23, true), (24, false), (25, true), (26, true)] T.mix (by kernel_rfl) <| rob hm (fun j0_51 : Bool => ⟨[.any, .any, .any, .any, .any, .any, .any, .any, .slice 1 (((decodeF ((findBoxF e_.Boxes (devKeyF s_)).1) (0 : Int) (2 : Int)).1).map iV), .any, .any, .any, .any, .any, .any, .any, .any, .any, .any, .any, .any, .any, .any, .any, .any, .any, .any, .any, .any, .any, .any, .any, .any, .any, .any, .any, .any, .any, .any, .any, .any, .any, .any, .any, .any, .any, .any, .any, .any, .any, .any, .bool j0_51, .any, .any, .any], []⟩) (fun _ hm hq2 => ?_) (fun j0_51 hm => ?_)
 ·
  refine om n0 (mv (.t n7)) u25 <| om n1 (not_ (.t n25)) u26 <| om n2 (mv (.t n26)) u27 <| osp n27 u27 u27 (fun h3 => ?_) (fun h3 => ?_)
  ·
   replace hm := ct h3 hm
   refine os n3 n2 rfl n27 rfl u28 <| os n4 n2 rfl n27 rfl u29 <| om n5 (pkt (.t n27) .b) u30 <| om n6 (mv (.t n30)) u31 <| os n7 n6 rfl n31 rfl u32 <| os n8 n6 rfl n31 rfl u33 <| os n9 n6 rfl n31 rfl u34 <| os n10 n6 rfl n31 rfl u35 <| om n11 (pkt (.t n31) .b) u36 <| om n12 (mv (.t n36)) u37 <| os n13 n12 rfl n37 rfl u38 <| os n14 n12 rfl n37 rfl u39 <| os n15 n12 rfl n37 rfl u40 <| os n16 n12 rfl n37 rfl u41 <| os n17 n12 rfl n37 rfl u42 <| os n18 n12 rfl n37 rfl u43 <| om n19 (pkt (.t n37) .b) u44 <| om n20 (mv (.t n44)) u45 <| os n21 n20 rfl n45 rfl u46 <| os n22 n20 rfl n45 rfl u47 <| os n23 n20 rfl n45 rfl u48 <| osf n24 n20 rfl n45 rfl u49 <| os n25 n20 rfl n45 rfl u50 <| om n26 (pkt (.t n45) .b) u51 <| oe ?_
   replace hm := sj hm
   subst hm
   have hm := hq2
   exact ⟨true, hm, le [] (by decide) (.x8 (.c (.e rfl rfl) (.x32 (.x8 (.x2 (.c (.e rfl rfl) (.x2 (.c .a .n)))))))) .n⟩
  ·
   replace hm := cf h3 hm
   refine omg n3 n2 rfl n27 (mv (.t n10)) u28 <| omg n4 n2 rfl n27 (not_ (.t n28)) u29 <| om n5 (pkf (.t n27) (.t n29)) u30 <| om n6 (mv (.t n30)) u31 <| osp n31 u31 u31 (fun h4 => ?_) (fun h4 => ?_)
   ·
    replace hm := ct h4 hm
    refine os n7 n6 rfl n31 rfl u32 <| os n8 n6 rfl n31 rfl u33 <| os n9 n6 rfl n31 rfl u34 <| os n10 n6 rfl n31 rfl u35 <| om n11 (pkt (.t n31) .b) u36 <| om n12 (mv (.t n36)) u37 <| os n13 n12 rfl n37 rfl u38 <| os n14 n12 rfl n37 rfl u39 <| os n15 n12 rfl n37 rfl u40 <| os n16 n12 rfl n37 rfl u41 <| os n17 n12 rfl n37 rfl u42 <| os n18 n12 rfl n37 rfl u43 <| om n19 (pkt (.t n37) .b) u44 <| om n20 (mv (.t n44)) u45 <| os n21 n20 rfl n45 rfl u46 <| os n22 n20 rfl n45 rfl u47 <| os n23 n20 rfl n45 rfl u48 <| osf n24 n20 rfl n45 rfl u49 <| os n25 n20 rfl n45 rfl u50 <| om n26 (pkt (.t n45) .b) u51 <| oe ?_
    replace hm := sj hm
    subst hm
    have hm := hq2
    exact ⟨true, hm, le [] (by decide) (.x8 (.c (.e rfl rfl) (.x32 (.x8 (.x2 (.c (.e rfl rfl) (.x2 (.c .a .n)))))))) .n⟩
   ·
    replace hm := cf h4 hm
    refine omg n7 n6 rfl n31 (mv (.t n9)) u32 <| omg n8 n6 rfl n31 (mv (.t n6)) u33 <| omg n9 n6 rfl n31 (lenm (l := (findBoxF e_.Boxes (devKeyF s_)).1) (f := y8) T.s207 (.t n33)) u34 <| omg n10 n6 rfl n31 (neq (.t n32) (.t n34)) u35 <| om n11 (pkf (.t n31) (.t n35)) u36 <| om n12 (mv (.t n36)) u37 <| osp n37 u37 u37 (fun h5 => ?_) (fun h5 => ?_)
    ·
     replace hm := ct h5 hm
     refine os n13 n12 rfl n37 rfl u38 <| os n14 n12 rfl n37 rfl u39 <| os n15 n12 rfl n37 rfl u40 <| os n16 n12 rfl n37 rfl u41 <| os n17 n12 rfl n37 rfl u42 <| os n18 n12 rfl n37 rfl u43 <| om n19 (pkt (.t n37) .b) u44 <| om n20 (mv (.t n44)) u45 <| os n21 n20 rfl n45 rfl u46 <| os n22 n20 rfl n45 rfl u47 <| os n23 n20 rfl n45 rfl u48 <| osf n24 n20 rfl n45 rfl u49 <| os n25 n20 rfl n45 rfl u50 <| om n26 (pkt (.t n45) .b) u51 <| oe ?_
     replace hm := sj hm
     subst hm
     have hm := hq2
     exact ⟨true, hm, le [] (by decide) (.x8 (.c (.e rfl rfl) (.x32 (.x8 (.x2 (.c (.e rfl rfl) (.x2 (.c .a .n)))))))) .n⟩
    ·
     replace hm := cf h5 hm
     obtain ⟨z6, e7, hm⟩ := bd_some hm
     refine omg n13 n12 rfl n37 (mv (.t n8)) u38 <| omg n14 n12 rfl n37 (ixq (f := iV) e7 T.s108 (.t n38) (.i rfl)) u39 <| omg n15 n12 rfl n37 (lde T.o3 n0 (.t n39)) u40 <| omg n16 n12 rfl n37 (fab 0 rfl T.f46_0 (.t n3)) u41 <| omg n17 n12 rfl n37 (ldb T.o3 n1 n0 (.t n41)) u42 <| omg n18 n12 rfl n37 (neq (.t n40) (.t n42)) u43 <| om n19 (pkf (.t n37) (.t n43)) u44 <| om n20 (mv (.t n44)) u45 <| osp n45 u45 u45 (fun h8 => ?_) (fun h8 => ?_)
     ·
      replace hm := ct h8 hm
      refine os n21 n20 rfl n45 rfl u46 <| os n22 n20 rfl n45 rfl u47 <| os n23 n20 rfl n45 rfl u48 <| osf n24 n20 rfl n45 rfl u49 <| os n25 n20 rfl n45 rfl u50 <| om n26 (pkt (.t n45) .b) u51 <| oe ?_
      replace hm := sj hm
      subst hm
      have hm := hq2
      exact ⟨true, hm, le [] (by decide) (.x8 (.c (.e rfl rfl) (.x32 (.x8 (.x2 (.c (.e rfl rfl) (.x2 (.c .a .n)))))))) .n⟩
     ·
      replace hm := cf h8 hm
      obtain ⟨z9, e10, hm⟩ := bd_some hm
      refine omg n21 n20 rfl n45 (mv (.t n8)) u46 <| omg n22 n20 rfl n45 (ixq (f := iV) e10 T.s108 (.t n46) (.i rfl)) u47 <| omg n23 n20 rfl n45 (lde T.o3 n0 (.t n47)) u48 <| ocg n24 n20 rfl n45 (call (tot_spec_IsValidKey z9) (.c (.t n48) rfl .n)) u49 <| omg n25 n20 rfl n45 (not_ (.t n49)) u50 <| om n26 (pkf (.t n45) (.t n50)) u51 <| oe ?_
      replace hm := sj hm
      subst hm
      have hm := hq2
      exact ⟨(!(keyF z9)), hm, le [] (by decide) (.x8 (.c (.e rfl rfl) (.x32 (.x8 (.x2 (.c (.e rfl rfl) (.x2 (.c .a .n)))))))) .n⟩
 ·
  refine cnd n51 (fun h11 => ?_) (fun h11 => ?_)
  ·
   replace hm := ct h11 hm
   refine sr <| m (as_ (.i rfl)) u4 <| m (as_ .b) u5 <| e ?_
   replace hm := sj hm
   subst hm
   exact rt (ret2 (.t n4 (.p rfl) (.t n5 (.p rfl) .n)) rfl)
  ·
   replace hm := cf h11 hm
   refine skp ?_
   obtain ⟨z12, e13, hm⟩ := bd_some hm
   refine sr <| m (mv (.t n8)) u52 <| m (ixq (f := iV) e13 T.s108 (.t n52) (.i rfl)) u53 <| m (lde T.o3 n0 (.t n53)) u54 <| m (as_ (.t n54)) u4 <| m (as_ .b) u5 <| e ?_
   replace hm := sj hm
   subst hm
   exact rt (ret2 (.t n4 (.p rfl) (.t n5 (.p rfl) .n)) rfl)

theorem tot_spec_OpenEpochBoxes (s_ : D.KeyStore) (e_ : D.EpochBoxes)  : Spec Tryz.prog G0 114 [.agg (D.KeyStore.V s_), .agg (D.EpochBoxes.V e_)] (fun v => v = .tup [.int .i64 ((openEpochF s_ e_).1), .bool ((openEpochF s_ e_).2)]) := sp_spec_OpenEpochBoxes s_ e_ _ (t_spec_OpenEpochBoxes s_ e_)

theorem sp_impl_OpenEpochBoxes (s_ : D.KeyStore) (e_ : D.EpochBoxes) (r : Int × Bool) (hm : m_impl_OpenEpochBoxes s_ e_ = some r) : Spec Tryz.prog G0 119 [.agg (D.KeyStore.V s_), .agg (D.EpochBoxes.V e_)] (fun v => v = .tup [.int .i64 r.1, .bool r.2]) := by
 rw [m_impl_OpenEpochBoxes] at hm
 refine enter (l := [.tmp 4, .tmp 5]) Tryz.func119 rfl Tryz.ntmps119 rfl T.en119 fun E => ?_
 simp only [List.length_cons, List.length_nil, List.replicate_succ, List.replicate_zero, List.cons_append, List.nil_append, Nat.reduceAdd, Nat.reduceSub]
 refine sr <| k (bx rfl s0 u2 (.t n0)) <| k (bx rfl s1 u3 (.t n1)) <| m (as_ (.i rfl)) u4 <| m (as_ .b) u5 <| e ?_
 obtain ⟨c1, hm⟩ := gd_some hm
 refine sd none [(0, true), (1, true), (2, true), (3, true), (4, false), (5, false), (6, false), (7, true), (8, true), (9, true), (10, true), (11, true)] T.mix (by kernel_rfl) <| om n0 (fab 1 rfl T.f46_1 (.t n3)) u12 <| om n1 (ldb T.o44 n1 n1 (.t n12)) u13 <| om n2 (fab 2 rfl T.f113_2 (.t n2)) u14 <| om n3 (ldb T.o3 n0 n2 (.t n14)) u15 <| ok_ n4 (bsm ([(181 : Int)] : List Int) iV T.s108 rfl rfl (.c (.i rfl) rfl rfl rfl .n) rfl u16) <| oc n5 (call (tot_impl_DeriveKey s_.Seed ([(181 : Int)] : List Int) c1) (.c (.t n15) rfl (.c (.t n16) rfl .n))) u17 <| oc n6 (call (tot_impl_FindBox e_.Boxes (deriveF s_.Seed ([(181 : Int)] : List Int))) (.c (.t n13) rfl (.c (.t n17) rfl .n))) u18 <| om n7 (mv (.t n18)) u11 <| om n8 (ext_ n0 (.t n11)) u19 <| om n9 (ext_ n1 (.t n11)) u20 <| om n10 (as_ (.t n19)) u6 <| om n11 (as_ (.t n20)) u7 <| oe ?_
 refine sq ?_
 refine sr <| m (mv (.t n7)) u21 <| m (not_ (.t n21)) u22 <| e ?_
 refine cnd n22 (fun h2 => ?_) (fun h2 => ?_)
 ·
  replace hm := ct h2 hm
  refine sr <| m (as_ (.i rfl)) u4 <| m (as_ .b) u5 <| e ?_
  replace hm := sj hm
  subst hm
  exact rt (ret2 (.t n4 (.p rfl) (.t n5 (.p rfl) .n)) rfl)
 ·
  replace hm := cf h2 hm
  refine skp ?_
  obtain ⟨c3, hm⟩ := gd_some hm
  refine sr <| m (mv (.t n6)) u24 <| c (call (tot_impl_DecodeInts ((findBoxF e_.Boxes (deriveF s_.Seed ([(181 : Int)] : List Int))).1) (0 : Int) (2 : Int) c3) (.c (.t n24) rfl (.c (.i rfl) rfl (.c (.i rfl) rfl .n)))) u25 <| m (mv (.t n25)) u23 <| m (ext_ n0 (.t n23)) u26 <| m (ext_ n1 (.t n23)) u27 <| m (ext_ n2 (.t n23)) u28 <| m (as_ (.t n26)) u8 <| m (as_ (.t n27)) u9 <| m (as_ (.t n28)) u10 <| e ?_
  refine sq ?_
  refine sd none [(0, true), (1, true), (2, true), (3, true), (4, true), (5, true), (6, true), (7, true), (8, true), (9, true), (10, true), (11, true), (12, true), (13, true), (14, true), (15, true), (16, true), (17, true), (18, true), (19, true), (20, false), (21, true), (22, true)] T.mix (by kernel_rfl) <| rob hm (fun j0_51 : Bool => ⟨[.any, .any, .any, .any, .any, .any, .any, .any, .slice 1 (((decodeF ((findBoxF e_.Boxes (deriveF s_.Seed ([(181 : Int)] : List Int))).1) (0 : Int) (2 : Int)).1).map iV), .any, .any, .any, .any, .any, .any, .any, .any, .any, .any, .any, .any, .any, .any, .any, .any, .any, .any, .any, .any, .any, .any, .any, .any, .any, .any, .any, .any, .any, .any, .any, .any, .any, .any, .any, .any, .any, .any, .any, .any, .any, .any, .bool j0_51, .any, .any, .any], []⟩) (fun _ hm hq4 => ?_) (fun j0_51 hm => ?_)
  ·
   refine om n0 (mv (.t n10)) u29 <| om n1 (not_ (.t n29)) u30 <| om n2 (mv (.t n30)) u31 <| osp n31 u31 u31 (fun h5 => ?_) (fun h5 => ?_)
   ·
    replace hm := ct h5 hm
    refine os n3 n2 rfl n31 rfl u32 <| os n4 n2 rfl n31 rfl u33 <| os n5 n2 rfl n31 rfl u34 <| os n6 n2 rfl n31 rfl u35 <| om n7 (pkt (.t n31) .b) u36 <| om n8 (mv (.t n36)) u37 <| os n9 n8 rfl n37 rfl u38 <| os n10 n8 rfl n37 rfl u39 <| os n11 n8 rfl n37 rfl u40 <| os n12 n8 rfl n37 rfl u41 <| os n13 n8 rfl n37 rfl u42 <| os n14 n8 rfl n37 rfl u43 <| om n15 (pkt (.t n37) .b) u44 <| om n16 (mv (.t n44)) u45 <| os n17 n16 rfl n45 rfl u46 <| os n18 n16 rfl n45 rfl u47 <| os n19 n16 rfl n45 rfl u48 <| osf n20 n16 rfl n45 rfl u49 <| os n21 n16 rfl n45 rfl u50 <| om n22 (pkt (.t n45) .b) u51 <| oe ?_
    replace hm := sj hm
    subst hm
    have hm := hq4
    exact ⟨true, hm, le [] (by decide) (.x8 (.c (.e rfl rfl) (.x32 (.x8 (.x2 (.c (.e rfl rfl) (.x2 (.c .a .n)))))))) .n⟩
   ·
    replace hm := cf h5 hm
    refine omg n3 n2 rfl n31 (mv (.t n9)) u32 <| omg n4 n2 rfl n31 (mv (.t n6)) u33 <| omg n5 n2 rfl n31 (lenm (l := (findBoxF e_.Boxes (deriveF s_.Seed ([(181 : Int)] : List Int))).1) (f := y8) T.s207 (.t n33)) u34 <| omg n6 n2 rfl n31 (neq (.t n32) (.t n34)) u35 <| om n7 (pkf (.t n31) (.t n35)) u36 <| om n8 (mv (.t n36)) u37 <| osp n37 u37 u37 (fun h6 => ?_) (fun h6 => ?_)
    ·
     replace hm := ct h6 hm
     refine os n9 n8 rfl n37 rfl u38 <| os n10 n8 rfl n37 rfl u39 <| os n11 n8 rfl n37 rfl u40 <| os n12 n8 rfl n37 rfl u41 <| os n13 n8 rfl n37 rfl u42 <| os n14 n8 rfl n37 rfl u43 <| om n15 (pkt (.t n37) .b) u44 <| om n16 (mv (.t n44)) u45 <| os n17 n16 rfl n45 rfl u46 <| os n18 n16 rfl n45 rfl u47 <| os n19 n16 rfl n45 rfl u48 <| osf n20 n16 rfl n45 rfl u49 <| os n21 n16 rfl n45 rfl u50 <| om n22 (pkt (.t n45) .b) u51 <| oe ?_
     replace hm := sj hm
     subst hm
     have hm := hq4
     exact ⟨true, hm, le [] (by decide) (.x8 (.c (.e rfl rfl) (.x32 (.x8 (.x2 (.c (.e rfl rfl) (.x2 (.c .a .n)))))))) .n⟩
    ·
     replace hm := cf h6 hm
     obtain ⟨z7, e8, hm⟩ := bd_some hm
     refine omg n9 n8 rfl n37 (mv (.t n8)) u38 <| omg n10 n8 rfl n37 (ixq (f := iV) e8 T.s108 (.t n38) (.i rfl)) u39 <| omg n11 n8 rfl n37 (lde T.o3 n0 (.t n39)) u40 <| omg n12 n8 rfl n37 (fab 0 rfl T.f46_0 (.t n3)) u41 <| omg n13 n8 rfl n37 (ldb T.o3 n1 n0 (.t n41)) u42 <| omg n14 n8 rfl n37 (neq (.t n40) (.t n42)) u43 <| om n15 (pkf (.t n37) (.t n43)) u44 <| om n16 (mv (.t n44)) u45 <| osp n45 u45 u45 (fun h9 => ?_) (fun h9 => ?_)
     ·
      replace hm := ct h9 hm
      refine os n17 n16 rfl n45 rfl u46 <| os n18 n16 rfl n45 rfl u47 <| os n19 n16 rfl n45 rfl u48 <| osf n20 n16 rfl n45 rfl u49 <| os n21 n16 rfl n45 rfl u50 <| om n22 (pkt (.t n45) .b) u51 <| oe ?_
      replace hm := sj hm
      subst hm
      have hm := hq4
      exact ⟨true, hm, le [] (by decide) (.x8 (.c (.e rfl rfl) (.x32 (.x8 (.x2 (.c (.e rfl rfl) (.x2 (.c .a .n)))))))) .n⟩
     ·
      replace hm := cf h9 hm
      obtain ⟨z10, e11, hm⟩ := bd_some hm
      refine omg n17 n16 rfl n45 (mv (.t n8)) u46 <| omg n18 n16 rfl n45 (ixq (f := iV) e11 T.s108 (.t n46) (.i rfl)) u47 <| omg n19 n16 rfl n45 (lde T.o3 n0 (.t n47)) u48 <| ocg n20 n16 rfl n45 (call (tot_impl_IsValidKey z10) (.c (.t n48) rfl .n)) u49 <| omg n21 n16 rfl n45 (not_ (.t n49)) u50 <| om n22 (pkf (.t n45) (.t n50)) u51 <| oe ?_
      replace hm := sj hm
      subst hm
      have hm := hq4
      exact ⟨(!(keyF z10)), hm, le [] (by decide) (.x8 (.c (.e rfl rfl) (.x32 (.x8 (.x2 (.c (.e rfl rfl) (.x2 (.c .a .n)))))))) .n⟩
  ·
   refine cnd n51 (fun h12 => ?_) (fun h12 => ?_)
   ·
    replace hm := ct h12 hm
    refine sr <| m (as_ (.i rfl)) u4 <| m (as_ .b) u5 <| e ?_
    replace hm := sj hm
    subst hm
    exact rt (ret2 (.t n4 (.p rfl) (.t n5 (.p rfl) .n)) rfl)
   ·
    replace hm := cf h12 hm
    refine skp ?_
    obtain ⟨z13, e14, hm⟩ := bd_some hm
    refine sr <| m (mv (.t n8)) u52 <| m (ixq (f := iV) e14 T.s108 (.t n52) (.i rfl)) u53 <| m (lde T.o3 n0 (.t n53)) u54 <| m (as_ (.t n54)) u4 <| m (as_ .b) u5 <| e ?_
    replace hm := sj hm
    subst hm
    exact rt (ret2 (.t n4 (.p rfl) (.t n5 (.p rfl) .n)) rfl)

theorem tot_impl_OpenEpochBoxes (s_ : D.KeyStore) (e_ : D.EpochBoxes)  : Spec Tryz.prog G0 119 [.agg (D.KeyStore.V s_), .agg (D.EpochBoxes.V e_)] (fun v => v = .tup [.int .i64 ((openEpochF s_ e_).1), .bool ((openEpochF s_ e_).2)]) := sp_impl_OpenEpochBoxes s_ e_ _ (t_impl_OpenEpochBoxes s_ e_)

theorem sp_spec_l24Mark (k_ : D.Keeper) (r : Int) (hm : m_spec_l24Mark k_ = some r) : Spec Tryz.prog G0 30 [.agg (D.Keeper.V k_)] (fun v => v = .int .i64 r) := by
 rw [m_spec_l24Mark] at hm
 refine enter (l := [.tmp 2]) Tryz.func30 rfl Tryz.ntmps30 rfl T.en30 fun E => ?_
 simp only [List.length_cons, List.length_nil, List.replicate_succ, List.replicate_zero, List.cons_append, List.nil_append, Nat.reduceAdd, Nat.reduceSub]
 refine sr <| k (bx rfl s0 u1 (.t n0)) <| m (as_ (.i rfl)) u2 <| e ?_
 refine sr <| m (fab 2 rfl T.f78_1 (.t n1)) u3 <| m (ldb T.o3 n0 n2 (.t n3)) u4 <| m (mul (.t n4) (.i rfl)) u5 <| m (fab 3 rfl T.f78_2 (.t n1)) u6 <| m (ldb T.o3 n0 n3 (.t n6)) u7 <| m (add (.t n5) (.t n7)) u8 <| m (as_ (.t n8)) u2 <| e ?_
 replace hm := sj hm
 subst hm
 exact rt (ret1 (.t n2 (.p rfl) .n) rfl)

theorem tot_spec_l24Mark (k_ : D.Keeper)  : Spec Tryz.prog G0 30 [.agg (D.Keeper.V k_)] (fun v => v = .int .i64 (markF k_)) := sp_spec_l24Mark k_ _ (t_spec_l24Mark k_)

theorem sp_impl_progress (k_ : D.Keeper) (r : Int) (hm : m_impl_progress k_ = some r) : Spec Tryz.prog G0 40 [.agg (D.Keeper.V k_)] (fun v => v = .int .i64 r) := by
 rw [m_impl_progress] at hm
 refine enter (l := [.tmp 2]) Tryz.func40 rfl Tryz.ntmps40 rfl T.en40 fun E => ?_
 simp only [List.length_cons, List.length_nil, List.replicate_succ, List.replicate_zero, List.cons_append, List.nil_append, Nat.reduceAdd, Nat.reduceSub]
 refine sr <| k (bx rfl s0 u1 (.t n0)) <| m (as_ (.i rfl)) u2 <| e ?_
 refine sr <| m (fab 2 rfl T.f78_1 (.t n1)) u3 <| m (ldb T.o3 n0 n2 (.t n3)) u4 <| m (mul (.t n4) (.i rfl)) u5 <| m (fab 3 rfl T.f78_2 (.t n1)) u6 <| m (ldb T.o3 n0 n3 (.t n6)) u7 <| m (add (.t n5) (.t n7)) u8 <| m (as_ (.t n8)) u2 <| e ?_
 replace hm := sj hm
 subst hm
 exact rt (ret1 (.t n2 (.p rfl) .n) rfl)

theorem tot_impl_progress (k_ : D.Keeper)  : Spec Tryz.prog G0 40 [.agg (D.Keeper.V k_)] (fun v => v = .int .i64 (markF k_)) := sp_impl_progress k_ _ (t_impl_progress k_)

theorem sp_spec_IsValidMailbox (m_ : D.Mailbox) (r : Bool) (hm : m_spec_IsValidMailbox m_ = some r) : Spec Tryz.prog G0 88 [.agg (D.Mailbox.V m_)] (fun v => v = .bool r) := by
 rw [m_spec_IsValidMailbox] at hm
 refine enter (l := [.tmp 2]) Tryz.func88 rfl Tryz.ntmps88 rfl T.en88 fun E => ?_
 simp only [List.length_cons, List.length_nil, List.replicate_succ, List.replicate_zero, List.cons_append, List.nil_append, Nat.reduceAdd, Nat.reduceSub]
 refine sr <| k (bx rfl s0 u1 (.t n0)) <| m (as_ .b) u2 <| e ?_
 refine sq ?_
 refine sr <| m (as_ (.i rfl)) u3 <| e ?_
 refine jmx hm (fun _ : Unit => ⟨[.any, .box 0 0, .any, .any, .any, .any, .any, .any, .any, .any, .any, .any, .any, .any, .any, .any, .any, .any, .any, .any, .any, .any, .any, .any, .any, .any, .any, .any, .any, .any, .any, .any, .any, .any, .any, .any, .any, .any, .any, .any, .any, .any, .any, .any, .any, .any, .any, .any, .any, .any, .any, .any, .any], [.box 55 [.slice 4 (m_.Notices.map D.Notice.V)]]⟩) (fun _ hm hq1 => ?_) (fun _ hm => ?_)
 ·
  refine bk ?_
  refine lpf (m := m_spec_IsValidMailbox_l0 m_) hm (fun i0 : Nat => ⟨[.any, .box 0 0, .any, .int .i64 (i0 : Int), .any, .any, .any, .any, .any, .any, .any, .any, .any, .any, .any, .any, .any, .any, .any, .any, .any, .any, .any, .any, .any, .any, .any, .any, .any, .any, .any, .any, .any, .any, .any, .any, .any, .any, .any, .any, .any, .any, .any, .any, .any, .any, .any, .any, .any, .any, .any, .any, .any], [.box 55 [.slice 4 (m_.Notices.map D.Notice.V)]]⟩) (fun _ => rfl) (le [0] (by decide) (.c .a (.c (.b n0) (.c .a (.c (.e rfl rfl) (.x32 (.x16 (.c .a .n))))))) (.b n0 (.c (.e rfl rfl) .n) .n)) ?_
  rintro f i0 hm
  rw [m_spec_IsValidMailbox_l0] at hm
  refine sq ?_
  refine sr <| m (mv (.t n3)) u5 <| m (fab 0 rfl T.f55_0 (.t n1)) u6 <| m (ldb T.o53 n0 n0 (.t n6)) u7 <| m (lenm (l := m_.Notices) (f := D.Notice.V) T.s53 (.t n7)) u8 <| m (lss (.t n5) (.t n8)) u9 <| e ?_
  refine rng n8 fun _ ra2 => ?_
  replace ra2 := (show (_ : Int) ≤ 9223372036854775807 from ra2)
  refine cnd n9 (fun h3 => ?_) (fun h3 => ?_)
  ·
   replace hm := ct h3 hm
   have h3d := of_decide_eq_true h3
   refine skp ?_
   refine sq ?_
   refine bk ?_
   obtain ⟨z4, e5, hm⟩ := bd_some hm
   refine sr <| m (fab 0 rfl T.f55_0 (.t n1)) u12 <| m (ldb T.o53 n0 n0 (.t n12)) u13 <| m (mv (.t n3)) u14 <| m (ixq (f := D.Notice.V) e5 T.s53 (.t n13) (.t n14)) u15 <| m (lae T.a217 k4 (.t n15)) u16 <| k (al T.z217 s1 u4) <| k (sta T.a217 rfl rfl n1 (.z (.z (.z (.z .n)))) q1 (.t n4) (.t n16)) <| e ?_
   refine sd none [(0, true), (1, true), (2, false), (3, true), (4, true), (5, true), (6, true), (7, false), (8, true), (9, true), (10, true), (11, true), (12, true), (13, false), (14, true), (15, true), (16, true), (17, true), (18, true), (19, true), (20, true), (21, true), (22, true), (23, true), (24, true), (25, true), (26, true), (27, true), (28, true), (29, true), (30, true), (31, true)] T.mix (by kernel_rfl) <| rob hm (fun j1_48 : Bool => ⟨[.any, .box 0 0, .any, .int .i64 (i0 : Int), .any, .any, .any, .any, .any, .any, .any, .any, .any, .any, .any, .any, .any, .any, .any, .any, .any, .any, .any, .any, .any, .any, .any, .any, .any, .any, .any, .any, .any, .any, .any, .any, .any, .any, .any, .any, .any, .any, .any, .any, .any, .any, .any, .any, .bool j1_48, .any, .any, .any, .any], [.box 55 [.slice 4 (m_.Notices.map D.Notice.V)]]⟩) (fun _ hm hq6 => ?_) (fun j1_48 hm => ?_)
   ·
    refine om n0 (fab 0 rfl T.f217_0 (.t n4)) u17 <| om n1 (ldb T.o3 n1 n0 (.t n17)) u18 <| oc n2 (call (tot_spec_l1In z4.Kind (1 : Int) (5 : Int)) (.c (.t n18) rfl (.c (.i rfl) rfl (.c (.i rfl) rfl .n)))) u19 <| om n3 (not_ (.t n19)) u20 <| om n4 (mv (.t n20)) u21 <| osp n21 u21 u21 (fun h7 => ?_) (fun h7 => ?_)
    ·
     replace hm := ct h7 hm
     refine os n5 n4 rfl n21 rfl u22 <| os n6 n4 rfl n21 rfl u23 <| osf n7 n4 rfl n21 rfl u24 <| os n8 n4 rfl n21 rfl u25 <| om n9 (pkt (.t n21) .b) u26 <| om n10 (mv (.t n26)) u27 <| os n11 n10 rfl n27 rfl u28 <| os n12 n10 rfl n27 rfl u29 <| osf n13 n10 rfl n27 rfl u30 <| os n14 n10 rfl n27 rfl u31 <| om n15 (pkt (.t n27) .b) u32 <| om n16 (mv (.t n32)) u33 <| os n17 n16 rfl n33 rfl u34 <| os n18 n16 rfl n33 rfl u35 <| os n19 n16 rfl n33 rfl u36 <| osu n20 n19 rfl n36 u37 <| osu n21 n19 rfl n36 u38 <| osu n22 n19 rfl n36 u39 <| osu n23 n19 rfl n36 u40 <| osu n24 n19 rfl n36 u41 <| osu n25 n19 rfl n36 u42 <| osu n26 n19 rfl n36 u43 <| osu n27 n19 rfl n36 u44 <| osu n28 n19 rfl n36 u45 <| osu n29 n19 rfl n36 u46 <| os n30 n16 rfl n33 rfl u47 <| om n31 (pkt (.t n33) .b) u48 <| oe ?_
     replace hm := sj hm
     subst hm
     have hm := hq6
     exact ⟨true, hm, le [0] (by decide) (.c .a (.c (.b n0) (.c .a (.c (.e rfl rfl) (.x32 (.x8 (.x4 (.c (.e rfl rfl) (.x4 .n))))))))) (.b n0 (.c (.e rfl rfl) .n) .n)⟩
    ·
     replace hm := cf h7 hm
     refine omg n5 n4 rfl n21 (fab 1 rfl T.f217_1 (.t n4)) u22 <| omg n6 n4 rfl n21 (ldb T.o3 n1 n1 (.t n22)) u23 <| ocg n7 n4 rfl n21 (call (tot_spec_l1In z4.Account (0 : Int) (1000000 : Int)) (.c (.t n23) rfl (.c (.i rfl) rfl (.c (.i rfl) rfl .n)))) u24 <| omg n8 n4 rfl n21 (not_ (.t n24)) u25 <| om n9 (pkf (.t n21) (.t n25)) u26 <| om n10 (mv (.t n26)) u27 <| osp n27 u27 u27 (fun h8 => ?_) (fun h8 => ?_)
     ·
      replace hm := ct h8 hm
      refine os n11 n10 rfl n27 rfl u28 <| os n12 n10 rfl n27 rfl u29 <| osf n13 n10 rfl n27 rfl u30 <| os n14 n10 rfl n27 rfl u31 <| om n15 (pkt (.t n27) .b) u32 <| om n16 (mv (.t n32)) u33 <| os n17 n16 rfl n33 rfl u34 <| os n18 n16 rfl n33 rfl u35 <| os n19 n16 rfl n33 rfl u36 <| osu n20 n19 rfl n36 u37 <| osu n21 n19 rfl n36 u38 <| osu n22 n19 rfl n36 u39 <| osu n23 n19 rfl n36 u40 <| osu n24 n19 rfl n36 u41 <| osu n25 n19 rfl n36 u42 <| osu n26 n19 rfl n36 u43 <| osu n27 n19 rfl n36 u44 <| osu n28 n19 rfl n36 u45 <| osu n29 n19 rfl n36 u46 <| os n30 n16 rfl n33 rfl u47 <| om n31 (pkt (.t n33) .b) u48 <| oe ?_
      replace hm := sj hm
      subst hm
      have hm := hq6
      exact ⟨true, hm, le [0] (by decide) (.c .a (.c (.b n0) (.c .a (.c (.e rfl rfl) (.x32 (.x8 (.x4 (.c (.e rfl rfl) (.x4 .n))))))))) (.b n0 (.c (.e rfl rfl) .n) .n)⟩
     ·
      replace hm := cf h8 hm
      refine omg n11 n10 rfl n27 (fab 2 rfl T.f217_2 (.t n4)) u28 <| omg n12 n10 rfl n27 (ldb T.o3 n1 n2 (.t n28)) u29 <| ocg n13 n10 rfl n27 (call (tot_spec_l1In z4.Time (0 : Int) (1000000 : Int)) (.c (.t n29) rfl (.c (.i rfl) rfl (.c (.i rfl) rfl .n)))) u30 <| omg n14 n10 rfl n27 (not_ (.t n30)) u31 <| om n15 (pkf (.t n27) (.t n31)) u32 <| om n16 (mv (.t n32)) u33 <| osp n33 u33 u33 (fun h9 => ?_) (fun h9 => ?_)
      ·
       replace hm := ct h9 hm
       refine os n17 n16 rfl n33 rfl u34 <| os n18 n16 rfl n33 rfl u35 <| os n19 n16 rfl n33 rfl u36 <| osu n20 n19 rfl n36 u37 <| osu n21 n19 rfl n36 u38 <| osu n22 n19 rfl n36 u39 <| osu n23 n19 rfl n36 u40 <| osu n24 n19 rfl n36 u41 <| osu n25 n19 rfl n36 u42 <| osu n26 n19 rfl n36 u43 <| osu n27 n19 rfl n36 u44 <| osu n28 n19 rfl n36 u45 <| osu n29 n19 rfl n36 u46 <| os n30 n16 rfl n33 rfl u47 <| om n31 (pkt (.t n33) .b) u48 <| oe ?_
       replace hm := sj hm
       subst hm
       have hm := hq6
       exact ⟨true, hm, le [0] (by decide) (.c .a (.c (.b n0) (.c .a (.c (.e rfl rfl) (.x32 (.x8 (.x4 (.c (.e rfl rfl) (.x4 .n))))))))) (.b n0 (.c (.e rfl rfl) .n) .n)⟩
      ·
       replace hm := cf h9 hm
       refine omg n17 n16 rfl n33 (mv (.t n3)) u34 <| omg n18 n16 rfl n33 (gtr (.t n34) (.i rfl)) u35 <| omg n19 n16 rfl n33 (mv (.t n35)) u36 <| osp n36 u36 u36 (fun h10 => ?_) (fun h10 => ?_)
       ·
        replace hm := ct h10 hm
        obtain ⟨z11, e12, hm⟩ := bd_some hm
        refine omg n20 n19 rfl n36 (fab 0 rfl T.f55_0 (.t n1)) u37 <| omg n21 n19 rfl n36 (ldb T.o53 n0 n0 (.t n37)) u38 <| omg n22 n19 rfl n36 (mv (.t n3)) u39 <| omg n23 n19 rfl n36 (sub (.t n39) (.i rfl)) u40 <| omg n24 n19 rfl n36 (ixq (f := D.Notice.V) e12 T.s53 (.t n38) (.t n40)) u41 <| omg n25 n19 rfl n36 (fae T.f217_2 d2 (.t n41)) u42 <| omg n26 n19 rfl n36 (lde T.o3 n0 (.t n42)) u43 <| omg n27 n19 rfl n36 (fab 2 rfl T.f217_2 (.t n4)) u44 <| omg n28 n19 rfl n36 (ldb T.o3 n1 n2 (.t n44)) u45 <| omg n29 n19 rfl n36 (gtr (.t n43) (.t n45)) u46 <| omg n30 n16 rfl n33 (pkt (.t n36) (.t n46)) u47 <| om n31 (pkf (.t n33) (.t n47)) u48 <| oe ?_
        replace hm := sj hm
        subst hm
        have hm := hq6
        exact ⟨decide (z11.Time > z4.Time), hm, le [0] (by decide) (.c .a (.c (.b n0) (.c .a (.c (.e rfl rfl) (.x32 (.x8 (.x4 (.c (.e rfl rfl) (.x4 .n))))))))) (.b n0 (.c (.e rfl rfl) .n) .n)⟩
       ·
        replace hm := cf h10 hm
        refine os n20 n19 rfl n36 rfl u37 <| os n21 n19 rfl n36 rfl u38 <| os n22 n19 rfl n36 rfl u39 <| os n23 n19 rfl n36 rfl u40 <| os n24 n19 rfl n36 rfl u41 <| os n25 n19 rfl n36 rfl u42 <| os n26 n19 rfl n36 rfl u43 <| os n27 n19 rfl n36 rfl u44 <| os n28 n19 rfl n36 rfl u45 <| os n29 n19 rfl n36 rfl u46 <| omg n30 n16 rfl n33 (pkf (.t n36) .b) u47 <| om n31 (pkf (.t n33) (.t n47)) u48 <| oe ?_
        replace hm := sj hm
        subst hm
        have hm := hq6
        exact ⟨false, hm, le [0] (by decide) (.c .a (.c (.b n0) (.c .a (.c (.e rfl rfl) (.x32 (.x8 (.x4 (.c (.e rfl rfl) (.x4 .n))))))))) (.b n0 (.c (.e rfl rfl) .n) .n)⟩
   ·
    refine cnd n48 (fun h13 => ?_) (fun h13 => ?_)
    ·
     replace hm := ct h13 hm
     refine sr <| m (as_ .b) u2 <| e ?_
     replace hm := inl1 hm hq1
     subst hm
     exact rt (ret1 (.t n2 (.p rfl) .n) rfl)
    ·
     replace hm := cf h13 hm
     refine skp ?_
     refine rg <| m (mv (.t n3)) u10 <| m (add (.t n10) (.i rfl)) u11 <| m (as_ (.t n11)) u3 <| e ?_
     exact ⟨i0 + 1, hm, le [0] (by decide) (.c .a (.c (.b n0) (.c .a (.c (.e (wi (by omega)) rfl) (.x32 (.x16 (.c .a .n))))))) (.b n0 (.c (.e rfl rfl) .n) .n)⟩
  ·
   replace hm := cf h3 hm
   have h3d := of_decide_eq_false h3
   refine ex (x1 ?_)
   replace hm := inr1 hm hq1
   exact ⟨(), hm, le [0] (by decide) (.c .a (.c (.b n0) (.x32 (.x16 (.x2 (.c .a .n)))))) (.b n0 (.c (.e rfl rfl) .n) .n)⟩
 ·
  refine sr <| m (fab 0 rfl T.f55_0 (.t n1)) u49 <| m (ldb T.o53 n0 n0 (.t n49)) u50 <| m (lenm (l := m_.Notices) (f := D.Notice.V) T.s53 (.t n50)) u51 <| m (leq (.t n51) (.i rfl)) u52 <| m (as_ (.t n52)) u2 <| e ?_
  replace hm := sj hm
  subst hm
  exact rt (ret1 (.t n2 (.p rfl) .n) rfl)

theorem tot_spec_IsValidMailbox (m_ : D.Mailbox) (hp0 : m_.Notices.length ≤ 34359738368) : Spec Tryz.prog G0 88 [.agg (D.Mailbox.V m_)] (fun v => v = .bool (mailOkF m_)) := sp_spec_IsValidMailbox m_ _ (t_spec_IsValidMailbox m_ hp0)

theorem sp_impl_IsValidMailbox (m_ : D.Mailbox) (r : Bool) (hm : m_impl_IsValidMailbox m_ = some r) : Spec Tryz.prog G0 101 [.agg (D.Mailbox.V m_)] (fun v => v = .bool r) := by
 rw [m_impl_IsValidMailbox] at hm
 refine enter (l := [.tmp 2]) Tryz.func101 rfl Tryz.ntmps101 rfl T.en101 fun E => ?_
 simp only [List.length_cons, List.length_nil, List.replicate_succ, List.replicate_zero, List.cons_append, List.nil_append, Nat.reduceAdd, Nat.reduceSub]
 refine sr <| k (bx rfl s0 u1 (.t n0)) <| m (as_ .b) u2 <| e ?_
 refine sq ?_
 refine sr <| m (fab 0 rfl T.f55_0 (.t n1)) u5 <| m (ldb T.o53 n0 n0 (.t n5)) u6 <| m (lenm (l := m_.Notices) (f := D.Notice.V) T.s53 (.t n6)) u7 <| m (gtr (.t n7) (.i rfl)) u8 <| e ?_
 refine cnd n8 (fun h1 => ?_) (fun h1 => ?_)
 ·
  replace hm := ct h1 hm
  refine sr <| m (as_ .b) u2 <| e ?_
  replace hm := sj hm
  subst hm
  exact rt (ret1 (.t n2 (.p rfl) .n) rfl)
 ·
  replace hm := cf h1 hm
  refine skp ?_
  refine sq ?_
  refine sr <| m (fab 0 rfl T.f55_0 (.t n1)) u9 <| m (ldb T.o53 n0 n0 (.t n9)) u10 <| m (lenm (l := m_.Notices) (f := D.Notice.V) T.s53 (.t n10)) u11 <| m (mv (.i rfl)) u12 <| e ?_
  refine jmx hm (fun _ : Unit => ⟨[.any, .any, .any, .any, .any, .any, .any, .any, .any, .any, .any, .any, .any, .any, .any, .any, .any, .any, .any, .any, .any, .any, .any, .any, .any, .any, .any, .any, .any, .any, .any, .any, .any, .any, .any, .any, .any, .any, .any, .any, .any, .any, .any, .any, .any, .any, .any, .any, .any, .any], []⟩) (fun _ hm hq2 => ?_) (fun _ hm => ?_)
  ·
   refine bk ?_
   refine lpf (m := m_impl_IsValidMailbox_l0 m_) hm (fun i0 : Nat => ⟨[.any, .box 0 0, .any, .any, .any, .any, .any, .any, .any, .any, .slice 4 (m_.Notices.map D.Notice.V), .int .i64 (m_.Notices.length : Int), .int .i64 (i0 : Int), .any, .any, .any, .any, .any, .any, .any, .any, .any, .any, .any, .any, .any, .any, .any, .any, .any, .any, .any, .any, .any, .any, .any, .any, .any, .any, .any, .any, .any, .any, .any, .any, .any, .any, .any, .any, .any], [.box 55 [.slice 4 (m_.Notices.map D.Notice.V)]]⟩) (fun _ => rfl) (le [0] (by decide) (.c .a (.c (.b n0) (.x8 (.c (.e rfl rfl) (.c (.e rfl rfl) (.c (.e rfl rfl) (.x32 (.x4 (.c .a .n))))))))) (.b n0 (.c (.e rfl rfl) .n) .n)) ?_
   rintro f i0 hm
   rw [m_impl_IsValidMailbox_l0] at hm
   refine sr <| m (lss (.t n12) (.t n11)) u13 <| e ?_
   refine rng n11 fun _ ra3 => ?_
   replace ra3 := (show (_ : Int) ≤ 9223372036854775807 from ra3)
   refine sq ?_
   refine cnd n13 (fun h4 => ?_) (fun h4 => ?_)
   ·
    replace hm := ct h4 hm
    have h4d := of_decide_eq_true h4
    refine skp ?_
    refine sq ?_
    refine bk ?_
    obtain ⟨z5, e6, hm⟩ := bd_some hm
    refine sr <| m (mv (.t n12)) u14 <| m (ixq (f := D.Notice.V) e6 T.s53 (.t n10) (.t n12)) u15 <| m (lae T.a217 k4 (.t n15)) u16 <| k (al T.z217 s1 u4) <| m (as_ (.t n14)) u3 <| k (sta T.a217 rfl rfl n1 (.z (.z (.z (.z .n)))) q1 (.t n4) (.t n16)) <| e ?_
    refine sd none [(0, true), (1, true), (2, false), (3, true), (4, true), (5, true), (6, true), (7, false), (8, true), (9, true), (10, true), (11, true), (12, true), (13, false), (14, true), (15, true), (16, true), (17, true), (18, true), (19, true), (20, true), (21, true), (22, true), (23, true), (24, true), (25, true), (26, true), (27, true), (28, true), (29, true), (30, true), (31, true)] T.mix (by kernel_rfl) <| rob hm (fun j1_48 : Bool => ⟨[.any, .box 0 0, .any, .any, .any, .any, .any, .any, .any, .any, .slice 4 (m_.Notices.map D.Notice.V), .int .i64 (m_.Notices.length : Int), .int .i64 (i0 : Int), .any, .any, .any, .any, .any, .any, .any, .any, .any, .any, .any, .any, .any, .any, .any, .any, .any, .any, .any, .any, .any, .any, .any, .any, .any, .any, .any, .any, .any, .any, .any, .any, .any, .any, .any, .bool j1_48, .any], [.box 55 [.slice 4 (m_.Notices.map D.Notice.V)]]⟩) (fun _ hm hq7 => ?_) (fun j1_48 hm => ?_)
    ·
     refine om n0 (fab 0 rfl T.f217_0 (.t n4)) u17 <| om n1 (ldb T.o3 n1 n0 (.t n17)) u18 <| oc n2 (call (tot_impl_InRange z5.Kind (1 : Int) (5 : Int)) (.c (.t n18) rfl (.c (.i rfl) rfl (.c (.i rfl) rfl .n)))) u19 <| om n3 (not_ (.t n19)) u20 <| om n4 (mv (.t n20)) u21 <| osp n21 u21 u21 (fun h8 => ?_) (fun h8 => ?_)
     ·
      replace hm := ct h8 hm
      refine os n5 n4 rfl n21 rfl u22 <| os n6 n4 rfl n21 rfl u23 <| osf n7 n4 rfl n21 rfl u24 <| os n8 n4 rfl n21 rfl u25 <| om n9 (pkt (.t n21) .b) u26 <| om n10 (mv (.t n26)) u27 <| os n11 n10 rfl n27 rfl u28 <| os n12 n10 rfl n27 rfl u29 <| osf n13 n10 rfl n27 rfl u30 <| os n14 n10 rfl n27 rfl u31 <| om n15 (pkt (.t n27) .b) u32 <| om n16 (mv (.t n32)) u33 <| os n17 n16 rfl n33 rfl u34 <| os n18 n16 rfl n33 rfl u35 <| os n19 n16 rfl n33 rfl u36 <| osu n20 n19 rfl n36 u37 <| osu n21 n19 rfl n36 u38 <| osu n22 n19 rfl n36 u39 <| osu n23 n19 rfl n36 u40 <| osu n24 n19 rfl n36 u41 <| osu n25 n19 rfl n36 u42 <| osu n26 n19 rfl n36 u43 <| osu n27 n19 rfl n36 u44 <| osu n28 n19 rfl n36 u45 <| osu n29 n19 rfl n36 u46 <| os n30 n16 rfl n33 rfl u47 <| om n31 (pkt (.t n33) .b) u48 <| oe ?_
      replace hm := sj hm
      subst hm
      have hm := hq7
      exact ⟨true, hm, le [0] (by decide) (.c .a (.c (.b n0) (.x8 (.c (.e rfl rfl) (.c (.e rfl rfl) (.c (.e rfl rfl) (.x32 (.x2 (.c .a (.c (.e rfl rfl) (.c .a .n))))))))))) (.b n0 (.c (.e rfl rfl) .n) .n)⟩
     ·
      replace hm := cf h8 hm
      refine omg n5 n4 rfl n21 (fab 1 rfl T.f217_1 (.t n4)) u22 <| omg n6 n4 rfl n21 (ldb T.o3 n1 n1 (.t n22)) u23 <| ocg n7 n4 rfl n21 (call (tot_impl_InRange z5.Account (0 : Int) (1000000 : Int)) (.c (.t n23) rfl (.c (.i rfl) rfl (.c (.i rfl) rfl .n)))) u24 <| omg n8 n4 rfl n21 (not_ (.t n24)) u25 <| om n9 (pkf (.t n21) (.t n25)) u26 <| om n10 (mv (.t n26)) u27 <| osp n27 u27 u27 (fun h9 => ?_) (fun h9 => ?_)
      ·
       replace hm := ct h9 hm
       refine os n11 n10 rfl n27 rfl u28 <| os n12 n10 rfl n27 rfl u29 <| osf n13 n10 rfl n27 rfl u30 <| os n14 n10 rfl n27 rfl u31 <| om n15 (pkt (.t n27) .b) u32 <| om n16 (mv (.t n32)) u33 <| os n17 n16 rfl n33 rfl u34 <| os n18 n16 rfl n33 rfl u35 <| os n19 n16 rfl n33 rfl u36 <| osu n20 n19 rfl n36 u37 <| osu n21 n19 rfl n36 u38 <| osu n22 n19 rfl n36 u39 <| osu n23 n19 rfl n36 u40 <| osu n24 n19 rfl n36 u41 <| osu n25 n19 rfl n36 u42 <| osu n26 n19 rfl n36 u43 <| osu n27 n19 rfl n36 u44 <| osu n28 n19 rfl n36 u45 <| osu n29 n19 rfl n36 u46 <| os n30 n16 rfl n33 rfl u47 <| om n31 (pkt (.t n33) .b) u48 <| oe ?_
       replace hm := sj hm
       subst hm
       have hm := hq7
       exact ⟨true, hm, le [0] (by decide) (.c .a (.c (.b n0) (.x8 (.c (.e rfl rfl) (.c (.e rfl rfl) (.c (.e rfl rfl) (.x32 (.x2 (.c .a (.c (.e rfl rfl) (.c .a .n))))))))))) (.b n0 (.c (.e rfl rfl) .n) .n)⟩
      ·
       replace hm := cf h9 hm
       refine omg n11 n10 rfl n27 (fab 2 rfl T.f217_2 (.t n4)) u28 <| omg n12 n10 rfl n27 (ldb T.o3 n1 n2 (.t n28)) u29 <| ocg n13 n10 rfl n27 (call (tot_impl_InRange z5.Time (0 : Int) (1000000 : Int)) (.c (.t n29) rfl (.c (.i rfl) rfl (.c (.i rfl) rfl .n)))) u30 <| omg n14 n10 rfl n27 (not_ (.t n30)) u31 <| om n15 (pkf (.t n27) (.t n31)) u32 <| om n16 (mv (.t n32)) u33 <| osp n33 u33 u33 (fun h10 => ?_) (fun h10 => ?_)
       ·
        replace hm := ct h10 hm
        refine os n17 n16 rfl n33 rfl u34 <| os n18 n16 rfl n33 rfl u35 <| os n19 n16 rfl n33 rfl u36 <| osu n20 n19 rfl n36 u37 <| osu n21 n19 rfl n36 u38 <| osu n22 n19 rfl n36 u39 <| osu n23 n19 rfl n36 u40 <| osu n24 n19 rfl n36 u41 <| osu n25 n19 rfl n36 u42 <| osu n26 n19 rfl n36 u43 <| osu n27 n19 rfl n36 u44 <| osu n28 n19 rfl n36 u45 <| osu n29 n19 rfl n36 u46 <| os n30 n16 rfl n33 rfl u47 <| om n31 (pkt (.t n33) .b) u48 <| oe ?_
        replace hm := sj hm
        subst hm
        have hm := hq7
        exact ⟨true, hm, le [0] (by decide) (.c .a (.c (.b n0) (.x8 (.c (.e rfl rfl) (.c (.e rfl rfl) (.c (.e rfl rfl) (.x32 (.x2 (.c .a (.c (.e rfl rfl) (.c .a .n))))))))))) (.b n0 (.c (.e rfl rfl) .n) .n)⟩
       ·
        replace hm := cf h10 hm
        refine omg n17 n16 rfl n33 (mv (.t n3)) u34 <| omg n18 n16 rfl n33 (gtr (.t n34) (.i rfl)) u35 <| omg n19 n16 rfl n33 (mv (.t n35)) u36 <| osp n36 u36 u36 (fun h11 => ?_) (fun h11 => ?_)
        ·
         replace hm := ct h11 hm
         obtain ⟨z12, e13, hm⟩ := bd_some hm
         refine omg n20 n19 rfl n36 (fab 0 rfl T.f55_0 (.t n1)) u37 <| omg n21 n19 rfl n36 (ldb T.o53 n0 n0 (.t n37)) u38 <| omg n22 n19 rfl n36 (mv (.t n3)) u39 <| omg n23 n19 rfl n36 (sub (.t n39) (.i rfl)) u40 <| omg n24 n19 rfl n36 (ixq (f := D.Notice.V) e13 T.s53 (.t n38) (.t n40)) u41 <| omg n25 n19 rfl n36 (fae T.f217_2 d2 (.t n41)) u42 <| omg n26 n19 rfl n36 (lde T.o3 n0 (.t n42)) u43 <| omg n27 n19 rfl n36 (fab 2 rfl T.f217_2 (.t n4)) u44 <| omg n28 n19 rfl n36 (ldb T.o3 n1 n2 (.t n44)) u45 <| omg n29 n19 rfl n36 (gtr (.t n43) (.t n45)) u46 <| omg n30 n16 rfl n33 (pkt (.t n36) (.t n46)) u47 <| om n31 (pkf (.t n33) (.t n47)) u48 <| oe ?_
         replace hm := sj hm
         subst hm
         have hm := hq7
         exact ⟨decide (z12.Time > z5.Time), hm, le [0] (by decide) (.c .a (.c (.b n0) (.x8 (.c (.e rfl rfl) (.c (.e rfl rfl) (.c (.e rfl rfl) (.x32 (.x2 (.c .a (.c (.e rfl rfl) (.c .a .n))))))))))) (.b n0 (.c (.e rfl rfl) .n) .n)⟩
        ·
         replace hm := cf h11 hm
         refine os n20 n19 rfl n36 rfl u37 <| os n21 n19 rfl n36 rfl u38 <| os n22 n19 rfl n36 rfl u39 <| os n23 n19 rfl n36 rfl u40 <| os n24 n19 rfl n36 rfl u41 <| os n25 n19 rfl n36 rfl u42 <| os n26 n19 rfl n36 rfl u43 <| os n27 n19 rfl n36 rfl u44 <| os n28 n19 rfl n36 rfl u45 <| os n29 n19 rfl n36 rfl u46 <| omg n30 n16 rfl n33 (pkf (.t n36) .b) u47 <| om n31 (pkf (.t n33) (.t n47)) u48 <| oe ?_
         replace hm := sj hm
         subst hm
         have hm := hq7
         exact ⟨false, hm, le [0] (by decide) (.c .a (.c (.b n0) (.x8 (.c (.e rfl rfl) (.c (.e rfl rfl) (.c (.e rfl rfl) (.x32 (.x2 (.c .a (.c (.e rfl rfl) (.c .a .n))))))))))) (.b n0 (.c (.e rfl rfl) .n) .n)⟩
    ·
     refine cnd n48 (fun h14 => ?_) (fun h14 => ?_)
     ·
      replace hm := ct h14 hm
      refine sr <| m (as_ .b) u2 <| e ?_
      replace hm := inl1 hm hq2
      subst hm
      exact rt (ret1 (.t n2 (.p rfl) .n) rfl)
     ·
      replace hm := cf h14 hm
      refine skp ?_
      refine rg <| m (add (.t n12) (.i rfl)) u49 <| m (mv (.t n49)) u12 <| e ?_
      exact ⟨i0 + 1, hm, le [0] (by decide) (.c .a (.c (.b n0) (.x8 (.c (.e rfl rfl) (.c (.e rfl rfl) (.c (.e (wi (by omega)) rfl) (.x32 (.x4 (.c .a .n))))))))) (.b n0 (.c (.e rfl rfl) .n) .n)⟩
   ·
    replace hm := cf h4 hm
    have h4d := of_decide_eq_false h4
    refine ex (x1 ?_)
    replace hm := inr1 hm hq2
    exact ⟨(), hm, le [] (by decide) (.x32 (.x16 (.x2 .n))) .n⟩
  ·
   refine sr <| m (as_ .b) u2 <| e ?_
   replace hm := sj hm
   subst hm
   exact rt (ret1 (.t n2 (.p rfl) .n) rfl)

theorem tot_impl_IsValidMailbox (m_ : D.Mailbox) (hp0 : m_.Notices.length ≤ 34359738368) : Spec Tryz.prog G0 101 [.agg (D.Mailbox.V m_)] (fun v => v = .bool (mailOkF m_)) := sp_impl_IsValidMailbox m_ _ (t_impl_IsValidMailbox m_ hp0)

theorem sp_spec_InList (w_ : D.World) (device_ : Int) (r : Bool) (hm : m_spec_InList w_ device_ = some r) : Spec Tryz.prog G0 113 [.agg (D.World.V w_), .int .i64 device_] (fun v => v = .bool r) := by
 rw [m_spec_InList] at hm
 refine enter (l := [.tmp 4]) Tryz.func113 rfl Tryz.ntmps113 rfl T.en113 fun E => ?_
 simp only [List.length_cons, List.length_nil, List.replicate_succ, List.replicate_zero, List.cons_append, List.nil_append, Nat.reduceAdd, Nat.reduceSub]
 refine sr <| k (bx rfl s0 u2 (.t n0)) <| m (as_ .b) u4 <| e ?_
 refine sd none [(0, true), (1, true), (2, true), (3, true), (4, true), (5, false), (6, true), (7, true), (8, true), (9, true), (11, true), (12, true), (13, true), (14, true), (15, true), (16, true), (10, false), (17, false), (18, false), (19, true), (20, true)] T.mix (by kernel_rfl) <| rob hm (fun j0_4 : Bool => ⟨[.any, .any, .any, .any, .bool j0_4, .any, .any, .any, .any, .any, .any, .any, .any, .any, .any, .any, .any, .any, .any, .any, .any, .any, .any, .any, .any], []⟩) (fun _ hm hq1 => ?_) (fun j0_4 hm => ?_)
 ·
  refine om n0 (mv (.t n1)) u5 <| om n1 (fab 2 rfl T.f57_2 (.t n2)) u6 <| om n2 (ldb T.o42 n0 n2 (.t n6)) u7 <| om n3 (lenm (l := w_.Devices) (f := D.Device.V) T.s42 (.t n7)) u8 <| om n4 (sub (.t n8) (.i rfl)) u9 <| oc n5 (call (tot_spec_l1In device_ (0 : Int) (IntKind.i64.wrap ((w_.Devices.length : Int) - (1 : Int)))) (.c (.t n5) rfl (.c (.i rfl) rfl (.c (.t n9) rfl .n)))) u10 <| om n6 (mv (.t n10)) u11 <| osp n11 u11 u11 (fun h2 => ?_) (fun h2 => ?_)
  ·
   replace hm := ct h2 hm
   obtain ⟨z3, e4, hm⟩ := bd_some hm
   obtain ⟨c5, hm⟩ := gd_some hm
   refine omg n7 n6 rfl n11 (fab 4 rfl T.f57_4 (.t n2)) u12 <| omg n8 n6 rfl n11 (fab 4 rfl T.f49_0 (.t n12)) u13 <| omg n9 n6 rfl n11 (ldb T.o43 n0 n4 (.t n13)) u14 <| omg n11 n6 rfl n11 (fab 2 rfl T.f57_2 (.t n2)) u16 <| omg n12 n6 rfl n11 (ldb T.o42 n0 n2 (.t n16)) u17 <| omg n13 n6 rfl n11 (mv (.t n1)) u18 <| omg n14 n6 rfl n11 (ixq (f := D.Device.V) e4 T.s42 (.t n17) (.t n18)) u19 <| omg n15 n6 rfl n11 (fae T.f118_0 d0 (.t n19)) u20 <| omg n16 n6 rfl n11 (lae T.a113 k4 (.t n20)) u21 <| ocg n10 n6 rfl n11 (call (tot_spec_DevicesOf w_.Cloud.Log c5) (.c (.t n14) rfl .n)) u15 <| ocg n17 n6 rfl n11 (call (tot_spec_DevicePublic z3.Store) (.c (.t n21) rfl .n)) u22 <| ocg n18 n6 rfl n11 (call (tot_spec_l19Has (devicesOfF w_.Cloud.Log) (devPubF z3.Store)) (.c (.t n15) rfl (.c (.t n22) rfl .n))) u23 <| om n19 (pkt (.t n11) (.t n23)) u24 <| om n20 (as_ (.t n24)) u4 <| oe ?_
   replace hm := sj hm
   subst hm
   have hm := hq1
   exact ⟨(hasF (devicesOfF w_.Cloud.Log) (devPubF z3.Store)), hm, le [] (by decide) (.x4 (.c (.e rfl rfl) (.x16 (.x4 .n)))) .n⟩
  ·
   replace hm := cf h2 hm
   refine os n7 n6 rfl n11 rfl u12 <| os n8 n6 rfl n11 rfl u13 <| os n9 n6 rfl n11 rfl u14 <| os n11 n6 rfl n11 rfl u16 <| os n12 n6 rfl n11 rfl u17 <| os n13 n6 rfl n11 rfl u18 <| os n14 n6 rfl n11 rfl u19 <| os n15 n6 rfl n11 rfl u20 <| os n16 n6 rfl n11 rfl u21 <| osf n10 n6 rfl n11 rfl u15 <| osf n17 n6 rfl n11 rfl u22 <| osf n18 n6 rfl n11 rfl u23 <| om n19 (pkf (.t n11) .b) u24 <| om n20 (as_ (.t n24)) u4 <| oe ?_
   replace hm := sj hm
   subst hm
   have hm := hq1
   exact ⟨false, hm, le [] (by decide) (.x4 (.c (.e rfl rfl) (.x16 (.x4 .n)))) .n⟩
 ·
  replace hm := sj hm
  subst hm
  exact rt (ret1 (.t n4 (.p rfl) .n) rfl)

theorem tot_spec_InList (w_ : D.World) (device_ : Int) (hp0 : WOk w_) : Spec Tryz.prog G0 113 [.agg (D.World.V w_), .int .i64 device_] (fun v => v = .bool (inListF w_ device_)) := sp_spec_InList w_ device_ _ (t_spec_InList w_ device_ hp0)

theorem sp_spec_SiteName (site_ : Int) (r : ByteArray) (hm : m_spec_SiteName site_ = some r) : Spec Tryz.prog G0 87 [.int .i64 site_] (fun v => v = .str r) := by
 rw [m_spec_SiteName] at hm
 refine enter (l := [.tmp 2]) Tryz.func87 rfl Tryz.ntmps87 rfl T.en87 fun E => ?_
 simp only [List.length_cons, List.length_nil, List.replicate_succ, List.replicate_zero, List.cons_append, List.nil_append, Nat.reduceAdd, Nat.reduceSub]
 refine sr <| m (as_ (.s rfl)) u2 <| e ?_
 refine sq ?_
 refine sr <| m (mv (.t n0)) u3 <| e ?_
 refine bk ?_
 refine sr <| m (eql (.t n3) (.i rfl)) u5 <| m (as_ (.t n5)) u4 <| e ?_
 refine cnd n4 (fun h1 => ?_) (fun h1 => ?_)
 ·
  replace hm := ct h1 hm
  refine sr <| m (as_ (.s rfl)) u2 <| e ?_
  replace hm := sj hm
  subst hm
  exact rt (ret1 (.t n2 (.p rfl) .n) rfl)
 ·
  replace hm := cf h1 hm
  refine sr <| m (eql (.t n3) (.i rfl)) u7 <| m (as_ (.t n7)) u6 <| e ?_
  refine cnd n6 (fun h2 => ?_) (fun h2 => ?_)
  ·
   replace hm := ct h2 hm
   refine sr <| m (as_ (.s rfl)) u2 <| e ?_
   replace hm := sj hm
   subst hm
   exact rt (ret1 (.t n2 (.p rfl) .n) rfl)
  ·
   replace hm := cf h2 hm
   refine skp ?_
   refine sr <| m (as_ (.s rfl)) u2 <| e ?_
   replace hm := sj hm
   subst hm
   exact rt (ret1 (.t n2 (.p rfl) .n) rfl)

theorem tot_spec_SiteName (site_ : Int)  : Spec Tryz.prog G0 87 [.int .i64 site_] (fun v => v = .str (siteNameF site_)) := sp_spec_SiteName site_ _ (t_spec_SiteName site_)

theorem sp_spec_IsValidWorld (w_ : D.World) (r : Bool) (hm : m_spec_IsValidWorld w_ = some r) : Spec Tryz.prog G0 29 [.agg (D.World.V w_)] (fun v => v = .bool r) := by
 rw [m_spec_IsValidWorld] at hm
 refine enter (l := [.tmp 2]) Tryz.func29 rfl Tryz.ntmps29 rfl T.en29 fun E => ?_
 simp only [List.length_cons, List.length_nil, List.replicate_succ, List.replicate_zero, List.cons_append, List.nil_append, Nat.reduceAdd, Nat.reduceSub]
 refine sr <| k (bx rfl s0 u1 (.t n0)) <| m (as_ .b) u2 <| e ?_
 refine sq ?_
 refine sr <| m (as_ (.i rfl)) u3 <| e ?_
 refine jmx hm (fun _ : Unit => ⟨[.any, .box 0 0, .any, .any, .any, .any, .any, .any, .any, .any, .any, .any, .any, .any, .any, .any, .any, .any, .any, .any, .any, .any, .any, .any, .any, .any, .any, .any, .any, .any, .any, .any, .any, .any, .any, .any, .any, .any, .any, .any, .any, .any, .any, .any, .any, .any, .any, .any, .any, .any, .any, .any, .any, .any, .any, .any, .any, .any, .any, .any, .any, .any, .any, .any, .any, .any, .any, .any, .any], [.box 57 [.int .i64 w_.Now, .int .i64 w_.Seed, .slice 9 (w_.Devices.map D.Device.V), .slice 1 (w_.Stolen.map bV), .slice 6 (w_.Cloud.Log.map D.LogEntry.V), .int .i64 w_.Cloud.Boxes.Epoch, .slice 4 (w_.Cloud.Boxes.Boxes.map D.Box.V), .slice 4 (w_.Cloud.History.map D.SealedBundle.V), .slice 6 (w_.Sites.map D.Site.V), .int .i64 w_.Vault.Salt, .int .i64 w_.Vault.Threshold, .int .i64 w_.Vault.Check, .int .i64 w_.Vault.Masked, .slice 7 (w_.Hosts.map D.KeeperHost.V), .int .i64 w_.Pin, .slice 4 (w_.Mail.Notices.map D.Notice.V)]]⟩) (fun _ hm hq1 => ?_) (fun _ hm => ?_)
 ·
  refine bk ?_
  refine lpf (m := m_spec_IsValidWorld_l0 w_) hm (fun i0 : Nat => ⟨[.any, .box 0 0, .any, .int .i64 (i0 : Int), .any, .any, .any, .any, .any, .any, .any, .any, .any, .any, .any, .any, .any, .any, .any, .any, .any, .any, .any, .any, .any, .any, .any, .any, .any, .any, .any, .any, .any, .any, .any, .any, .any, .any, .any, .any, .any, .any, .any, .any, .any, .any, .any, .any, .any, .any, .any, .any, .any, .any, .any, .any, .any, .any, .any, .any, .any, .any, .any, .any, .any, .any, .any, .any, .any], [.box 57 [.int .i64 w_.Now, .int .i64 w_.Seed, .slice 9 (w_.Devices.map D.Device.V), .slice 1 (w_.Stolen.map bV), .slice 6 (w_.Cloud.Log.map D.LogEntry.V), .int .i64 w_.Cloud.Boxes.Epoch, .slice 4 (w_.Cloud.Boxes.Boxes.map D.Box.V), .slice 4 (w_.Cloud.History.map D.SealedBundle.V), .slice 6 (w_.Sites.map D.Site.V), .int .i64 w_.Vault.Salt, .int .i64 w_.Vault.Threshold, .int .i64 w_.Vault.Check, .int .i64 w_.Vault.Masked, .slice 7 (w_.Hosts.map D.KeeperHost.V), .int .i64 w_.Pin, .slice 4 (w_.Mail.Notices.map D.Notice.V)]]⟩) (fun _ => rfl) (le [0] (by decide) (.c .a (.c (.b n0) (.c .a (.c (.e rfl rfl) (.x32 (.x32 (.c .a .n))))))) (.b n0 (.c (.e rfl rfl) (.c (.e rfl rfl) (.c (.e rfl rfl) (.c (.e rfl rfl) (.c (.e rfl rfl) (.c (.e rfl rfl) (.c (.e rfl rfl) (.c (.e rfl rfl) (.c (.e rfl rfl) (.c (.e rfl rfl) (.c (.e rfl rfl) (.c (.e rfl rfl) (.c (.e rfl rfl) (.c (.e rfl rfl) (.c (.e rfl rfl) (.c (.e rfl rfl) .n)))))))))))))))) .n)) ?_
  rintro f i0 hm
  rw [m_spec_IsValidWorld_l0] at hm
  refine sq ?_
  refine sr <| m (mv (.t n3)) u4 <| m (fab 8 rfl T.f57_5 (.t n1)) u5 <| m (ldb T.o50 n0 n8 (.t n5)) u6 <| m (lenm (l := w_.Sites) (f := D.Site.V) T.s50 (.t n6)) u7 <| m (lss (.t n4) (.t n7)) u8 <| e ?_
  refine rng n7 fun _ ra2 => ?_
  replace ra2 := (show (_ : Int) ≤ 9223372036854775807 from ra2)
  refine cnd n8 (fun h3 => ?_) (fun h3 => ?_)
  ·
   replace hm := ct h3 hm
   have h3d := of_decide_eq_true h3
   refine skp ?_
   refine sq ?_
   refine bk ?_
   refine sd none [(0, true), (1, true), (2, true), (3, true), (4, true), (5, false), (6, true), (7, true), (8, true), (9, true), (10, true), (11, true), (12, true), (13, true), (14, true), (15, false), (16, true), (17, true)] T.mix (by kernel_rfl) <| rob hm (fun j1_28 : Bool => ⟨[.any, .box 0 0, .any, .int .i64 (i0 : Int), .any, .any, .any, .any, .any, .any, .any, .any, .any, .any, .any, .any, .any, .any, .any, .any, .any, .any, .any, .any, .any, .any, .any, .any, .bool j1_28, .any, .any, .any, .any, .any, .any, .any, .any, .any, .any, .any, .any, .any, .any, .any, .any, .any, .any, .any, .any, .any, .any, .any, .any, .any, .any, .any, .any, .any, .any, .any, .any, .any, .any, .any, .any, .any, .any, .any, .any], [.box 57 [.int .i64 w_.Now, .int .i64 w_.Seed, .slice 9 (w_.Devices.map D.Device.V), .slice 1 (w_.Stolen.map bV), .slice 6 (w_.Cloud.Log.map D.LogEntry.V), .int .i64 w_.Cloud.Boxes.Epoch, .slice 4 (w_.Cloud.Boxes.Boxes.map D.Box.V), .slice 4 (w_.Cloud.History.map D.SealedBundle.V), .slice 6 (w_.Sites.map D.Site.V), .int .i64 w_.Vault.Salt, .int .i64 w_.Vault.Threshold, .int .i64 w_.Vault.Check, .int .i64 w_.Vault.Masked, .slice 7 (w_.Hosts.map D.KeeperHost.V), .int .i64 w_.Pin, .slice 4 (w_.Mail.Notices.map D.Notice.V)]]⟩) (fun _ hm hq4 => ?_) (fun j1_28 hm => ?_)
   ·
    obtain ⟨z5, e6, hm⟩ := bd_some hm
    obtain ⟨c7, hm⟩ := gd_some hm
    refine om n0 (fab 8 rfl T.f57_5 (.t n1)) u11 <| om n1 (ldb T.o50 n0 n8 (.t n11)) u12 <| om n2 (mv (.t n3)) u13 <| om n3 (ixq (f := D.Site.V) e6 T.s50 (.t n12) (.t n13)) u14 <| om n4 (lae T.a152 k6 (.t n14)) u15 <| oc n5 (call (tot_spec_IsValidSite z5 c7) (.c (.t n15) rfl .n)) u16 <| om n6 (not_ (.t n16)) u17 <| om n7 (mv (.t n17)) u18 <| osp n18 u18 u18 (fun h8 => ?_) (fun h8 => ?_)
    ·
     replace hm := ct h8 hm
     refine os n8 n7 rfl n18 rfl u19 <| os n9 n7 rfl n18 rfl u20 <| os n10 n7 rfl n18 rfl u21 <| os n11 n7 rfl n18 rfl u22 <| os n12 n7 rfl n18 rfl u23 <| os n13 n7 rfl n18 rfl u24 <| os n14 n7 rfl n18 rfl u25 <| osf n15 n7 rfl n18 rfl u26 <| os n16 n7 rfl n18 rfl u27 <| om n17 (pkt (.t n18) .b) u28 <| oe ?_
     replace hm := sj hm
     subst hm
     have hm := hq4
     exact ⟨true, hm, le [0] (by decide) (.c .a (.c (.b n0) (.c .a (.c (.e rfl rfl) (.x16 (.x8 (.c (.e rfl rfl) (.x32 (.x8 .n))))))))) (.b n0 (.c (.e rfl rfl) (.c (.e rfl rfl) (.c (.e rfl rfl) (.c (.e rfl rfl) (.c (.e rfl rfl) (.c (.e rfl rfl) (.c (.e rfl rfl) (.c (.e rfl rfl) (.c (.e rfl rfl) (.c (.e rfl rfl) (.c (.e rfl rfl) (.c (.e rfl rfl) (.c (.e rfl rfl) (.c (.e rfl rfl) (.c (.e rfl rfl) (.c (.e rfl rfl) .n)))))))))))))))) .n)⟩
    ·
     replace hm := cf h8 hm
     refine omg n8 n7 rfl n18 (fab 8 rfl T.f57_5 (.t n1)) u19 <| omg n9 n7 rfl n18 (ldb T.o50 n0 n8 (.t n19)) u20 <| omg n10 n7 rfl n18 (mv (.t n3)) u21 <| omg n11 n7 rfl n18 (ixq (f := D.Site.V) e6 T.s50 (.t n20) (.t n21)) u22 <| omg n12 n7 rfl n18 (fae T.f152_0 d0 (.t n22)) u23 <| omg n13 n7 rfl n18 (lde T.o9 n0 (.t n23)) u24 <| omg n14 n7 rfl n18 (mv (.t n3)) u25 <| ocg n15 n7 rfl n18 (call (tot_spec_SiteName (i0 : Int)) (.c (.t n25) rfl .n)) u26 <| omg n16 n7 rfl n18 (sne (.t n24) (.t n26)) u27 <| om n17 (pkf (.t n18) (.t n27)) u28 <| oe ?_
     replace hm := sj hm
     subst hm
     have hm := hq4
     exact ⟨(!(z5.Name.toList == (siteNameF (i0 : Int)).toList)), hm, le [0] (by decide) (.c .a (.c (.b n0) (.c .a (.c (.e rfl rfl) (.x16 (.x8 (.c (.e rfl rfl) (.x32 (.x8 .n))))))))) (.b n0 (.c (.e rfl rfl) (.c (.e rfl rfl) (.c (.e rfl rfl) (.c (.e rfl rfl) (.c (.e rfl rfl) (.c (.e rfl rfl) (.c (.e rfl rfl) (.c (.e rfl rfl) (.c (.e rfl rfl) (.c (.e rfl rfl) (.c (.e rfl rfl) (.c (.e rfl rfl) (.c (.e rfl rfl) (.c (.e rfl rfl) (.c (.e rfl rfl) (.c (.e rfl rfl) .n)))))))))))))))) .n)⟩
   ·
    refine cnd n28 (fun h9 => ?_) (fun h9 => ?_)
    ·
     replace hm := ct h9 hm
     refine sr <| m (as_ .b) u2 <| e ?_
     replace hm := inl1 hm hq1
     subst hm
     exact rt (ret1 (.t n2 (.p rfl) .n) rfl)
    ·
     replace hm := cf h9 hm
     refine skp ?_
     refine rg <| m (mv (.t n3)) u9 <| m (add (.t n9) (.i rfl)) u10 <| m (as_ (.t n10)) u3 <| e ?_
     exact ⟨i0 + 1, hm, le [0] (by decide) (.c .a (.c (.b n0) (.c .a (.c (.e (wi (by omega)) rfl) (.x32 (.x32 (.c .a .n))))))) (.b n0 (.c (.e rfl rfl) (.c (.e rfl rfl) (.c (.e rfl rfl) (.c (.e rfl rfl) (.c (.e rfl rfl) (.c (.e rfl rfl) (.c (.e rfl rfl) (.c (.e rfl rfl) (.c (.e rfl rfl) (.c (.e rfl rfl) (.c (.e rfl rfl) (.c (.e rfl rfl) (.c (.e rfl rfl) (.c (.e rfl rfl) (.c (.e rfl rfl) (.c (.e rfl rfl) .n)))))))))))))))) .n)⟩
  ·
   replace hm := cf h3 hm
   have h3d := of_decide_eq_false h3
   refine ex (x1 ?_)
   replace hm := inr1 hm hq1
   exact ⟨(), hm, le [0] (by decide) (.c .a (.c (.b n0) (.x32 (.x32 (.x2 (.c .a .n)))))) (.b n0 (.c (.e rfl rfl) (.c (.e rfl rfl) (.c (.e rfl rfl) (.c (.e rfl rfl) (.c (.e rfl rfl) (.c (.e rfl rfl) (.c (.e rfl rfl) (.c (.e rfl rfl) (.c (.e rfl rfl) (.c (.e rfl rfl) (.c (.e rfl rfl) (.c (.e rfl rfl) (.c (.e rfl rfl) (.c (.e rfl rfl) (.c (.e rfl rfl) (.c (.e rfl rfl) .n)))))))))))))))) .n)⟩
 ·
  refine sr <| rjb hm (fun j2_2 : Bool => ⟨[.any, .any, .bool j2_2, .any, .any, .any, .any, .any, .any, .any, .any, .any, .any, .any, .any, .any, .any, .any, .any, .any, .any, .any, .any, .any, .any, .any, .any, .any, .any, .any, .any, .any, .any, .any, .any, .any, .any, .any, .any, .any, .any, .any, .any, .any, .any, .any, .any, .any, .any, .any, .any, .any, .any, .any, .any, .any, .any, .any, .any, .any, .any, .any, .any, .any, .any, .any, .any, .any, .any], []⟩) (fun _ hm hq10 => ?_) (fun j2_2 hm => ?_)
  ·
   refine m (fab 0 rfl T.f57_0 (.t n1)) u29 <| m (ldb T.o3 n0 n0 (.t n29)) u30 <| c (call (tot_spec_l1In w_.Now (0 : Int) (999900 : Int)) (.c (.t n30) rfl (.c (.i rfl) rfl (.c (.i rfl) rfl .n)))) u31 <| m (mv (.t n31)) u32 <| sp n32 u32 u32 (fun h11 => ?_) (fun h11 => ?_)
   ·
    replace hm := ct h11 hm
    refine mg n3 rfl n32 (fab 2 rfl T.f57_2 (.t n1)) u33 <| mg n3 rfl n32 (ldb T.o42 n0 n2 (.t n33)) u34 <| mg n3 rfl n32 (lenm (l := w_.Devices) (f := D.Device.V) T.s42 (.t n34)) u35 <| cg n3 rfl n32 (call (tot_spec_l1In (w_.Devices.length : Int) (1 : Int) (6 : Int)) (.c (.t n35) rfl (.c (.i rfl) rfl (.c (.i rfl) rfl .n)))) u36 <| m (pkt (.t n32) (.t n36)) u37 <| m (mv (.t n37)) u38 <| sp n38 u38 u38 (fun h12 => ?_) (fun h12 => ?_)
    ·
     replace hm := ct h12 hm
     refine mg n9 rfl n38 (fab 3 rfl T.f57_3 (.t n1)) u39 <| mg n9 rfl n38 (ldb T.o23 n0 n3 (.t n39)) u40 <| mg n9 rfl n38 (lenm (l := w_.Stolen) (f := bV) T.s23 (.t n40)) u41 <| mg n9 rfl n38 (fab 2 rfl T.f57_2 (.t n1)) u42 <| mg n9 rfl n38 (ldb T.o42 n0 n2 (.t n42)) u43 <| mg n9 rfl n38 (lenm (l := w_.Devices) (f := D.Device.V) T.s42 (.t n43)) u44 <| mg n9 rfl n38 (eql (.t n41) (.t n44)) u45 <| m (pkt (.t n38) (.t n45)) u46 <| m (mv (.t n46)) u47 <| sp n47 u47 u47 (fun h13 => ?_) (fun h13 => ?_)
     ·
      replace hm := ct h13 hm
      refine mg n18 rfl n47 (fab 8 rfl T.f57_5 (.t n1)) u48 <| mg n18 rfl n47 (ldb T.o50 n0 n8 (.t n48)) u49 <| mg n18 rfl n47 (lenm (l := w_.Sites) (f := D.Site.V) T.s50 (.t n49)) u50 <| mg n18 rfl n47 (eql (.t n50) (.i rfl)) u51 <| m (pkt (.t n47) (.t n51)) u52 <| m (mv (.t n52)) u53 <| sp n53 u53 u53 (fun h14 => ?_) (fun h14 => ?_)
      ·
       replace hm := ct h14 hm
       obtain ⟨c15, hm⟩ := gd_some hm
       refine mg n24 rfl n53 (fab 15 rfl T.f57_9 (.t n1)) u54 <| mg n24 rfl n53 (lab T.a55 n0 d15 k1 (.t n54)) u55 <| cg n24 rfl n53 (call (tot_spec_IsValidMailbox w_.Mail c15) (.c (.t n55) rfl .n)) u56 <| m (pkt (.t n53) (.t n56)) u57 <| m (mv (.t n57)) u58 <| sp n58 u58 u58 (fun h16 => ?_) (fun h16 => ?_)
       ·
        replace hm := ct h16 hm
        obtain ⟨c17, hm⟩ := gd_some hm
        refine mg n29 rfl n58 (fab 4 rfl T.f57_4 (.t n1)) u59 <| mg n29 rfl n58 (fab 4 rfl T.f49_0 (.t n59)) u60 <| mg n29 rfl n58 (ldb T.o43 n0 n4 (.t n60)) u61 <| cg n29 rfl n58 (call (tot_spec_VerifyLog w_.Cloud.Log c17) (.c (.t n61) rfl .n)) u62 <| m (pkt (.t n58) (.t n62)) u63 <| m (mv (.t n63)) u64 <| sp n64 u64 u64 (fun h18 => ?_) (fun h18 => ?_)
        ·
         replace hm := ct h18 hm
         refine mg n35 rfl n64 (fab 1 rfl T.f57_1 (.t n1)) u65 <| mg n35 rfl n64 (ldb T.o3 n0 n1 (.t n65)) u66 <| cg n35 rfl n64 (call (tot_spec_IsValidKey w_.Seed) (.c (.t n66) rfl .n)) u67 <| m (pkt (.t n64) (.t n67)) u68 <| m (as_ (.t n68)) u2 <| e ?_
         replace hm := sj hm
         subst hm
         have hm := hq10
         exact ⟨(keyF w_.Seed), hm, le [] (by decide) (.x2 (.c (.e rfl rfl) (.x32 (.x32 (.x2 .n))))) .n⟩
        ·
         replace hm := cf h18 hm
         refine sk n35 rfl n64 rfl u65 <| sk n35 rfl n64 rfl u66 <| sk n35 rfl n64 rfl u67 <| m (pkf (.t n64) .b) u68 <| m (as_ (.t n68)) u2 <| e ?_
         replace hm := sj hm
         subst hm
         have hm := hq10
         exact ⟨false, hm, le [] (by decide) (.x2 (.c (.e rfl rfl) (.x32 (.x32 (.x2 .n))))) .n⟩
       ·
        replace hm := cf h16 hm
        refine sk n29 rfl n58 rfl u59 <| sk n29 rfl n58 rfl u60 <| sk n29 rfl n58 rfl u61 <| sk n29 rfl n58 rfl u62 <| m (pkf (.t n58) .b) u63 <| m (mv (.t n63)) u64 <| sk n35 rfl n64 rfl u65 <| sk n35 rfl n64 rfl u66 <| sk n35 rfl n64 rfl u67 <| m (pkf (.t n64) .b) u68 <| m (as_ (.t n68)) u2 <| e ?_
        replace hm := sj hm
        subst hm
        have hm := hq10
        exact ⟨false, hm, le [] (by decide) (.x2 (.c (.e rfl rfl) (.x32 (.x32 (.x2 .n))))) .n⟩
      ·
       replace hm := cf h14 hm
       refine sk n24 rfl n53 rfl u54 <| sk n24 rfl n53 rfl u55 <| sk n24 rfl n53 rfl u56 <| m (pkf (.t n53) .b) u57 <| m (mv (.t n57)) u58 <| sk n29 rfl n58 rfl u59 <| sk n29 rfl n58 rfl u60 <| sk n29 rfl n58 rfl u61 <| sk n29 rfl n58 rfl u62 <| m (pkf (.t n58) .b) u63 <| m (mv (.t n63)) u64 <| sk n35 rfl n64 rfl u65 <| sk n35 rfl n64 rfl u66 <| sk n35 rfl n64 rfl u67 <| m (pkf (.t n64) .b) u68 <| m (as_ (.t n68)) u2 <| e ?_
       replace hm := sj hm
       subst hm
       have hm := hq10
       exact ⟨false, hm, le [] (by decide) (.x2 (.c (.e rfl rfl) (.x32 (.x32 (.x2 .n))))) .n⟩
     ·
      replace hm := cf h13 hm
      refine sk n18 rfl n47 rfl u48 <| sk n18 rfl n47 rfl u49 <| sk n18 rfl n47 rfl u50 <| sk n18 rfl n47 rfl u51 <| m (pkf (.t n47) .b) u52 <| m (mv (.t n52)) u53 <| sk n24 rfl n53 rfl u54 <| sk n24 rfl n53 rfl u55 <| sk n24 rfl n53 rfl u56 <| m (pkf (.t n53) .b) u57 <| m (mv (.t n57)) u58 <| sk n29 rfl n58 rfl u59 <| sk n29 rfl n58 rfl u60 <| sk n29 rfl n58 rfl u61 <| sk n29 rfl n58 rfl u62 <| m (pkf (.t n58) .b) u63 <| m (mv (.t n63)) u64 <| sk n35 rfl n64 rfl u65 <| sk n35 rfl n64 rfl u66 <| sk n35 rfl n64 rfl u67 <| m (pkf (.t n64) .b) u68 <| m (as_ (.t n68)) u2 <| e ?_
      replace hm := sj hm
      subst hm
      have hm := hq10
      exact ⟨false, hm, le [] (by decide) (.x2 (.c (.e rfl rfl) (.x32 (.x32 (.x2 .n))))) .n⟩
    ·
     replace hm := cf h12 hm
     refine sk n9 rfl n38 rfl u39 <| sk n9 rfl n38 rfl u40 <| sk n9 rfl n38 rfl u41 <| sk n9 rfl n38 rfl u42 <| sk n9 rfl n38 rfl u43 <| sk n9 rfl n38 rfl u44 <| sk n9 rfl n38 rfl u45 <| m (pkf (.t n38) .b) u46 <| m (mv (.t n46)) u47 <| sk n18 rfl n47 rfl u48 <| sk n18 rfl n47 rfl u49 <| sk n18 rfl n47 rfl u50 <| sk n18 rfl n47 rfl u51 <| m (pkf (.t n47) .b) u52 <| m (mv (.t n52)) u53 <| sk n24 rfl n53 rfl u54 <| sk n24 rfl n53 rfl u55 <| sk n24 rfl n53 rfl u56 <| m (pkf (.t n53) .b) u57 <| m (mv (.t n57)) u58 <| sk n29 rfl n58 rfl u59 <| sk n29 rfl n58 rfl u60 <| sk n29 rfl n58 rfl u61 <| sk n29 rfl n58 rfl u62 <| m (pkf (.t n58) .b) u63 <| m (mv (.t n63)) u64 <| sk n35 rfl n64 rfl u65 <| sk n35 rfl n64 rfl u66 <| sk n35 rfl n64 rfl u67 <| m (pkf (.t n64) .b) u68 <| m (as_ (.t n68)) u2 <| e ?_
     replace hm := sj hm
     subst hm
     have hm := hq10
     exact ⟨false, hm, le [] (by decide) (.x2 (.c (.e rfl rfl) (.x32 (.x32 (.x2 .n))))) .n⟩
   ·
    replace hm := cf h11 hm
    refine sk n3 rfl n32 rfl u33 <| sk n3 rfl n32 rfl u34 <| sk n3 rfl n32 rfl u35 <| sk n3 rfl n32 rfl u36 <| m (pkf (.t n32) .b) u37 <| m (mv (.t n37)) u38 <| sk n9 rfl n38 rfl u39 <| sk n9 rfl n38 rfl u40 <| sk n9 rfl n38 rfl u41 <| sk n9 rfl n38 rfl u42 <| sk n9 rfl n38 rfl u43 <| sk n9 rfl n38 rfl u44 <| sk n9 rfl n38 rfl u45 <| m (pkf (.t n38) .b) u46 <| m (mv (.t n46)) u47 <| sk n18 rfl n47 rfl u48 <| sk n18 rfl n47 rfl u49 <| sk n18 rfl n47 rfl u50 <| sk n18 rfl n47 rfl u51 <| m (pkf (.t n47) .b) u52 <| m (mv (.t n52)) u53 <| sk n24 rfl n53 rfl u54 <| sk n24 rfl n53 rfl u55 <| sk n24 rfl n53 rfl u56 <| m (pkf (.t n53) .b) u57 <| m (mv (.t n57)) u58 <| sk n29 rfl n58 rfl u59 <| sk n29 rfl n58 rfl u60 <| sk n29 rfl n58 rfl u61 <| sk n29 rfl n58 rfl u62 <| m (pkf (.t n58) .b) u63 <| m (mv (.t n63)) u64 <| sk n35 rfl n64 rfl u65 <| sk n35 rfl n64 rfl u66 <| sk n35 rfl n64 rfl u67 <| m (pkf (.t n64) .b) u68 <| m (as_ (.t n68)) u2 <| e ?_
    replace hm := sj hm
    subst hm
    have hm := hq10
    exact ⟨false, hm, le [] (by decide) (.x2 (.c (.e rfl rfl) (.x32 (.x32 (.x2 .n))))) .n⟩
  ·
   replace hm := sj hm
   subst hm
   exact rt (ret1 (.t n2 (.p rfl) .n) rfl)

theorem tot_spec_IsValidWorld (w_ : D.World) (hp0 : WOk2 w_) : Spec Tryz.prog G0 29 [.agg (D.World.V w_)] (fun v => v = .bool (worldOkF w_)) := sp_spec_IsValidWorld w_ _ (t_spec_IsValidWorld w_ hp0)

theorem sp_impl_SiteName (site_ : Int) (r : ByteArray) (hm : m_impl_SiteName site_ = some r) : Spec Tryz.prog G0 100 [.int .i64 site_] (fun v => v = .str r) := by
 rw [m_impl_SiteName] at hm
 refine enter (l := [.tmp 2]) Tryz.func100 rfl Tryz.ntmps100 rfl T.en100 fun E => ?_
 simp only [List.length_cons, List.length_nil, List.replicate_succ, List.replicate_zero, List.cons_append, List.nil_append, Nat.reduceAdd, Nat.reduceSub]
 refine sr <| m (as_ (.s rfl)) u2 <| e ?_
 refine sq ?_
 refine sr <| m (mv (.t n0)) u3 <| e ?_
 refine bk ?_
 refine sr <| m (eql (.t n3) (.i rfl)) u5 <| m (as_ (.t n5)) u4 <| e ?_
 refine cnd n4 (fun h1 => ?_) (fun h1 => ?_)
 ·
  replace hm := ct h1 hm
  refine sr <| m (as_ (.s rfl)) u2 <| e ?_
  replace hm := sj hm
  subst hm
  exact rt (ret1 (.t n2 (.p rfl) .n) rfl)
 ·
  replace hm := cf h1 hm
  refine sr <| m (eql (.t n3) (.i rfl)) u7 <| m (as_ (.t n7)) u6 <| e ?_
  refine cnd n6 (fun h2 => ?_) (fun h2 => ?_)
  ·
   replace hm := ct h2 hm
   refine sr <| m (as_ (.s rfl)) u2 <| e ?_
   replace hm := sj hm
   subst hm
   exact rt (ret1 (.t n2 (.p rfl) .n) rfl)
  ·
   replace hm := cf h2 hm
   refine skp ?_
   refine sr <| m (as_ (.s rfl)) u2 <| e ?_
   replace hm := sj hm
   subst hm
   exact rt (ret1 (.t n2 (.p rfl) .n) rfl)

theorem tot_impl_SiteName (site_ : Int)  : Spec Tryz.prog G0 100 [.int .i64 site_] (fun v => v = .str (siteNameF site_)) := sp_impl_SiteName site_ _ (t_impl_SiteName site_)

theorem sp_impl_IsValidWorld (w_ : D.World) (r : Bool) (hm : m_impl_IsValidWorld w_ = some r) : Spec Tryz.prog G0 39 [.agg (D.World.V w_)] (fun v => v = .bool r) := by
 rw [m_impl_IsValidWorld] at hm
 refine enter (l := [.tmp 2]) Tryz.func39 rfl Tryz.ntmps39 rfl T.en39 fun E => ?_
 simp only [List.length_cons, List.length_nil, List.replicate_succ, List.replicate_zero, List.cons_append, List.nil_append, Nat.reduceAdd, Nat.reduceSub]
 refine sr <| k (bx rfl s0 u1 (.t n0)) <| m (as_ .b) u2 <| e ?_
 refine sq ?_
 refine sr <| rjb hm (fun j0_30 : Bool => ⟨[.any, .box 0 0, .any, .any, .any, .any, .any, .any, .any, .any, .any, .any, .any, .any, .any, .any, .any, .any, .any, .any, .any, .any, .any, .any, .any, .any, .any, .any, .any, .any, .bool j0_30, .any, .any, .any, .any, .any, .any, .any, .any, .any, .any, .any, .any, .any, .any, .any, .any, .any, .any, .any, .any, .any, .any, .any, .any, .any, .any, .any, .any, .any, .any, .any, .any, .any], [.box 57 [.int .i64 w_.Now, .int .i64 w_.Seed, .slice 9 (w_.Devices.map D.Device.V), .slice 1 (w_.Stolen.map bV), .slice 6 (w_.Cloud.Log.map D.LogEntry.V), .int .i64 w_.Cloud.Boxes.Epoch, .slice 4 (w_.Cloud.Boxes.Boxes.map D.Box.V), .slice 4 (w_.Cloud.History.map D.SealedBundle.V), .slice 6 (w_.Sites.map D.Site.V), .int .i64 w_.Vault.Salt, .int .i64 w_.Vault.Threshold, .int .i64 w_.Vault.Check, .int .i64 w_.Vault.Masked, .slice 7 (w_.Hosts.map D.KeeperHost.V), .int .i64 w_.Pin, .slice 4 (w_.Mail.Notices.map D.Notice.V)]]⟩) (fun _ hm hq1 => ?_) (fun j0_30 hm => ?_)
 ·
  refine m (fab 0 rfl T.f57_0 (.t n1)) u5 <| m (ldb T.o3 n0 n0 (.t n5)) u6 <| c (call (tot_impl_InRange w_.Now (0 : Int) (999900 : Int)) (.c (.t n6) rfl (.c (.i rfl) rfl (.c (.i rfl) rfl .n)))) u7 <| m (not_ (.t n7)) u8 <| m (mv (.t n8)) u9 <| sp n9 u9 u9 (fun h2 => ?_) (fun h2 => ?_)
  ·
   replace hm := ct h2 hm
   refine sk n4 rfl n9 rfl u10 <| sk n4 rfl n9 rfl u11 <| sk n4 rfl n9 rfl u12 <| sk n4 rfl n9 rfl u13 <| sk n4 rfl n9 rfl u14 <| m (pkt (.t n9) .b) u15 <| m (mv (.t n15)) u16 <| sk n11 rfl n16 rfl u17 <| sk n11 rfl n16 rfl u18 <| sk n11 rfl n16 rfl u19 <| sk n11 rfl n16 rfl u20 <| sk n11 rfl n16 rfl u21 <| sk n11 rfl n16 rfl u22 <| sk n11 rfl n16 rfl u23 <| m (pkt (.t n16) .b) u24 <| m (mv (.t n24)) u25 <| sk n20 rfl n25 rfl u26 <| sk n20 rfl n25 rfl u27 <| sk n20 rfl n25 rfl u28 <| sk n20 rfl n25 rfl u29 <| m (pkt (.t n25) .b) u30 <| e ?_
   replace hm := sj hm
   subst hm
   have hm := hq1
   exact ⟨true, hm, le [0] (by decide) (.c .a (.c (.b n0) (.x16 (.x8 (.x4 (.c (.e rfl rfl) (.x32 (.c .a .n)))))))) (.b n0 (.c (.e rfl rfl) (.c (.e rfl rfl) (.c (.e rfl rfl) (.c (.e rfl rfl) (.c (.e rfl rfl) (.c (.e rfl rfl) (.c (.e rfl rfl) (.c (.e rfl rfl) (.c (.e rfl rfl) (.c (.e rfl rfl) (.c (.e rfl rfl) (.c (.e rfl rfl) (.c (.e rfl rfl) (.c (.e rfl rfl) (.c (.e rfl rfl) (.c (.e rfl rfl) .n)))))))))))))))) .n)⟩
  ·
   replace hm := cf h2 hm
   refine mg n4 rfl n9 (fab 2 rfl T.f57_2 (.t n1)) u10 <| mg n4 rfl n9 (ldb T.o42 n0 n2 (.t n10)) u11 <| mg n4 rfl n9 (lenm (l := w_.Devices) (f := D.Device.V) T.s42 (.t n11)) u12 <| cg n4 rfl n9 (call (tot_impl_InRange (w_.Devices.length : Int) (1 : Int) (6 : Int)) (.c (.t n12) rfl (.c (.i rfl) rfl (.c (.i rfl) rfl .n)))) u13 <| mg n4 rfl n9 (not_ (.t n13)) u14 <| m (pkf (.t n9) (.t n14)) u15 <| m (mv (.t n15)) u16 <| sp n16 u16 u16 (fun h3 => ?_) (fun h3 => ?_)
   ·
    replace hm := ct h3 hm
    refine sk n11 rfl n16 rfl u17 <| sk n11 rfl n16 rfl u18 <| sk n11 rfl n16 rfl u19 <| sk n11 rfl n16 rfl u20 <| sk n11 rfl n16 rfl u21 <| sk n11 rfl n16 rfl u22 <| sk n11 rfl n16 rfl u23 <| m (pkt (.t n16) .b) u24 <| m (mv (.t n24)) u25 <| sk n20 rfl n25 rfl u26 <| sk n20 rfl n25 rfl u27 <| sk n20 rfl n25 rfl u28 <| sk n20 rfl n25 rfl u29 <| m (pkt (.t n25) .b) u30 <| e ?_
    replace hm := sj hm
    subst hm
    have hm := hq1
    exact ⟨true, hm, le [0] (by decide) (.c .a (.c (.b n0) (.x16 (.x8 (.x4 (.c (.e rfl rfl) (.x32 (.c .a .n)))))))) (.b n0 (.c (.e rfl rfl) (.c (.e rfl rfl) (.c (.e rfl rfl) (.c (.e rfl rfl) (.c (.e rfl rfl) (.c (.e rfl rfl) (.c (.e rfl rfl) (.c (.e rfl rfl) (.c (.e rfl rfl) (.c (.e rfl rfl) (.c (.e rfl rfl) (.c (.e rfl rfl) (.c (.e rfl rfl) (.c (.e rfl rfl) (.c (.e rfl rfl) (.c (.e rfl rfl) .n)))))))))))))))) .n)⟩
   ·
    replace hm := cf h3 hm
    refine mg n11 rfl n16 (fab 3 rfl T.f57_3 (.t n1)) u17 <| mg n11 rfl n16 (ldb T.o23 n0 n3 (.t n17)) u18 <| mg n11 rfl n16 (lenm (l := w_.Stolen) (f := bV) T.s23 (.t n18)) u19 <| mg n11 rfl n16 (fab 2 rfl T.f57_2 (.t n1)) u20 <| mg n11 rfl n16 (ldb T.o42 n0 n2 (.t n20)) u21 <| mg n11 rfl n16 (lenm (l := w_.Devices) (f := D.Device.V) T.s42 (.t n21)) u22 <| mg n11 rfl n16 (neq (.t n19) (.t n22)) u23 <| m (pkf (.t n16) (.t n23)) u24 <| m (mv (.t n24)) u25 <| sp n25 u25 u25 (fun h4 => ?_) (fun h4 => ?_)
    ·
     replace hm := ct h4 hm
     refine sk n20 rfl n25 rfl u26 <| sk n20 rfl n25 rfl u27 <| sk n20 rfl n25 rfl u28 <| sk n20 rfl n25 rfl u29 <| m (pkt (.t n25) .b) u30 <| e ?_
     replace hm := sj hm
     subst hm
     have hm := hq1
     exact ⟨true, hm, le [0] (by decide) (.c .a (.c (.b n0) (.x16 (.x8 (.x4 (.c (.e rfl rfl) (.x32 (.c .a .n)))))))) (.b n0 (.c (.e rfl rfl) (.c (.e rfl rfl) (.c (.e rfl rfl) (.c (.e rfl rfl) (.c (.e rfl rfl) (.c (.e rfl rfl) (.c (.e rfl rfl) (.c (.e rfl rfl) (.c (.e rfl rfl) (.c (.e rfl rfl) (.c (.e rfl rfl) (.c (.e rfl rfl) (.c (.e rfl rfl) (.c (.e rfl rfl) (.c (.e rfl rfl) (.c (.e rfl rfl) .n)))))))))))))))) .n)⟩
    ·
     replace hm := cf h4 hm
     refine mg n20 rfl n25 (fab 8 rfl T.f57_5 (.t n1)) u26 <| mg n20 rfl n25 (ldb T.o50 n0 n8 (.t n26)) u27 <| mg n20 rfl n25 (lenm (l := w_.Sites) (f := D.Site.V) T.s50 (.t n27)) u28 <| mg n20 rfl n25 (neq (.t n28) (.i rfl)) u29 <| m (pkf (.t n25) (.t n29)) u30 <| e ?_
     replace hm := sj hm
     subst hm
     have hm := hq1
     exact ⟨((w_.Sites.length : Int) != (2 : Int)), hm, le [0] (by decide) (.c .a (.c (.b n0) (.x16 (.x8 (.x4 (.c (.e rfl rfl) (.x32 (.c .a .n)))))))) (.b n0 (.c (.e rfl rfl) (.c (.e rfl rfl) (.c (.e rfl rfl) (.c (.e rfl rfl) (.c (.e rfl rfl) (.c (.e rfl rfl) (.c (.e rfl rfl) (.c (.e rfl rfl) (.c (.e rfl rfl) (.c (.e rfl rfl) (.c (.e rfl rfl) (.c (.e rfl rfl) (.c (.e rfl rfl) (.c (.e rfl rfl) (.c (.e rfl rfl) (.c (.e rfl rfl) .n)))))))))))))))) .n)⟩
 ·
  refine cnd n30 (fun h5 => ?_) (fun h5 => ?_)
  ·
   replace hm := ct h5 hm
   refine sr <| m (as_ .b) u2 <| e ?_
   replace hm := sj hm
   subst hm
   exact rt (ret1 (.t n2 (.p rfl) .n) rfl)
  ·
   replace hm := cf h5 hm
   refine skp ?_
   refine sq ?_
   refine sr <| m (fab 8 rfl T.f57_5 (.t n1)) u31 <| m (ldb T.o50 n0 n8 (.t n31)) u32 <| m (lenm (l := w_.Sites) (f := D.Site.V) T.s50 (.t n32)) u33 <| m (mv (.i rfl)) u34 <| e ?_
   refine jmx hm (fun _ : Unit => ⟨[.any, .box 0 0, .any, .any, .any, .any, .any, .any, .any, .any, .any, .any, .any, .any, .any, .any, .any, .any, .any, .any, .any, .any, .any, .any, .any, .any, .any, .any, .any, .any, .any, .any, .any, .any, .any, .any, .any, .any, .any, .any, .any, .any, .any, .any, .any, .any, .any, .any, .any, .any, .any, .any, .any, .any, .any, .any, .any, .any, .any, .any, .any, .any, .any, .any], [.box 57 [.int .i64 w_.Now, .int .i64 w_.Seed, .slice 9 (w_.Devices.map D.Device.V), .slice 1 (w_.Stolen.map bV), .slice 6 (w_.Cloud.Log.map D.LogEntry.V), .int .i64 w_.Cloud.Boxes.Epoch, .slice 4 (w_.Cloud.Boxes.Boxes.map D.Box.V), .slice 4 (w_.Cloud.History.map D.SealedBundle.V), .slice 6 (w_.Sites.map D.Site.V), .int .i64 w_.Vault.Salt, .int .i64 w_.Vault.Threshold, .int .i64 w_.Vault.Check, .int .i64 w_.Vault.Masked, .slice 7 (w_.Hosts.map D.KeeperHost.V), .int .i64 w_.Pin, .slice 4 (w_.Mail.Notices.map D.Notice.V)]]⟩) (fun _ hm hq6 => ?_) (fun _ hm => ?_)
   ·
    refine bk ?_
    refine lpf (m := m_impl_IsValidWorld_l0 w_) hm (fun i0 : Nat => ⟨[.any, .box 0 0, .any, .any, .any, .any, .any, .any, .any, .any, .any, .any, .any, .any, .any, .any, .any, .any, .any, .any, .any, .any, .any, .any, .any, .any, .any, .any, .any, .any, .any, .any, .slice 6 (w_.Sites.map D.Site.V), .int .i64 (w_.Sites.length : Int), .int .i64 (i0 : Int), .any, .any, .any, .any, .any, .any, .any, .any, .any, .any, .any, .any, .any, .any, .any, .any, .any, .any, .any, .any, .any, .any, .any, .any, .any, .any, .any, .any, .any], [.box 57 [.int .i64 w_.Now, .int .i64 w_.Seed, .slice 9 (w_.Devices.map D.Device.V), .slice 1 (w_.Stolen.map bV), .slice 6 (w_.Cloud.Log.map D.LogEntry.V), .int .i64 w_.Cloud.Boxes.Epoch, .slice 4 (w_.Cloud.Boxes.Boxes.map D.Box.V), .slice 4 (w_.Cloud.History.map D.SealedBundle.V), .slice 6 (w_.Sites.map D.Site.V), .int .i64 w_.Vault.Salt, .int .i64 w_.Vault.Threshold, .int .i64 w_.Vault.Check, .int .i64 w_.Vault.Masked, .slice 7 (w_.Hosts.map D.KeeperHost.V), .int .i64 w_.Pin, .slice 4 (w_.Mail.Notices.map D.Notice.V)]]⟩) (fun _ => rfl) (le [0] (by decide) (.c .a (.c (.b n0) (.x16 (.x8 (.x4 (.x2 (.c (.e rfl rfl) (.c (.e rfl rfl) (.c (.e rfl rfl) (.x16 (.x8 (.x4 (.c .a .n))))))))))))) (.b n0 (.c (.e rfl rfl) (.c (.e rfl rfl) (.c (.e rfl rfl) (.c (.e rfl rfl) (.c (.e rfl rfl) (.c (.e rfl rfl) (.c (.e rfl rfl) (.c (.e rfl rfl) (.c (.e rfl rfl) (.c (.e rfl rfl) (.c (.e rfl rfl) (.c (.e rfl rfl) (.c (.e rfl rfl) (.c (.e rfl rfl) (.c (.e rfl rfl) (.c (.e rfl rfl) .n)))))))))))))))) .n)) ?_
    rintro f i0 hm
    rw [m_impl_IsValidWorld_l0] at hm
    refine sr <| m (lss (.t n34) (.t n33)) u35 <| e ?_
    refine rng n33 fun _ ra7 => ?_
    replace ra7 := (show (_ : Int) ≤ 9223372036854775807 from ra7)
    refine sq ?_
    refine cnd n35 (fun h8 => ?_) (fun h8 => ?_)
    ·
     replace hm := ct h8 hm
     have h8d := of_decide_eq_true h8
     refine skp ?_
     refine sq ?_
     refine bk ?_
     obtain ⟨z9, e10, hm⟩ := bd_some hm
     refine sr <| m (mv (.t n34)) u36 <| m (ixq (f := D.Site.V) e10 T.s50 (.t n32) (.t n34)) u37 <| m (lae T.a152 k6 (.t n37)) u38 <| k (al T.z152 s1 u4) <| m (as_ (.t n36)) u3 <| k (sta T.a152 rfl rfl n1 (.z (.z (.z (.z (.z (.z .n)))))) q1 (.t n4) (.t n38)) <| e ?_
     refine sd none [(0, true), (1, false), (2, true), (3, true), (4, true), (5, true), (6, true), (7, false), (8, true), (9, true)] T.mix (by kernel_rfl) <| rob hm (fun j2_48 : Bool => ⟨[.any, .box 0 0, .any, .any, .any, .any, .any, .any, .any, .any, .any, .any, .any, .any, .any, .any, .any, .any, .any, .any, .any, .any, .any, .any, .any, .any, .any, .any, .any, .any, .any, .any, .slice 6 (w_.Sites.map D.Site.V), .int .i64 (w_.Sites.length : Int), .int .i64 (i0 : Int), .any, .any, .any, .any, .any, .any, .any, .any, .any, .any, .any, .any, .any, .bool j2_48, .any, .any, .any, .any, .any, .any, .any, .any, .any, .any, .any, .any, .any, .any, .any], [.box 57 [.int .i64 w_.Now, .int .i64 w_.Seed, .slice 9 (w_.Devices.map D.Device.V), .slice 1 (w_.Stolen.map bV), .slice 6 (w_.Cloud.Log.map D.LogEntry.V), .int .i64 w_.Cloud.Boxes.Epoch, .slice 4 (w_.Cloud.Boxes.Boxes.map D.Box.V), .slice 4 (w_.Cloud.History.map D.SealedBundle.V), .slice 6 (w_.Sites.map D.Site.V), .int .i64 w_.Vault.Salt, .int .i64 w_.Vault.Threshold, .int .i64 w_.Vault.Check, .int .i64 w_.Vault.Masked, .slice 7 (w_.Hosts.map D.KeeperHost.V), .int .i64 w_.Pin, .slice 4 (w_.Mail.Notices.map D.Notice.V)]]⟩) (fun _ hm hq11 => ?_) (fun j2_48 hm => ?_)
     ·
      obtain ⟨c12, hm⟩ := gd_some hm
      refine om n0 (lab T.a152 n1 d0 k6 (.t n4)) u39 <| oc n1 (call (tot_impl_IsValidSite z9 c12) (.c (.t n39) rfl .n)) u40 <| om n2 (not_ (.t n40)) u41 <| om n3 (mv (.t n41)) u42 <| osp n42 u42 u42 (fun h13 => ?_) (fun h13 => ?_)
      ·
       replace hm := ct h13 hm
       refine os n4 n3 rfl n42 rfl u43 <| os n5 n3 rfl n42 rfl u44 <| os n6 n3 rfl n42 rfl u45 <| osf n7 n3 rfl n42 rfl u46 <| os n8 n3 rfl n42 rfl u47 <| om n9 (pkt (.t n42) .b) u48 <| oe ?_
       replace hm := sj hm
       subst hm
       have hm := hq11
       exact ⟨true, hm, le [0] (by decide) (.c .a (.c (.b n0) (.x16 (.x8 (.x4 (.x2 (.c (.e rfl rfl) (.c (.e rfl rfl) (.c (.e rfl rfl) (.x8 (.x4 (.c .a (.c (.e rfl rfl) (.x8 (.x4 (.x2 (.c .a .n))))))))))))))))) (.b n0 (.c (.e rfl rfl) (.c (.e rfl rfl) (.c (.e rfl rfl) (.c (.e rfl rfl) (.c (.e rfl rfl) (.c (.e rfl rfl) (.c (.e rfl rfl) (.c (.e rfl rfl) (.c (.e rfl rfl) (.c (.e rfl rfl) (.c (.e rfl rfl) (.c (.e rfl rfl) (.c (.e rfl rfl) (.c (.e rfl rfl) (.c (.e rfl rfl) (.c (.e rfl rfl) .n)))))))))))))))) .n)⟩
      ·
       replace hm := cf h13 hm
       refine omg n4 n3 rfl n42 (fab 0 rfl T.f152_0 (.t n4)) u43 <| omg n5 n3 rfl n42 (ldb T.o9 n1 n0 (.t n43)) u44 <| omg n6 n3 rfl n42 (mv (.t n3)) u45 <| ocg n7 n3 rfl n42 (call (tot_impl_SiteName (i0 : Int)) (.c (.t n45) rfl .n)) u46 <| omg n8 n3 rfl n42 (sne (.t n44) (.t n46)) u47 <| om n9 (pkf (.t n42) (.t n47)) u48 <| oe ?_
       replace hm := sj hm
       subst hm
       have hm := hq11
       exact ⟨(!(z9.Name.toList == (siteNameF (i0 : Int)).toList)), hm, le [0] (by decide) (.c .a (.c (.b n0) (.x16 (.x8 (.x4 (.x2 (.c (.e rfl rfl) (.c (.e rfl rfl) (.c (.e rfl rfl) (.x8 (.x4 (.c .a (.c (.e rfl rfl) (.x8 (.x4 (.x2 (.c .a .n))))))))))))))))) (.b n0 (.c (.e rfl rfl) (.c (.e rfl rfl) (.c (.e rfl rfl) (.c (.e rfl rfl) (.c (.e rfl rfl) (.c (.e rfl rfl) (.c (.e rfl rfl) (.c (.e rfl rfl) (.c (.e rfl rfl) (.c (.e rfl rfl) (.c (.e rfl rfl) (.c (.e rfl rfl) (.c (.e rfl rfl) (.c (.e rfl rfl) (.c (.e rfl rfl) (.c (.e rfl rfl) .n)))))))))))))))) .n)⟩
     ·
      refine cnd n48 (fun h14 => ?_) (fun h14 => ?_)
      ·
       replace hm := ct h14 hm
       refine sr <| m (as_ .b) u2 <| e ?_
       replace hm := inl1 hm hq6
       subst hm
       exact rt (ret1 (.t n2 (.p rfl) .n) rfl)
      ·
       replace hm := cf h14 hm
       refine skp ?_
       refine rg <| m (add (.t n34) (.i rfl)) u49 <| m (mv (.t n49)) u34 <| e ?_
       exact ⟨i0 + 1, hm, le [0] (by decide) (.c .a (.c (.b n0) (.x16 (.x8 (.x4 (.x2 (.c (.e rfl rfl) (.c (.e rfl rfl) (.c (.e (wi (by omega)) rfl) (.x16 (.x8 (.x4 (.c .a .n))))))))))))) (.b n0 (.c (.e rfl rfl) (.c (.e rfl rfl) (.c (.e rfl rfl) (.c (.e rfl rfl) (.c (.e rfl rfl) (.c (.e rfl rfl) (.c (.e rfl rfl) (.c (.e rfl rfl) (.c (.e rfl rfl) (.c (.e rfl rfl) (.c (.e rfl rfl) (.c (.e rfl rfl) (.c (.e rfl rfl) (.c (.e rfl rfl) (.c (.e rfl rfl) (.c (.e rfl rfl) .n)))))))))))))))) .n)⟩
    ·
     replace hm := cf h8 hm
     have h8d := of_decide_eq_false h8
     refine ex (x1 ?_)
     replace hm := inr1 hm hq6
     exact ⟨(), hm, le [0] (by decide) (.c .a (.c (.b n0) (.x32 (.x16 (.x8 (.x4 (.x2 .n))))))) (.b n0 (.c (.e rfl rfl) (.c (.e rfl rfl) (.c (.e rfl rfl) (.c (.e rfl rfl) (.c (.e rfl rfl) (.c (.e rfl rfl) (.c (.e rfl rfl) (.c (.e rfl rfl) (.c (.e rfl rfl) (.c (.e rfl rfl) (.c (.e rfl rfl) (.c (.e rfl rfl) (.c (.e rfl rfl) (.c (.e rfl rfl) (.c (.e rfl rfl) (.c (.e rfl rfl) .n)))))))))))))))) .n)⟩
   ·
    refine sr <| rjb hm (fun j3_2 : Bool => ⟨[.any, .any, .bool j3_2, .any, .any, .any, .any, .any, .any, .any, .any, .any, .any, .any, .any, .any, .any, .any, .any, .any, .any, .any, .any, .any, .any, .any, .any, .any, .any, .any, .any, .any, .any, .any, .any, .any, .any, .any, .any, .any, .any, .any, .any, .any, .any, .any, .any, .any, .any, .any, .any, .any, .any, .any, .any, .any, .any, .any, .any, .any, .any, .any, .any, .any], []⟩) (fun _ hm hq15 => ?_) (fun j3_2 hm => ?_)
    ·
     obtain ⟨c16, hm⟩ := gd_some hm
     refine m (fab 15 rfl T.f57_9 (.t n1)) u50 <| m (lab T.a55 n0 d15 k1 (.t n50)) u51 <| c (call (tot_impl_IsValidMailbox w_.Mail c16) (.c (.t n51) rfl .n)) u52 <| m (mv (.t n52)) u53 <| sp n53 u53 u53 (fun h17 => ?_) (fun h17 => ?_)
     ·
      replace hm := ct h17 hm
      obtain ⟨c18, hm⟩ := gd_some hm
      refine mg n3 rfl n53 (fab 4 rfl T.f57_4 (.t n1)) u54 <| mg n3 rfl n53 (fab 4 rfl T.f49_0 (.t n54)) u55 <| mg n3 rfl n53 (ldb T.o43 n0 n4 (.t n55)) u56 <| cg n3 rfl n53 (call (tot_impl_VerifyLog w_.Cloud.Log c18) (.c (.t n56) rfl .n)) u57 <| m (pkt (.t n53) (.t n57)) u58 <| m (mv (.t n58)) u59 <| sp n59 u59 u59 (fun h19 => ?_) (fun h19 => ?_)
      ·
       replace hm := ct h19 hm
       refine mg n9 rfl n59 (fab 1 rfl T.f57_1 (.t n1)) u60 <| mg n9 rfl n59 (ldb T.o3 n0 n1 (.t n60)) u61 <| cg n9 rfl n59 (call (tot_impl_IsValidKey w_.Seed) (.c (.t n61) rfl .n)) u62 <| m (pkt (.t n59) (.t n62)) u63 <| m (as_ (.t n63)) u2 <| e ?_
       replace hm := sj hm
       subst hm
       have hm := hq15
       exact ⟨(keyF w_.Seed), hm, le [] (by decide) (.x2 (.c (.e rfl rfl) (.x32 (.x16 (.x8 (.x4 (.c .a .n))))))) .n⟩
      ·
       replace hm := cf h19 hm
       refine sk n9 rfl n59 rfl u60 <| sk n9 rfl n59 rfl u61 <| sk n9 rfl n59 rfl u62 <| m (pkf (.t n59) .b) u63 <| m (as_ (.t n63)) u2 <| e ?_
       replace hm := sj hm
       subst hm
       have hm := hq15
       exact ⟨false, hm, le [] (by decide) (.x2 (.c (.e rfl rfl) (.x32 (.x16 (.x8 (.x4 (.c .a .n))))))) .n⟩
     ·
      replace hm := cf h17 hm
      refine sk n3 rfl n53 rfl u54 <| sk n3 rfl n53 rfl u55 <| sk n3 rfl n53 rfl u56 <| sk n3 rfl n53 rfl u57 <| m (pkf (.t n53) .b) u58 <| m (mv (.t n58)) u59 <| sk n9 rfl n59 rfl u60 <| sk n9 rfl n59 rfl u61 <| sk n9 rfl n59 rfl u62 <| m (pkf (.t n59) .b) u63 <| m (as_ (.t n63)) u2 <| e ?_
      replace hm := sj hm
      subst hm
      have hm := hq15
      exact ⟨false, hm, le [] (by decide) (.x2 (.c (.e rfl rfl) (.x32 (.x16 (.x8 (.x4 (.c .a .n))))))) .n⟩
    ·
     replace hm := sj hm
     subst hm
     exact rt (ret1 (.t n2 (.p rfl) .n) rfl)

theorem tot_impl_IsValidWorld (w_ : D.World) (hp0 : WOk2 w_) : Spec Tryz.prog G0 39 [.agg (D.World.V w_)] (fun v => v = .bool (worldOkF w_)) := sp_impl_IsValidWorld w_ _ (t_impl_IsValidWorld w_ hp0)
end Go.VK
