/-
  Printed by wip/tools (own work of this part): models of functions, walks over the value kit, and proofs.
-/
import Derived.Test.YtancgejlilbjnaaGreatDoorXkgl1
set_option linter.unusedVariables false
set_option linter.unusedSimpArgs false
set_option maxRecDepth 100000
set_option maxHeartbeats 4000000
namespace Go.VK
open Go.RowKit Go.Proofs
theorem sp_spec_IsValidWorld (w_ : D.World) (r : Bool) (hm : m_spec_IsValidWorld w_ = some r) : Spec Tryz.prog G0 29 [.agg (D.World.V w_)] (fun v => v = .bool r) := by
 rw [m_spec_IsValidWorld] at hm
 refine enter (l := [.tmp 2]) Tryz.func29 rfl Tryz.ntmps29 rfl T.en29 fun E => ?_
 simp only [List.length_cons, List.length_nil, List.replicate_succ, List.replicate_zero, List.cons_append, List.nil_append, Nat.reduceAdd, Nat.reduceSub]
 refine sr <| k (bx rfl s0 u1 (.t n0)) <| m (as_ .b) u2 <| e ?_
 refine sq ?_
 refine sr <| m (as_ (.i rfl)) u3 <| e ?_
 refine jmx hm (fun _ : Unit => ⟨[.any, .box 0 0, .any, .any, .any, .any, .any, .any, .any, .any, .any, .any, .any, .any, .any, .any, .any, .any, .any, .any, .any, .any, .any, .any, .any, .any, .any, .any, .any, .any, .any, .any, .any, .any, .any, .any, .any, .any, .any, .any, .any, .any, .any, .any, .any, .any, .any, .any, .any, .any, .any, .any, .any, .any, .any, .any, .any, .any, .any, .any, .any, .any, .any, .any, .any, .any, .any, .any, .any], [.box 57 [.int .i64 w_.Now, .int .i64 w_.Seed, .slice 9 (w_.Devices.map D.Device.V), .slice 1 (w_.Stolen.map bV), .slice 6 (w_.Cloud.Log.map D.LogEntry.V), .int .i64 w_.Cloud.Boxes.Epoch, .slice 4 (w_.Cloud.Boxes.Boxes.map D.Box.V), .slice 4 (w_.Cloud.History.map D.SealedBundle.V), .slice 6 (w_.Sites.map D.Site.V), .int .i64 w_.Vault.Salt, .int .i64 w_.Vault.Threshold, .int .i64 w_.Vault.Check, .int .i64 w_.Vault.Masked, .slice 7 (w_.Hosts.map D.KeeperHost.V), .int .i64 w_.Pin, .slice 4 (w_.Mail.Notices.map D.Notice.V)]]⟩) (fun _ hm hq1 => ?_) (fun _ hm => ?_)
 ·
  refine bk ?_
  refine lpf (m := m_spec_IsValidWorld_l0 w_) hm (fun i0 : Nat => ⟨[.any, .box 0 0, .any, .int .i64 (i0 : Int), .any, .any, .any, .any, .any, .any, .any, .any, .any, .any, .any, .any, .any, .any, .any, .any, .any, .any, .any, .any, .any, .any, .any, .any, .any, .any, .any, .any, .any, .any, .any, .any, .any, .any, .any, .any, .any, .any, .any, .any, .any, .any, .any, .any, .any, .any, .any, .any, .any, .any, .any, .any, .any, .any, .any, .any, .any, .any, .any, .any, .any, .any, .any, .any, .any], [.box 57 [.int .i64 w_.Now, .int .i64 w_.Seed, .slice 9 (w_.Devices.map D.Device.V), .slice 1 (w_.Stolen.map bV), .slice 6 (w_.Cloud.Log.map D.LogEntry.V), .int .i64 w_.Cloud.Boxes.Epoch, .slice 4 (w_.Cloud.Boxes.Boxes.map D.Box.V), .slice 4 (w_.Cloud.History.map D.SealedBundle.V), .slice 6 (w_.Sites.map D.Site.V), .int .i64 w_.Vault.Salt, .int .i64 w_.Vault.Threshold, .int .i64 w_.Vault.Check, .int .i64 w_.Vault.Masked, .slice 7 (w_.Hosts.map D.KeeperHost.V), .int .i64 w_.Pin, .slice 4 (w_.Mail.Notices.map D.Notice.V)]]⟩) (fun _ => rfl) (le [0] (by decide) (.c .a (.c (.b n0) (.c .a (.c (.e rfl rfl) (.x32 (.x32 (.c .a .n))))))) (.b n0 (.c (.e rfl rfl) (.c (.e rfl rfl) (.c (.e rfl rfl) (.c (.e rfl rfl) (.c (.e rfl rfl) (.c (.e rfl rfl) (.c (.e rfl rfl) (.c (.e rfl rfl) (.c (.e rfl rfl) (.c (.e rfl rfl) (.c (.e rfl rfl) (.c (.e rfl rfl) (.c (.e rfl rfl) (.c (.e rfl rfl) (.c (.e rfl rfl) (.c (.e rfl rfl) .n)))))))))))))))) .n)) ?_
  rintro f i0 hm
  rw [m_spec_IsValidWorld_l0] at hm
  refine sq ?_
  refine sr <| m (mv (.t n3)) u4 <| m (fab 8 rfl T.f57_5 (.t n1)) u5 <| m (ldb T.o50 n0 n8 (.t n5)) u6 <| m (lenm (l := w_.Sites) (f := D.Site.V) T.s50 (.t n6)) u7 <| m (lss (.t n4) (.t n7)) u8 <| e ?_
  refine rng n7 fun _ ra2 => ?_
  replace ra2 := (show (_ : Int) ≤ 9223372036854775807 from ra2)
  refine cnd n8 (fun h3 => ?_) (fun h3 => ?_)
  ·
   replace hm := ct h3 hm
   have h3d := of_decide_eq_true h3
   refine skp ?_
   refine sq ?_
   refine bk ?_
   refine sd none [(0, true), (1, true), (2, true), (3, true), (4, true), (5, false), (6, true), (7, true), (8, true), (9, true), (10, true), (11, true), (12, true), (13, true), (14, true), (15, false), (16, true), (17, true)] T.mix (by kernel_rfl) <| rob hm (fun j1_28 : Bool => ⟨[.any, .box 0 0, .any, .int .i64 (i0 : Int), .any, .any, .any, .any, .any, .any, .any, .any, .any, .any, .any, .any, .any, .any, .any, .any, .any, .any, .any, .any, .any, .any, .any, .any, .bool j1_28, .any, .any, .any, .any, .any, .any, .any, .any, .any, .any, .any, .any, .any, .any, .any, .any, .any, .any, .any, .any, .any, .any, .any, .any, .any, .any, .any, .any, .any, .any, .any, .any, .any, .any, .any, .any, .any, .any, .any, .any], [.box 57 [.int .i64 w_.Now, .int .i64 w_.Seed, .slice 9 (w_.Devices.map D.Device.V), .slice 1 (w_.Stolen.map bV), .slice 6 (w_.Cloud.Log.map D.LogEntry.V), .int .i64 w_.Cloud.Boxes.Epoch, .slice 4 (w_.Cloud.Boxes.Boxes.map D.Box.V), .slice 4 (w_.Cloud.History.map D.SealedBundle.V), .slice 6 (w_.Sites.map D.Site.V), .int .i64 w_.Vault.Salt, .int .i64 w_.Vault.Threshold, .int .i64 w_.Vault.Check, .int .i64 w_.Vault.Masked, .slice 7 (w_.Hosts.map D.KeeperHost.V), .int .i64 w_.Pin, .slice 4 (w_.Mail.Notices.map D.Notice.V)]]⟩) (fun _ hm hq4 => ?_) (fun j1_28 hm => ?_)
   ·
    obtain ⟨z5, e6, hm⟩ := bd_some hm
    obtain ⟨c7, hm⟩ := gd_some hm
    refine om n0 (fab 8 rfl T.f57_5 (.t n1)) u11 <| om n1 (ldb T.o50 n0 n8 (.t n11)) u12 <| om n2 (mv (.t n3)) u13 <| om n3 (ixq (f := D.Site.V) e6 T.s50 (.t n12) (.t n13)) u14 <| om n4 (lae T.a152 k6 (.t n14)) u15 <| oc n5 (call (tot_spec_IsValidSite z5 c7) (.c (.t n15) rfl .n)) u16 <| om n6 (not_ (.t n16)) u17 <| om n7 (mv (.t n17)) u18 <| osp n18 u18 u18 (fun h8 => ?_) (fun h8 => ?_)
    ·
     replace hm := ct h8 hm
     refine os n8 n7 rfl n18 rfl u19 <| os n9 n7 rfl n18 rfl u20 <| os n10 n7 rfl n18 rfl u21 <| os n11 n7 rfl n18 rfl u22 <| os n12 n7 rfl n18 rfl u23 <| os n13 n7 rfl n18 rfl u24 <| os n14 n7 rfl n18 rfl u25 <| osf n15 n7 rfl n18 rfl u26 <| os n16 n7 rfl n18 rfl u27 <| om n17 (pkt (.t n18) .b) u28 <| oe ?_
     replace hm := sj hm
     subst hm
     have hm := hq4
     exact ⟨true, hm, le [0] (by decide) (.c .a (.c (.b n0) (.c .a (.c (.e rfl rfl) (.x16 (.x8 (.c (.e rfl rfl) (.x32 (.x8 .n))))))))) (.b n0 (.c (.e rfl rfl) (.c (.e rfl rfl) (.c (.e rfl rfl) (.c (.e rfl rfl) (.c (.e rfl rfl) (.c (.e rfl rfl) (.c (.e rfl rfl) (.c (.e rfl rfl) (.c (.e rfl rfl) (.c (.e rfl rfl) (.c (.e rfl rfl) (.c (.e rfl rfl) (.c (.e rfl rfl) (.c (.e rfl rfl) (.c (.e rfl rfl) (.c (.e rfl rfl) .n)))))))))))))))) .n)⟩
    ·
     replace hm := cf h8 hm
     refine omg n8 n7 rfl n18 (fab 8 rfl T.f57_5 (.t n1)) u19 <| omg n9 n7 rfl n18 (ldb T.o50 n0 n8 (.t n19)) u20 <| omg n10 n7 rfl n18 (mv (.t n3)) u21 <| omg n11 n7 rfl n18 (ixq (f := D.Site.V) e6 T.s50 (.t n20) (.t n21)) u22 <| omg n12 n7 rfl n18 (fae T.f152_0 d0 (.t n22)) u23 <| omg n13 n7 rfl n18 (lde T.o9 n0 (.t n23)) u24 <| omg n14 n7 rfl n18 (mv (.t n3)) u25 <| ocg n15 n7 rfl n18 (call (tot_spec_SiteName (i0 : Int)) (.c (.t n25) rfl .n)) u26 <| omg n16 n7 rfl n18 (sne (.t n24) (.t n26)) u27 <| om n17 (pkf (.t n18) (.t n27)) u28 <| oe ?_
     replace hm := sj hm
     subst hm
     have hm := hq4
     exact ⟨(!(z5.Name.toList == (siteNameF (i0 : Int)).toList)), hm, le [0] (by decide) (.c .a (.c (.b n0) (.c .a (.c (.e rfl rfl) (.x16 (.x8 (.c (.e rfl rfl) (.x32 (.x8 .n))))))))) (.b n0 (.c (.e rfl rfl) (.c (.e rfl rfl) (.c (.e rfl rfl) (.c (.e rfl rfl) (.c (.e rfl rfl) (.c (.e rfl rfl) (.c (.e rfl rfl) (.c (.e rfl rfl) (.c (.e rfl rfl) (.c (.e rfl rfl) (.c (.e rfl rfl) (.c (.e rfl rfl) (.c (.e rfl rfl) (.c (.e rfl rfl) (.c (.e rfl rfl) (.c (.e rfl rfl) .n)))))))))))))))) .n)⟩
   ·
    refine cnd n28 (fun h9 => ?_) (fun h9 => ?_)
    ·
     replace hm := ct h9 hm
     refine sr <| m (as_ .b) u2 <| e ?_
     replace hm := inl1 hm hq1
     subst hm
     exact rt (ret1 (.t n2 (.p rfl) .n) rfl)
    ·
     replace hm := cf h9 hm
     refine skp ?_
     refine rg <| m (mv (.t n3)) u9 <| m (add (.t n9) (.i rfl)) u10 <| m (as_ (.t n10)) u3 <| e ?_
     exact ⟨i0 + 1, hm, le [0] (by decide) (.c .a (.c (.b n0) (.c .a (.c (.e (wi (by omega)) rfl) (.x32 (.x32 (.c .a .n))))))) (.b n0 (.c (.e rfl rfl) (.c (.e rfl rfl) (.c (.e rfl rfl) (.c (.e rfl rfl) (.c (.e rfl rfl) (.c (.e rfl rfl) (.c (.e rfl rfl) (.c (.e rfl rfl) (.c (.e rfl rfl) (.c (.e rfl rfl) (.c (.e rfl rfl) (.c (.e rfl rfl) (.c (.e rfl rfl) (.c (.e rfl rfl) (.c (.e rfl rfl) (.c (.e rfl rfl) .n)))))))))))))))) .n)⟩
  ·
   replace hm := cf h3 hm
   have h3d := of_decide_eq_false h3
   refine ex (x1 ?_)
   replace hm := inr1 hm hq1
   exact ⟨(), hm, le [0] (by decide) (.c .a (.c (.b n0) (.x32 (.x32 (.x2 (.c .a .n)))))) (.b n0 (.c (.e rfl rfl) (.c (.e rfl rfl) (.c (.e rfl rfl) (.c (.e rfl rfl) (.c (.e rfl rfl) (.c (.e rfl rfl) (.c (.e rfl rfl) (.c (.e rfl rfl) (.c (.e rfl rfl) (.c (.e rfl rfl) (.c (.e rfl rfl) (.c (.e rfl rfl) (.c (.e rfl rfl) (.c (.e rfl rfl) (.c (.e rfl rfl) (.c (.e rfl rfl) .n)))))))))))))))) .n)⟩
 ·
  refine sr <| rjb hm (fun j2_2 : Bool => ⟨[.any, .any, .bool j2_2, .any, .any, .any, .any, .any, .any, .any, .any, .any, .any, .any, .any, .any, .any, .any, .any, .any, .any, .any, .any, .any, .any, .any, .any, .any, .any, .any, .any, .any, .any, .any, .any, .any, .any, .any, .any, .any, .any, .any, .any, .any, .any, .any, .any, .any, .any, .any, .any, .any, .any, .any, .any, .any, .any, .any, .any, .any, .any, .any, .any, .any, .any, .any, .any, .any, .any], []⟩) (fun _ hm hq10 => ?_) (fun j2_2 hm => ?_)
  ·
   refine m (fab 0 rfl T.f57_0 (.t n1)) u29 <| m (ldb T.o3 n0 n0 (.t n29)) u30 <| c (call (tot_spec_l1In w_.Now (0 : Int) (999900 : Int)) (.c (.t n30) rfl (.c (.i rfl) rfl (.c (.i rfl) rfl .n)))) u31 <| m (mv (.t n31)) u32 <| sp n32 u32 u32 (fun h11 => ?_) (fun h11 => ?_)
   ·
    replace hm := ct h11 hm
    refine mg n3 rfl n32 (fab 2 rfl T.f57_2 (.t n1)) u33 <| mg n3 rfl n32 (ldb T.o42 n0 n2 (.t n33)) u34 <| mg n3 rfl n32 (lenm (l := w_.Devices) (f := D.Device.V) T.s42 (.t n34)) u35 <| cg n3 rfl n32 (call (tot_spec_l1In (w_.Devices.length : Int) (1 : Int) (6 : Int)) (.c (.t n35) rfl (.c (.i rfl) rfl (.c (.i rfl) rfl .n)))) u36 <| m (pkt (.t n32) (.t n36)) u37 <| m (mv (.t n37)) u38 <| sp n38 u38 u38 (fun h12 => ?_) (fun h12 => ?_)
    ·
     replace hm := ct h12 hm
     refine mg n9 rfl n38 (fab 3 rfl T.f57_3 (.t n1)) u39 <| mg n9 rfl n38 (ldb T.o23 n0 n3 (.t n39)) u40 <| mg n9 rfl n38 (lenm (l := w_.Stolen) (f := bV) T.s23 (.t n40)) u41 <| mg n9 rfl n38 (fab 2 rfl T.f57_2 (.t n1)) u42 <| mg n9 rfl n38 (ldb T.o42 n0 n2 (.t n42)) u43 <| mg n9 rfl n38 (lenm (l := w_.Devices) (f := D.Device.V) T.s42 (.t n43)) u44 <| mg n9 rfl n38 (eql (.t n41) (.t n44)) u45 <| m (pkt (.t n38) (.t n45)) u46 <| m (mv (.t n46)) u47 <| sp n47 u47 u47 (fun h13 => ?_) (fun h13 => ?_)
     ·
      replace hm := ct h13 hm
      refine mg n18 rfl n47 (fab 8 rfl T.f57_5 (.t n1)) u48 <| mg n18 rfl n47 (ldb T.o50 n0 n8 (.t n48)) u49 <| mg n18 rfl n47 (lenm (l := w_.Sites) (f := D.Site.V) T.s50 (.t n49)) u50 <| mg n18 rfl n47 (eql (.t n50) (.i rfl)) u51 <| m (pkt (.t n47) (.t n51)) u52 <| m (mv (.t n52)) u53 <| sp n53 u53 u53 (fun h14 => ?_) (fun h14 => ?_)
      ·
       replace hm := ct h14 hm
       obtain ⟨c15, hm⟩ := gd_some hm
       refine mg n24 rfl n53 (fab 15 rfl T.f57_9 (.t n1)) u54 <| mg n24 rfl n53 (lab T.a55 n0 d15 k1 (.t n54)) u55 <| cg n24 rfl n53 (call (tot_spec_IsValidMailbox w_.Mail c15) (.c (.t n55) rfl .n)) u56 <| m (pkt (.t n53) (.t n56)) u57 <| m (mv (.t n57)) u58 <| sp n58 u58 u58 (fun h16 => ?_) (fun h16 => ?_)
       ·
        replace hm := ct h16 hm
        obtain ⟨c17, hm⟩ := gd_some hm
        refine mg n29 rfl n58 (fab 4 rfl T.f57_4 (.t n1)) u59 <| mg n29 rfl n58 (fab 4 rfl T.f49_0 (.t n59)) u60 <| mg n29 rfl n58 (ldb T.o43 n0 n4 (.t n60)) u61 <| cg n29 rfl n58 (call (tot_spec_VerifyLog w_.Cloud.Log c17) (.c (.t n61) rfl .n)) u62 <| m (pkt (.t n58) (.t n62)) u63 <| m (mv (.t n63)) u64 <| sp n64 u64 u64 (fun h18 => ?_) (fun h18 => ?_)
        ·
         replace hm := ct h18 hm
         refine mg n35 rfl n64 (fab 1 rfl T.f57_1 (.t n1)) u65 <| mg n35 rfl n64 (ldb T.o3 n0 n1 (.t n65)) u66 <| cg n35 rfl n64 (call (tot_spec_IsValidKey w_.Seed) (.c (.t n66) rfl .n)) u67 <| m (pkt (.t n64) (.t n67)) u68 <| m (as_ (.t n68)) u2 <| e ?_
         replace hm := sj hm
         subst hm
         have hm := hq10
         exact ⟨(keyF w_.Seed), hm, le [] (by decide) (.x2 (.c (.e rfl rfl) (.x32 (.x32 (.x2 .n))))) .n⟩
        ·
         replace hm := cf h18 hm
         refine sk n35 rfl n64 rfl u65 <| sk n35 rfl n64 rfl u66 <| sk n35 rfl n64 rfl u67 <| m (pkf (.t n64) .b) u68 <| m (as_ (.t n68)) u2 <| e ?_
         replace hm := sj hm
         subst hm
         have hm := hq10
         exact ⟨false, hm, le [] (by decide) (.x2 (.c (.e rfl rfl) (.x32 (.x32 (.x2 .n))))) .n⟩
       ·
        replace hm := cf h16 hm
        refine sk n29 rfl n58 rfl u59 <| sk n29 rfl n58 rfl u60 <| sk n29 rfl n58 rfl u61 <| sk n29 rfl n58 rfl u62 <| m (pkf (.t n58) .b) u63 <| m (mv (.t n63)) u64 <| sk n35 rfl n64 rfl u65 <| sk n35 rfl n64 rfl u66 <| sk n35 rfl n64 rfl u67 <| m (pkf (.t n64) .b) u68 <| m (as_ (.t n68)) u2 <| e ?_
        replace hm := sj hm
        subst hm
        have hm := hq10
        exact ⟨false, hm, le [] (by decide) (.x2 (.c (.e rfl rfl) (.x32 (.x32 (.x2 .n))))) .n⟩
      ·
       replace hm := cf h14 hm
       refine sk n24 rfl n53 rfl u54 <| sk n24 rfl n53 rfl u55 <| sk n24 rfl n53 rfl u56 <| m (pkf (.t n53) .b) u57 <| m (mv (.t n57)) u58 <| sk n29 rfl n58 rfl u59 <| sk n29 rfl n58 rfl u60 <| sk n29 rfl n58 rfl u61 <| sk n29 rfl n58 rfl u62 <| m (pkf (.t n58) .b) u63 <| m (mv (.t n63)) u64 <| sk n35 rfl n64 rfl u65 <| sk n35 rfl n64 rfl u66 <| sk n35 rfl n64 rfl u67 <| m (pkf (.t n64) .b) u68 <| m (as_ (.t n68)) u2 <| e ?_
       replace hm := sj hm
       subst hm
       have hm := hq10
       exact ⟨false, hm, le [] (by decide) (.x2 (.c (.e rfl rfl) (.x32 (.x32 (.x2 .n))))) .n⟩
     ·
      replace hm := cf h13 hm
      refine sk n18 rfl n47 rfl u48 <| sk n18 rfl n47 rfl u49 <| sk n18 rfl n47 rfl u50 <| sk n18 rfl n47 rfl u51 <| m (pkf (.t n47) .b) u52 <| m (mv (.t n52)) u53 <| sk n24 rfl n53 rfl u54 <| sk n24 rfl n53 rfl u55 <| sk n24 rfl n53 rfl u56 <| m (pkf (.t n53) .b) u57 <| m (mv (.t n57)) u58 <| sk n29 rfl n58 rfl u59 <| sk n29 rfl n58 rfl u60 <| sk n29 rfl n58 rfl u61 <| sk n29 rfl n58 rfl u62 <| m (pkf (.t n58) .b) u63 <| m (mv (.t n63)) u64 <| sk n35 rfl n64 rfl u65 <| sk n35 rfl n64 rfl u66 <| sk n35 rfl n64 rfl u67 <| m (pkf (.t n64) .b) u68 <| m (as_ (.t n68)) u2 <| e ?_
      replace hm := sj hm
      subst hm
      have hm := hq10
      exact ⟨false, hm, le [] (by decide) (.x2 (.c (.e rfl rfl) (.x32 (.x32 (.x2 .n))))) .n⟩
    ·
     replace hm := cf h12 hm
     refine sk n9 rfl n38 rfl u39 <| sk n9 rfl n38 rfl u40 <| sk n9 rfl n38 rfl u41 <| sk n9 rfl n38 rfl u42 <| sk n9 rfl n38 rfl u43 <| sk n9 rfl n38 rfl u44 <| sk n9 rfl n38 rfl u45 <| m (pkf (.t n38) .b) u46 <| m (mv (.t n46)) u47 <| sk n18 rfl n47 rfl u48 <| sk n18 rfl n47 rfl u49 <| sk n18 rfl n47 rfl u50 <| sk n18 rfl n47 rfl u51 <| m (pkf (.t n47) .b) u52 <| m (mv (.t n52)) u53 <| sk n24 rfl n53 rfl u54 <| sk n24 rfl n53 rfl u55 <| sk n24 rfl n53 rfl u56 <| m (pkf (.t n53) .b) u57 <| m (mv (.t n57)) u58 <| sk n29 rfl n58 rfl u59 <| sk n29 rfl n58 rfl u60 <| sk n29 rfl n58 rfl u61 <| sk n29 rfl n58 rfl u62 <| m (pkf (.t n58) .b) u63 <| m (mv (.t n63)) u64 <| sk n35 rfl n64 rfl u65 <| sk n35 rfl n64 rfl u66 <| sk n35 rfl n64 rfl u67 <| m (pkf (.t n64) .b) u68 <| m (as_ (.t n68)) u2 <| e ?_
     replace hm := sj hm
     subst hm
     have hm := hq10
     exact ⟨false, hm, le [] (by decide) (.x2 (.c (.e rfl rfl) (.x32 (.x32 (.x2 .n))))) .n⟩
   ·
    replace hm := cf h11 hm
    refine sk n3 rfl n32 rfl u33 <| sk n3 rfl n32 rfl u34 <| sk n3 rfl n32 rfl u35 <| sk n3 rfl n32 rfl u36 <| m (pkf (.t n32) .b) u37 <| m (mv (.t n37)) u38 <| sk n9 rfl n38 rfl u39 <| sk n9 rfl n38 rfl u40 <| sk n9 rfl n38 rfl u41 <| sk n9 rfl n38 rfl u42 <| sk n9 rfl n38 rfl u43 <| sk n9 rfl n38 rfl u44 <| sk n9 rfl n38 rfl u45 <| m (pkf (.t n38) .b) u46 <| m (mv (.t n46)) u47 <| sk n18 rfl n47 rfl u48 <| sk n18 rfl n47 rfl u49 <| sk n18 rfl n47 rfl u50 <| sk n18 rfl n47 rfl u51 <| m (pkf (.t n47) .b) u52 <| m (mv (.t n52)) u53 <| sk n24 rfl n53 rfl u54 <| sk n24 rfl n53 rfl u55 <| sk n24 rfl n53 rfl u56 <| m (pkf (.t n53) .b) u57 <| m (mv (.t n57)) u58 <| sk n29 rfl n58 rfl u59 <| sk n29 rfl n58 rfl u60 <| sk n29 rfl n58 rfl u61 <| sk n29 rfl n58 rfl u62 <| m (pkf (.t n58) .b) u63 <| m (mv (.t n63)) u64 <| sk n35 rfl n64 rfl u65 <| sk n35 rfl n64 rfl u66 <| sk n35 rfl n64 rfl u67 <| m (pkf (.t n64) .b) u68 <| m (as_ (.t n68)) u2 <| e ?_
    replace hm := sj hm
    subst hm
    have hm := hq10
    exact ⟨false, hm, le [] (by decide) (.x2 (.c (.e rfl rfl) (.x32 (.x32 (.x2 .n))))) .n⟩
  ·
   replace hm := sj hm
   subst hm
   exact rt (ret1 (.t n2 (.p rfl) .n) rfl)

theorem tot_spec_IsValidWorld (w_ : D.World) (hp0 : WOk2 w_) : Spec Tryz.prog G0 29 [.agg (D.World.V w_)] (fun v => v = .bool (worldOkF w_)) := sp_spec_IsValidWorld w_ _ (t_spec_IsValidWorld w_ hp0)

theorem sp_impl_SiteName (site_ : Int) (r : ByteArray) (hm : m_impl_SiteName site_ = some r) : Spec Tryz.prog G0 100 [.int .i64 site_] (fun v => v = .str r) := by
 rw [m_impl_SiteName] at hm
 refine enter (l := [.tmp 2]) Tryz.func100 rfl Tryz.ntmps100 rfl T.en100 fun E => ?_
 simp only [List.length_cons, List.length_nil, List.replicate_succ, List.replicate_zero, List.cons_append, List.nil_append, Nat.reduceAdd, Nat.reduceSub]
 refine sr <| m (as_ (.s rfl)) u2 <| e ?_
 refine sq ?_
 refine sr <| m (mv (.t n0)) u3 <| e ?_
 refine bk ?_
 refine sr <| m (eql (.t n3) (.i rfl)) u5 <| m (as_ (.t n5)) u4 <| e ?_
 refine cnd n4 (fun h1 => ?_) (fun h1 => ?_)
 ·
  replace hm := ct h1 hm
  refine sr <| m (as_ (.s rfl)) u2 <| e ?_
  replace hm := sj hm
  subst hm
  exact rt (ret1 (.t n2 (.p rfl) .n) rfl)
 ·
  replace hm := cf h1 hm
  refine sr <| m (eql (.t n3) (.i rfl)) u7 <| m (as_ (.t n7)) u6 <| e ?_
  refine cnd n6 (fun h2 => ?_) (fun h2 => ?_)
  ·
   replace hm := ct h2 hm
   refine sr <| m (as_ (.s rfl)) u2 <| e ?_
   replace hm := sj hm
   subst hm
   exact rt (ret1 (.t n2 (.p rfl) .n) rfl)
  ·
   replace hm := cf h2 hm
   refine skp ?_
   refine sr <| m (as_ (.s rfl)) u2 <| e ?_
   replace hm := sj hm
   subst hm
   exact rt (ret1 (.t n2 (.p rfl) .n) rfl)

theorem tot_impl_SiteName (site_ : Int)  : Spec Tryz.prog G0 100 [.int .i64 site_] (fun v => v = .str (siteNameF site_)) := sp_impl_SiteName site_ _ (t_impl_SiteName site_)

theorem sp_impl_IsValidWorld (w_ : D.World) (r : Bool) (hm : m_impl_IsValidWorld w_ = some r) : Spec Tryz.prog G0 39 [.agg (D.World.V w_)] (fun v => v = .bool r) := by
 rw [m_impl_IsValidWorld] at hm
 refine enter (l := [.tmp 2]) Tryz.func39 rfl Tryz.ntmps39 rfl T.en39 fun E => ?_
 simp only [List.length_cons, List.length_nil, List.replicate_succ, List.replicate_zero, List.cons_append, List.nil_append, Nat.reduceAdd, Nat.reduceSub]
 refine sr <| k (bx rfl s0 u1 (.t n0)) <| m (as_ .b) u2 <| e ?_
 refine sq ?_
 refine sr <| rjb hm (fun j0_30 : Bool => ⟨[.any, .box 0 0, .any, .any, .any, .any, .any, .any, .any, .any, .any, .any, .any, .any, .any, .any, .any, .any, .any, .any, .any, .any, .any, .any, .any, .any, .any, .any, .any, .any, .bool j0_30, .any, .any, .any, .any, .any, .any, .any, .any, .any, .any, .any, .any, .any, .any, .any, .any, .any, .any, .any, .any, .any, .any, .any, .any, .any, .any, .any, .any, .any, .any, .any, .any, .any], [.box 57 [.int .i64 w_.Now, .int .i64 w_.Seed, .slice 9 (w_.Devices.map D.Device.V), .slice 1 (w_.Stolen.map bV), .slice 6 (w_.Cloud.Log.map D.LogEntry.V), .int .i64 w_.Cloud.Boxes.Epoch, .slice 4 (w_.Cloud.Boxes.Boxes.map D.Box.V), .slice 4 (w_.Cloud.History.map D.SealedBundle.V), .slice 6 (w_.Sites.map D.Site.V), .int .i64 w_.Vault.Salt, .int .i64 w_.Vault.Threshold, .int .i64 w_.Vault.Check, .int .i64 w_.Vault.Masked, .slice 7 (w_.Hosts.map D.KeeperHost.V), .int .i64 w_.Pin, .slice 4 (w_.Mail.Notices.map D.Notice.V)]]⟩) (fun _ hm hq1 => ?_) (fun j0_30 hm => ?_)
 ·
  refine m (fab 0 rfl T.f57_0 (.t n1)) u5 <| m (ldb T.o3 n0 n0 (.t n5)) u6 <| c (call (tot_impl_InRange w_.Now (0 : Int) (999900 : Int)) (.c (.t n6) rfl (.c (.i rfl) rfl (.c (.i rfl) rfl .n)))) u7 <| m (not_ (.t n7)) u8 <| m (mv (.t n8)) u9 <| sp n9 u9 u9 (fun h2 => ?_) (fun h2 => ?_)
  ·
   replace hm := ct h2 hm
   refine sk n4 rfl n9 rfl u10 <| sk n4 rfl n9 rfl u11 <| sk n4 rfl n9 rfl u12 <| sk n4 rfl n9 rfl u13 <| sk n4 rfl n9 rfl u14 <| m (pkt (.t n9) .b) u15 <| m (mv (.t n15)) u16 <| sk n11 rfl n16 rfl u17 <| sk n11 rfl n16 rfl u18 <| sk n11 rfl n16 rfl u19 <| sk n11 rfl n16 rfl u20 <| sk n11 rfl n16 rfl u21 <| sk n11 rfl n16 rfl u22 <| sk n11 rfl n16 rfl u23 <| m (pkt (.t n16) .b) u24 <| m (mv (.t n24)) u25 <| sk n20 rfl n25 rfl u26 <| sk n20 rfl n25 rfl u27 <| sk n20 rfl n25 rfl u28 <| sk n20 rfl n25 rfl u29 <| m (pkt (.t n25) .b) u30 <| e ?_
   replace hm := sj hm
   subst hm
   have hm := hq1
   exact ⟨true, hm, le [0] (by decide) (.c .a (.c (.b n0) (.x16 (.x8 (.x4 (.c (.e rfl rfl) (.x32 (.c .a .n)))))))) (.b n0 (.c (.e rfl rfl) (.c (.e rfl rfl) (.c (.e rfl rfl) (.c (.e rfl rfl) (.c (.e rfl rfl) (.c (.e rfl rfl) (.c (.e rfl rfl) (.c (.e rfl rfl) (.c (.e rfl rfl) (.c (.e rfl rfl) (.c (.e rfl rfl) (.c (.e rfl rfl) (.c (.e rfl rfl) (.c (.e rfl rfl) (.c (.e rfl rfl) (.c (.e rfl rfl) .n)))))))))))))))) .n)⟩
  ·
   replace hm := cf h2 hm
   refine mg n4 rfl n9 (fab 2 rfl T.f57_2 (.t n1)) u10 <| mg n4 rfl n9 (ldb T.o42 n0 n2 (.t n10)) u11 <| mg n4 rfl n9 (lenm (l := w_.Devices) (f := D.Device.V) T.s42 (.t n11)) u12 <| cg n4 rfl n9 (call (tot_impl_InRange (w_.Devices.length : Int) (1 : Int) (6 : Int)) (.c (.t n12) rfl (.c (.i rfl) rfl (.c (.i rfl) rfl .n)))) u13 <| mg n4 rfl n9 (not_ (.t n13)) u14 <| m (pkf (.t n9) (.t n14)) u15 <| m (mv (.t n15)) u16 <| sp n16 u16 u16 (fun h3 => ?_) (fun h3 => ?_)
   ·
    replace hm := ct h3 hm
    refine sk n11 rfl n16 rfl u17 <| sk n11 rfl n16 rfl u18 <| sk n11 rfl n16 rfl u19 <| sk n11 rfl n16 rfl u20 <| sk n11 rfl n16 rfl u21 <| sk n11 rfl n16 rfl u22 <| sk n11 rfl n16 rfl u23 <| m (pkt (.t n16) .b) u24 <| m (mv (.t n24)) u25 <| sk n20 rfl n25 rfl u26 <| sk n20 rfl n25 rfl u27 <| sk n20 rfl n25 rfl u28 <| sk n20 rfl n25 rfl u29 <| m (pkt (.t n25) .b) u30 <| e ?_
    replace hm := sj hm
    subst hm
    have hm := hq1
    exact ⟨true, hm, le [0] (by decide) (.c .a (.c (.b n0) (.x16 (.x8 (.x4 (.c (.e rfl rfl) (.x32 (.c .a .n)))))))) (.b n0 (.c (.e rfl rfl) (.c (.e rfl rfl) (.c (.e rfl rfl) (.c (.e rfl rfl) (.c (.e rfl rfl) (.c (.e rfl rfl) (.c (.e rfl rfl) (.c (.e rfl rfl) (.c (.e rfl rfl) (.c (.e rfl rfl) (.c (.e rfl rfl) (.c (.e rfl rfl) (.c (.e rfl rfl) (.c (.e rfl rfl) (.c (.e rfl rfl) (.c (.e rfl rfl) .n)))))))))))))))) .n)⟩
   ·
    replace hm := cf h3 hm
    refine mg n11 rfl n16 (fab 3 rfl T.f57_3 (.t n1)) u17 <| mg n11 rfl n16 (ldb T.o23 n0 n3 (.t n17)) u18 <| mg n11 rfl n16 (lenm (l := w_.Stolen) (f := bV) T.s23 (.t n18)) u19 <| mg n11 rfl n16 (fab 2 rfl T.f57_2 (.t n1)) u20 <| mg n11 rfl n16 (ldb T.o42 n0 n2 (.t n20)) u21 <| mg n11 rfl n16 (lenm (l := w_.Devices) (f := D.Device.V) T.s42 (.t n21)) u22 <| mg n11 rfl n16 (neq (.t n19) (.t n22)) u23 <| m (pkf (.t n16) (.t n23)) u24 <| m (mv (.t n24)) u25 <| sp n25 u25 u25 (fun h4 => ?_) (fun h4 => ?_)
    ·
     replace hm := ct h4 hm
     refine sk n20 rfl n25 rfl u26 <| sk n20 rfl n25 rfl u27 <| sk n20 rfl n25 rfl u28 <| sk n20 rfl n25 rfl u29 <| m (pkt (.t n25) .b) u30 <| e ?_
     replace hm := sj hm
     subst hm
     have hm := hq1
     exact ⟨true, hm, le [0] (by decide) (.c .a (.c (.b n0) (.x16 (.x8 (.x4 (.c (.e rfl rfl) (.x32 (.c .a .n)))))))) (.b n0 (.c (.e rfl rfl) (.c (.e rfl rfl) (.c (.e rfl rfl) (.c (.e rfl rfl) (.c (.e rfl rfl) (.c (.e rfl rfl) (.c (.e rfl rfl) (.c (.e rfl rfl) (.c (.e rfl rfl) (.c (.e rfl rfl) (.c (.e rfl rfl) (.c (.e rfl rfl) (.c (.e rfl rfl) (.c (.e rfl rfl) (.c (.e rfl rfl) (.c (.e rfl rfl) .n)))))))))))))))) .n)⟩
    ·
     replace hm := cf h4 hm
     refine mg n20 rfl n25 (fab 8 rfl T.f57_5 (.t n1)) u26 <| mg n20 rfl n25 (ldb T.o50 n0 n8 (.t n26)) u27 <| mg n20 rfl n25 (lenm (l := w_.Sites) (f := D.Site.V) T.s50 (.t n27)) u28 <| mg n20 rfl n25 (neq (.t n28) (.i rfl)) u29 <| m (pkf (.t n25) (.t n29)) u30 <| e ?_
     replace hm := sj hm
     subst hm
     have hm := hq1
     exact ⟨((w_.Sites.length : Int) != (2 : Int)), hm, le [0] (by decide) (.c .a (.c (.b n0) (.x16 (.x8 (.x4 (.c (.e rfl rfl) (.x32 (.c .a .n)))))))) (.b n0 (.c (.e rfl rfl) (.c (.e rfl rfl) (.c (.e rfl rfl) (.c (.e rfl rfl) (.c (.e rfl rfl) (.c (.e rfl rfl) (.c (.e rfl rfl) (.c (.e rfl rfl) (.c (.e rfl rfl) (.c (.e rfl rfl) (.c (.e rfl rfl) (.c (.e rfl rfl) (.c (.e rfl rfl) (.c (.e rfl rfl) (.c (.e rfl rfl) (.c (.e rfl rfl) .n)))))))))))))))) .n)⟩
 ·
  refine cnd n30 (fun h5 => ?_) (fun h5 => ?_)
  ·
   replace hm := ct h5 hm
   refine sr <| m (as_ .b) u2 <| e ?_
   replace hm := sj hm
   subst hm
   exact rt (ret1 (.t n2 (.p rfl) .n) rfl)
  ·
   replace hm := cf h5 hm
   refine skp ?_
   refine sq ?_
   refine sr <| m (fab 8 rfl T.f57_5 (.t n1)) u31 <| m (ldb T.o50 n0 n8 (.t n31)) u32 <| m (lenm (l := w_.Sites) (f := D.Site.V) T.s50 (.t n32)) u33 <| m (mv (.i rfl)) u34 <| e ?_
   refine jmx hm (fun _ : Unit => ⟨[.any, .box 0 0, .any, .any, .any, .any, .any, .any, .any, .any, .any, .any, .any, .any, .any, .any, .any, .any, .any, .any, .any, .any, .any, .any, .any, .any, .any, .any, .any, .any, .any, .any, .any, .any, .any, .any, .any, .any, .any, .any, .any, .any, .any, .any, .any, .any, .any, .any, .any, .any, .any, .any, .any, .any, .any, .any, .any, .any, .any, .any, .any, .any, .any, .any], [.box 57 [.int .i64 w_.Now, .int .i64 w_.Seed, .slice 9 (w_.Devices.map D.Device.V), .slice 1 (w_.Stolen.map bV), .slice 6 (w_.Cloud.Log.map D.LogEntry.V), .int .i64 w_.Cloud.Boxes.Epoch, .slice 4 (w_.Cloud.Boxes.Boxes.map D.Box.V), .slice 4 (w_.Cloud.History.map D.SealedBundle.V), .slice 6 (w_.Sites.map D.Site.V), .int .i64 w_.Vault.Salt, .int .i64 w_.Vault.Threshold, .int .i64 w_.Vault.Check, .int .i64 w_.Vault.Masked, .slice 7 (w_.Hosts.map D.KeeperHost.V), .int .i64 w_.Pin, .slice 4 (w_.Mail.Notices.map D.Notice.V)]]⟩) (fun _ hm hq6 => ?_) (fun _ hm => ?_)
   ·
    refine bk ?_
    refine lpf (m := m_impl_IsValidWorld_l0 w_) hm (fun i0 : Nat => ⟨[.any, .box 0 0, .any, .any, .any, .any, .any, .any, .any, .any, .any, .any, .any, .any, .any, .any, .any, .any, .any, .any, .any, .any, .any, .any, .any, .any, .any, .any, .any, .any, .any, .any, .slice 6 (w_.Sites.map D.Site.V), .int .i64 (w_.Sites.length : Int), .int .i64 (i0 : Int), .any, .any, .any, .any, .any, .any, .any, .any, .any, .any, .any, .any, .any, .any, .any, .any, .any, .any, .any, .any, .any, .any, .any, .any, .any, .any, .any, .any, .any], [.box 57 [.int .i64 w_.Now, .int .i64 w_.Seed, .slice 9 (w_.Devices.map D.Device.V), .slice 1 (w_.Stolen.map bV), .slice 6 (w_.Cloud.Log.map D.LogEntry.V), .int .i64 w_.Cloud.Boxes.Epoch, .slice 4 (w_.Cloud.Boxes.Boxes.map D.Box.V), .slice 4 (w_.Cloud.History.map D.SealedBundle.V), .slice 6 (w_.Sites.map D.Site.V), .int .i64 w_.Vault.Salt, .int .i64 w_.Vault.Threshold, .int .i64 w_.Vault.Check, .int .i64 w_.Vault.Masked, .slice 7 (w_.Hosts.map D.KeeperHost.V), .int .i64 w_.Pin, .slice 4 (w_.Mail.Notices.map D.Notice.V)]]⟩) (fun _ => rfl) (le [0] (by decide) (.c .a (.c (.b n0) (.x16 (.x8 (.x4 (.x2 (.c (.e rfl rfl) (.c (.e rfl rfl) (.c (.e rfl rfl) (.x16 (.x8 (.x4 (.c .a .n))))))))))))) (.b n0 (.c (.e rfl rfl) (.c (.e rfl rfl) (.c (.e rfl rfl) (.c (.e rfl rfl) (.c (.e rfl rfl) (.c (.e rfl rfl) (.c (.e rfl rfl) (.c (.e rfl rfl) (.c (.e rfl rfl) (.c (.e rfl rfl) (.c (.e rfl rfl) (.c (.e rfl rfl) (.c (.e rfl rfl) (.c (.e rfl rfl) (.c (.e rfl rfl) (.c (.e rfl rfl) .n)))))))))))))))) .n)) ?_
    rintro f i0 hm
    rw [m_impl_IsValidWorld_l0] at hm
    refine sr <| m (lss (.t n34) (.t n33)) u35 <| e ?_
    refine rng n33 fun _ ra7 => ?_
    replace ra7 := (show (_ : Int) ≤ 9223372036854775807 from ra7)
    refine sq ?_
    refine cnd n35 (fun h8 => ?_) (fun h8 => ?_)
    ·
     replace hm := ct h8 hm
     have h8d := of_decide_eq_true h8
     refine skp ?_
     refine sq ?_
     refine bk ?_
     obtain ⟨z9, e10, hm⟩ := bd_some hm
     refine sr <| m (mv (.t n34)) u36 <| m (ixq (f := D.Site.V) e10 T.s50 (.t n32) (.t n34)) u37 <| m (lae T.a152 k6 (.t n37)) u38 <| k (al T.z152 s1 u4) <| m (as_ (.t n36)) u3 <| k (sta T.a152 rfl rfl n1 (.z (.z (.z (.z (.z (.z .n)))))) q1 (.t n4) (.t n38)) <| e ?_
     refine sd none [(0, true), (1, false), (2, true), (3, true), (4, true), (5, true), (6, true), (7, false), (8, true), (9, true)] T.mix (by kernel_rfl) <| rob hm (fun j2_48 : Bool => ⟨[.any, .box 0 0, .any, .any, .any, .any, .any, .any, .any, .any, .any, .any, .any, .any, .any, .any, .any, .any, .any, .any, .any, .any, .any, .any, .any, .any, .any, .any, .any, .any, .any, .any, .slice 6 (w_.Sites.map D.Site.V), .int .i64 (w_.Sites.length : Int), .int .i64 (i0 : Int), .any, .any, .any, .any, .any, .any, .any, .any, .any, .any, .any, .any, .any, .bool j2_48, .any, .any, .any, .any, .any, .any, .any, .any, .any, .any, .any, .any, .any, .any, .any], [.box 57 [.int .i64 w_.Now, .int .i64 w_.Seed, .slice 9 (w_.Devices.map D.Device.V), .slice 1 (w_.Stolen.map bV), .slice 6 (w_.Cloud.Log.map D.LogEntry.V), .int .i64 w_.Cloud.Boxes.Epoch, .slice 4 (w_.Cloud.Boxes.Boxes.map D.Box.V), .slice 4 (w_.Cloud.History.map D.SealedBundle.V), .slice 6 (w_.Sites.map D.Site.V), .int .i64 w_.Vault.Salt, .int .i64 w_.Vault.Threshold, .int .i64 w_.Vault.Check, .int .i64 w_.Vault.Masked, .slice 7 (w_.Hosts.map D.KeeperHost.V), .int .i64 w_.Pin, .slice 4 (w_.Mail.Notices.map D.Notice.V)]]⟩) (fun _ hm hq11 => ?_) (fun j2_48 hm => ?_)
     ·
      obtain ⟨c12, hm⟩ := gd_some hm
      refine om n0 (lab T.a152 n1 d0 k6 (.t n4)) u39 <| oc n1 (call (tot_impl_IsValidSite z9 c12) (.c (.t n39) rfl .n)) u40 <| om n2 (not_ (.t n40)) u41 <| om n3 (mv (.t n41)) u42 <| osp n42 u42 u42 (fun h13 => ?_) (fun h13 => ?_)
      ·
       replace hm := ct h13 hm
       refine os n4 n3 rfl n42 rfl u43 <| os n5 n3 rfl n42 rfl u44 <| os n6 n3 rfl n42 rfl u45 <| osf n7 n3 rfl n42 rfl u46 <| os n8 n3 rfl n42 rfl u47 <| om n9 (pkt (.t n42) .b) u48 <| oe ?_
       replace hm := sj hm
       subst hm
       have hm := hq11
       exact ⟨true, hm, le [0] (by decide) (.c .a (.c (.b n0) (.x16 (.x8 (.x4 (.x2 (.c (.e rfl rfl) (.c (.e rfl rfl) (.c (.e rfl rfl) (.x8 (.x4 (.c .a (.c (.e rfl rfl) (.x8 (.x4 (.x2 (.c .a .n))))))))))))))))) (.b n0 (.c (.e rfl rfl) (.c (.e rfl rfl) (.c (.e rfl rfl) (.c (.e rfl rfl) (.c (.e rfl rfl) (.c (.e rfl rfl) (.c (.e rfl rfl) (.c (.e rfl rfl) (.c (.e rfl rfl) (.c (.e rfl rfl) (.c (.e rfl rfl) (.c (.e rfl rfl) (.c (.e rfl rfl) (.c (.e rfl rfl) (.c (.e rfl rfl) (.c (.e rfl rfl) .n)))))))))))))))) .n)⟩
      ·
       replace hm := cf h13 hm
       refine omg n4 n3 rfl n42 (fab 0 rfl T.f152_0 (.t n4)) u43 <| omg n5 n3 rfl n42 (ldb T.o9 n1 n0 (.t n43)) u44 <| omg n6 n3 rfl n42 (mv (.t n3)) u45 <| ocg n7 n3 rfl n42 (call (tot_impl_SiteName (i0 : Int)) (.c (.t n45) rfl .n)) u46 <| omg n8 n3 rfl n42 (sne (.t n44) (.t n46)) u47 <| om n9 (pkf (.t n42) (.t n47)) u48 <| oe ?_
       replace hm := sj hm
       subst hm
       have hm := hq11
       exact ⟨(!(z9.Name.toList == (siteNameF (i0 : Int)).toList)), hm, le [0] (by decide) (.c .a (.c (.b n0) (.x16 (.x8 (.x4 (.x2 (.c (.e rfl rfl) (.c (.e rfl rfl) (.c (.e rfl rfl) (.x8 (.x4 (.c .a (.c (.e rfl rfl) (.x8 (.x4 (.x2 (.c .a .n))))))))))))))))) (.b n0 (.c (.e rfl rfl) (.c (.e rfl rfl) (.c (.e rfl rfl) (.c (.e rfl rfl) (.c (.e rfl rfl) (.c (.e rfl rfl) (.c (.e rfl rfl) (.c (.e rfl rfl) (.c (.e rfl rfl) (.c (.e rfl rfl) (.c (.e rfl rfl) (.c (.e rfl rfl) (.c (.e rfl rfl) (.c (.e rfl rfl) (.c (.e rfl rfl) (.c (.e rfl rfl) .n)))))))))))))))) .n)⟩
     ·
      refine cnd n48 (fun h14 => ?_) (fun h14 => ?_)
      ·
       replace hm := ct h14 hm
       refine sr <| m (as_ .b) u2 <| e ?_
       replace hm := inl1 hm hq6
       subst hm
       exact rt (ret1 (.t n2 (.p rfl) .n) rfl)
      ·
       replace hm := cf h14 hm
       refine skp ?_
       refine rg <| m (add (.t n34) (.i rfl)) u49 <| m (mv (.t n49)) u34 <| e ?_
       exact ⟨i0 + 1, hm, le [0] (by decide) (.c .a (.c (.b n0) (.x16 (.x8 (.x4 (.x2 (.c (.e rfl rfl) (.c (.e rfl rfl) (.c (.e (wi (by omega)) rfl) (.x16 (.x8 (.x4 (.c .a .n))))))))))))) (.b n0 (.c (.e rfl rfl) (.c (.e rfl rfl) (.c (.e rfl rfl) (.c (.e rfl rfl) (.c (.e rfl rfl) (.c (.e rfl rfl) (.c (.e rfl rfl) (.c (.e rfl rfl) (.c (.e rfl rfl) (.c (.e rfl rfl) (.c (.e rfl rfl) (.c (.e rfl rfl) (.c (.e rfl rfl) (.c (.e rfl rfl) (.c (.e rfl rfl) (.c (.e rfl rfl) .n)))))))))))))))) .n)⟩
    ·
     replace hm := cf h8 hm
     have h8d := of_decide_eq_false h8
     refine ex (x1 ?_)
     replace hm := inr1 hm hq6
     exact ⟨(), hm, le [0] (by decide) (.c .a (.c (.b n0) (.x32 (.x16 (.x8 (.x4 (.x2 .n))))))) (.b n0 (.c (.e rfl rfl) (.c (.e rfl rfl) (.c (.e rfl rfl) (.c (.e rfl rfl) (.c (.e rfl rfl) (.c (.e rfl rfl) (.c (.e rfl rfl) (.c (.e rfl rfl) (.c (.e rfl rfl) (.c (.e rfl rfl) (.c (.e rfl rfl) (.c (.e rfl rfl) (.c (.e rfl rfl) (.c (.e rfl rfl) (.c (.e rfl rfl) (.c (.e rfl rfl) .n)))))))))))))))) .n)⟩
   ·
    refine sr <| rjb hm (fun j3_2 : Bool => ⟨[.any, .any, .bool j3_2, .any, .any, .any, .any, .any, .any, .any, .any, .any, .any, .any, .any, .any, .any, .any, .any, .any, .any, .any, .any, .any, .any, .any, .any, .any, .any, .any, .any, .any, .any, .any, .any, .any, .any, .any, .any, .any, .any, .any, .any, .any, .any, .any, .any, .any, .any, .any, .any, .any, .any, .any, .any, .any, .any, .any, .any, .any, .any, .any, .any, .any], []⟩) (fun _ hm hq15 => ?_) (fun j3_2 hm => ?_)
    ·
     obtain ⟨c16, hm⟩ := gd_some hm
     refine m (fab 15 rfl T.f57_9 (.t n1)) u50 <| m (lab T.a55 n0 d15 k1 (.t n50)) u51 <| c (call (tot_impl_IsValidMailbox w_.Mail c16) (.c (.t n51) rfl .n)) u52 <| m (mv (.t n52)) u53 <| sp n53 u53 u53 (fun h17 => ?_) (fun h17 => ?_)
     ·
      replace hm := ct h17 hm
      obtain ⟨c18, hm⟩ := gd_some hm
      refine mg n3 rfl n53 (fab 4 rfl T.f57_4 (.t n1)) u54 <| mg n3 rfl n53 (fab 4 rfl T.f49_0 (.t n54)) u55 <| mg n3 rfl n53 (ldb T.o43 n0 n4 (.t n55)) u56 <| cg n3 rfl n53 (call (tot_impl_VerifyLog w_.Cloud.Log c18) (.c (.t n56) rfl .n)) u57 <| m (pkt (.t n53) (.t n57)) u58 <| m (mv (.t n58)) u59 <| sp n59 u59 u59 (fun h19 => ?_) (fun h19 => ?_)
      ·
       replace hm := ct h19 hm
       refine mg n9 rfl n59 (fab 1 rfl T.f57_1 (.t n1)) u60 <| mg n9 rfl n59 (ldb T.o3 n0 n1 (.t n60)) u61 <| cg n9 rfl n59 (call (tot_impl_IsValidKey w_.Seed) (.c (.t n61) rfl .n)) u62 <| m (pkt (.t n59) (.t n62)) u63 <| m (as_ (.t n63)) u2 <| e ?_
       replace hm := sj hm
       subst hm
       have hm := hq15
       exact ⟨(keyF w_.Seed), hm, le [] (by decide) (.x2 (.c (.e rfl rfl) (.x32 (.x16 (.x8 (.x4 (.c .a .n))))))) .n⟩
      ·
       replace hm := cf h19 hm
       refine sk n9 rfl n59 rfl u60 <| sk n9 rfl n59 rfl u61 <| sk n9 rfl n59 rfl u62 <| m (pkf (.t n59) .b) u63 <| m (as_ (.t n63)) u2 <| e ?_
       replace hm := sj hm
       subst hm
       have hm := hq15
       exact ⟨false, hm, le [] (by decide) (.x2 (.c (.e rfl rfl) (.x32 (.x16 (.x8 (.x4 (.c .a .n))))))) .n⟩
     ·
      replace hm := cf h17 hm
      refine sk n3 rfl n53 rfl u54 <| sk n3 rfl n53 rfl u55 <| sk n3 rfl n53 rfl u56 <| sk n3 rfl n53 rfl u57 <| m (pkf (.t n53) .b) u58 <| m (mv (.t n58)) u59 <| sk n9 rfl n59 rfl u60 <| sk n9 rfl n59 rfl u61 <| sk n9 rfl n59 rfl u62 <| m (pkf (.t n59) .b) u63 <| m (as_ (.t n63)) u2 <| e ?_
      replace hm := sj hm
      subst hm
      have hm := hq15
      exact ⟨false, hm, le [] (by decide) (.x2 (.c (.e rfl rfl) (.x32 (.x16 (.x8 (.x4 (.c .a .n))))))) .n⟩
    ·
     replace hm := sj hm
     subst hm
     exact rt (ret1 (.t n2 (.p rfl) .n) rfl)

theorem tot_impl_IsValidWorld (w_ : D.World) (hp0 : WOk2 w_) : Spec Tryz.prog G0 39 [.agg (D.World.V w_)] (fun v => v = .bool (worldOkF w_)) := sp_impl_IsValidWorld w_ _ (t_impl_IsValidWorld w_ hp0)

theorem sp_spec_GuessesLeft (w_ : D.World) (r : Int) (hm : m_spec_GuessesLeft w_ = some r) : Spec Tryz.prog G0 9 [.agg (D.World.V w_)] (fun v => v = .int .i64 r) := by
 rw [m_spec_GuessesLeft] at hm
 refine enter (l := [.tmp 2]) Tryz.func9 rfl Tryz.ntmps9 rfl T.en9 fun E => ?_
 simp only [List.length_cons, List.length_nil, List.replicate_succ, List.replicate_zero, List.cons_append, List.nil_append, Nat.reduceAdd, Nat.reduceSub]
 refine sr <| k (bx rfl s0 u1 (.t n0)) <| m (as_ (.i rfl)) u2 <| e ?_
 refine sq ?_
 refine sr <| rjb hm (fun j0_18 : Bool => ⟨[.any, .box 0 0, .any, .any, .any, .any, .any, .any, .any, .any, .any, .any, .any, .any, .any, .any, .any, .any, .bool j0_18, .any, .any, .any, .any, .any, .any, .any, .any, .any, .any, .any, .any, .any, .any, .any, .any, .any, .any, .any, .any, .any, .any, .any, .any, .any, .any, .any, .any, .any, .any, .any], [.box 57 [.int .i64 w_.Now, .int .i64 w_.Seed, .slice 9 (w_.Devices.map D.Device.V), .slice 1 (w_.Stolen.map bV), .slice 6 (w_.Cloud.Log.map D.LogEntry.V), .int .i64 w_.Cloud.Boxes.Epoch, .slice 4 (w_.Cloud.Boxes.Boxes.map D.Box.V), .slice 4 (w_.Cloud.History.map D.SealedBundle.V), .slice 6 (w_.Sites.map D.Site.V), .int .i64 w_.Vault.Salt, .int .i64 w_.Vault.Threshold, .int .i64 w_.Vault.Check, .int .i64 w_.Vault.Masked, .slice 7 (w_.Hosts.map D.KeeperHost.V), .int .i64 w_.Pin, .slice 4 (w_.Mail.Notices.map D.Notice.V)]]⟩) (fun _ hm hq1 => ?_) (fun j0_18 hm => ?_)
 ·
  obtain ⟨c2, hm⟩ := gd_some hm
  refine m (lab T.a57 n0 d0 k16 (.t n1)) u7 <| c (call (tot_spec_IsValidWorld w_ c2) (.c (.t n7) rfl .n)) u8 <| m (not_ (.t n8)) u9 <| m (mv (.t n9)) u10 <| sp n10 u10 u10 (fun h3 => ?_) (fun h3 => ?_)
  ·
   replace hm := ct h3 hm
   refine sk n3 rfl n10 rfl u11 <| sk n3 rfl n10 rfl u12 <| sk n3 rfl n10 rfl u13 <| sk n3 rfl n10 rfl u14 <| sk n3 rfl n10 rfl u15 <| sk n3 rfl n10 rfl u16 <| sk n3 rfl n10 rfl u17 <| m (pkt (.t n10) .b) u18 <| e ?_
   replace hm := sj hm
   subst hm
   have hm := hq1
   exact ⟨true, hm, le [0] (by decide) (.c .a (.c (.b n0) (.x16 (.c (.e rfl rfl) (.x16 (.x8 (.x4 (.x2 (.c .a .n))))))))) (.b n0 (.c (.e rfl rfl) (.c (.e rfl rfl) (.c (.e rfl rfl) (.c (.e rfl rfl) (.c (.e rfl rfl) (.c (.e rfl rfl) (.c (.e rfl rfl) (.c (.e rfl rfl) (.c (.e rfl rfl) (.c (.e rfl rfl) (.c (.e rfl rfl) (.c (.e rfl rfl) (.c (.e rfl rfl) (.c (.e rfl rfl) (.c (.e rfl rfl) (.c (.e rfl rfl) .n)))))))))))))))) .n)⟩
  ·
   replace hm := cf h3 hm
   refine mg n3 rfl n10 (fab 13 rfl T.f57_7 (.t n1)) u11 <| mg n3 rfl n10 (ldb T.o52 n0 n13 (.t n11)) u12 <| mg n3 rfl n10 (lenm (l := w_.Hosts) (f := D.KeeperHost.V) T.s52 (.t n12)) u13 <| mg n3 rfl n10 (fab 9 rfl T.f57_6 (.t n1)) u14 <| mg n3 rfl n10 (fab 10 rfl T.f51_1 (.t n14)) u15 <| mg n3 rfl n10 (ldb T.o3 n0 n10 (.t n15)) u16 <| mg n3 rfl n10 (lss (.t n13) (.t n16)) u17 <| m (pkf (.t n10) (.t n17)) u18 <| e ?_
   replace hm := sj hm
   subst hm
   have hm := hq1
   exact ⟨decide ((w_.Hosts.length : Int) < w_.Vault.Threshold), hm, le [0] (by decide) (.c .a (.c (.b n0) (.x16 (.c (.e rfl rfl) (.x16 (.x8 (.x4 (.x2 (.c .a .n))))))))) (.b n0 (.c (.e rfl rfl) (.c (.e rfl rfl) (.c (.e rfl rfl) (.c (.e rfl rfl) (.c (.e rfl rfl) (.c (.e rfl rfl) (.c (.e rfl rfl) (.c (.e rfl rfl) (.c (.e rfl rfl) (.c (.e rfl rfl) (.c (.e rfl rfl) (.c (.e rfl rfl) (.c (.e rfl rfl) (.c (.e rfl rfl) (.c (.e rfl rfl) (.c (.e rfl rfl) .n)))))))))))))))) .n)⟩
 ·
  refine cnd n18 (fun h4 => ?_) (fun h4 => ?_)
  ·
   replace hm := ct h4 hm
   refine sr <| m (as_ (.i rfl)) u2 <| e ?_
   replace hm := sj hm
   subst hm
   exact rt (ret1 (.t n2 (.p rfl) .n) rfl)
  ·
   replace hm := cf h4 hm
   refine skp ?_
   refine sr <| m (as_ (.i rfl)) u3 <| e ?_
   refine sq ?_
   refine sr <| m (as_ (.i rfl)) u4 <| e ?_
   refine jmb hm (fun j1_3 : Int => ⟨[.any, .any, .any, .int .i64 j1_3, .any, .any, .any, .any, .any, .any, .any, .any, .any, .any, .any, .any, .any, .any, .any, .any, .any, .any, .any, .any, .any, .any, .any, .any, .any, .any, .any, .any, .any, .any, .any, .any, .any, .any, .any, .any, .any, .any, .any, .any, .any, .any, .any, .any, .any, .any], []⟩) (fun _ hm hq5 => ?_) (fun j1_3 hm => ?_)
   ·
    refine bk ?_
    refine lpf (m := m_spec_GuessesLeft_l0 w_) hm (fun yy6_ : Int × Nat => ⟨[.any, .box 0 0, .any, .int .i64 yy6_.1, .int .i64 (yy6_.2 : Int), .any, .any, .any, .any, .any, .any, .any, .any, .any, .any, .any, .any, .any, .any, .any, .any, .any, .any, .any, .any, .any, .any, .any, .any, .any, .any, .any, .any, .any, .any, .any, .any, .any, .any, .any, .any, .any, .any, .any, .any, .any, .any, .any, .any, .any], [.box 57 [.int .i64 w_.Now, .int .i64 w_.Seed, .slice 9 (w_.Devices.map D.Device.V), .slice 1 (w_.Stolen.map bV), .slice 6 (w_.Cloud.Log.map D.LogEntry.V), .int .i64 w_.Cloud.Boxes.Epoch, .slice 4 (w_.Cloud.Boxes.Boxes.map D.Box.V), .slice 4 (w_.Cloud.History.map D.SealedBundle.V), .slice 6 (w_.Sites.map D.Site.V), .int .i64 w_.Vault.Salt, .int .i64 w_.Vault.Threshold, .int .i64 w_.Vault.Check, .int .i64 w_.Vault.Masked, .slice 7 (w_.Hosts.map D.KeeperHost.V), .int .i64 w_.Pin, .slice 4 (w_.Mail.Notices.map D.Notice.V)]]⟩) (fun _ => rfl) (le [0] (by decide) (.c .a (.c (.b n0) (.c .a (.c (.e rfl rfl) (.c (.e rfl rfl) (.x32 (.x8 (.x4 (.c .a .n))))))))) (.b n0 (.c (.e rfl rfl) (.c (.e rfl rfl) (.c (.e rfl rfl) (.c (.e rfl rfl) (.c (.e rfl rfl) (.c (.e rfl rfl) (.c (.e rfl rfl) (.c (.e rfl rfl) (.c (.e rfl rfl) (.c (.e rfl rfl) (.c (.e rfl rfl) (.c (.e rfl rfl) (.c (.e rfl rfl) (.c (.e rfl rfl) (.c (.e rfl rfl) (.c (.e rfl rfl) .n)))))))))))))))) .n)) ?_
    rintro f ⟨v0_3, i0⟩ hm
    rw [m_spec_GuessesLeft_l0] at hm
    dsimp only at hm ⊢
    refine sq ?_
    refine sr <| m (mv (.t n4)) u19 <| m (fab 9 rfl T.f57_6 (.t n1)) u20 <| m (fab 10 rfl T.f51_1 (.t n20)) u21 <| m (ldb T.o3 n0 n10 (.t n21)) u22 <| m (lss (.t n19) (.t n22)) u23 <| e ?_
    refine rng n22 fun _ ra7 => ?_
    replace ra7 := (show (_ : Int) ≤ 9223372036854775807 from ra7)
    refine cnd n23 (fun h8 => ?_) (fun h8 => ?_)
    ·
     replace hm := ct h8 hm
     have h8d := of_decide_eq_true h8
     refine skp ?_
     refine sq ?_
     refine bk ?_
     obtain ⟨z9, e10, hm⟩ := bd_some hm
     refine sr <| m (fab 13 rfl T.f57_7 (.t n1)) u26 <| m (ldb T.o52 n0 n13 (.t n26)) u27 <| m (mv (.t n4)) u28 <| m (ixq (f := D.KeeperHost.V) e10 T.s52 (.t n27) (.t n28)) u29 <| m (fae T.f81_0 d0 (.t n29)) u30 <| m (lae T.a78 k5 (.t n30)) u31 <| k (al T.z78 s1 u5) <| k (sta T.a78 rfl rfl n1 (.z (.z (.z (.z (.z .n))))) q1 (.t n5) (.t n31)) <| e ?_
     refine sr <| m (fab 4 rfl T.f78_3 (.t n5)) u32 <| m (ldb T.o3 n1 n4 (.t n32)) u33 <| m (fab 3 rfl T.f78_2 (.t n5)) u34 <| m (ldb T.o3 n1 n3 (.t n34)) u35 <| m (sub (.t n33) (.t n35)) u36 <| m (as_ (.t n36)) u6 <| e ?_
     refine sq ?_
     refine sd none [(0, true), (2, true), (3, true), (4, true), (5, true), (6, true), (7, true), (1, false), (8, true)] T.mix (by kernel_rfl) <| om n0 (lab T.a78 n1 d0 k5 (.t n5)) u37 <| om n2 (fab 13 rfl T.f57_7 (.t n1)) u39 <| om n3 (ldb T.o52 n0 n13 (.t n39)) u40 <| om n4 (mv (.t n4)) u41 <| om n5 (ixq (f := D.KeeperHost.V) e10 T.s52 (.t n40) (.t n41)) u42 <| om n6 (fae T.f81_2 d6 (.t n42)) u43 <| om n7 (lde T.o3 n0 (.t n43)) u44 <| oc n1 (call (tot_spec_l24Mark z9.State) (.c (.t n37) rfl .n)) u38 <| om n8 (lss (.t n38) (.t n44)) u45 <| oe ?_
     refine jmb hm (fun j2_6 : Int => ⟨[.any, .box 0 0, .any, .int .i64 v0_3, .int .i64 (i0 : Int), .any, .int .i64 j2_6, .any, .any, .any, .any, .any, .any, .any, .any, .any, .any, .any, .any, .any, .any, .any, .any, .any, .any, .any, .any, .any, .any, .any, .any, .any, .any, .any, .any, .any, .any, .any, .any, .any, .any, .any, .any, .any, .any, .any, .any, .any, .any, .any], [.box 57 [.int .i64 w_.Now, .int .i64 w_.Seed, .slice 9 (w_.Devices.map D.Device.V), .slice 1 (w_.Stolen.map bV), .slice 6 (w_.Cloud.Log.map D.LogEntry.V), .int .i64 w_.Cloud.Boxes.Epoch, .slice 4 (w_.Cloud.Boxes.Boxes.map D.Box.V), .slice 4 (w_.Cloud.History.map D.SealedBundle.V), .slice 6 (w_.Sites.map D.Site.V), .int .i64 w_.Vault.Salt, .int .i64 w_.Vault.Threshold, .int .i64 w_.Vault.Check, .int .i64 w_.Vault.Masked, .slice 7 (w_.Hosts.map D.KeeperHost.V), .int .i64 w_.Pin, .slice 4 (w_.Mail.Notices.map D.Notice.V)]]⟩) (fun _ hm hq11 => ?_) (fun j2_6 hm => ?_)
     ·
      refine cnd n45 (fun h12 => ?_) (fun h12 => ?_)
      ·
       replace hm := ct h12 hm
       refine rg <| m (as_ (.i rfl)) u6 <| e ?_
       replace hm := sj hm
       subst hm
       have hm := hq11
       exact ⟨(0 : Int), hm, le [0] (by decide) (.c .a (.c (.b n0) (.c .a (.c (.e rfl rfl) (.c (.e rfl rfl) (.c .a (.c (.e rfl rfl) (.x32 (.x8 (.x2 (.c .a .n))))))))))) (.b n0 (.c (.e rfl rfl) (.c (.e rfl rfl) (.c (.e rfl rfl) (.c (.e rfl rfl) (.c (.e rfl rfl) (.c (.e rfl rfl) (.c (.e rfl rfl) (.c (.e rfl rfl) (.c (.e rfl rfl) (.c (.e rfl rfl) (.c (.e rfl rfl) (.c (.e rfl rfl) (.c (.e rfl rfl) (.c (.e rfl rfl) (.c (.e rfl rfl) (.c (.e rfl rfl) .n)))))))))))))))) .n)⟩
      ·
       replace hm := cf h12 hm
       refine skp ?_
       replace hm := sj hm
       subst hm
       have hm := hq11
       exact ⟨IntKind.i64.wrap (z9.State.Limit - z9.State.Guesses), hm, le [0] (by decide) (.c .a (.c (.b n0) (.c .a (.c (.e rfl rfl) (.c (.e rfl rfl) (.c .a (.c (.e rfl rfl) (.x32 (.x8 (.x2 (.c .a .n))))))))))) (.b n0 (.c (.e rfl rfl) (.c (.e rfl rfl) (.c (.e rfl rfl) (.c (.e rfl rfl) (.c (.e rfl rfl) (.c (.e rfl rfl) (.c (.e rfl rfl) (.c (.e rfl rfl) (.c (.e rfl rfl) (.c (.e rfl rfl) (.c (.e rfl rfl) (.c (.e rfl rfl) (.c (.e rfl rfl) (.c (.e rfl rfl) (.c (.e rfl rfl) (.c (.e rfl rfl) .n)))))))))))))))) .n)⟩
     ·
      refine rg <| m (mv (.t n3)) u46 <| m (mv (.t n6)) u47 <| c (call (tot_spec_Min v0_3 j2_6) (.c (.t n46) rfl (.c (.t n47) rfl .n))) u48 <| m (as_ (.t n48)) u3 <| e ?_
      refine rg <| m (mv (.t n4)) u24 <| m (add (.t n24) (.i rfl)) u25 <| m (as_ (.t n25)) u4 <| e ?_
      exact ⟨((minF v0_3 j2_6), i0 + 1), hm, le [0] (by decide) (.c .a (.c (.b n0) (.c .a (.c (.e rfl rfl) (.c (.e (wi (by omega)) rfl) (.x32 (.x8 (.x4 (.c .a .n))))))))) (.b n0 (.c (.e rfl rfl) (.c (.e rfl rfl) (.c (.e rfl rfl) (.c (.e rfl rfl) (.c (.e rfl rfl) (.c (.e rfl rfl) (.c (.e rfl rfl) (.c (.e rfl rfl) (.c (.e rfl rfl) (.c (.e rfl rfl) (.c (.e rfl rfl) (.c (.e rfl rfl) (.c (.e rfl rfl) (.c (.e rfl rfl) (.c (.e rfl rfl) (.c (.e rfl rfl) .n)))))))))))))))) .n)⟩
    ·
     replace hm := cf h8 hm
     have h8d := of_decide_eq_false h8
     refine ex (x1 ?_)
     replace hm := sj hm
     subst hm
     have hm := hq5
     exact ⟨v0_3, hm, le [] (by decide) (.x2 (.c .a (.c (.e rfl rfl) (.x32 (.x8 (.x4 (.x2 .n))))))) .n⟩
   ·
    refine sr <| m (mv (.t n3)) u49 <| m (as_ (.t n49)) u2 <| e ?_
    replace hm := sj hm
    subst hm
    exact rt (ret1 (.t n2 (.p rfl) .n) rfl)

theorem tot_spec_GuessesLeft (w_ : D.World) (hp0 : WOk2 w_) : Spec Tryz.prog G0 9 [.agg (D.World.V w_)] (fun v => v = .int .i64 (guessesLeftF w_)) := sp_spec_GuessesLeft w_ _ (t_spec_GuessesLeft w_ hp0)

theorem sp_impl_GuessesLeft (w_ : D.World) (r : Int) (hm : m_impl_GuessesLeft w_ = some r) : Spec Tryz.prog G0 11 [.agg (D.World.V w_)] (fun v => v = .int .i64 r) := by
 rw [m_impl_GuessesLeft] at hm
 refine enter (l := [.tmp 2]) Tryz.func11 rfl Tryz.ntmps11 rfl T.en11 fun E => ?_
 simp only [List.length_cons, List.length_nil, List.replicate_succ, List.replicate_zero, List.cons_append, List.nil_append, Nat.reduceAdd, Nat.reduceSub]
 refine sr <| k (bx rfl s0 u1 (.t n0)) <| m (as_ (.i rfl)) u2 <| e ?_
 refine sq ?_
 refine sr <| rjb hm (fun j0_18 : Bool => ⟨[.any, .box 0 0, .any, .any, .any, .any, .any, .any, .any, .any, .any, .any, .any, .any, .any, .any, .any, .any, .bool j0_18, .any, .any, .any, .any, .any, .any, .any, .any, .any, .any, .any, .any, .any, .any, .any, .any, .any, .any, .any, .any, .any, .any, .any, .any, .any, .any, .any, .any, .any, .any], [.box 57 [.int .i64 w_.Now, .int .i64 w_.Seed, .slice 9 (w_.Devices.map D.Device.V), .slice 1 (w_.Stolen.map bV), .slice 6 (w_.Cloud.Log.map D.LogEntry.V), .int .i64 w_.Cloud.Boxes.Epoch, .slice 4 (w_.Cloud.Boxes.Boxes.map D.Box.V), .slice 4 (w_.Cloud.History.map D.SealedBundle.V), .slice 6 (w_.Sites.map D.Site.V), .int .i64 w_.Vault.Salt, .int .i64 w_.Vault.Threshold, .int .i64 w_.Vault.Check, .int .i64 w_.Vault.Masked, .slice 7 (w_.Hosts.map D.KeeperHost.V), .int .i64 w_.Pin, .slice 4 (w_.Mail.Notices.map D.Notice.V)]]⟩) (fun _ hm hq1 => ?_) (fun j0_18 hm => ?_)
 ·
  obtain ⟨c2, hm⟩ := gd_some hm
  refine m (lab T.a57 n0 d0 k16 (.t n1)) u7 <| c (call (tot_impl_IsValidWorld w_ c2) (.c (.t n7) rfl .n)) u8 <| m (not_ (.t n8)) u9 <| m (mv (.t n9)) u10 <| sp n10 u10 u10 (fun h3 => ?_) (fun h3 => ?_)
  ·
   replace hm := ct h3 hm
   refine sk n3 rfl n10 rfl u11 <| sk n3 rfl n10 rfl u12 <| sk n3 rfl n10 rfl u13 <| sk n3 rfl n10 rfl u14 <| sk n3 rfl n10 rfl u15 <| sk n3 rfl n10 rfl u16 <| sk n3 rfl n10 rfl u17 <| m (pkt (.t n10) .b) u18 <| e ?_
   replace hm := sj hm
   subst hm
   have hm := hq1
   exact ⟨true, hm, le [0] (by decide) (.c .a (.c (.b n0) (.x16 (.c (.e rfl rfl) (.x16 (.x8 (.x4 (.x2 .n)))))))) (.b n0 (.c (.e rfl rfl) (.c (.e rfl rfl) (.c (.e rfl rfl) (.c (.e rfl rfl) (.c (.e rfl rfl) (.c (.e rfl rfl) (.c (.e rfl rfl) (.c (.e rfl rfl) (.c (.e rfl rfl) (.c (.e rfl rfl) (.c (.e rfl rfl) (.c (.e rfl rfl) (.c (.e rfl rfl) (.c (.e rfl rfl) (.c (.e rfl rfl) (.c (.e rfl rfl) .n)))))))))))))))) .n)⟩
  ·
   replace hm := cf h3 hm
   refine mg n3 rfl n10 (fab 13 rfl T.f57_7 (.t n1)) u11 <| mg n3 rfl n10 (ldb T.o52 n0 n13 (.t n11)) u12 <| mg n3 rfl n10 (lenm (l := w_.Hosts) (f := D.KeeperHost.V) T.s52 (.t n12)) u13 <| mg n3 rfl n10 (fab 9 rfl T.f57_6 (.t n1)) u14 <| mg n3 rfl n10 (fab 10 rfl T.f51_1 (.t n14)) u15 <| mg n3 rfl n10 (ldb T.o3 n0 n10 (.t n15)) u16 <| mg n3 rfl n10 (lss (.t n13) (.t n16)) u17 <| m (pkf (.t n10) (.t n17)) u18 <| e ?_
   replace hm := sj hm
   subst hm
   have hm := hq1
   exact ⟨decide ((w_.Hosts.length : Int) < w_.Vault.Threshold), hm, le [0] (by decide) (.c .a (.c (.b n0) (.x16 (.c (.e rfl rfl) (.x16 (.x8 (.x4 (.x2 .n)))))))) (.b n0 (.c (.e rfl rfl) (.c (.e rfl rfl) (.c (.e rfl rfl) (.c (.e rfl rfl) (.c (.e rfl rfl) (.c (.e rfl rfl) (.c (.e rfl rfl) (.c (.e rfl rfl) (.c (.e rfl rfl) (.c (.e rfl rfl) (.c (.e rfl rfl) (.c (.e rfl rfl) (.c (.e rfl rfl) (.c (.e rfl rfl) (.c (.e rfl rfl) (.c (.e rfl rfl) .n)))))))))))))))) .n)⟩
 ·
  refine cnd n18 (fun h4 => ?_) (fun h4 => ?_)
  ·
   replace hm := ct h4 hm
   refine sr <| m (as_ (.i rfl)) u2 <| e ?_
   replace hm := sj hm
   subst hm
   exact rt (ret1 (.t n2 (.p rfl) .n) rfl)
  ·
   replace hm := cf h4 hm
   refine skp ?_
   refine sr <| m (as_ (.i rfl)) u3 <| e ?_
   refine sq ?_
   obtain ⟨c5, hm⟩ := gd_some hm
   refine sr <| m (fab 13 rfl T.f57_7 (.t n1)) u19 <| m (ldb T.o52 n0 n13 (.t n19)) u20 <| m (fab 9 rfl T.f57_6 (.t n1)) u21 <| m (fab 10 rfl T.f51_1 (.t n21)) u22 <| m (ldb T.o3 n0 n10 (.t n22)) u23 <| m (mx2 (.i rfl) (.t n23)) u24 <| m (slq1 (l := w_.Hosts) (f := D.KeeperHost.V) c5 T.s52 (.t n20) (.t n24)) u25 <| m (lenm (l := (w_.Hosts.take (if w_.Vault.Threshold > (0 : Int) then w_.Vault.Threshold else (0 : Int)).toNat)) (f := D.KeeperHost.V) T.s52 (.t n25)) u26 <| m (mv (.i rfl)) u27 <| e ?_
   refine jmb hm (fun j1_3 : Int => ⟨[.any, .any, .any, .int .i64 j1_3, .any, .any, .any, .any, .any, .any, .any, .any, .any, .any, .any, .any, .any, .any, .any, .any, .any, .any, .any, .any, .any, .any, .any, .any, .any, .any, .any, .any, .any, .any, .any, .any, .any, .any, .any, .any, .any, .any, .any, .any, .any, .any, .any, .any, .any], []⟩) (fun _ hm hq6 => ?_) (fun j1_3 hm => ?_)
   ·
    refine bk ?_
    refine lpf (m := m_impl_GuessesLeft_l0 w_) hm (fun yy7_ : Int × Nat => ⟨[.any, .any, .any, .int .i64 yy7_.1, .any, .any, .any, .any, .any, .any, .any, .any, .any, .any, .any, .any, .any, .any, .any, .any, .any, .any, .any, .any, .any, .slice 7 ((w_.Hosts.take (if w_.Vault.Threshold > (0 : Int) then w_.Vault.Threshold else (0 : Int)).toNat).map D.KeeperHost.V), .int .i64 ((w_.Hosts.take (if w_.Vault.Threshold > (0 : Int) then w_.Vault.Threshold else (0 : Int)).toNat).length : Int), .int .i64 (yy7_.2 : Int), .any, .any, .any, .any, .any, .any, .any, .any, .any, .any, .any, .any, .any, .any, .any, .any, .any, .any, .any, .any, .any], []⟩) (fun _ => rfl) (le [] (by decide) (.x2 (.c .a (.c (.e rfl rfl) (.x16 (.x4 (.c .a (.c (.e rfl rfl) (.c (.e rfl rfl) (.c (.e rfl rfl) (.x16 (.x4 (.c .a .n)))))))))))) .n) ?_
    rintro f ⟨v0_3, i0⟩ hm
    rw [m_impl_GuessesLeft_l0] at hm
    dsimp only at hm ⊢
    refine sr <| m (lss (.t n27) (.t n26)) u28 <| e ?_
    refine rng n26 fun _ ra8 => ?_
    replace ra8 := (show (_ : Int) ≤ 9223372036854775807 from ra8)
    refine sq ?_
    refine cnd n28 (fun h9 => ?_) (fun h9 => ?_)
    ·
     replace hm := ct h9 hm
     have h9d := of_decide_eq_true h9
     refine skp ?_
     refine sq ?_
     refine bk ?_
     obtain ⟨z10, e11, hm⟩ := bd_some hm
     refine sr <| m (ixq (f := D.KeeperHost.V) e11 T.s52 (.t n25) (.t n27)) u29 <| m (lae T.a81 k7 (.t n29)) u30 <| k (al T.z81 s0 u5) <| k (sta T.a81 rfl rfl n0 (.z (.z (.z (.z (.z (.z (.z .n))))))) q0 (.t n5) (.t n30)) <| e ?_
     refine sr <| m (fab 0 rfl T.f81_0 (.t n5)) u31 <| m (fab 4 rfl T.f78_3 (.t n31)) u32 <| m (ldb T.o3 n0 n4 (.t n32)) u33 <| m (fab 0 rfl T.f81_0 (.t n5)) u34 <| m (fab 3 rfl T.f78_2 (.t n34)) u35 <| m (ldb T.o3 n0 n3 (.t n35)) u36 <| m (sub (.t n33) (.t n36)) u37 <| m (as_ (.t n37)) u6 <| e ?_
     refine sq ?_
     refine sd none [(0, true), (1, true), (3, true), (4, true), (2, false), (5, true)] T.mix (by kernel_rfl) <| om n0 (fab 0 rfl T.f81_0 (.t n5)) u38 <| om n1 (lab T.a78 n0 d0 k5 (.t n38)) u39 <| om n3 (fab 6 rfl T.f81_2 (.t n5)) u41 <| om n4 (ldb T.o3 n0 n6 (.t n41)) u42 <| oc n2 (call (tot_impl_progress z10.State) (.c (.t n39) rfl .n)) u40 <| om n5 (lss (.t n40) (.t n42)) u43 <| oe ?_
     refine jmb hm (fun j2_6 : Int => ⟨[.any, .any, .any, .int .i64 v0_3, .any, .any, .int .i64 j2_6, .any, .any, .any, .any, .any, .any, .any, .any, .any, .any, .any, .any, .any, .any, .any, .any, .any, .any, .slice 7 ((w_.Hosts.take (if w_.Vault.Threshold > (0 : Int) then w_.Vault.Threshold else (0 : Int)).toNat).map D.KeeperHost.V), .int .i64 ((w_.Hosts.take (if w_.Vault.Threshold > (0 : Int) then w_.Vault.Threshold else (0 : Int)).toNat).length : Int), .int .i64 (i0 : Int), .any, .any, .any, .any, .any, .any, .any, .any, .any, .any, .any, .any, .any, .any, .any, .any, .any, .any, .any, .any, .any], []⟩) (fun _ hm hq12 => ?_) (fun j2_6 hm => ?_)
     ·
      refine cnd n43 (fun h13 => ?_) (fun h13 => ?_)
      ·
       replace hm := ct h13 hm
       refine rg <| m (as_ (.i rfl)) u6 <| e ?_
       replace hm := sj hm
       subst hm
       have hm := hq12
       exact ⟨(0 : Int), hm, le [] (by decide) (.x2 (.c .a (.c (.e rfl rfl) (.x2 (.c (.e rfl rfl) (.x16 (.x2 (.c (.e rfl rfl) (.c (.e rfl rfl) (.c (.e rfl rfl) (.x16 (.x4 (.c .a .n))))))))))))) .n⟩
      ·
       replace hm := cf h13 hm
       refine skp ?_
       replace hm := sj hm
       subst hm
       have hm := hq12
       exact ⟨IntKind.i64.wrap (z10.State.Limit - z10.State.Guesses), hm, le [] (by decide) (.x2 (.c .a (.c (.e rfl rfl) (.x2 (.c (.e rfl rfl) (.x16 (.x2 (.c (.e rfl rfl) (.c (.e rfl rfl) (.c (.e rfl rfl) (.x16 (.x4 (.c .a .n))))))))))))) .n⟩
     ·
      refine rg <| m (mv (.t n3)) u44 <| m (mv (.t n6)) u45 <| m (mn2 (.t n44) (.t n45)) u46 <| m (as_ (.t n46)) u3 <| e ?_
      refine rg <| m (add (.t n27) (.i rfl)) u47 <| m (mv (.t n47)) u27 <| e ?_
      exact ⟨((if j2_6 < v0_3 then j2_6 else v0_3), i0 + 1), hm, le [] (by decide) (.x2 (.c .a (.c (.e rfl rfl) (.x16 (.x4 (.c .a (.c (.e rfl rfl) (.c (.e rfl rfl) (.c (.e (wi (by omega)) rfl) (.x16 (.x4 (.c .a .n)))))))))))) .n⟩
    ·
     replace hm := cf h9 hm
     have h9d := of_decide_eq_false h9
     refine ex (x1 ?_)
     replace hm := sj hm
     subst hm
     have hm := hq6
     exact ⟨v0_3, hm, le [] (by decide) (.x2 (.c .a (.c (.e rfl rfl) (.x32 (.x8 (.x4 (.c .a .n))))))) .n⟩
   ·
    refine sr <| m (mv (.t n3)) u48 <| m (as_ (.t n48)) u2 <| e ?_
    replace hm := sj hm
    subst hm
    exact rt (ret1 (.t n2 (.p rfl) .n) rfl)

theorem tot_impl_GuessesLeft (w_ : D.World) (hp0 : WOk2 w_) : Spec Tryz.prog G0 11 [.agg (D.World.V w_)] (fun v => v = .int .i64 (guessesLeftF w_)) := sp_impl_GuessesLeft w_ _ (t_impl_GuessesLeft w_ hp0)
end Go.VK
