/-
  Printed by wip/tools (own work of this part): models of functions, walks over the value kit, and proofs.
-/
import Derived.Test.YtancgejlilbjnaaGreatDoorXkaw2
set_option linter.unusedVariables false
set_option linter.unusedSimpArgs false
set_option maxRecDepth 100000
set_option maxHeartbeats 4000000
namespace Go.VK
open Go.RowKit Go.Proofs
theorem sp_impl_hasDevice (w_ : D.World) (device_ : Int) (r : Bool) (hm : m_impl_hasDevice w_ device_ = some r) : Spec Tryz.prog G0 77 [.agg (D.World.V w_), .int .i64 device_] (fun v => v = .bool r) := by
 rw [m_impl_hasDevice] at hm
 refine enter (l := [.tmp 4]) Tryz.func77 rfl Tryz.ntmps77 rfl T.en77 fun E => ?_
 simp only [List.length_cons, List.length_nil, List.replicate_succ, List.replicate_zero, List.cons_append, List.nil_append, Nat.reduceAdd, Nat.reduceSub]
 refine sr <| k (bx rfl s0 u2 (.t n0)) <| m (as_ .b) u4 <| e ?_
 refine sr <| rjb hm (fun j0_4 : Bool => ⟨[.any, .any, .any, .any, .bool j0_4, .any, .any, .any, .any, .any, .any, .any, .any, .any], []⟩) (fun _ hm hq1 => ?_) (fun j0_4 hm => ?_)
 ·
  refine m (mv (.t n1)) u5 <| m (geq (.t n5) (.i rfl)) u6 <| m (mv (.t n6)) u7 <| sp n7 u7 u7 (fun h2 => ?_) (fun h2 => ?_)
  ·
   replace hm := ct h2 hm
   refine mg n2 rfl n7 (mv (.t n1)) u8 <| mg n2 rfl n7 (fab 2 rfl T.f57_2 (.t n2)) u9 <| mg n2 rfl n7 (ldb T.o42 n0 n2 (.t n9)) u10 <| mg n2 rfl n7 (lenm (l := w_.Devices) (f := D.Device.V) T.s42 (.t n10)) u11 <| mg n2 rfl n7 (lss (.t n8) (.t n11)) u12 <| m (pkt (.t n7) (.t n12)) u13 <| m (as_ (.t n13)) u4 <| e ?_
   replace hm := sj hm
   subst hm
   have hm := hq1
   exact ⟨decide (device_ < (w_.Devices.length : Int)), hm, le [] (by decide) (.x4 (.c (.e rfl rfl) (.x8 (.c .a .n)))) .n⟩
  ·
   replace hm := cf h2 hm
   refine sk n2 rfl n7 rfl u8 <| sk n2 rfl n7 rfl u9 <| sk n2 rfl n7 rfl u10 <| sk n2 rfl n7 rfl u11 <| sk n2 rfl n7 rfl u12 <| m (pkf (.t n7) .b) u13 <| m (as_ (.t n13)) u4 <| e ?_
   replace hm := sj hm
   subst hm
   have hm := hq1
   exact ⟨false, hm, le [] (by decide) (.x4 (.c (.e rfl rfl) (.x8 (.c .a .n)))) .n⟩
 ·
  replace hm := sj hm
  subst hm
  exact rt (ret1 (.t n4 (.p rfl) .n) rfl)

theorem tot_impl_hasDevice (w_ : D.World) (device_ : Int)  : Spec Tryz.prog G0 77 [.agg (D.World.V w_), .int .i64 device_] (fun v => v = .bool (hasDevF w_ device_)) := sp_impl_hasDevice w_ device_ _ (t_impl_hasDevice w_ device_)

theorem sp_impl_InList (w_ : D.World) (device_ : Int) (r : Bool) (hm : m_impl_InList w_ device_ = some r) : Spec Tryz.prog G0 117 [.agg (D.World.V w_), .int .i64 device_] (fun v => v = .bool r) := by
 rw [m_impl_InList] at hm
 refine enter (l := [.tmp 4]) Tryz.func117 rfl Tryz.ntmps117 rfl T.en117 fun E => ?_
 simp only [List.length_cons, List.length_nil, List.replicate_succ, List.replicate_zero, List.cons_append, List.nil_append, Nat.reduceAdd, Nat.reduceSub]
 refine sr <| k (bx rfl s0 u2 (.t n0)) <| m (as_ .b) u4 <| e ?_
 refine sd none [(0, true), (1, true), (2, false), (3, true), (4, true), (5, true), (6, true), (8, true), (9, true), (10, true), (11, true), (12, true), (13, true), (7, false), (14, false), (15, false), (16, true), (17, true)] T.mix (by kernel_rfl) <| rob hm (fun j0_4 : Bool => ⟨[.any, .any, .any, .any, .bool j0_4, .any, .any, .any, .any, .any, .any, .any, .any, .any, .any, .any, .any, .any, .any, .any, .any, .any], []⟩) (fun _ hm hq1 => ?_) (fun j0_4 hm => ?_)
 ·
  refine om n0 (lab T.a57 n0 d0 k16 (.t n2)) u5 <| om n1 (mv (.t n1)) u6 <| oc n2 (call (tot_impl_hasDevice w_ device_) (.c (.t n5) rfl (.c (.t n6) rfl .n))) u7 <| om n3 (mv (.t n7)) u8 <| osp n8 u8 u8 (fun h2 => ?_) (fun h2 => ?_)
  ·
   replace hm := ct h2 hm
   obtain ⟨z3, e4, hm⟩ := bd_some hm
   obtain ⟨c5, hm⟩ := gd_some hm
   refine omg n4 n3 rfl n8 (fab 4 rfl T.f57_4 (.t n2)) u9 <| omg n5 n3 rfl n8 (fab 4 rfl T.f49_0 (.t n9)) u10 <| omg n6 n3 rfl n8 (ldb T.o43 n0 n4 (.t n10)) u11 <| omg n8 n3 rfl n8 (fab 2 rfl T.f57_2 (.t n2)) u13 <| omg n9 n3 rfl n8 (ldb T.o42 n0 n2 (.t n13)) u14 <| omg n10 n3 rfl n8 (mv (.t n1)) u15 <| omg n11 n3 rfl n8 (ixq (f := D.Device.V) e4 T.s42 (.t n14) (.t n15)) u16 <| omg n12 n3 rfl n8 (fae T.f118_0 d0 (.t n16)) u17 <| omg n13 n3 rfl n8 (lae T.a113 k4 (.t n17)) u18 <| ocg n7 n3 rfl n8 (call (tot_impl_DevicesOf w_.Cloud.Log c5) (.c (.t n11) rfl .n)) u12 <| ocg n14 n3 rfl n8 (call (tot_impl_DevicePublic z3.Store) (.c (.t n18) rfl .n)) u19 <| ocg n15 n3 rfl n8 (call (tot_impl_has (devicesOfF w_.Cloud.Log) (devPubF z3.Store)) (.c (.t n12) rfl (.c (.t n19) rfl .n))) u20 <| om n16 (pkt (.t n8) (.t n20)) u21 <| om n17 (as_ (.t n21)) u4 <| oe ?_
   replace hm := sj hm
   subst hm
   have hm := hq1
   exact ⟨(hasF (devicesOfF w_.Cloud.Log) (devPubF z3.Store)), hm, le [] (by decide) (.x4 (.c (.e rfl rfl) (.x16 (.c .a .n)))) .n⟩
  ·
   replace hm := cf h2 hm
   refine os n4 n3 rfl n8 rfl u9 <| os n5 n3 rfl n8 rfl u10 <| os n6 n3 rfl n8 rfl u11 <| os n8 n3 rfl n8 rfl u13 <| os n9 n3 rfl n8 rfl u14 <| os n10 n3 rfl n8 rfl u15 <| os n11 n3 rfl n8 rfl u16 <| os n12 n3 rfl n8 rfl u17 <| os n13 n3 rfl n8 rfl u18 <| osf n7 n3 rfl n8 rfl u12 <| osf n14 n3 rfl n8 rfl u19 <| osf n15 n3 rfl n8 rfl u20 <| om n16 (pkf (.t n8) .b) u21 <| om n17 (as_ (.t n21)) u4 <| oe ?_
   replace hm := sj hm
   subst hm
   have hm := hq1
   exact ⟨false, hm, le [] (by decide) (.x4 (.c (.e rfl rfl) (.x16 (.c .a .n)))) .n⟩
 ·
  replace hm := sj hm
  subst hm
  exact rt (ret1 (.t n4 (.p rfl) .n) rfl)

theorem tot_impl_InList (w_ : D.World) (device_ : Int) (hp0 : WOk w_) : Spec Tryz.prog G0 117 [.agg (D.World.V w_), .int .i64 device_] (fun v => v = .bool (inListF w_ device_)) := sp_impl_InList w_ device_ _ (t_impl_InList w_ device_ hp0)

theorem sp_spec_IsCutOff (w_ : D.World) (device_ : Int) (r : Bool) (hm : m_spec_IsCutOff w_ device_ = some r) : Spec Tryz.prog G0 111 [.agg (D.World.V w_), .int .i64 device_] (fun v => v = .bool r) := by
 rw [m_spec_IsCutOff] at hm
 refine enter (l := [.tmp 4]) Tryz.func111 rfl Tryz.ntmps111 rfl T.en111 fun E => ?_
 simp only [List.length_cons, List.length_nil, List.replicate_succ, List.replicate_zero, List.cons_append, List.nil_append, Nat.reduceAdd, Nat.reduceSub]
 refine sr <| k (bx rfl s0 u2 (.t n0)) <| m (as_ .b) u4 <| e ?_
 refine sq ?_
 refine sr <| m (mv (.t n1)) u7 <| m (fab 2 rfl T.f57_2 (.t n2)) u8 <| m (ldb T.o42 n0 n2 (.t n8)) u9 <| m (lenm (l := w_.Devices) (f := D.Device.V) T.s42 (.t n9)) u10 <| m (sub (.t n10) (.i rfl)) u11 <| c (call (tot_spec_l1In device_ (0 : Int) (IntKind.i64.wrap ((w_.Devices.length : Int) - (1 : Int)))) (.c (.t n7) rfl (.c (.i rfl) rfl (.c (.t n11) rfl .n)))) u12 <| m (not_ (.t n12)) u13 <| e ?_
 refine cnd n13 (fun h1 => ?_) (fun h1 => ?_)
 ·
  replace hm := ct h1 hm
  refine sr <| m (as_ .b) u4 <| e ?_
  replace hm := sj hm
  subst hm
  exact rt (ret1 (.t n4 (.p rfl) .n) rfl)
 ·
  replace hm := cf h1 hm
  refine skp ?_
  obtain ⟨z2, e3, hm⟩ := bd_some hm
  refine sr <| m (fab 2 rfl T.f57_2 (.t n2)) u14 <| m (ldb T.o42 n0 n2 (.t n14)) u15 <| m (mv (.t n1)) u16 <| m (ixq (f := D.Device.V) e3 T.s42 (.t n15) (.t n16)) u17 <| m (fae T.f118_0 d0 (.t n17)) u18 <| m (lae T.a113 k4 (.t n18)) u19 <| c (call (tot_spec_DevicePublic z2.Store) (.c (.t n19) rfl .n)) u20 <| m (as_ (.t n20)) u5 <| e ?_
  refine sq ?_
  refine sr <| m (as_ (.i rfl)) u6 <| e ?_
  refine jmx hm (fun _ : Unit => ⟨[.any, .any, .any, .any, .any, .any, .any, .any, .any, .any, .any, .any, .any, .any, .any, .any, .any, .any, .any, .any, .any, .any, .any, .any, .any, .any, .any, .any, .any, .any, .any, .any, .any, .any, .any, .any, .any, .any, .any, .any, .any, .any, .any, .any, .any, .any, .any, .any], []⟩) (fun _ hm hq4 => ?_) (fun _ hm => ?_)
  ·
   refine bk ?_
   refine lpf (m := m_spec_IsCutOff_l0 w_ z2) hm (fun i0 : Nat => ⟨[.any, .any, .box 0 0, .any, .any, .int .i64 (devPubF z2.Store), .int .i64 (i0 : Int), .any, .any, .any, .any, .any, .any, .any, .any, .any, .any, .any, .any, .any, .any, .any, .any, .any, .any, .any, .any, .any, .any, .any, .any, .any, .any, .any, .any, .any, .any, .any, .any, .any, .any, .any, .any, .any, .any, .any, .any, .any], [.box 57 [.int .i64 w_.Now, .int .i64 w_.Seed, .slice 9 (w_.Devices.map D.Device.V), .slice 1 (w_.Stolen.map bV), .slice 6 (w_.Cloud.Log.map D.LogEntry.V), .int .i64 w_.Cloud.Boxes.Epoch, .slice 4 (w_.Cloud.Boxes.Boxes.map D.Box.V), .slice 4 (w_.Cloud.History.map D.SealedBundle.V), .slice 6 (w_.Sites.map D.Site.V), .int .i64 w_.Vault.Salt, .int .i64 w_.Vault.Threshold, .int .i64 w_.Vault.Check, .int .i64 w_.Vault.Masked, .slice 7 (w_.Hosts.map D.KeeperHost.V), .int .i64 w_.Pin, .slice 4 (w_.Mail.Notices.map D.Notice.V)]]⟩) (fun _ => rfl) (le [0] (by decide) (.x2 (.c (.b n0) (.x2 (.c (.e rfl rfl) (.c (.e rfl rfl) (.x32 (.x8 (.c .a .n)))))))) (.b n0 (.c (.e rfl rfl) (.c (.e rfl rfl) (.c (.e rfl rfl) (.c (.e rfl rfl) (.c (.e rfl rfl) (.c (.e rfl rfl) (.c (.e rfl rfl) (.c (.e rfl rfl) (.c (.e rfl rfl) (.c (.e rfl rfl) (.c (.e rfl rfl) (.c (.e rfl rfl) (.c (.e rfl rfl) (.c (.e rfl rfl) (.c (.e rfl rfl) (.c (.e rfl rfl) .n)))))))))))))))) .n)) ?_
   rintro f i0 hm
   rw [m_spec_IsCutOff_l0] at hm
   refine sq ?_
   refine sr <| m (mv (.t n6)) u21 <| m (fab 4 rfl T.f57_4 (.t n2)) u22 <| m (fab 4 rfl T.f49_0 (.t n22)) u23 <| m (ldb T.o43 n0 n4 (.t n23)) u24 <| m (lenm (l := w_.Cloud.Log) (f := D.LogEntry.V) T.s43 (.t n24)) u25 <| m (lss (.t n21) (.t n25)) u26 <| e ?_
   refine rng n25 fun _ ra5 => ?_
   replace ra5 := (show (_ : Int) ≤ 9223372036854775807 from ra5)
   refine cnd n26 (fun h6 => ?_) (fun h6 => ?_)
   ·
    replace hm := ct h6 hm
    have h6d := of_decide_eq_true h6
    refine skp ?_
    refine sq ?_
    refine bk ?_
    refine sr <| rjb hm (fun j1_47 : Bool => ⟨[.any, .any, .box 0 0, .any, .any, .int .i64 (devPubF z2.Store), .int .i64 (i0 : Int), .any, .any, .any, .any, .any, .any, .any, .any, .any, .any, .any, .any, .any, .any, .any, .any, .any, .any, .any, .any, .any, .any, .any, .any, .any, .any, .any, .any, .any, .any, .any, .any, .any, .any, .any, .any, .any, .any, .any, .any, .bool j1_47], [.box 57 [.int .i64 w_.Now, .int .i64 w_.Seed, .slice 9 (w_.Devices.map D.Device.V), .slice 1 (w_.Stolen.map bV), .slice 6 (w_.Cloud.Log.map D.LogEntry.V), .int .i64 w_.Cloud.Boxes.Epoch, .slice 4 (w_.Cloud.Boxes.Boxes.map D.Box.V), .slice 4 (w_.Cloud.History.map D.SealedBundle.V), .slice 6 (w_.Sites.map D.Site.V), .int .i64 w_.Vault.Salt, .int .i64 w_.Vault.Threshold, .int .i64 w_.Vault.Check, .int .i64 w_.Vault.Masked, .slice 7 (w_.Hosts.map D.KeeperHost.V), .int .i64 w_.Pin, .slice 4 (w_.Mail.Notices.map D.Notice.V)]]⟩) (fun _ hm hq7 => ?_) (fun j1_47 hm => ?_)
    ·
     obtain ⟨z8, e9, hm⟩ := bd_some hm
     refine m (fab 4 rfl T.f57_4 (.t n2)) u29 <| m (fab 4 rfl T.f49_0 (.t n29)) u30 <| m (ldb T.o43 n0 n4 (.t n30)) u31 <| m (mv (.t n6)) u32 <| m (ixq (f := D.LogEntry.V) e9 T.s43 (.t n31) (.t n32)) u33 <| m (fae T.f220_1 d1 (.t n33)) u34 <| m (lde T.o3 n0 (.t n34)) u35 <| m (eql (.t n35) (.i rfl)) u36 <| m (mv (.t n36)) u37 <| sp n37 u37 u37 (fun h10 => ?_) (fun h10 => ?_)
     ·
      replace hm := ct h10 hm
      refine mg n8 rfl n37 (fab 4 rfl T.f57_4 (.t n2)) u38 <| mg n8 rfl n37 (fab 4 rfl T.f49_0 (.t n38)) u39 <| mg n8 rfl n37 (ldb T.o43 n0 n4 (.t n39)) u40 <| mg n8 rfl n37 (mv (.t n6)) u41 <| mg n8 rfl n37 (ixq (f := D.LogEntry.V) e9 T.s43 (.t n40) (.t n41)) u42 <| mg n8 rfl n37 (fae T.f220_2 d2 (.t n42)) u43 <| mg n8 rfl n37 (lde T.o3 n0 (.t n43)) u44 <| mg n8 rfl n37 (mv (.t n5)) u45 <| mg n8 rfl n37 (eql (.t n44) (.t n45)) u46 <| m (pkt (.t n37) (.t n46)) u47 <| e ?_
      replace hm := sj hm
      subst hm
      have hm := hq7
      exact ⟨(z8.Device == (devPubF z2.Store)), hm, le [0] (by decide) (.x2 (.c (.b n0) (.x2 (.c (.e rfl rfl) (.c (.e rfl rfl) (.x32 (.x8 (.c (.e rfl rfl) .n)))))))) (.b n0 (.c (.e rfl rfl) (.c (.e rfl rfl) (.c (.e rfl rfl) (.c (.e rfl rfl) (.c (.e rfl rfl) (.c (.e rfl rfl) (.c (.e rfl rfl) (.c (.e rfl rfl) (.c (.e rfl rfl) (.c (.e rfl rfl) (.c (.e rfl rfl) (.c (.e rfl rfl) (.c (.e rfl rfl) (.c (.e rfl rfl) (.c (.e rfl rfl) (.c (.e rfl rfl) .n)))))))))))))))) .n)⟩
     ·
      replace hm := cf h10 hm
      refine sk n8 rfl n37 rfl u38 <| sk n8 rfl n37 rfl u39 <| sk n8 rfl n37 rfl u40 <| sk n8 rfl n37 rfl u41 <| sk n8 rfl n37 rfl u42 <| sk n8 rfl n37 rfl u43 <| sk n8 rfl n37 rfl u44 <| sk n8 rfl n37 rfl u45 <| sk n8 rfl n37 rfl u46 <| m (pkf (.t n37) .b) u47 <| e ?_
      replace hm := sj hm
      subst hm
      have hm := hq7
      exact ⟨false, hm, le [0] (by decide) (.x2 (.c (.b n0) (.x2 (.c (.e rfl rfl) (.c (.e rfl rfl) (.x32 (.x8 (.c (.e rfl rfl) .n)))))))) (.b n0 (.c (.e rfl rfl) (.c (.e rfl rfl) (.c (.e rfl rfl) (.c (.e rfl rfl) (.c (.e rfl rfl) (.c (.e rfl rfl) (.c (.e rfl rfl) (.c (.e rfl rfl) (.c (.e rfl rfl) (.c (.e rfl rfl) (.c (.e rfl rfl) (.c (.e rfl rfl) (.c (.e rfl rfl) (.c (.e rfl rfl) (.c (.e rfl rfl) (.c (.e rfl rfl) .n)))))))))))))))) .n)⟩
    ·
     refine cnd n47 (fun h11 => ?_) (fun h11 => ?_)
     ·
      replace hm := ct h11 hm
      refine sr <| m (as_ .b) u4 <| e ?_
      replace hm := inl1 hm hq4
      subst hm
      exact rt (ret1 (.t n4 (.p rfl) .n) rfl)
     ·
      replace hm := cf h11 hm
      refine skp ?_
      refine rg <| m (mv (.t n6)) u27 <| m (add (.t n27) (.i rfl)) u28 <| m (as_ (.t n28)) u6 <| e ?_
      exact ⟨i0 + 1, hm, le [0] (by decide) (.x2 (.c (.b n0) (.x2 (.c (.e rfl rfl) (.c (.e (wi (by omega)) rfl) (.x32 (.x8 (.c .a .n)))))))) (.b n0 (.c (.e rfl rfl) (.c (.e rfl rfl) (.c (.e rfl rfl) (.c (.e rfl rfl) (.c (.e rfl rfl) (.c (.e rfl rfl) (.c (.e rfl rfl) (.c (.e rfl rfl) (.c (.e rfl rfl) (.c (.e rfl rfl) (.c (.e rfl rfl) (.c (.e rfl rfl) (.c (.e rfl rfl) (.c (.e rfl rfl) (.c (.e rfl rfl) (.c (.e rfl rfl) .n)))))))))))))))) .n)⟩
   ·
    replace hm := cf h6 hm
    have h6d := of_decide_eq_false h6
    refine ex (x1 ?_)
    replace hm := inr1 hm hq4
    exact ⟨(), hm, le [] (by decide) (.x32 (.x16 .n)) .n⟩
  ·
   refine sr <| m (as_ .b) u4 <| e ?_
   replace hm := sj hm
   subst hm
   exact rt (ret1 (.t n4 (.p rfl) .n) rfl)

theorem tot_spec_IsCutOff (w_ : D.World) (device_ : Int) (hp0 : WOk w_) : Spec Tryz.prog G0 111 [.agg (D.World.V w_), .int .i64 device_] (fun v => v = .bool (isCutF w_ device_)) := sp_spec_IsCutOff w_ device_ _ (t_spec_IsCutOff w_ device_ hp0)

theorem sp_spec_CutIsFinal (w_ : D.World) (device_ : Int) (r : Bool) (hm : m_spec_CutIsFinal w_ device_ = some r) : Spec Tryz.prog G0 48 [.agg (D.World.V w_), .int .i64 device_] (fun v => v = .bool r) := by
 rw [m_spec_CutIsFinal] at hm
 refine enter (l := [.tmp 4]) Tryz.func48 rfl Tryz.ntmps48 rfl T.en48 fun E => ?_
 simp only [List.length_cons, List.length_nil, List.replicate_succ, List.replicate_zero, List.cons_append, List.nil_append, Nat.reduceAdd, Nat.reduceSub]
 refine sr <| k (bx rfl s0 u2 (.t n0)) <| m (as_ .b) u4 <| e ?_
 refine sq ?_
 obtain ⟨c1, hm⟩ := gd_some hm
 refine sr <| m (lab T.a57 n0 d0 k16 (.t n2)) u9 <| m (mv (.t n1)) u10 <| c (call (tot_spec_IsCutOff w_ device_ c1) (.c (.t n9) rfl (.c (.t n10) rfl .n))) u11 <| m (not_ (.t n11)) u12 <| e ?_
 refine cnd n12 (fun h2 => ?_) (fun h2 => ?_)
 ·
  replace hm := ct h2 hm
  refine sr <| m (as_ .b) u4 <| e ?_
  replace hm := sj hm
  subst hm
  exact rt (ret1 (.t n4 (.p rfl) .n) rfl)
 ·
  replace hm := cf h2 hm
  refine skp ?_
  refine sq ?_
  refine sr <| m (as_ (.i rfl)) u5 <| e ?_
  refine jmx hm (fun _ : Unit => ⟨[.any, .int .i64 device_, .box 0 0, .any, .any, .any, .any, .any, .any, .any, .any, .any, .any, .any, .any, .any, .any, .any, .any, .any, .any, .any, .any, .any, .any, .any, .any, .any, .any, .any, .any, .any, .any, .any, .any, .any, .any, .any, .any, .any, .any, .any, .any, .any, .any, .any, .any, .any, .any, .any, .any, .any, .any, .any, .any, .any, .any, .any, .any, .any, .any, .any, .any, .any, .any, .any, .any], [.box 57 [.int .i64 w_.Now, .int .i64 w_.Seed, .slice 9 (w_.Devices.map D.Device.V), .slice 1 (w_.Stolen.map bV), .slice 6 (w_.Cloud.Log.map D.LogEntry.V), .int .i64 w_.Cloud.Boxes.Epoch, .slice 4 (w_.Cloud.Boxes.Boxes.map D.Box.V), .slice 4 (w_.Cloud.History.map D.SealedBundle.V), .slice 6 (w_.Sites.map D.Site.V), .int .i64 w_.Vault.Salt, .int .i64 w_.Vault.Threshold, .int .i64 w_.Vault.Check, .int .i64 w_.Vault.Masked, .slice 7 (w_.Hosts.map D.KeeperHost.V), .int .i64 w_.Pin, .slice 4 (w_.Mail.Notices.map D.Notice.V)]]⟩) (fun _ hm hq3 => ?_) (fun _ hm => ?_)
  ·
   refine bk ?_
   refine lpf (m := m_spec_CutIsFinal_l0 w_ device_) hm (fun i0 : Nat => ⟨[.any, .int .i64 device_, .box 0 0, .any, .any, .int .i64 (i0 : Int), .any, .any, .any, .any, .any, .any, .any, .any, .any, .any, .any, .any, .any, .any, .any, .any, .any, .any, .any, .any, .any, .any, .any, .any, .any, .any, .any, .any, .any, .any, .any, .any, .any, .any, .any, .any, .any, .any, .any, .any, .any, .any, .any, .any, .any, .any, .any, .any, .any, .any, .any, .any, .any, .any, .any, .any, .any, .any, .any, .any, .any], [.box 57 [.int .i64 w_.Now, .int .i64 w_.Seed, .slice 9 (w_.Devices.map D.Device.V), .slice 1 (w_.Stolen.map bV), .slice 6 (w_.Cloud.Log.map D.LogEntry.V), .int .i64 w_.Cloud.Boxes.Epoch, .slice 4 (w_.Cloud.Boxes.Boxes.map D.Box.V), .slice 4 (w_.Cloud.History.map D.SealedBundle.V), .slice 6 (w_.Sites.map D.Site.V), .int .i64 w_.Vault.Salt, .int .i64 w_.Vault.Threshold, .int .i64 w_.Vault.Check, .int .i64 w_.Vault.Masked, .slice 7 (w_.Hosts.map D.KeeperHost.V), .int .i64 w_.Pin, .slice 4 (w_.Mail.Notices.map D.Notice.V)]]⟩) (fun _ => rfl) (le [0] (by decide) (.c .a (.c (.e rfl rfl) (.c (.b n0) (.x2 (.c (.e rfl rfl) (.x32 (.x16 (.x8 (.x4 (.c .a .n)))))))))) (.b n0 (.c (.e rfl rfl) (.c (.e rfl rfl) (.c (.e rfl rfl) (.c (.e rfl rfl) (.c (.e rfl rfl) (.c (.e rfl rfl) (.c (.e rfl rfl) (.c (.e rfl rfl) (.c (.e rfl rfl) (.c (.e rfl rfl) (.c (.e rfl rfl) (.c (.e rfl rfl) (.c (.e rfl rfl) (.c (.e rfl rfl) (.c (.e rfl rfl) (.c (.e rfl rfl) .n)))))))))))))))) .n)) ?_
   rintro f i0 hm
   rw [m_spec_CutIsFinal_l0] at hm
   refine sq ?_
   refine sr <| rjb hm (fun j1_21 : Bool => ⟨[.any, .int .i64 device_, .box 0 0, .any, .any, .int .i64 (i0 : Int), .any, .any, .any, .any, .any, .any, .any, .any, .any, .any, .any, .any, .any, .any, .any, .bool j1_21, .any, .any, .any, .any, .any, .any, .any, .any, .any, .any, .any, .any, .any, .any, .any, .any, .any, .any, .any, .any, .any, .any, .any, .any, .any, .any, .any, .any, .any, .any, .any, .any, .any, .any, .any, .any, .any, .any, .any, .any, .any, .any, .any, .any, .any], [.box 57 [.int .i64 w_.Now, .int .i64 w_.Seed, .slice 9 (w_.Devices.map D.Device.V), .slice 1 (w_.Stolen.map bV), .slice 6 (w_.Cloud.Log.map D.LogEntry.V), .int .i64 w_.Cloud.Boxes.Epoch, .slice 4 (w_.Cloud.Boxes.Boxes.map D.Box.V), .slice 4 (w_.Cloud.History.map D.SealedBundle.V), .slice 6 (w_.Sites.map D.Site.V), .int .i64 w_.Vault.Salt, .int .i64 w_.Vault.Threshold, .int .i64 w_.Vault.Check, .int .i64 w_.Vault.Masked, .slice 7 (w_.Hosts.map D.KeeperHost.V), .int .i64 w_.Pin, .slice 4 (w_.Mail.Notices.map D.Notice.V)]]⟩) (fun _ hm hq4 => ?_) (fun j1_21 hm => ?_)
   ·
    refine m (mv (.t n5)) u13 <| m (fab 8 rfl T.f57_5 (.t n2)) u14 <| m (ldb T.o50 n0 n8 (.t n14)) u15 <| m (lenm (l := w_.Sites) (f := D.Site.V) T.s50 (.t n15)) u16 <| m (lss (.t n13) (.t n16)) u17 <| m (mv (.t n17)) u18 <| sp n18 u18 u18 (fun h5 => ?_) (fun h5 => ?_)
    ·
     replace hm := ct h5 hm
     refine mg n5 rfl n18 (mv (.t n5)) u19 <| mg n5 rfl n18 (lss (.t n19) (.i rfl)) u20 <| m (pkt (.t n18) (.t n20)) u21 <| e ?_
     replace hm := sj hm
     subst hm
     have hm := hq4
     exact ⟨decide ((i0 : Int) < (2 : Int)), hm, le [0] (by decide) (.c .a (.c (.e rfl rfl) (.c (.b n0) (.x2 (.c (.e rfl rfl) (.x8 (.x4 (.x2 (.c .a (.c (.e rfl rfl) (.x32 (.x8 (.x4 (.c .a .n)))))))))))))) (.b n0 (.c (.e rfl rfl) (.c (.e rfl rfl) (.c (.e rfl rfl) (.c (.e rfl rfl) (.c (.e rfl rfl) (.c (.e rfl rfl) (.c (.e rfl rfl) (.c (.e rfl rfl) (.c (.e rfl rfl) (.c (.e rfl rfl) (.c (.e rfl rfl) (.c (.e rfl rfl) (.c (.e rfl rfl) (.c (.e rfl rfl) (.c (.e rfl rfl) (.c (.e rfl rfl) .n)))))))))))))))) .n)⟩
    ·
     replace hm := cf h5 hm
     refine sk n5 rfl n18 rfl u19 <| sk n5 rfl n18 rfl u20 <| m (pkf (.t n18) .b) u21 <| e ?_
     replace hm := sj hm
     subst hm
     have hm := hq4
     exact ⟨false, hm, le [0] (by decide) (.c .a (.c (.e rfl rfl) (.c (.b n0) (.x2 (.c (.e rfl rfl) (.x8 (.x4 (.x2 (.c .a (.c (.e rfl rfl) (.x32 (.x8 (.x4 (.c .a .n)))))))))))))) (.b n0 (.c (.e rfl rfl) (.c (.e rfl rfl) (.c (.e rfl rfl) (.c (.e rfl rfl) (.c (.e rfl rfl) (.c (.e rfl rfl) (.c (.e rfl rfl) (.c (.e rfl rfl) (.c (.e rfl rfl) (.c (.e rfl rfl) (.c (.e rfl rfl) (.c (.e rfl rfl) (.c (.e rfl rfl) (.c (.e rfl rfl) (.c (.e rfl rfl) (.c (.e rfl rfl) .n)))))))))))))))) .n)⟩
   ·
    refine cnd n21 (fun h6 => ?_) (fun h6 => ?_)
    ·
     replace hm := ct h6 hm
     refine skp ?_
     refine sq ?_
     refine jmx hm (fun _ : Unit => ⟨[.any, .int .i64 device_, .box 0 0, .any, .any, .int .i64 (i0 : Int), .any, .any, .any, .any, .any, .any, .any, .any, .any, .any, .any, .any, .any, .any, .any, .any, .any, .any, .any, .any, .any, .any, .any, .any, .any, .any, .any, .any, .any, .any, .any, .any, .any, .any, .any, .any, .any, .any, .any, .any, .any, .any, .any, .any, .any, .any, .any, .any, .any, .any, .any, .any, .any, .any, .any, .any, .any, .any, .any, .any, .any], [.box 57 [.int .i64 w_.Now, .int .i64 w_.Seed, .slice 9 (w_.Devices.map D.Device.V), .slice 1 (w_.Stolen.map bV), .slice 6 (w_.Cloud.Log.map D.LogEntry.V), .int .i64 w_.Cloud.Boxes.Epoch, .slice 4 (w_.Cloud.Boxes.Boxes.map D.Box.V), .slice 4 (w_.Cloud.History.map D.SealedBundle.V), .slice 6 (w_.Sites.map D.Site.V), .int .i64 w_.Vault.Salt, .int .i64 w_.Vault.Threshold, .int .i64 w_.Vault.Check, .int .i64 w_.Vault.Masked, .slice 7 (w_.Hosts.map D.KeeperHost.V), .int .i64 w_.Pin, .slice 4 (w_.Mail.Notices.map D.Notice.V)]]⟩) (fun _ hm hq7 => ?_) (fun _ hm => ?_)
     ·
      refine bk ?_
      obtain ⟨z8, e9, hm⟩ := bd_some hm
      refine sr <| m (fab 8 rfl T.f57_5 (.t n2)) u24 <| m (ldb T.o50 n0 n8 (.t n24)) u25 <| m (mv (.t n5)) u26 <| m (ixq (f := D.Site.V) e9 T.s50 (.t n25) (.t n26)) u27 <| m (lae T.a152 k6 (.t n27)) u28 <| c (call (tot_spec_FindAccount z8 (1 : Int)) (.c (.t n28) rfl (.c (.i rfl) rfl .n))) u29 <| m (as_ (.t n29)) u6 <| e ?_
      refine sq ?_
      refine sr <| m (mv (.t n6)) u30 <| m (lss (.t n30) (.i rfl)) u31 <| e ?_
      refine cnd n31 (fun h10 => ?_) (fun h10 => ?_)
      ·
       replace hm := ct h10 hm
       refine ex (x1 ?_)
       replace hm := inr1 hm hq7
       exact ⟨(), hm, le [0] (by decide) (.c .a (.c (.e rfl rfl) (.c (.b n0) (.x2 (.c (.e rfl rfl) (.x32 (.x16 (.x8 (.x4 (.c .a .n)))))))))) (.b n0 (.c (.e rfl rfl) (.c (.e rfl rfl) (.c (.e rfl rfl) (.c (.e rfl rfl) (.c (.e rfl rfl) (.c (.e rfl rfl) (.c (.e rfl rfl) (.c (.e rfl rfl) (.c (.e rfl rfl) (.c (.e rfl rfl) (.c (.e rfl rfl) (.c (.e rfl rfl) (.c (.e rfl rfl) (.c (.e rfl rfl) (.c (.e rfl rfl) (.c (.e rfl rfl) .n)))))))))))))))) .n)⟩
      ·
       replace hm := cf h10 hm
       refine skp ?_
       obtain ⟨z11, e12, hm⟩ := bd_some hm
       refine sr <| m (fab 8 rfl T.f57_5 (.t n2)) u32 <| m (ldb T.o50 n0 n8 (.t n32)) u33 <| m (mv (.t n5)) u34 <| m (ixq (f := D.Site.V) e9 T.s50 (.t n33) (.t n34)) u35 <| m (fae T.f152_1 d1 (.t n35)) u36 <| m (lde T.o147 n0 (.t n36)) u37 <| m (mv (.t n6)) u38 <| m (ixq (f := D.Account.V) e12 T.s147 (.t n37) (.t n38)) u39 <| m (fae T.f174_2 d2 (.t n39)) u40 <| m (lde T.o172 n0 (.t n40)) u41 <| m (as_ (.t n41)) u7 <| e ?_
       refine sr <| m (as_ (.i rfl)) u8 <| e ?_
       refine jmx hm (fun _ : Unit => ⟨[.any, .int .i64 device_, .box 0 0, .any, .any, .int .i64 (i0 : Int), .any, .any, .any, .any, .any, .any, .any, .any, .any, .any, .any, .any, .any, .any, .any, .any, .any, .any, .any, .any, .any, .any, .any, .any, .any, .any, .any, .any, .any, .any, .any, .any, .any, .any, .any, .any, .any, .any, .any, .any, .any, .any, .any, .any, .any, .any, .any, .any, .any, .any, .any, .any, .any, .any, .any, .any, .any, .any, .any, .any, .any], [.box 57 [.int .i64 w_.Now, .int .i64 w_.Seed, .slice 9 (w_.Devices.map D.Device.V), .slice 1 (w_.Stolen.map bV), .slice 6 (w_.Cloud.Log.map D.LogEntry.V), .int .i64 w_.Cloud.Boxes.Epoch, .slice 4 (w_.Cloud.Boxes.Boxes.map D.Box.V), .slice 4 (w_.Cloud.History.map D.SealedBundle.V), .slice 6 (w_.Sites.map D.Site.V), .int .i64 w_.Vault.Salt, .int .i64 w_.Vault.Threshold, .int .i64 w_.Vault.Check, .int .i64 w_.Vault.Masked, .slice 7 (w_.Hosts.map D.KeeperHost.V), .int .i64 w_.Pin, .slice 4 (w_.Mail.Notices.map D.Notice.V)]]⟩) (fun _ hm hq13 => ?_) (fun _ hm => ?_)
       ·
        refine bk ?_
        refine lpf (m := m_spec_CutIsFinal_l1 device_ z11) hm (fun i1 : Nat => ⟨[.any, .int .i64 device_, .box 0 0, .any, .any, .int .i64 (i0 : Int), .any, .slice 4 (z11.Credentials.map D.Credential.V), .int .i64 (i1 : Int), .any, .any, .any, .any, .any, .any, .any, .any, .any, .any, .any, .any, .any, .any, .any, .any, .any, .any, .any, .any, .any, .any, .any, .any, .any, .any, .any, .any, .any, .any, .any, .any, .any, .any, .any, .any, .any, .any, .any, .any, .any, .any, .any, .any, .any, .any, .any, .any, .any, .any, .any, .any, .any, .any, .any, .any, .any, .any], [.box 57 [.int .i64 w_.Now, .int .i64 w_.Seed, .slice 9 (w_.Devices.map D.Device.V), .slice 1 (w_.Stolen.map bV), .slice 6 (w_.Cloud.Log.map D.LogEntry.V), .int .i64 w_.Cloud.Boxes.Epoch, .slice 4 (w_.Cloud.Boxes.Boxes.map D.Box.V), .slice 4 (w_.Cloud.History.map D.SealedBundle.V), .slice 6 (w_.Sites.map D.Site.V), .int .i64 w_.Vault.Salt, .int .i64 w_.Vault.Threshold, .int .i64 w_.Vault.Check, .int .i64 w_.Vault.Masked, .slice 7 (w_.Hosts.map D.KeeperHost.V), .int .i64 w_.Pin, .slice 4 (w_.Mail.Notices.map D.Notice.V)]]⟩) (fun _ => rfl) (le [0] (by decide) (.c .a (.c (.e rfl rfl) (.c (.b n0) (.x2 (.c (.e rfl rfl) (.c .a (.c (.e rfl rfl) (.c (.e rfl rfl) (.x32 (.x16 (.x8 (.x2 .n)))))))))))) (.b n0 (.c (.e rfl rfl) (.c (.e rfl rfl) (.c (.e rfl rfl) (.c (.e rfl rfl) (.c (.e rfl rfl) (.c (.e rfl rfl) (.c (.e rfl rfl) (.c (.e rfl rfl) (.c (.e rfl rfl) (.c (.e rfl rfl) (.c (.e rfl rfl) (.c (.e rfl rfl) (.c (.e rfl rfl) (.c (.e rfl rfl) (.c (.e rfl rfl) (.c (.e rfl rfl) .n)))))))))))))))) .n)) ?_
        rintro f i1 hm
        rw [m_spec_CutIsFinal_l1] at hm
        refine sq ?_
        refine sr <| m (mv (.t n8)) u42 <| m (mv (.t n7)) u43 <| m (lenm (l := z11.Credentials) (f := D.Credential.V) T.s172 (.t n43)) u44 <| m (lss (.t n42) (.t n44)) u45 <| e ?_
        refine rng n44 fun _ ra14 => ?_
        replace ra14 := (show (_ : Int) ≤ 9223372036854775807 from ra14)
        refine cnd n45 (fun h15 => ?_) (fun h15 => ?_)
        ·
         replace hm := ct h15 hm
         have h15d := of_decide_eq_true h15
         refine skp ?_
         refine sq ?_
         refine bk ?_
         refine sr <| rjb hm (fun j4_62 : Bool => ⟨[.any, .int .i64 device_, .box 0 0, .any, .any, .int .i64 (i0 : Int), .any, .slice 4 (z11.Credentials.map D.Credential.V), .int .i64 (i1 : Int), .any, .any, .any, .any, .any, .any, .any, .any, .any, .any, .any, .any, .any, .any, .any, .any, .any, .any, .any, .any, .any, .any, .any, .any, .any, .any, .any, .any, .any, .any, .any, .any, .any, .any, .any, .any, .any, .any, .any, .any, .any, .any, .any, .any, .any, .any, .any, .any, .any, .any, .any, .any, .any, .bool j4_62, .any, .any, .any, .any], [.box 57 [.int .i64 w_.Now, .int .i64 w_.Seed, .slice 9 (w_.Devices.map D.Device.V), .slice 1 (w_.Stolen.map bV), .slice 6 (w_.Cloud.Log.map D.LogEntry.V), .int .i64 w_.Cloud.Boxes.Epoch, .slice 4 (w_.Cloud.Boxes.Boxes.map D.Box.V), .slice 4 (w_.Cloud.History.map D.SealedBundle.V), .slice 6 (w_.Sites.map D.Site.V), .int .i64 w_.Vault.Salt, .int .i64 w_.Vault.Threshold, .int .i64 w_.Vault.Check, .int .i64 w_.Vault.Masked, .slice 7 (w_.Hosts.map D.KeeperHost.V), .int .i64 w_.Pin, .slice 4 (w_.Mail.Notices.map D.Notice.V)]]⟩) (fun _ hm hq16 => ?_) (fun j4_62 hm => ?_)
         ·
          obtain ⟨z17, e18, hm⟩ := bd_some hm
          refine m (mv (.t n7)) u48 <| m (mv (.t n8)) u49 <| m (ixq (f := D.Credential.V) e18 T.s172 (.t n48) (.t n49)) u50 <| m (fae T.f176_0 d0 (.t n50)) u51 <| m (lde T.o3 n0 (.t n51)) u52 <| m (mv (.t n1)) u53 <| m (eql (.t n52) (.t n53)) u54 <| m (mv (.t n54)) u55 <| sp n55 u55 u55 (fun h19 => ?_) (fun h19 => ?_)
          ·
           replace hm := ct h19 hm
           refine mg n7 rfl n55 (mv (.t n7)) u56 <| mg n7 rfl n55 (mv (.t n8)) u57 <| mg n7 rfl n55 (ixq (f := D.Credential.V) e18 T.s172 (.t n56) (.t n57)) u58 <| mg n7 rfl n55 (fae T.f176_3 d3 (.t n58)) u59 <| mg n7 rfl n55 (lde T.o4 n0 (.t n59)) u60 <| mg n7 rfl n55 (not_ (.t n60)) u61 <| m (pkt (.t n55) (.t n61)) u62 <| e ?_
           replace hm := sj hm
           subst hm
           have hm := hq16
           exact ⟨(!z17.Cut), hm, le [0] (by decide) (.c .a (.c (.e rfl rfl) (.c (.b n0) (.x2 (.c (.e rfl rfl) (.c .a (.c (.e rfl rfl) (.c (.e rfl rfl) (.x32 (.x16 (.x4 (.c .a (.c (.e rfl rfl) (.x4 .n)))))))))))))) (.b n0 (.c (.e rfl rfl) (.c (.e rfl rfl) (.c (.e rfl rfl) (.c (.e rfl rfl) (.c (.e rfl rfl) (.c (.e rfl rfl) (.c (.e rfl rfl) (.c (.e rfl rfl) (.c (.e rfl rfl) (.c (.e rfl rfl) (.c (.e rfl rfl) (.c (.e rfl rfl) (.c (.e rfl rfl) (.c (.e rfl rfl) (.c (.e rfl rfl) (.c (.e rfl rfl) .n)))))))))))))))) .n)⟩
          ·
           replace hm := cf h19 hm
           refine sk n7 rfl n55 rfl u56 <| sk n7 rfl n55 rfl u57 <| sk n7 rfl n55 rfl u58 <| sk n7 rfl n55 rfl u59 <| sk n7 rfl n55 rfl u60 <| sk n7 rfl n55 rfl u61 <| m (pkf (.t n55) .b) u62 <| e ?_
           replace hm := sj hm
           subst hm
           have hm := hq16
           exact ⟨false, hm, le [0] (by decide) (.c .a (.c (.e rfl rfl) (.c (.b n0) (.x2 (.c (.e rfl rfl) (.c .a (.c (.e rfl rfl) (.c (.e rfl rfl) (.x32 (.x16 (.x4 (.c .a (.c (.e rfl rfl) (.x4 .n)))))))))))))) (.b n0 (.c (.e rfl rfl) (.c (.e rfl rfl) (.c (.e rfl rfl) (.c (.e rfl rfl) (.c (.e rfl rfl) (.c (.e rfl rfl) (.c (.e rfl rfl) (.c (.e rfl rfl) (.c (.e rfl rfl) (.c (.e rfl rfl) (.c (.e rfl rfl) (.c (.e rfl rfl) (.c (.e rfl rfl) (.c (.e rfl rfl) (.c (.e rfl rfl) (.c (.e rfl rfl) .n)))))))))))))))) .n)⟩
         ·
          refine cnd n62 (fun h20 => ?_) (fun h20 => ?_)
          ·
           replace hm := ct h20 hm
           refine sr <| m (as_ .b) u4 <| e ?_
           replace hm := inl1 hm hq13
           replace hm := inl2 hm hq7
           replace hm := inl2 hm hq3
           subst hm
           exact rt (ret1 (.t n4 (.p rfl) .n) rfl)
          ·
           replace hm := cf h20 hm
           refine skp ?_
           refine rg <| m (mv (.t n8)) u46 <| m (add (.t n46) (.i rfl)) u47 <| m (as_ (.t n47)) u8 <| e ?_
           exact ⟨i1 + 1, hm, le [0] (by decide) (.c .a (.c (.e rfl rfl) (.c (.b n0) (.x2 (.c (.e rfl rfl) (.c .a (.c (.e rfl rfl) (.c (.e (wi (by omega)) rfl) (.x32 (.x16 (.x8 (.x2 .n)))))))))))) (.b n0 (.c (.e rfl rfl) (.c (.e rfl rfl) (.c (.e rfl rfl) (.c (.e rfl rfl) (.c (.e rfl rfl) (.c (.e rfl rfl) (.c (.e rfl rfl) (.c (.e rfl rfl) (.c (.e rfl rfl) (.c (.e rfl rfl) (.c (.e rfl rfl) (.c (.e rfl rfl) (.c (.e rfl rfl) (.c (.e rfl rfl) (.c (.e rfl rfl) (.c (.e rfl rfl) .n)))))))))))))))) .n)⟩
        ·
         replace hm := cf h15 hm
         have h15d := of_decide_eq_false h15
         refine ex (x1 ?_)
         replace hm := inr1 hm hq13
         exact ⟨(), hm, le [0] (by decide) (.c .a (.c (.e rfl rfl) (.c (.b n0) (.x2 (.c (.e rfl rfl) (.x32 (.x16 (.x8 (.x4 (.c .a .n)))))))))) (.b n0 (.c (.e rfl rfl) (.c (.e rfl rfl) (.c (.e rfl rfl) (.c (.e rfl rfl) (.c (.e rfl rfl) (.c (.e rfl rfl) (.c (.e rfl rfl) (.c (.e rfl rfl) (.c (.e rfl rfl) (.c (.e rfl rfl) (.c (.e rfl rfl) (.c (.e rfl rfl) (.c (.e rfl rfl) (.c (.e rfl rfl) (.c (.e rfl rfl) (.c (.e rfl rfl) .n)))))))))))))))) .n)⟩
       ·
        replace hm := inr1 hm hq7
        exact ⟨(), hm, le [0] (by decide) (.c .a (.c (.e rfl rfl) (.c (.b n0) (.x2 (.c (.e rfl rfl) (.x32 (.x16 (.x8 (.x4 (.c .a .n)))))))))) (.b n0 (.c (.e rfl rfl) (.c (.e rfl rfl) (.c (.e rfl rfl) (.c (.e rfl rfl) (.c (.e rfl rfl) (.c (.e rfl rfl) (.c (.e rfl rfl) (.c (.e rfl rfl) (.c (.e rfl rfl) (.c (.e rfl rfl) (.c (.e rfl rfl) (.c (.e rfl rfl) (.c (.e rfl rfl) (.c (.e rfl rfl) (.c (.e rfl rfl) (.c (.e rfl rfl) .n)))))))))))))))) .n)⟩
     ·
      refine rg <| m (mv (.t n5)) u22 <| m (add (.t n22) (.i rfl)) u23 <| m (as_ (.t n23)) u5 <| e ?_
      obtain ⟨c21, hm⟩ := gd_some hm
      exact ⟨i0 + 1, hm, le [0] (by decide) (.c .a (.c (.e rfl rfl) (.c (.b n0) (.x2 (.c (.e (wi c21) rfl) (.x32 (.x16 (.x8 (.x4 (.c .a .n)))))))))) (.b n0 (.c (.e rfl rfl) (.c (.e rfl rfl) (.c (.e rfl rfl) (.c (.e rfl rfl) (.c (.e rfl rfl) (.c (.e rfl rfl) (.c (.e rfl rfl) (.c (.e rfl rfl) (.c (.e rfl rfl) (.c (.e rfl rfl) (.c (.e rfl rfl) (.c (.e rfl rfl) (.c (.e rfl rfl) (.c (.e rfl rfl) (.c (.e rfl rfl) (.c (.e rfl rfl) .n)))))))))))))))) .n)⟩
    ·
     replace hm := cf h6 hm
     refine ex (x1 ?_)
     replace hm := inr1 hm hq3
     exact ⟨(), hm, le [0] (by decide) (.c .a (.c (.e rfl rfl) (.c (.b n0) (.x32 (.x32 .n))))) (.b n0 (.c (.e rfl rfl) (.c (.e rfl rfl) (.c (.e rfl rfl) (.c (.e rfl rfl) (.c (.e rfl rfl) (.c (.e rfl rfl) (.c (.e rfl rfl) (.c (.e rfl rfl) (.c (.e rfl rfl) (.c (.e rfl rfl) (.c (.e rfl rfl) (.c (.e rfl rfl) (.c (.e rfl rfl) (.c (.e rfl rfl) (.c (.e rfl rfl) (.c (.e rfl rfl) .n)))))))))))))))) .n)⟩
  ·
   obtain ⟨c22, hm⟩ := gd_some hm
   refine sr <| m (lab T.a57 n0 d0 k16 (.t n2)) u63 <| m (mv (.t n1)) u64 <| c (call (tot_spec_InList w_ device_ c22) (.c (.t n63) rfl (.c (.t n64) rfl .n))) u65 <| m (not_ (.t n65)) u66 <| m (as_ (.t n66)) u4 <| e ?_
   replace hm := sj hm
   subst hm
   exact rt (ret1 (.t n4 (.p rfl) .n) rfl)

theorem tot_spec_CutIsFinal (w_ : D.World) (device_ : Int) (hp0 : WOk w_) : Spec Tryz.prog G0 48 [.agg (D.World.V w_), .int .i64 device_] (fun v => v = .bool (cutFinalF w_ device_)) := sp_spec_CutIsFinal w_ device_ _ (t_spec_CutIsFinal w_ device_ hp0)

theorem sp_spec_KeysAgree (w_ : D.World) (device_ : Int) (r : Bool) (hm : m_spec_KeysAgree w_ device_ = some r) : Spec Tryz.prog G0 49 [.agg (D.World.V w_), .int .i64 device_] (fun v => v = .bool r) := by
 rw [m_spec_KeysAgree] at hm
 refine enter (l := [.tmp 4]) Tryz.func49 rfl Tryz.ntmps49 rfl T.en49 fun E => ?_
 simp only [List.length_cons, List.length_nil, List.replicate_succ, List.replicate_zero, List.cons_append, List.nil_append, Nat.reduceAdd, Nat.reduceSub]
 refine sr <| k (bx rfl s0 u2 (.t n0)) <| m (as_ .b) u4 <| e ?_
 refine sq ?_
 refine sr <| m (mv (.t n1)) u8 <| m (fab 2 rfl T.f57_2 (.t n2)) u9 <| m (ldb T.o42 n0 n2 (.t n9)) u10 <| m (lenm (l := w_.Devices) (f := D.Device.V) T.s42 (.t n10)) u11 <| m (sub (.t n11) (.i rfl)) u12 <| c (call (tot_spec_l1In device_ (0 : Int) (IntKind.i64.wrap ((w_.Devices.length : Int) - (1 : Int)))) (.c (.t n8) rfl (.c (.i rfl) rfl (.c (.t n12) rfl .n)))) u13 <| m (not_ (.t n13)) u14 <| e ?_
 refine cnd n14 (fun h1 => ?_) (fun h1 => ?_)
 ·
  replace hm := ct h1 hm
  refine sr <| m (as_ .b) u4 <| e ?_
  replace hm := sj hm
  subst hm
  exact rt (ret1 (.t n4 (.p rfl) .n) rfl)
 ·
  replace hm := cf h1 hm
  refine skp ?_
  obtain ⟨z2, e3, hm⟩ := bd_some hm
  refine sr <| m (fab 2 rfl T.f57_2 (.t n2)) u15 <| m (ldb T.o42 n0 n2 (.t n15)) u16 <| m (mv (.t n1)) u17 <| m (ixq (f := D.Device.V) e3 T.s42 (.t n16) (.t n17)) u18 <| m (lae T.a118 k9 (.t n18)) u19 <| k (al T.z118 s1 u5) <| k (sta T.a118 rfl rfl n1 (.z (.z (.z (.z (.z (.z (.z (.z (.z .n))))))))) q1 (.t n5) (.t n19)) <| e ?_
  refine sr <| m (fab 0 rfl T.f118_0 (.t n5)) u21 <| m (lab T.a113 n1 d0 k4 (.t n21)) u22 <| m (fab 4 rfl T.f57_4 (.t n2)) u23 <| m (fab 5 rfl T.f49_1 (.t n23)) u24 <| m (lab T.a46 n0 d5 k2 (.t n24)) u25 <| c (call (tot_spec_OpenEpochBoxes z2.Store w_.Cloud.Boxes) (.c (.t n22) rfl (.c (.t n25) rfl .n))) u26 <| m (mv (.t n26)) u20 <| m (ext_ n0 (.t n20)) u27 <| m (ext_ n1 (.t n20)) u28 <| m (as_ (.t n27)) u6 <| m (as_ (.t n28)) u7 <| e ?_
  refine sd none [(0, true), (1, true), (2, false), (3, true), (4, true), (5, true), (6, true), (7, true), (8, true), (9, true), (10, false), (11, true), (12, true), (13, true), (14, true), (15, true), (16, true), (17, true), (18, true), (19, true)] T.mix (by kernel_rfl) <| rob hm (fun j0_4 : Bool => ⟨[.any, .any, .any, .any, .bool j0_4, .any, .any, .any, .any, .any, .any, .any, .any, .any, .any, .any, .any, .any, .any, .any, .any, .any, .any, .any, .any, .any, .any, .any, .any, .any, .any, .any, .any, .any, .any, .any, .any, .any, .any, .any, .any, .any, .any, .any, .any, .any, .any, .any], []⟩) (fun _ hm hq4 => ?_) (fun j0_4 hm => ?_)
  ·
   obtain ⟨c5, hm⟩ := gd_some hm
   refine om n0 (lab T.a57 n0 d0 k16 (.t n2)) u29 <| om n1 (mv (.t n1)) u30 <| oc n2 (call (tot_spec_InList w_ device_ c5) (.c (.t n29) rfl (.c (.t n30) rfl .n))) u31 <| om n3 (not_ (.t n31)) u32 <| om n4 (mv (.t n32)) u33 <| osp n33 u33 u33 (fun h6 => ?_) (fun h6 => ?_)
   ·
    replace hm := ct h6 hm
    refine os n5 n4 rfl n33 rfl u34 <| os n6 n4 rfl n33 rfl u35 <| os n7 n4 rfl n33 rfl u36 <| os n8 n4 rfl n33 rfl u37 <| os n9 n4 rfl n33 rfl u38 <| osf n10 n4 rfl n33 rfl u39 <| os n11 n4 rfl n33 rfl u40 <| om n12 (pkt (.t n33) .b) u41 <| om n13 (mv (.t n41)) u42 <| os n14 n13 rfl n42 rfl u43 <| os n15 n13 rfl n42 rfl u44 <| os n16 n13 rfl n42 rfl u45 <| os n17 n13 rfl n42 rfl u46 <| om n18 (pkt (.t n42) .b) u47 <| om n19 (as_ (.t n47)) u4 <| oe ?_
    replace hm := sj hm
    subst hm
    have hm := hq4
    exact ⟨true, hm, le [] (by decide) (.x4 (.c (.e rfl rfl) (.x32 (.x8 (.x2 (.c .a .n)))))) .n⟩
   ·
    replace hm := cf h6 hm
    refine omg n5 n4 rfl n33 (fab 6 rfl T.f118_3 (.t n5)) u34 <| omg n6 n4 rfl n33 (ldb T.o3 n1 n6 (.t n34)) u35 <| omg n7 n4 rfl n33 (fab 4 rfl T.f57_4 (.t n2)) u36 <| omg n8 n4 rfl n33 (fab 4 rfl T.f49_0 (.t n36)) u37 <| omg n9 n4 rfl n33 (ldb T.o43 n0 n4 (.t n37)) u38 <| ocg n10 n4 rfl n33 (call (tot_spec_EpochOf w_.Cloud.Log) (.c (.t n38) rfl .n)) u39 <| omg n11 n4 rfl n33 (neq (.t n35) (.t n39)) u40 <| om n12 (pkf (.t n33) (.t n40)) u41 <| om n13 (mv (.t n41)) u42 <| osp n42 u42 u42 (fun h7 => ?_) (fun h7 => ?_)
    ·
     replace hm := ct h7 hm
     refine os n14 n13 rfl n42 rfl u43 <| os n15 n13 rfl n42 rfl u44 <| os n16 n13 rfl n42 rfl u45 <| os n17 n13 rfl n42 rfl u46 <| om n18 (pkt (.t n42) .b) u47 <| om n19 (as_ (.t n47)) u4 <| oe ?_
     replace hm := sj hm
     subst hm
     have hm := hq4
     exact ⟨true, hm, le [] (by decide) (.x4 (.c (.e rfl rfl) (.x32 (.x8 (.x2 (.c .a .n)))))) .n⟩
    ·
     replace hm := cf h7 hm
     refine omg n14 n13 rfl n42 (fab 5 rfl T.f118_2 (.t n5)) u43 <| omg n15 n13 rfl n42 (ldb T.o3 n1 n5 (.t n43)) u44 <| omg n16 n13 rfl n42 (mv (.t n6)) u45 <| omg n17 n13 rfl n42 (eql (.t n44) (.t n45)) u46 <| om n18 (pkf (.t n42) (.t n46)) u47 <| om n19 (as_ (.t n47)) u4 <| oe ?_
     replace hm := sj hm
     subst hm
     have hm := hq4
     exact ⟨(z2.Key == (openEpochF z2.Store w_.Cloud.Boxes).1), hm, le [] (by decide) (.x4 (.c (.e rfl rfl) (.x32 (.x8 (.x2 (.c .a .n)))))) .n⟩
  ·
   replace hm := sj hm
   subst hm
   exact rt (ret1 (.t n4 (.p rfl) .n) rfl)

theorem tot_spec_KeysAgree (w_ : D.World) (device_ : Int) (hp0 : WOk w_) : Spec Tryz.prog G0 49 [.agg (D.World.V w_), .int .i64 device_] (fun v => v = .bool (keysAgreeF w_ device_)) := sp_spec_KeysAgree w_ device_ _ (t_spec_KeysAgree w_ device_ hp0)

theorem sp_spec_GuessesWithin (w_ : D.World) (r : Bool) (hm : m_spec_GuessesWithin w_ = some r) : Spec Tryz.prog G0 50 [.agg (D.World.V w_)] (fun v => v = .bool r) := by
 rw [m_spec_GuessesWithin] at hm
 refine enter (l := [.tmp 2]) Tryz.func50 rfl Tryz.ntmps50 rfl T.en50 fun E => ?_
 simp only [List.length_cons, List.length_nil, List.replicate_succ, List.replicate_zero, List.cons_append, List.nil_append, Nat.reduceAdd, Nat.reduceSub]
 refine sr <| k (bx rfl s0 u1 (.t n0)) <| m (as_ .b) u2 <| e ?_
 refine sq ?_
 refine sr <| m (as_ (.i rfl)) u3 <| e ?_
 refine jmx hm (fun _ : Unit => ⟨[.any, .any, .any, .any, .any, .any, .any, .any, .any, .any, .any, .any, .any, .any, .any, .any, .any, .any, .any, .any, .any, .any, .any, .any, .any, .any, .any, .any, .any, .any, .any, .any, .any, .any], []⟩) (fun _ hm hq1 => ?_) (fun _ hm => ?_)
 ·
  refine bk ?_
  refine lpf (m := m_spec_GuessesWithin_l0 w_) hm (fun i0 : Nat => ⟨[.any, .box 0 0, .any, .int .i64 (i0 : Int), .any, .any, .any, .any, .any, .any, .any, .any, .any, .any, .any, .any, .any, .any, .any, .any, .any, .any, .any, .any, .any, .any, .any, .any, .any, .any, .any, .any, .any, .any], [.box 57 [.int .i64 w_.Now, .int .i64 w_.Seed, .slice 9 (w_.Devices.map D.Device.V), .slice 1 (w_.Stolen.map bV), .slice 6 (w_.Cloud.Log.map D.LogEntry.V), .int .i64 w_.Cloud.Boxes.Epoch, .slice 4 (w_.Cloud.Boxes.Boxes.map D.Box.V), .slice 4 (w_.Cloud.History.map D.SealedBundle.V), .slice 6 (w_.Sites.map D.Site.V), .int .i64 w_.Vault.Salt, .int .i64 w_.Vault.Threshold, .int .i64 w_.Vault.Check, .int .i64 w_.Vault.Masked, .slice 7 (w_.Hosts.map D.KeeperHost.V), .int .i64 w_.Pin, .slice 4 (w_.Mail.Notices.map D.Notice.V)]]⟩) (fun _ => rfl) (le [0] (by decide) (.c .a (.c (.b n0) (.c .a (.c (.e rfl rfl) (.x16 (.x8 (.x4 (.x2 .n)))))))) (.b n0 (.c (.e rfl rfl) (.c (.e rfl rfl) (.c (.e rfl rfl) (.c (.e rfl rfl) (.c (.e rfl rfl) (.c (.e rfl rfl) (.c (.e rfl rfl) (.c (.e rfl rfl) (.c (.e rfl rfl) (.c (.e rfl rfl) (.c (.e rfl rfl) (.c (.e rfl rfl) (.c (.e rfl rfl) (.c (.e rfl rfl) (.c (.e rfl rfl) (.c (.e rfl rfl) .n)))))))))))))))) .n)) ?_
  rintro f i0 hm
  rw [m_spec_GuessesWithin_l0] at hm
  refine sq ?_
  refine sr <| m (mv (.t n3)) u5 <| m (fab 13 rfl T.f57_7 (.t n1)) u6 <| m (ldb T.o52 n0 n13 (.t n6)) u7 <| m (lenm (l := w_.Hosts) (f := D.KeeperHost.V) T.s52 (.t n7)) u8 <| m (lss (.t n5) (.t n8)) u9 <| e ?_
  refine rng n8 fun _ ra2 => ?_
  replace ra2 := (show (_ : Int) ≤ 9223372036854775807 from ra2)
  refine cnd n9 (fun h3 => ?_) (fun h3 => ?_)
  ·
   replace hm := ct h3 hm
   have h3d := of_decide_eq_true h3
   refine skp ?_
   refine sq ?_
   refine bk ?_
   obtain ⟨z4, e5, hm⟩ := bd_some hm
   refine sr <| m (fab 13 rfl T.f57_7 (.t n1)) u12 <| m (ldb T.o52 n0 n13 (.t n12)) u13 <| m (mv (.t n3)) u14 <| m (ixq (f := D.KeeperHost.V) e5 T.s52 (.t n13) (.t n14)) u15 <| m (fae T.f81_0 d0 (.t n15)) u16 <| m (lae T.a78 k5 (.t n16)) u17 <| k (al T.z78 s1 u4) <| k (sta T.a78 rfl rfl n1 (.z (.z (.z (.z (.z .n))))) q1 (.t n4) (.t n17)) <| e ?_
   refine sd none [(0, true), (1, true), (2, true), (3, true), (4, true), (5, true), (6, true), (8, true), (9, true), (10, true), (11, true), (12, true), (13, true), (7, false), (14, true), (15, true)] T.mix (by kernel_rfl) <| rob hm (fun j1_33 : Bool => ⟨[.any, .box 0 0, .any, .int .i64 (i0 : Int), .any, .any, .any, .any, .any, .any, .any, .any, .any, .any, .any, .any, .any, .any, .any, .any, .any, .any, .any, .any, .any, .any, .any, .any, .any, .any, .any, .any, .any, .bool j1_33], [.box 57 [.int .i64 w_.Now, .int .i64 w_.Seed, .slice 9 (w_.Devices.map D.Device.V), .slice 1 (w_.Stolen.map bV), .slice 6 (w_.Cloud.Log.map D.LogEntry.V), .int .i64 w_.Cloud.Boxes.Epoch, .slice 4 (w_.Cloud.Boxes.Boxes.map D.Box.V), .slice 4 (w_.Cloud.History.map D.SealedBundle.V), .slice 6 (w_.Sites.map D.Site.V), .int .i64 w_.Vault.Salt, .int .i64 w_.Vault.Threshold, .int .i64 w_.Vault.Check, .int .i64 w_.Vault.Masked, .slice 7 (w_.Hosts.map D.KeeperHost.V), .int .i64 w_.Pin, .slice 4 (w_.Mail.Notices.map D.Notice.V)]]⟩) (fun _ hm hq6 => ?_) (fun j1_33 hm => ?_)
   ·
    refine om n0 (fab 3 rfl T.f78_2 (.t n4)) u18 <| om n1 (ldb T.o3 n1 n3 (.t n18)) u19 <| om n2 (fab 4 rfl T.f78_3 (.t n4)) u20 <| om n3 (ldb T.o3 n1 n4 (.t n20)) u21 <| om n4 (gtr (.t n19) (.t n21)) u22 <| om n5 (mv (.t n22)) u23 <| osp n23 u23 u23 (fun h7 => ?_) (fun h7 => ?_)
    ·
     replace hm := ct h7 hm
     refine os n6 n5 rfl n23 rfl u24 <| os n8 n5 rfl n23 rfl u26 <| os n9 n5 rfl n23 rfl u27 <| os n10 n5 rfl n23 rfl u28 <| os n11 n5 rfl n23 rfl u29 <| os n12 n5 rfl n23 rfl u30 <| os n13 n5 rfl n23 rfl u31 <| osf n7 n5 rfl n23 rfl u25 <| os n14 n5 rfl n23 rfl u32 <| om n15 (pkt (.t n23) .b) u33 <| oe ?_
     replace hm := sj hm
     subst hm
     have hm := hq6
     exact ⟨true, hm, le [0] (by decide) (.c .a (.c (.b n0) (.c .a (.c (.e rfl rfl) (.x16 (.x8 (.x4 (.c .a (.c (.e rfl rfl) .n))))))))) (.b n0 (.c (.e rfl rfl) (.c (.e rfl rfl) (.c (.e rfl rfl) (.c (.e rfl rfl) (.c (.e rfl rfl) (.c (.e rfl rfl) (.c (.e rfl rfl) (.c (.e rfl rfl) (.c (.e rfl rfl) (.c (.e rfl rfl) (.c (.e rfl rfl) (.c (.e rfl rfl) (.c (.e rfl rfl) (.c (.e rfl rfl) (.c (.e rfl rfl) (.c (.e rfl rfl) .n)))))))))))))))) .n)⟩
    ·
     replace hm := cf h7 hm
     refine omg n6 n5 rfl n23 (lab T.a78 n1 d0 k5 (.t n4)) u24 <| omg n8 n5 rfl n23 (fab 13 rfl T.f57_7 (.t n1)) u26 <| omg n9 n5 rfl n23 (ldb T.o52 n0 n13 (.t n26)) u27 <| omg n10 n5 rfl n23 (mv (.t n3)) u28 <| omg n11 n5 rfl n23 (ixq (f := D.KeeperHost.V) e5 T.s52 (.t n27) (.t n28)) u29 <| omg n12 n5 rfl n23 (fae T.f81_2 d6 (.t n29)) u30 <| omg n13 n5 rfl n23 (lde T.o3 n0 (.t n30)) u31 <| ocg n7 n5 rfl n23 (call (tot_spec_l24Mark z4.State) (.c (.t n24) rfl .n)) u25 <| omg n14 n5 rfl n23 (gtr (.t n25) (.t n31)) u32 <| om n15 (pkf (.t n23) (.t n32)) u33 <| oe ?_
     replace hm := sj hm
     subst hm
     have hm := hq6
     exact ⟨decide ((markF z4.State) > z4.Monotonic), hm, le [0] (by decide) (.c .a (.c (.b n0) (.c .a (.c (.e rfl rfl) (.x16 (.x8 (.x4 (.c .a (.c (.e rfl rfl) .n))))))))) (.b n0 (.c (.e rfl rfl) (.c (.e rfl rfl) (.c (.e rfl rfl) (.c (.e rfl rfl) (.c (.e rfl rfl) (.c (.e rfl rfl) (.c (.e rfl rfl) (.c (.e rfl rfl) (.c (.e rfl rfl) (.c (.e rfl rfl) (.c (.e rfl rfl) (.c (.e rfl rfl) (.c (.e rfl rfl) (.c (.e rfl rfl) (.c (.e rfl rfl) (.c (.e rfl rfl) .n)))))))))))))))) .n)⟩
   ·
    refine cnd n33 (fun h8 => ?_) (fun h8 => ?_)
    ·
     replace hm := ct h8 hm
     refine sr <| m (as_ .b) u2 <| e ?_
     replace hm := inl1 hm hq1
     subst hm
     exact rt (ret1 (.t n2 (.p rfl) .n) rfl)
    ·
     replace hm := cf h8 hm
     refine skp ?_
     refine rg <| m (mv (.t n3)) u10 <| m (add (.t n10) (.i rfl)) u11 <| m (as_ (.t n11)) u3 <| e ?_
     exact ⟨i0 + 1, hm, le [0] (by decide) (.c .a (.c (.b n0) (.c .a (.c (.e (wi (by omega)) rfl) (.x16 (.x8 (.x4 (.x2 .n)))))))) (.b n0 (.c (.e rfl rfl) (.c (.e rfl rfl) (.c (.e rfl rfl) (.c (.e rfl rfl) (.c (.e rfl rfl) (.c (.e rfl rfl) (.c (.e rfl rfl) (.c (.e rfl rfl) (.c (.e rfl rfl) (.c (.e rfl rfl) (.c (.e rfl rfl) (.c (.e rfl rfl) (.c (.e rfl rfl) (.c (.e rfl rfl) (.c (.e rfl rfl) (.c (.e rfl rfl) .n)))))))))))))))) .n)⟩
  ·
   replace hm := cf h3 hm
   have h3d := of_decide_eq_false h3
   refine ex (x1 ?_)
   replace hm := inr1 hm hq1
   exact ⟨(), hm, le [] (by decide) (.x32 (.x2 .n)) .n⟩
 ·
  refine sr <| m (as_ .b) u2 <| e ?_
  replace hm := sj hm
  subst hm
  exact rt (ret1 (.t n2 (.p rfl) .n) rfl)

theorem tot_spec_GuessesWithin (w_ : D.World)  : Spec Tryz.prog G0 50 [.agg (D.World.V w_)] (fun v => v = .bool (guessesWithinF w_)) := sp_spec_GuessesWithin w_ _ (t_spec_GuessesWithin w_)

theorem sp_spec_AuditWorld (w_ : D.World) (r : Bool) (hm : m_spec_AuditWorld w_ = some r) : Spec Tryz.prog G0 13 [.agg (D.World.V w_)] (fun v => v = .bool r) := by
 rw [m_spec_AuditWorld] at hm
 refine enter (l := [.tmp 2]) Tryz.func13 rfl Tryz.ntmps13 rfl T.en13 fun E => ?_
 simp only [List.length_cons, List.length_nil, List.replicate_succ, List.replicate_zero, List.cons_append, List.nil_append, Nat.reduceAdd, Nat.reduceSub]
 refine sr <| k (bx rfl s0 u1 (.t n0)) <| m (as_ .b) u2 <| e ?_
 refine sq ?_
 refine sr <| m (as_ (.i rfl)) u3 <| e ?_
 refine jmx hm (fun _ : Unit => ⟨[.any, .box 0 0, .any, .any, .any, .any, .any, .any, .any, .any, .any, .any, .any, .any, .any, .any, .any, .any, .any, .any, .any, .any, .any, .any, .any, .any, .any], [.box 57 [.int .i64 w_.Now, .int .i64 w_.Seed, .slice 9 (w_.Devices.map D.Device.V), .slice 1 (w_.Stolen.map bV), .slice 6 (w_.Cloud.Log.map D.LogEntry.V), .int .i64 w_.Cloud.Boxes.Epoch, .slice 4 (w_.Cloud.Boxes.Boxes.map D.Box.V), .slice 4 (w_.Cloud.History.map D.SealedBundle.V), .slice 6 (w_.Sites.map D.Site.V), .int .i64 w_.Vault.Salt, .int .i64 w_.Vault.Threshold, .int .i64 w_.Vault.Check, .int .i64 w_.Vault.Masked, .slice 7 (w_.Hosts.map D.KeeperHost.V), .int .i64 w_.Pin, .slice 4 (w_.Mail.Notices.map D.Notice.V)]]⟩) (fun _ hm hq1 => ?_) (fun _ hm => ?_)
 ·
  refine bk ?_
  refine lpf (m := m_spec_AuditWorld_l0 w_) hm (fun i0 : Nat => ⟨[.any, .box 0 0, .any, .int .i64 (i0 : Int), .any, .any, .any, .any, .any, .any, .any, .any, .any, .any, .any, .any, .any, .any, .any, .any, .any, .any, .any, .any, .any, .any, .any], [.box 57 [.int .i64 w_.Now, .int .i64 w_.Seed, .slice 9 (w_.Devices.map D.Device.V), .slice 1 (w_.Stolen.map bV), .slice 6 (w_.Cloud.Log.map D.LogEntry.V), .int .i64 w_.Cloud.Boxes.Epoch, .slice 4 (w_.Cloud.Boxes.Boxes.map D.Box.V), .slice 4 (w_.Cloud.History.map D.SealedBundle.V), .slice 6 (w_.Sites.map D.Site.V), .int .i64 w_.Vault.Salt, .int .i64 w_.Vault.Threshold, .int .i64 w_.Vault.Check, .int .i64 w_.Vault.Masked, .slice 7 (w_.Hosts.map D.KeeperHost.V), .int .i64 w_.Pin, .slice 4 (w_.Mail.Notices.map D.Notice.V)]]⟩) (fun _ => rfl) (le [0] (by decide) (.c .a (.c (.b n0) (.c .a (.c (.e rfl rfl) (.x16 (.x4 (.x2 (.c .a .n)))))))) (.b n0 (.c (.e rfl rfl) (.c (.e rfl rfl) (.c (.e rfl rfl) (.c (.e rfl rfl) (.c (.e rfl rfl) (.c (.e rfl rfl) (.c (.e rfl rfl) (.c (.e rfl rfl) (.c (.e rfl rfl) (.c (.e rfl rfl) (.c (.e rfl rfl) (.c (.e rfl rfl) (.c (.e rfl rfl) (.c (.e rfl rfl) (.c (.e rfl rfl) (.c (.e rfl rfl) .n)))))))))))))))) .n)) ?_
  rintro f i0 hm
  rw [m_spec_AuditWorld_l0] at hm
  refine sq ?_
  refine sr <| m (mv (.t n3)) u4 <| m (fab 2 rfl T.f57_2 (.t n1)) u5 <| m (ldb T.o42 n0 n2 (.t n5)) u6 <| m (lenm (l := w_.Devices) (f := D.Device.V) T.s42 (.t n6)) u7 <| m (lss (.t n4) (.t n7)) u8 <| e ?_
  refine rng n7 fun _ ra2 => ?_
  replace ra2 := (show (_ : Int) ≤ 9223372036854775807 from ra2)
  refine cnd n8 (fun h3 => ?_) (fun h3 => ?_)
  ·
   replace hm := ct h3 hm
   have h3d := of_decide_eq_true h3
   refine skp ?_
   refine sq ?_
   refine bk ?_
   refine sr <| rjb hm (fun j1_20 : Bool => ⟨[.any, .box 0 0, .any, .int .i64 (i0 : Int), .any, .any, .any, .any, .any, .any, .any, .any, .any, .any, .any, .any, .any, .any, .any, .any, .bool j1_20, .any, .any, .any, .any, .any, .any], [.box 57 [.int .i64 w_.Now, .int .i64 w_.Seed, .slice 9 (w_.Devices.map D.Device.V), .slice 1 (w_.Stolen.map bV), .slice 6 (w_.Cloud.Log.map D.LogEntry.V), .int .i64 w_.Cloud.Boxes.Epoch, .slice 4 (w_.Cloud.Boxes.Boxes.map D.Box.V), .slice 4 (w_.Cloud.History.map D.SealedBundle.V), .slice 6 (w_.Sites.map D.Site.V), .int .i64 w_.Vault.Salt, .int .i64 w_.Vault.Threshold, .int .i64 w_.Vault.Check, .int .i64 w_.Vault.Masked, .slice 7 (w_.Hosts.map D.KeeperHost.V), .int .i64 w_.Pin, .slice 4 (w_.Mail.Notices.map D.Notice.V)]]⟩) (fun _ hm hq4 => ?_) (fun j1_20 hm => ?_)
   ·
    obtain ⟨c5, hm⟩ := gd_some hm
    refine m (lab T.a57 n0 d0 k16 (.t n1)) u11 <| m (mv (.t n3)) u12 <| c (call (tot_spec_CutIsFinal w_ (i0 : Int) c5) (.c (.t n11) rfl (.c (.t n12) rfl .n))) u13 <| m (not_ (.t n13)) u14 <| m (mv (.t n14)) u15 <| sp n15 u15 u15 (fun h6 => ?_) (fun h6 => ?_)
    ·
     replace hm := ct h6 hm
     refine sk n4 rfl n15 rfl u16 <| sk n4 rfl n15 rfl u17 <| sk n4 rfl n15 rfl u18 <| sk n4 rfl n15 rfl u19 <| m (pkt (.t n15) .b) u20 <| e ?_
     replace hm := sj hm
     subst hm
     have hm := hq4
     exact ⟨true, hm, le [0] (by decide) (.c .a (.c (.b n0) (.c .a (.c (.e rfl rfl) (.x16 (.c (.e rfl rfl) (.x4 (.x2 .n)))))))) (.b n0 (.c (.e rfl rfl) (.c (.e rfl rfl) (.c (.e rfl rfl) (.c (.e rfl rfl) (.c (.e rfl rfl) (.c (.e rfl rfl) (.c (.e rfl rfl) (.c (.e rfl rfl) (.c (.e rfl rfl) (.c (.e rfl rfl) (.c (.e rfl rfl) (.c (.e rfl rfl) (.c (.e rfl rfl) (.c (.e rfl rfl) (.c (.e rfl rfl) (.c (.e rfl rfl) .n)))))))))))))))) .n)⟩
    ·
     replace hm := cf h6 hm
     obtain ⟨c7, hm⟩ := gd_some hm
     refine mg n4 rfl n15 (lab T.a57 n0 d0 k16 (.t n1)) u16 <| mg n4 rfl n15 (mv (.t n3)) u17 <| cg n4 rfl n15 (call (tot_spec_KeysAgree w_ (i0 : Int) c7) (.c (.t n16) rfl (.c (.t n17) rfl .n))) u18 <| mg n4 rfl n15 (not_ (.t n18)) u19 <| m (pkf (.t n15) (.t n19)) u20 <| e ?_
     replace hm := sj hm
     subst hm
     have hm := hq4
     exact ⟨(!(keysAgreeF w_ (i0 : Int))), hm, le [0] (by decide) (.c .a (.c (.b n0) (.c .a (.c (.e rfl rfl) (.x16 (.c (.e rfl rfl) (.x4 (.x2 .n)))))))) (.b n0 (.c (.e rfl rfl) (.c (.e rfl rfl) (.c (.e rfl rfl) (.c (.e rfl rfl) (.c (.e rfl rfl) (.c (.e rfl rfl) (.c (.e rfl rfl) (.c (.e rfl rfl) (.c (.e rfl rfl) (.c (.e rfl rfl) (.c (.e rfl rfl) (.c (.e rfl rfl) (.c (.e rfl rfl) (.c (.e rfl rfl) (.c (.e rfl rfl) (.c (.e rfl rfl) .n)))))))))))))))) .n)⟩
   ·
    refine cnd n20 (fun h8 => ?_) (fun h8 => ?_)
    ·
     replace hm := ct h8 hm
     refine sr <| m (as_ .b) u2 <| e ?_
     replace hm := inl1 hm hq1
     subst hm
     exact rt (ret1 (.t n2 (.p rfl) .n) rfl)
    ·
     replace hm := cf h8 hm
     refine skp ?_
     refine rg <| m (mv (.t n3)) u9 <| m (add (.t n9) (.i rfl)) u10 <| m (as_ (.t n10)) u3 <| e ?_
     exact ⟨i0 + 1, hm, le [0] (by decide) (.c .a (.c (.b n0) (.c .a (.c (.e (wi (by omega)) rfl) (.x16 (.x4 (.x2 (.c .a .n)))))))) (.b n0 (.c (.e rfl rfl) (.c (.e rfl rfl) (.c (.e rfl rfl) (.c (.e rfl rfl) (.c (.e rfl rfl) (.c (.e rfl rfl) (.c (.e rfl rfl) (.c (.e rfl rfl) (.c (.e rfl rfl) (.c (.e rfl rfl) (.c (.e rfl rfl) (.c (.e rfl rfl) (.c (.e rfl rfl) (.c (.e rfl rfl) (.c (.e rfl rfl) (.c (.e rfl rfl) .n)))))))))))))))) .n)⟩
  ·
   replace hm := cf h3 hm
   have h3d := of_decide_eq_false h3
   refine ex (x1 ?_)
   replace hm := inr1 hm hq1
   exact ⟨(), hm, le [0] (by decide) (.c .a (.c (.b n0) (.x16 (.x8 (.c .a .n))))) (.b n0 (.c (.e rfl rfl) (.c (.e rfl rfl) (.c (.e rfl rfl) (.c (.e rfl rfl) (.c (.e rfl rfl) (.c (.e rfl rfl) (.c (.e rfl rfl) (.c (.e rfl rfl) (.c (.e rfl rfl) (.c (.e rfl rfl) (.c (.e rfl rfl) (.c (.e rfl rfl) (.c (.e rfl rfl) (.c (.e rfl rfl) (.c (.e rfl rfl) (.c (.e rfl rfl) .n)))))))))))))))) .n)⟩
 ·
  refine sr <| rjb hm (fun j2_2 : Bool => ⟨[.any, .any, .bool j2_2, .any, .any, .any, .any, .any, .any, .any, .any, .any, .any, .any, .any, .any, .any, .any, .any, .any, .any, .any, .any, .any, .any, .any, .any], []⟩) (fun _ hm hq9 => ?_) (fun j2_2 hm => ?_)
  ·
   obtain ⟨c10, hm⟩ := gd_some hm
   refine m (lab T.a57 n0 d0 k16 (.t n1)) u21 <| c (call (tot_spec_IsValidWorld w_ c10) (.c (.t n21) rfl .n)) u22 <| m (mv (.t n22)) u23 <| sp n23 u23 u23 (fun h11 => ?_) (fun h11 => ?_)
   ·
    replace hm := ct h11 hm
    refine mg n2 rfl n23 (lab T.a57 n0 d0 k16 (.t n1)) u24 <| cg n2 rfl n23 (call (tot_spec_GuessesWithin w_) (.c (.t n24) rfl .n)) u25 <| m (pkt (.t n23) (.t n25)) u26 <| m (as_ (.t n26)) u2 <| e ?_
    replace hm := sj hm
    subst hm
    have hm := hq9
    exact ⟨(guessesWithinF w_), hm, le [] (by decide) (.x2 (.c (.e rfl rfl) (.x16 (.x8 .n)))) .n⟩
   ·
    replace hm := cf h11 hm
    refine sk n2 rfl n23 rfl u24 <| sk n2 rfl n23 rfl u25 <| m (pkf (.t n23) .b) u26 <| m (as_ (.t n26)) u2 <| e ?_
    replace hm := sj hm
    subst hm
    have hm := hq9
    exact ⟨false, hm, le [] (by decide) (.x2 (.c (.e rfl rfl) (.x16 (.x8 .n)))) .n⟩
  ·
   replace hm := sj hm
   subst hm
   exact rt (ret1 (.t n2 (.p rfl) .n) rfl)

theorem tot_spec_AuditWorld (w_ : D.World) (hp0 : WOk2 w_) : Spec Tryz.prog G0 13 [.agg (D.World.V w_)] (fun v => v = .bool (auditF w_)) := sp_spec_AuditWorld w_ _ (t_spec_AuditWorld w_ hp0)

theorem sp_impl_GuessesWithin (w_ : D.World) (r : Bool) (hm : m_impl_GuessesWithin w_ = some r) : Spec Tryz.prog G0 51 [.agg (D.World.V w_)] (fun v => v = .bool r) := by
 rw [m_impl_GuessesWithin] at hm
 refine enter (l := [.tmp 2]) Tryz.func51 rfl Tryz.ntmps51 rfl T.en51 fun E => ?_
 simp only [List.length_cons, List.length_nil, List.replicate_succ, List.replicate_zero, List.cons_append, List.nil_append, Nat.reduceAdd, Nat.reduceSub]
 refine sr <| k (bx rfl s0 u1 (.t n0)) <| m (as_ .b) u2 <| e ?_
 refine sq ?_
 refine sr <| m (fab 13 rfl T.f57_7 (.t n1)) u5 <| m (ldb T.o52 n0 n13 (.t n5)) u6 <| m (lenm (l := w_.Hosts) (f := D.KeeperHost.V) T.s52 (.t n6)) u7 <| m (mv (.i rfl)) u8 <| e ?_
 refine jmx hm (fun _ : Unit => ⟨[.any, .any, .any, .any, .any, .any, .any, .any, .any, .any, .any, .any, .any, .any, .any, .any, .any, .any, .any, .any, .any, .any, .any, .any, .any, .any, .any, .any], []⟩) (fun _ hm hq1 => ?_) (fun _ hm => ?_)
 ·
  refine bk ?_
  refine lpf (m := m_impl_GuessesWithin_l0 w_) hm (fun i0 : Nat => ⟨[.any, .any, .any, .any, .any, .any, .slice 7 (w_.Hosts.map D.KeeperHost.V), .int .i64 (w_.Hosts.length : Int), .int .i64 (i0 : Int), .any, .any, .any, .any, .any, .any, .any, .any, .any, .any, .any, .any, .any, .any, .any, .any, .any, .any, .any], []⟩) (fun _ => rfl) (le [] (by decide) (.x4 (.x2 (.c (.e rfl rfl) (.c (.e rfl rfl) (.c (.e rfl rfl) (.x16 (.x2 (.c .a .n)))))))) .n) ?_
  rintro f i0 hm
  rw [m_impl_GuessesWithin_l0] at hm
  refine sr <| m (lss (.t n8) (.t n7)) u9 <| e ?_
  refine rng n7 fun _ ra2 => ?_
  replace ra2 := (show (_ : Int) ≤ 9223372036854775807 from ra2)
  refine sq ?_
  refine cnd n9 (fun h3 => ?_) (fun h3 => ?_)
  ·
   replace hm := ct h3 hm
   have h3d := of_decide_eq_true h3
   refine skp ?_
   refine sq ?_
   refine bk ?_
   obtain ⟨z4, e5, hm⟩ := bd_some hm
   refine sr <| m (ixq (f := D.KeeperHost.V) e5 T.s52 (.t n6) (.t n8)) u10 <| m (lae T.a81 k7 (.t n10)) u11 <| k (al T.z81 s0 u4) <| k (sta T.a81 rfl rfl n0 (.z (.z (.z (.z (.z (.z (.z .n))))))) q0 (.t n4) (.t n11)) <| e ?_
   refine sd none [(0, true), (1, true), (2, true), (3, true), (4, true), (5, true), (6, true), (7, true), (8, true), (9, true), (11, true), (12, true), (10, false), (13, true), (14, true)] T.mix (by kernel_rfl) <| rob hm (fun j1_26 : Bool => ⟨[.any, .any, .any, .any, .any, .any, .slice 7 (w_.Hosts.map D.KeeperHost.V), .int .i64 (w_.Hosts.length : Int), .int .i64 (i0 : Int), .any, .any, .any, .any, .any, .any, .any, .any, .any, .any, .any, .any, .any, .any, .any, .any, .any, .bool j1_26, .any], []⟩) (fun _ hm hq6 => ?_) (fun j1_26 hm => ?_)
   ·
    refine om n0 (fab 0 rfl T.f81_0 (.t n4)) u12 <| om n1 (fab 3 rfl T.f78_2 (.t n12)) u13 <| om n2 (ldb T.o3 n0 n3 (.t n13)) u14 <| om n3 (fab 0 rfl T.f81_0 (.t n4)) u15 <| om n4 (fab 4 rfl T.f78_3 (.t n15)) u16 <| om n5 (ldb T.o3 n0 n4 (.t n16)) u17 <| om n6 (gtr (.t n14) (.t n17)) u18 <| om n7 (mv (.t n18)) u19 <| osp n19 u19 u19 (fun h7 => ?_) (fun h7 => ?_)
    ·
     replace hm := ct h7 hm
     refine os n8 n7 rfl n19 rfl u20 <| os n9 n7 rfl n19 rfl u21 <| os n11 n7 rfl n19 rfl u23 <| os n12 n7 rfl n19 rfl u24 <| osf n10 n7 rfl n19 rfl u22 <| os n13 n7 rfl n19 rfl u25 <| om n14 (pkt (.t n19) .b) u26 <| oe ?_
     replace hm := sj hm
     subst hm
     have hm := hq6
     exact ⟨true, hm, le [] (by decide) (.x4 (.x2 (.c (.e rfl rfl) (.c (.e rfl rfl) (.c (.e rfl rfl) (.x16 (.c .a (.c (.e rfl rfl) (.c .a .n))))))))) .n⟩
    ·
     replace hm := cf h7 hm
     refine omg n8 n7 rfl n19 (fab 0 rfl T.f81_0 (.t n4)) u20 <| omg n9 n7 rfl n19 (lab T.a78 n0 d0 k5 (.t n20)) u21 <| omg n11 n7 rfl n19 (fab 6 rfl T.f81_2 (.t n4)) u23 <| omg n12 n7 rfl n19 (ldb T.o3 n0 n6 (.t n23)) u24 <| ocg n10 n7 rfl n19 (call (tot_impl_progress z4.State) (.c (.t n21) rfl .n)) u22 <| omg n13 n7 rfl n19 (gtr (.t n22) (.t n24)) u25 <| om n14 (pkf (.t n19) (.t n25)) u26 <| oe ?_
     replace hm := sj hm
     subst hm
     have hm := hq6
     exact ⟨decide ((markF z4.State) > z4.Monotonic), hm, le [] (by decide) (.x4 (.x2 (.c (.e rfl rfl) (.c (.e rfl rfl) (.c (.e rfl rfl) (.x16 (.c .a (.c (.e rfl rfl) (.c .a .n))))))))) .n⟩
   ·
    refine cnd n26 (fun h8 => ?_) (fun h8 => ?_)
    ·
     replace hm := ct h8 hm
     refine sr <| m (as_ .b) u2 <| e ?_
     replace hm := inl1 hm hq1
     subst hm
     exact rt (ret1 (.t n2 (.p rfl) .n) rfl)
    ·
     replace hm := cf h8 hm
     refine skp ?_
     refine rg <| m (add (.t n8) (.i rfl)) u27 <| m (mv (.t n27)) u8 <| e ?_
     exact ⟨i0 + 1, hm, le [] (by decide) (.x4 (.x2 (.c (.e rfl rfl) (.c (.e rfl rfl) (.c (.e (wi (by omega)) rfl) (.x16 (.x2 (.c .a .n)))))))) .n⟩
  ·
   replace hm := cf h3 hm
   have h3d := of_decide_eq_false h3
   refine ex (x1 ?_)
   replace hm := inr1 hm hq1
   exact ⟨(), hm, le [] (by decide) (.x16 (.x8 (.x4 .n))) .n⟩
 ·
  refine sr <| m (as_ .b) u2 <| e ?_
  replace hm := sj hm
  subst hm
  exact rt (ret1 (.t n2 (.p rfl) .n) rfl)

theorem tot_impl_GuessesWithin (w_ : D.World)  : Spec Tryz.prog G0 51 [.agg (D.World.V w_)] (fun v => v = .bool (guessesWithinF w_)) := sp_impl_GuessesWithin w_ _ (t_impl_GuessesWithin w_)

theorem sp_impl_IsCutOff (w_ : D.World) (device_ : Int) (r : Bool) (hm : m_impl_IsCutOff w_ device_ = some r) : Spec Tryz.prog G0 116 [.agg (D.World.V w_), .int .i64 device_] (fun v => v = .bool r) := by
 rw [m_impl_IsCutOff] at hm
 refine enter (l := [.tmp 4]) Tryz.func116 rfl Tryz.ntmps116 rfl T.en116 fun E => ?_
 simp only [List.length_cons, List.length_nil, List.replicate_succ, List.replicate_zero, List.cons_append, List.nil_append, Nat.reduceAdd, Nat.reduceSub]
 refine sr <| k (bx rfl s0 u2 (.t n0)) <| m (as_ .b) u4 <| e ?_
 refine sd none [(0, true), (1, true), (2, false), (3, true), (4, true), (5, true), (6, true), (7, true), (8, true), (9, true), (10, true), (11, true), (12, true), (13, false), (14, false), (15, true), (16, true)] T.mix (by kernel_rfl) <| rob hm (fun j0_4 : Bool => ⟨[.any, .any, .any, .any, .bool j0_4, .any, .any, .any, .any, .any, .any, .any, .any, .any, .any, .any, .any, .any, .any, .any, .any], []⟩) (fun _ hm hq1 => ?_) (fun j0_4 hm => ?_)
 ·
  refine om n0 (lab T.a57 n0 d0 k16 (.t n2)) u5 <| om n1 (mv (.t n1)) u6 <| oc n2 (call (tot_impl_hasDevice w_ device_) (.c (.t n5) rfl (.c (.t n6) rfl .n))) u7 <| om n3 (mv (.t n7)) u8 <| osp n8 u8 u8 (fun h2 => ?_) (fun h2 => ?_)
  ·
   replace hm := ct h2 hm
   obtain ⟨z3, e4, hm⟩ := bd_some hm
   refine omg n4 n3 rfl n8 (fab 4 rfl T.f57_4 (.t n2)) u9 <| omg n5 n3 rfl n8 (fab 4 rfl T.f49_0 (.t n9)) u10 <| omg n6 n3 rfl n8 (ldb T.o43 n0 n4 (.t n10)) u11 <| omg n7 n3 rfl n8 (fab 2 rfl T.f57_2 (.t n2)) u12 <| omg n8 n3 rfl n8 (ldb T.o42 n0 n2 (.t n12)) u13 <| omg n9 n3 rfl n8 (mv (.t n1)) u14 <| omg n10 n3 rfl n8 (ixq (f := D.Device.V) e4 T.s42 (.t n13) (.t n14)) u15 <| omg n11 n3 rfl n8 (fae T.f118_0 d0 (.t n15)) u16 <| omg n12 n3 rfl n8 (lae T.a113 k4 (.t n16)) u17 <| ocg n13 n3 rfl n8 (call (tot_impl_DevicePublic z3.Store) (.c (.t n17) rfl .n)) u18 <| ocg n14 n3 rfl n8 (call (tot_impl_wasRemoved w_.Cloud.Log (devPubF z3.Store)) (.c (.t n11) rfl (.c (.t n18) rfl .n))) u19 <| om n15 (pkt (.t n8) (.t n19)) u20 <| om n16 (as_ (.t n20)) u4 <| oe ?_
   replace hm := sj hm
   subst hm
   have hm := hq1
   exact ⟨(removedF w_.Cloud.Log (devPubF z3.Store)), hm, le [] (by decide) (.x4 (.c (.e rfl rfl) (.x16 .n))) .n⟩
  ·
   replace hm := cf h2 hm
   refine os n4 n3 rfl n8 rfl u9 <| os n5 n3 rfl n8 rfl u10 <| os n6 n3 rfl n8 rfl u11 <| os n7 n3 rfl n8 rfl u12 <| os n8 n3 rfl n8 rfl u13 <| os n9 n3 rfl n8 rfl u14 <| os n10 n3 rfl n8 rfl u15 <| os n11 n3 rfl n8 rfl u16 <| os n12 n3 rfl n8 rfl u17 <| osf n13 n3 rfl n8 rfl u18 <| osf n14 n3 rfl n8 rfl u19 <| om n15 (pkf (.t n8) .b) u20 <| om n16 (as_ (.t n20)) u4 <| oe ?_
   replace hm := sj hm
   subst hm
   have hm := hq1
   exact ⟨false, hm, le [] (by decide) (.x4 (.c (.e rfl rfl) (.x16 .n))) .n⟩
 ·
  replace hm := sj hm
  subst hm
  exact rt (ret1 (.t n4 (.p rfl) .n) rfl)

theorem tot_impl_IsCutOff (w_ : D.World) (device_ : Int)  : Spec Tryz.prog G0 116 [.agg (D.World.V w_), .int .i64 device_] (fun v => v = .bool (isCutF w_ device_)) := sp_impl_IsCutOff w_ device_ _ (t_impl_IsCutOff w_ device_)

theorem sp_impl_CutIsFinal (w_ : D.World) (device_ : Int) (r : Bool) (hm : m_impl_CutIsFinal w_ device_ = some r) : Spec Tryz.prog G0 52 [.agg (D.World.V w_), .int .i64 device_] (fun v => v = .bool r) := by
 rw [m_impl_CutIsFinal] at hm
 refine enter (l := [.tmp 4]) Tryz.func52 rfl Tryz.ntmps52 rfl T.en52 fun E => ?_
 simp only [List.length_cons, List.length_nil, List.replicate_succ, List.replicate_zero, List.cons_append, List.nil_append, Nat.reduceAdd, Nat.reduceSub]
 refine sr <| k (bx rfl s0 u2 (.t n0)) <| m (as_ .b) u4 <| e ?_
 refine sq ?_
 refine sr <| m (lab T.a57 n0 d0 k16 (.t n2)) u10 <| m (mv (.t n1)) u11 <| c (call (tot_impl_IsCutOff w_ device_) (.c (.t n10) rfl (.c (.t n11) rfl .n))) u12 <| m (not_ (.t n12)) u13 <| e ?_
 refine cnd n13 (fun h1 => ?_) (fun h1 => ?_)
 ·
  replace hm := ct h1 hm
  refine sr <| m (as_ .b) u4 <| e ?_
  replace hm := sj hm
  subst hm
  exact rt (ret1 (.t n4 (.p rfl) .n) rfl)
 ·
  replace hm := cf h1 hm
  refine skp ?_
  refine sq ?_
  obtain ⟨c2, hm⟩ := gd_some hm
  refine sr <| m (lab T.a57 n0 d0 k16 (.t n2)) u14 <| m (mv (.t n1)) u15 <| c (call (tot_impl_InList w_ device_ c2) (.c (.t n14) rfl (.c (.t n15) rfl .n))) u16 <| e ?_
  refine cnd n16 (fun h3 => ?_) (fun h3 => ?_)
  ·
   replace hm := ct h3 hm
   refine sr <| m (as_ .b) u4 <| e ?_
   replace hm := sj hm
   subst hm
   exact rt (ret1 (.t n4 (.p rfl) .n) rfl)
  ·
   replace hm := cf h3 hm
   refine skp ?_
   refine sq ?_
   obtain ⟨c4, hm⟩ := gd_some hm
   refine sr <| m (fab 8 rfl T.f57_5 (.t n2)) u17 <| m (ldb T.o50 n0 n8 (.t n17)) u18 <| m (fab 8 rfl T.f57_5 (.t n2)) u19 <| m (ldb T.o50 n0 n8 (.t n19)) u20 <| m (lenm (l := w_.Sites) (f := D.Site.V) T.s50 (.t n20)) u21 <| m (mn2 (.i rfl) (.t n21)) u22 <| m (slq1 (l := w_.Sites) (f := D.Site.V) c4 T.s50 (.t n18) (.t n22)) u23 <| m (lenm (l := (w_.Sites.take (if (w_.Sites.length : Int) < (2 : Int) then (w_.Sites.length : Int) else (2 : Int)).toNat)) (f := D.Site.V) T.s50 (.t n23)) u24 <| m (mv (.i rfl)) u25 <| e ?_
   refine jmx hm (fun _ : Unit => ⟨[.any, .any, .any, .any, .any, .any, .any, .any, .any, .any, .any, .any, .any, .any, .any, .any, .any, .any, .any, .any, .any, .any, .any, .any, .any, .any, .any, .any, .any, .any, .any, .any, .any, .any, .any, .any, .any, .any, .any, .any, .any, .any, .any, .any, .any, .any, .any, .any, .any, .any, .any, .any, .any, .any, .any], []⟩) (fun _ hm hq5 => ?_) (fun _ hm => ?_)
   ·
    refine bk ?_
    refine lpf (m := m_impl_CutIsFinal_l0 w_ device_) hm (fun i0 : Nat => ⟨[.any, .int .i64 device_, .any, .any, .any, .any, .any, .any, .any, .any, .any, .any, .any, .any, .any, .any, .any, .any, .any, .any, .any, .any, .any, .slice 6 ((w_.Sites.take (if (w_.Sites.length : Int) < (2 : Int) then (w_.Sites.length : Int) else (2 : Int)).toNat).map D.Site.V), .int .i64 ((w_.Sites.take (if (w_.Sites.length : Int) < (2 : Int) then (w_.Sites.length : Int) else (2 : Int)).toNat).length : Int), .int .i64 (i0 : Int), .any, .any, .any, .any, .any, .any, .any, .any, .any, .any, .any, .any, .any, .any, .any, .any, .any, .any, .any, .any, .any, .any, .any, .any, .any, .any, .any, .any, .any], []⟩) (fun _ => rfl) (le [] (by decide) (.c .a (.c (.e rfl rfl) (.x16 (.x4 (.c .a (.c (.e rfl rfl) (.c (.e rfl rfl) (.c (.e rfl rfl) (.x16 (.x8 (.x4 (.c .a .n)))))))))))) .n) ?_
    rintro f i0 hm
    rw [m_impl_CutIsFinal_l0] at hm
    refine sr <| m (lss (.t n25) (.t n24)) u26 <| e ?_
    refine rng n24 fun _ ra6 => ?_
    replace ra6 := (show (_ : Int) ≤ 9223372036854775807 from ra6)
    refine sq ?_
    refine cnd n26 (fun h7 => ?_) (fun h7 => ?_)
    ·
     replace hm := ct h7 hm
     have h7d := of_decide_eq_true h7
     refine skp ?_
     refine sq ?_
     refine jmx hm (fun _ : Unit => ⟨[.any, .int .i64 device_, .any, .any, .any, .any, .any, .any, .any, .any, .any, .any, .any, .any, .any, .any, .any, .any, .any, .any, .any, .any, .any, .slice 6 ((w_.Sites.take (if (w_.Sites.length : Int) < (2 : Int) then (w_.Sites.length : Int) else (2 : Int)).toNat).map D.Site.V), .int .i64 ((w_.Sites.take (if (w_.Sites.length : Int) < (2 : Int) then (w_.Sites.length : Int) else (2 : Int)).toNat).length : Int), .int .i64 (i0 : Int), .any, .any, .any, .any, .any, .any, .any, .any, .any, .any, .any, .any, .any, .any, .any, .any, .any, .any, .any, .any, .any, .any, .any, .any, .any, .any, .any, .any, .any], []⟩) (fun _ hm hq8 => ?_) (fun _ hm => ?_)
     ·
      refine bk ?_
      obtain ⟨z9, e10, hm⟩ := bd_some hm
      refine sr <| m (ixq (f := D.Site.V) e10 T.s50 (.t n23) (.t n25)) u27 <| m (lae T.a152 k6 (.t n27)) u28 <| k (al T.z152 s0 u6) <| k (sta T.a152 rfl rfl n0 (.z (.z (.z (.z (.z (.z .n)))))) q0 (.t n6) (.t n28)) <| e ?_
      refine sr <| m (lab T.a152 n0 d0 k6 (.t n6)) u29 <| c (call (tot_impl_FindAccount z9 (1 : Int)) (.c (.t n29) rfl (.c (.i rfl) rfl .n))) u30 <| m (as_ (.t n30)) u7 <| e ?_
      refine sq ?_
      refine sr <| m (mv (.t n7)) u31 <| m (lss (.t n31) (.i rfl)) u32 <| e ?_
      refine cnd n32 (fun h11 => ?_) (fun h11 => ?_)
      ·
       replace hm := ct h11 hm
       refine ex (x1 ?_)
       replace hm := inr1 hm hq8
       exact ⟨(), hm, le [] (by decide) (.c .a (.c (.e rfl rfl) (.x16 (.x4 (.c .a (.c (.e rfl rfl) (.c (.e rfl rfl) (.c (.e rfl rfl) (.x16 (.x8 (.x4 (.c .a .n)))))))))))) .n⟩
      ·
       replace hm := cf h11 hm
       refine skp ?_
       obtain ⟨z12, e13, hm⟩ := bd_some hm
       refine sr <| m (fab 1 rfl T.f152_1 (.t n6)) u33 <| m (ldb T.o147 n0 n1 (.t n33)) u34 <| m (mv (.t n7)) u35 <| m (ixq (f := D.Account.V) e13 T.s147 (.t n34) (.t n35)) u36 <| m (fae T.f174_2 d2 (.t n36)) u37 <| m (lde T.o172 n0 (.t n37)) u38 <| m (lenm (l := z12.Credentials) (f := D.Credential.V) T.s172 (.t n38)) u39 <| m (mv (.i rfl)) u40 <| e ?_
       refine jmx hm (fun _ : Unit => ⟨[.any, .int .i64 device_, .any, .any, .any, .any, .any, .any, .any, .any, .any, .any, .any, .any, .any, .any, .any, .any, .any, .any, .any, .any, .any, .slice 6 ((w_.Sites.take (if (w_.Sites.length : Int) < (2 : Int) then (w_.Sites.length : Int) else (2 : Int)).toNat).map D.Site.V), .int .i64 ((w_.Sites.take (if (w_.Sites.length : Int) < (2 : Int) then (w_.Sites.length : Int) else (2 : Int)).toNat).length : Int), .int .i64 (i0 : Int), .any, .any, .any, .any, .any, .any, .any, .any, .any, .any, .any, .any, .any, .any, .any, .any, .any, .any, .any, .any, .any, .any, .any, .any, .any, .any, .any, .any, .any], []⟩) (fun _ hm hq14 => ?_) (fun _ hm => ?_)
       ·
        refine bk ?_
        refine lpf (m := m_impl_CutIsFinal_l1 device_ z12) hm (fun i1 : Nat => ⟨[.any, .int .i64 device_, .any, .any, .any, .any, .any, .any, .any, .any, .any, .any, .any, .any, .any, .any, .any, .any, .any, .any, .any, .any, .any, .slice 6 ((w_.Sites.take (if (w_.Sites.length : Int) < (2 : Int) then (w_.Sites.length : Int) else (2 : Int)).toNat).map D.Site.V), .int .i64 ((w_.Sites.take (if (w_.Sites.length : Int) < (2 : Int) then (w_.Sites.length : Int) else (2 : Int)).toNat).length : Int), .int .i64 (i0 : Int), .any, .any, .any, .any, .any, .any, .any, .any, .any, .any, .any, .any, .slice 4 (z12.Credentials.map D.Credential.V), .int .i64 (z12.Credentials.length : Int), .int .i64 (i1 : Int), .any, .any, .any, .any, .any, .any, .any, .any, .any, .any, .any, .any, .any, .any], []⟩) (fun _ => rfl) (le [] (by decide) (.c .a (.c (.e rfl rfl) (.x16 (.x4 (.c .a (.c (.e rfl rfl) (.c (.e rfl rfl) (.c (.e rfl rfl) (.x8 (.x4 (.c (.e rfl rfl) (.c (.e rfl rfl) (.c (.e rfl rfl) (.x8 (.x4 (.x2 .n)))))))))))))))) .n) ?_
        rintro f i1 hm
        rw [m_impl_CutIsFinal_l1] at hm
        refine sr <| m (lss (.t n40) (.t n39)) u41 <| e ?_
        refine rng n39 fun _ ra15 => ?_
        replace ra15 := (show (_ : Int) ≤ 9223372036854775807 from ra15)
        refine sq ?_
        refine cnd n41 (fun h16 => ?_) (fun h16 => ?_)
        ·
         replace hm := ct h16 hm
         have h16d := of_decide_eq_true h16
         refine skp ?_
         refine sq ?_
         refine bk ?_
         obtain ⟨z17, e18, hm⟩ := bd_some hm
         refine sr <| m (ixq (f := D.Credential.V) e18 T.s172 (.t n38) (.t n40)) u42 <| m (lae T.a176 k4 (.t n42)) u43 <| k (al T.z176 s0 u9) <| k (sta T.a176 rfl rfl n0 (.z (.z (.z (.z .n)))) q0 (.t n9) (.t n43)) <| e ?_
         refine sr <| rjb hm (fun j3_52 : Bool => ⟨[.any, .int .i64 device_, .any, .any, .any, .any, .any, .any, .any, .any, .any, .any, .any, .any, .any, .any, .any, .any, .any, .any, .any, .any, .any, .slice 6 ((w_.Sites.take (if (w_.Sites.length : Int) < (2 : Int) then (w_.Sites.length : Int) else (2 : Int)).toNat).map D.Site.V), .int .i64 ((w_.Sites.take (if (w_.Sites.length : Int) < (2 : Int) then (w_.Sites.length : Int) else (2 : Int)).toNat).length : Int), .int .i64 (i0 : Int), .any, .any, .any, .any, .any, .any, .any, .any, .any, .any, .any, .any, .slice 4 (z12.Credentials.map D.Credential.V), .int .i64 (z12.Credentials.length : Int), .int .i64 (i1 : Int), .any, .any, .any, .any, .any, .any, .any, .any, .any, .any, .any, .bool j3_52, .any, .any], []⟩) (fun _ hm hq19 => ?_) (fun j3_52 hm => ?_)
         ·
          refine m (fab 0 rfl T.f176_0 (.t n9)) u44 <| m (ldb T.o3 n0 n0 (.t n44)) u45 <| m (mv (.t n1)) u46 <| m (eql (.t n45) (.t n46)) u47 <| m (mv (.t n47)) u48 <| sp n48 u48 u48 (fun h20 => ?_) (fun h20 => ?_)
          ·
           replace hm := ct h20 hm
           refine mg n4 rfl n48 (fab 3 rfl T.f176_3 (.t n9)) u49 <| mg n4 rfl n48 (ldb T.o4 n0 n3 (.t n49)) u50 <| mg n4 rfl n48 (not_ (.t n50)) u51 <| m (pkt (.t n48) (.t n51)) u52 <| e ?_
           replace hm := sj hm
           subst hm
           have hm := hq19
           exact ⟨(!z17.Cut), hm, le [] (by decide) (.c .a (.c (.e rfl rfl) (.x16 (.x4 (.c .a (.c (.e rfl rfl) (.c (.e rfl rfl) (.c (.e rfl rfl) (.x8 (.x4 (.c (.e rfl rfl) (.c (.e rfl rfl) (.c (.e rfl rfl) (.x8 (.x2 (.c .a (.c (.e rfl rfl) (.x2 .n)))))))))))))))))) .n⟩
          ·
           replace hm := cf h20 hm
           refine sk n4 rfl n48 rfl u49 <| sk n4 rfl n48 rfl u50 <| sk n4 rfl n48 rfl u51 <| m (pkf (.t n48) .b) u52 <| e ?_
           replace hm := sj hm
           subst hm
           have hm := hq19
           exact ⟨false, hm, le [] (by decide) (.c .a (.c (.e rfl rfl) (.x16 (.x4 (.c .a (.c (.e rfl rfl) (.c (.e rfl rfl) (.c (.e rfl rfl) (.x8 (.x4 (.c (.e rfl rfl) (.c (.e rfl rfl) (.c (.e rfl rfl) (.x8 (.x2 (.c .a (.c (.e rfl rfl) (.x2 .n)))))))))))))))))) .n⟩
         ·
          refine cnd n52 (fun h21 => ?_) (fun h21 => ?_)
          ·
           replace hm := ct h21 hm
           refine sr <| m (as_ .b) u4 <| e ?_
           replace hm := inl1 hm hq14
           replace hm := inl2 hm hq8
           replace hm := inl2 hm hq5
           subst hm
           exact rt (ret1 (.t n4 (.p rfl) .n) rfl)
          ·
           replace hm := cf h21 hm
           refine skp ?_
           refine rg <| m (add (.t n40) (.i rfl)) u53 <| m (mv (.t n53)) u40 <| e ?_
           exact ⟨i1 + 1, hm, le [] (by decide) (.c .a (.c (.e rfl rfl) (.x16 (.x4 (.c .a (.c (.e rfl rfl) (.c (.e rfl rfl) (.c (.e rfl rfl) (.x8 (.x4 (.c (.e rfl rfl) (.c (.e rfl rfl) (.c (.e (wi (by omega)) rfl) (.x8 (.x4 (.x2 .n)))))))))))))))) .n⟩
        ·
         replace hm := cf h16 hm
         have h16d := of_decide_eq_false h16
         refine ex (x1 ?_)
         replace hm := inr1 hm hq14
         exact ⟨(), hm, le [] (by decide) (.c .a (.c (.e rfl rfl) (.x16 (.x4 (.c .a (.c (.e rfl rfl) (.c (.e rfl rfl) (.c (.e rfl rfl) (.x16 (.x8 (.x4 (.c .a .n)))))))))))) .n⟩
       ·
        replace hm := inr1 hm hq8
        exact ⟨(), hm, le [] (by decide) (.c .a (.c (.e rfl rfl) (.x16 (.x4 (.c .a (.c (.e rfl rfl) (.c (.e rfl rfl) (.c (.e rfl rfl) (.x16 (.x8 (.x4 (.c .a .n)))))))))))) .n⟩
     ·
      refine rg <| m (add (.t n25) (.i rfl)) u54 <| m (mv (.t n54)) u25 <| e ?_
      exact ⟨i0 + 1, hm, le [] (by decide) (.c .a (.c (.e rfl rfl) (.x16 (.x4 (.c .a (.c (.e rfl rfl) (.c (.e rfl rfl) (.c (.e (wi (by omega)) rfl) (.x16 (.x8 (.x4 (.c .a .n)))))))))))) .n⟩
    ·
     replace hm := cf h7 hm
     have h7d := of_decide_eq_false h7
     refine ex (x1 ?_)
     replace hm := inr1 hm hq5
     exact ⟨(), hm, le [] (by decide) (.x32 (.x16 (.x4 (.x2 (.c .a .n))))) .n⟩
   ·
    refine sr <| m (as_ .b) u4 <| e ?_
    replace hm := sj hm
    subst hm
    exact rt (ret1 (.t n4 (.p rfl) .n) rfl)

theorem tot_impl_CutIsFinal (w_ : D.World) (device_ : Int) (hp0 : WOk w_) : Spec Tryz.prog G0 52 [.agg (D.World.V w_), .int .i64 device_] (fun v => v = .bool (cutFinalF w_ device_)) := sp_impl_CutIsFinal w_ device_ _ (t_impl_CutIsFinal w_ device_ hp0)

theorem sp_impl_KeysAgree (w_ : D.World) (device_ : Int) (r : Bool) (hm : m_impl_KeysAgree w_ device_ = some r) : Spec Tryz.prog G0 53 [.agg (D.World.V w_), .int .i64 device_] (fun v => v = .bool r) := by
 rw [m_impl_KeysAgree] at hm
 refine enter (l := [.tmp 4]) Tryz.func53 rfl Tryz.ntmps53 rfl T.en53 fun E => ?_
 simp only [List.length_cons, List.length_nil, List.replicate_succ, List.replicate_zero, List.cons_append, List.nil_append, Nat.reduceAdd, Nat.reduceSub]
 refine sr <| k (bx rfl s0 u2 (.t n0)) <| m (as_ .b) u4 <| e ?_
 refine sq ?_
 refine sr <| m (lab T.a57 n0 d0 k16 (.t n2)) u8 <| m (mv (.t n1)) u9 <| c (call (tot_impl_hasDevice w_ device_) (.c (.t n8) rfl (.c (.t n9) rfl .n))) u10 <| m (not_ (.t n10)) u11 <| e ?_
 refine cnd n11 (fun h1 => ?_) (fun h1 => ?_)
 ·
  replace hm := ct h1 hm
  refine sr <| m (as_ .b) u4 <| e ?_
  replace hm := sj hm
  subst hm
  exact rt (ret1 (.t n4 (.p rfl) .n) rfl)
 ·
  replace hm := cf h1 hm
  refine skp ?_
  obtain ⟨z2, e3, hm⟩ := bd_some hm
  refine sr <| m (fab 2 rfl T.f57_2 (.t n2)) u12 <| m (ldb T.o42 n0 n2 (.t n12)) u13 <| m (mv (.t n1)) u14 <| m (ixq (f := D.Device.V) e3 T.s42 (.t n13) (.t n14)) u15 <| m (lae T.a118 k9 (.t n15)) u16 <| k (al T.z118 s1 u5) <| k (sta T.a118 rfl rfl n1 (.z (.z (.z (.z (.z (.z (.z (.z (.z .n))))))))) q1 (.t n5) (.t n16)) <| e ?_
  refine sr <| m (fab 0 rfl T.f118_0 (.t n5)) u18 <| m (lab T.a113 n1 d0 k4 (.t n18)) u19 <| m (fab 4 rfl T.f57_4 (.t n2)) u20 <| m (fab 5 rfl T.f49_1 (.t n20)) u21 <| m (lab T.a46 n0 d5 k2 (.t n21)) u22 <| c (call (tot_impl_OpenEpochBoxes z2.Store w_.Cloud.Boxes) (.c (.t n19) rfl (.c (.t n22) rfl .n))) u23 <| m (mv (.t n23)) u17 <| m (ext_ n0 (.t n17)) u24 <| m (ext_ n1 (.t n17)) u25 <| m (as_ (.t n24)) u6 <| m (as_ (.t n25)) u7 <| e ?_
  refine sd none [(0, true), (1, true), (2, false), (3, true), (4, true), (5, true), (6, true), (7, true), (8, true), (9, true), (10, false), (11, true), (12, true), (13, true), (14, true), (15, true), (16, true), (17, true), (18, true), (19, true)] T.mix (by kernel_rfl) <| rob hm (fun j0_4 : Bool => ⟨[.any, .any, .any, .any, .bool j0_4, .any, .any, .any, .any, .any, .any, .any, .any, .any, .any, .any, .any, .any, .any, .any, .any, .any, .any, .any, .any, .any, .any, .any, .any, .any, .any, .any, .any, .any, .any, .any, .any, .any, .any, .any, .any, .any, .any, .any, .any], []⟩) (fun _ hm hq4 => ?_) (fun j0_4 hm => ?_)
  ·
   obtain ⟨c5, hm⟩ := gd_some hm
   refine om n0 (lab T.a57 n0 d0 k16 (.t n2)) u26 <| om n1 (mv (.t n1)) u27 <| oc n2 (call (tot_impl_InList w_ device_ c5) (.c (.t n26) rfl (.c (.t n27) rfl .n))) u28 <| om n3 (not_ (.t n28)) u29 <| om n4 (mv (.t n29)) u30 <| osp n30 u30 u30 (fun h6 => ?_) (fun h6 => ?_)
   ·
    replace hm := ct h6 hm
    refine os n5 n4 rfl n30 rfl u31 <| os n6 n4 rfl n30 rfl u32 <| os n7 n4 rfl n30 rfl u33 <| os n8 n4 rfl n30 rfl u34 <| os n9 n4 rfl n30 rfl u35 <| osf n10 n4 rfl n30 rfl u36 <| os n11 n4 rfl n30 rfl u37 <| om n12 (pkt (.t n30) .b) u38 <| om n13 (mv (.t n38)) u39 <| os n14 n13 rfl n39 rfl u40 <| os n15 n13 rfl n39 rfl u41 <| os n16 n13 rfl n39 rfl u42 <| os n17 n13 rfl n39 rfl u43 <| om n18 (pkt (.t n39) .b) u44 <| om n19 (as_ (.t n44)) u4 <| oe ?_
    replace hm := sj hm
    subst hm
    have hm := hq4
    exact ⟨true, hm, le [] (by decide) (.x4 (.c (.e rfl rfl) (.x32 (.x8 .n)))) .n⟩
   ·
    replace hm := cf h6 hm
    refine omg n5 n4 rfl n30 (fab 6 rfl T.f118_3 (.t n5)) u31 <| omg n6 n4 rfl n30 (ldb T.o3 n1 n6 (.t n31)) u32 <| omg n7 n4 rfl n30 (fab 4 rfl T.f57_4 (.t n2)) u33 <| omg n8 n4 rfl n30 (fab 4 rfl T.f49_0 (.t n33)) u34 <| omg n9 n4 rfl n30 (ldb T.o43 n0 n4 (.t n34)) u35 <| ocg n10 n4 rfl n30 (call (tot_impl_EpochOf w_.Cloud.Log) (.c (.t n35) rfl .n)) u36 <| omg n11 n4 rfl n30 (neq (.t n32) (.t n36)) u37 <| om n12 (pkf (.t n30) (.t n37)) u38 <| om n13 (mv (.t n38)) u39 <| osp n39 u39 u39 (fun h7 => ?_) (fun h7 => ?_)
    ·
     replace hm := ct h7 hm
     refine os n14 n13 rfl n39 rfl u40 <| os n15 n13 rfl n39 rfl u41 <| os n16 n13 rfl n39 rfl u42 <| os n17 n13 rfl n39 rfl u43 <| om n18 (pkt (.t n39) .b) u44 <| om n19 (as_ (.t n44)) u4 <| oe ?_
     replace hm := sj hm
     subst hm
     have hm := hq4
     exact ⟨true, hm, le [] (by decide) (.x4 (.c (.e rfl rfl) (.x32 (.x8 .n)))) .n⟩
    ·
     replace hm := cf h7 hm
     refine omg n14 n13 rfl n39 (fab 5 rfl T.f118_2 (.t n5)) u40 <| omg n15 n13 rfl n39 (ldb T.o3 n1 n5 (.t n40)) u41 <| omg n16 n13 rfl n39 (mv (.t n6)) u42 <| omg n17 n13 rfl n39 (eql (.t n41) (.t n42)) u43 <| om n18 (pkf (.t n39) (.t n43)) u44 <| om n19 (as_ (.t n44)) u4 <| oe ?_
     replace hm := sj hm
     subst hm
     have hm := hq4
     exact ⟨(z2.Key == (openEpochF z2.Store w_.Cloud.Boxes).1), hm, le [] (by decide) (.x4 (.c (.e rfl rfl) (.x32 (.x8 .n)))) .n⟩
  ·
   replace hm := sj hm
   subst hm
   exact rt (ret1 (.t n4 (.p rfl) .n) rfl)

theorem tot_impl_KeysAgree (w_ : D.World) (device_ : Int) (hp0 : WOk w_) : Spec Tryz.prog G0 53 [.agg (D.World.V w_), .int .i64 device_] (fun v => v = .bool (keysAgreeF w_ device_)) := sp_impl_KeysAgree w_ device_ _ (t_impl_KeysAgree w_ device_ hp0)

theorem sp_impl_AuditWorld (w_ : D.World) (r : Bool) (hm : m_impl_AuditWorld w_ = some r) : Spec Tryz.prog G0 14 [.agg (D.World.V w_)] (fun v => v = .bool r) := by
 rw [m_impl_AuditWorld] at hm
 refine enter (l := [.tmp 2]) Tryz.func14 rfl Tryz.ntmps14 rfl T.en14 fun E => ?_
 simp only [List.length_cons, List.length_nil, List.replicate_succ, List.replicate_zero, List.cons_append, List.nil_append, Nat.reduceAdd, Nat.reduceSub]
 refine sr <| k (bx rfl s0 u1 (.t n0)) <| m (as_ .b) u2 <| e ?_
 refine sq ?_
 refine sr <| rjb hm (fun j0_11 : Bool => ⟨[.any, .box 0 0, .any, .any, .any, .any, .any, .any, .any, .any, .any, .bool j0_11, .any, .any, .any, .any, .any, .any, .any, .any, .any, .any, .any, .any, .any, .any, .any, .any, .any], [.box 57 [.int .i64 w_.Now, .int .i64 w_.Seed, .slice 9 (w_.Devices.map D.Device.V), .slice 1 (w_.Stolen.map bV), .slice 6 (w_.Cloud.Log.map D.LogEntry.V), .int .i64 w_.Cloud.Boxes.Epoch, .slice 4 (w_.Cloud.Boxes.Boxes.map D.Box.V), .slice 4 (w_.Cloud.History.map D.SealedBundle.V), .slice 6 (w_.Sites.map D.Site.V), .int .i64 w_.Vault.Salt, .int .i64 w_.Vault.Threshold, .int .i64 w_.Vault.Check, .int .i64 w_.Vault.Masked, .slice 7 (w_.Hosts.map D.KeeperHost.V), .int .i64 w_.Pin, .slice 4 (w_.Mail.Notices.map D.Notice.V)]]⟩) (fun _ hm hq1 => ?_) (fun j0_11 hm => ?_)
 ·
  obtain ⟨c2, hm⟩ := gd_some hm
  refine m (lab T.a57 n0 d0 k16 (.t n1)) u4 <| c (call (tot_impl_IsValidWorld w_ c2) (.c (.t n4) rfl .n)) u5 <| m (not_ (.t n5)) u6 <| m (mv (.t n6)) u7 <| sp n7 u7 u7 (fun h3 => ?_) (fun h3 => ?_)
  ·
   replace hm := ct h3 hm
   refine sk n3 rfl n7 rfl u8 <| sk n3 rfl n7 rfl u9 <| sk n3 rfl n7 rfl u10 <| m (pkt (.t n7) .b) u11 <| e ?_
   replace hm := sj hm
   subst hm
   have hm := hq1
   exact ⟨true, hm, le [0] (by decide) (.c .a (.c (.b n0) (.x8 (.c .a (.c (.e rfl rfl) (.x16 (.c .a .n))))))) (.b n0 (.c (.e rfl rfl) (.c (.e rfl rfl) (.c (.e rfl rfl) (.c (.e rfl rfl) (.c (.e rfl rfl) (.c (.e rfl rfl) (.c (.e rfl rfl) (.c (.e rfl rfl) (.c (.e rfl rfl) (.c (.e rfl rfl) (.c (.e rfl rfl) (.c (.e rfl rfl) (.c (.e rfl rfl) (.c (.e rfl rfl) (.c (.e rfl rfl) (.c (.e rfl rfl) .n)))))))))))))))) .n)⟩
  ·
   replace hm := cf h3 hm
   refine mg n3 rfl n7 (lab T.a57 n0 d0 k16 (.t n1)) u8 <| cg n3 rfl n7 (call (tot_impl_GuessesWithin w_) (.c (.t n8) rfl .n)) u9 <| mg n3 rfl n7 (not_ (.t n9)) u10 <| m (pkf (.t n7) (.t n10)) u11 <| e ?_
   replace hm := sj hm
   subst hm
   have hm := hq1
   exact ⟨(!(guessesWithinF w_)), hm, le [0] (by decide) (.c .a (.c (.b n0) (.x8 (.c .a (.c (.e rfl rfl) (.x16 (.c .a .n))))))) (.b n0 (.c (.e rfl rfl) (.c (.e rfl rfl) (.c (.e rfl rfl) (.c (.e rfl rfl) (.c (.e rfl rfl) (.c (.e rfl rfl) (.c (.e rfl rfl) (.c (.e rfl rfl) (.c (.e rfl rfl) (.c (.e rfl rfl) (.c (.e rfl rfl) (.c (.e rfl rfl) (.c (.e rfl rfl) (.c (.e rfl rfl) (.c (.e rfl rfl) (.c (.e rfl rfl) .n)))))))))))))))) .n)⟩
 ·
  refine cnd n11 (fun h4 => ?_) (fun h4 => ?_)
  ·
   replace hm := ct h4 hm
   refine sr <| m (as_ .b) u2 <| e ?_
   replace hm := sj hm
   subst hm
   exact rt (ret1 (.t n2 (.p rfl) .n) rfl)
  ·
   replace hm := cf h4 hm
   refine skp ?_
   refine sq ?_
   refine sr <| m (fab 2 rfl T.f57_2 (.t n1)) u12 <| m (ldb T.o42 n0 n2 (.t n12)) u13 <| m (lenm (l := w_.Devices) (f := D.Device.V) T.s42 (.t n13)) u14 <| m (mv (.i rfl)) u15 <| e ?_
   refine jmx hm (fun _ : Unit => ⟨[.any, .any, .any, .any, .any, .any, .any, .any, .any, .any, .any, .any, .any, .any, .any, .any, .any, .any, .any, .any, .any, .any, .any, .any, .any, .any, .any, .any, .any], []⟩) (fun _ hm hq5 => ?_) (fun _ hm => ?_)
   ·
    refine bk ?_
    refine lpf (m := m_impl_AuditWorld_l0 w_) hm (fun i0 : Nat => ⟨[.any, .box 0 0, .any, .any, .any, .any, .any, .any, .any, .any, .any, .any, .any, .any, .int .i64 (w_.Devices.length : Int), .int .i64 (i0 : Int), .any, .any, .any, .any, .any, .any, .any, .any, .any, .any, .any, .any, .any], [.box 57 [.int .i64 w_.Now, .int .i64 w_.Seed, .slice 9 (w_.Devices.map D.Device.V), .slice 1 (w_.Stolen.map bV), .slice 6 (w_.Cloud.Log.map D.LogEntry.V), .int .i64 w_.Cloud.Boxes.Epoch, .slice 4 (w_.Cloud.Boxes.Boxes.map D.Box.V), .slice 4 (w_.Cloud.History.map D.SealedBundle.V), .slice 6 (w_.Sites.map D.Site.V), .int .i64 w_.Vault.Salt, .int .i64 w_.Vault.Threshold, .int .i64 w_.Vault.Check, .int .i64 w_.Vault.Masked, .slice 7 (w_.Hosts.map D.KeeperHost.V), .int .i64 w_.Pin, .slice 4 (w_.Mail.Notices.map D.Notice.V)]]⟩) (fun _ => rfl) (le [0] (by decide) (.c .a (.c (.b n0) (.x8 (.x4 (.c (.e rfl rfl) (.c (.e rfl rfl) (.x8 (.x4 (.c .a .n))))))))) (.b n0 (.c (.e rfl rfl) (.c (.e rfl rfl) (.c (.e rfl rfl) (.c (.e rfl rfl) (.c (.e rfl rfl) (.c (.e rfl rfl) (.c (.e rfl rfl) (.c (.e rfl rfl) (.c (.e rfl rfl) (.c (.e rfl rfl) (.c (.e rfl rfl) (.c (.e rfl rfl) (.c (.e rfl rfl) (.c (.e rfl rfl) (.c (.e rfl rfl) (.c (.e rfl rfl) .n)))))))))))))))) .n)) ?_
    rintro f i0 hm
    rw [m_impl_AuditWorld_l0] at hm
    refine sr <| m (lss (.t n15) (.t n14)) u16 <| e ?_
    refine rng n14 fun _ ra6 => ?_
    replace ra6 := (show (_ : Int) ≤ 9223372036854775807 from ra6)
    refine sq ?_
    refine cnd n16 (fun h7 => ?_) (fun h7 => ?_)
    ·
     replace hm := ct h7 hm
     have h7d := of_decide_eq_true h7
     refine skp ?_
     refine sq ?_
     refine bk ?_
     refine sr <| m (mv (.t n15)) u17 <| m (as_ (.t n17)) u3 <| e ?_
     refine sr <| rjb hm (fun j2_27 : Bool => ⟨[.any, .box 0 0, .any, .any, .any, .any, .any, .any, .any, .any, .any, .any, .any, .any, .int .i64 (w_.Devices.length : Int), .int .i64 (i0 : Int), .any, .any, .any, .any, .any, .any, .any, .any, .any, .any, .any, .bool j2_27, .any], [.box 57 [.int .i64 w_.Now, .int .i64 w_.Seed, .slice 9 (w_.Devices.map D.Device.V), .slice 1 (w_.Stolen.map bV), .slice 6 (w_.Cloud.Log.map D.LogEntry.V), .int .i64 w_.Cloud.Boxes.Epoch, .slice 4 (w_.Cloud.Boxes.Boxes.map D.Box.V), .slice 4 (w_.Cloud.History.map D.SealedBundle.V), .slice 6 (w_.Sites.map D.Site.V), .int .i64 w_.Vault.Salt, .int .i64 w_.Vault.Threshold, .int .i64 w_.Vault.Check, .int .i64 w_.Vault.Masked, .slice 7 (w_.Hosts.map D.KeeperHost.V), .int .i64 w_.Pin, .slice 4 (w_.Mail.Notices.map D.Notice.V)]]⟩) (fun _ hm hq8 => ?_) (fun j2_27 hm => ?_)
     ·
      obtain ⟨c9, hm⟩ := gd_some hm
      refine m (lab T.a57 n0 d0 k16 (.t n1)) u18 <| m (mv (.t n3)) u19 <| c (call (tot_impl_CutIsFinal w_ (i0 : Int) c9) (.c (.t n18) rfl (.c (.t n19) rfl .n))) u20 <| m (not_ (.t n20)) u21 <| m (mv (.t n21)) u22 <| sp n22 u22 u22 (fun h10 => ?_) (fun h10 => ?_)
      ·
       replace hm := ct h10 hm
       refine sk n4 rfl n22 rfl u23 <| sk n4 rfl n22 rfl u24 <| sk n4 rfl n22 rfl u25 <| sk n4 rfl n22 rfl u26 <| m (pkt (.t n22) .b) u27 <| e ?_
       replace hm := sj hm
       subst hm
       have hm := hq8
       exact ⟨true, hm, le [0] (by decide) (.c .a (.c (.b n0) (.x8 (.x4 (.c (.e rfl rfl) (.c (.e rfl rfl) (.x8 (.x2 (.c .a (.c (.e rfl rfl) (.c .a .n))))))))))) (.b n0 (.c (.e rfl rfl) (.c (.e rfl rfl) (.c (.e rfl rfl) (.c (.e rfl rfl) (.c (.e rfl rfl) (.c (.e rfl rfl) (.c (.e rfl rfl) (.c (.e rfl rfl) (.c (.e rfl rfl) (.c (.e rfl rfl) (.c (.e rfl rfl) (.c (.e rfl rfl) (.c (.e rfl rfl) (.c (.e rfl rfl) (.c (.e rfl rfl) (.c (.e rfl rfl) .n)))))))))))))))) .n)⟩
      ·
       replace hm := cf h10 hm
       obtain ⟨c11, hm⟩ := gd_some hm
       refine mg n4 rfl n22 (lab T.a57 n0 d0 k16 (.t n1)) u23 <| mg n4 rfl n22 (mv (.t n3)) u24 <| cg n4 rfl n22 (call (tot_impl_KeysAgree w_ (i0 : Int) c11) (.c (.t n23) rfl (.c (.t n24) rfl .n))) u25 <| mg n4 rfl n22 (not_ (.t n25)) u26 <| m (pkf (.t n22) (.t n26)) u27 <| e ?_
       replace hm := sj hm
       subst hm
       have hm := hq8
       exact ⟨(!(keysAgreeF w_ (i0 : Int))), hm, le [0] (by decide) (.c .a (.c (.b n0) (.x8 (.x4 (.c (.e rfl rfl) (.c (.e rfl rfl) (.x8 (.x2 (.c .a (.c (.e rfl rfl) (.c .a .n))))))))))) (.b n0 (.c (.e rfl rfl) (.c (.e rfl rfl) (.c (.e rfl rfl) (.c (.e rfl rfl) (.c (.e rfl rfl) (.c (.e rfl rfl) (.c (.e rfl rfl) (.c (.e rfl rfl) (.c (.e rfl rfl) (.c (.e rfl rfl) (.c (.e rfl rfl) (.c (.e rfl rfl) (.c (.e rfl rfl) (.c (.e rfl rfl) (.c (.e rfl rfl) (.c (.e rfl rfl) .n)))))))))))))))) .n)⟩
     ·
      refine cnd n27 (fun h12 => ?_) (fun h12 => ?_)
      ·
       replace hm := ct h12 hm
       refine sr <| m (as_ .b) u2 <| e ?_
       replace hm := inl1 hm hq5
       subst hm
       exact rt (ret1 (.t n2 (.p rfl) .n) rfl)
      ·
       replace hm := cf h12 hm
       refine skp ?_
       refine rg <| m (add (.t n15) (.i rfl)) u28 <| m (mv (.t n28)) u15 <| e ?_
       exact ⟨i0 + 1, hm, le [0] (by decide) (.c .a (.c (.b n0) (.x8 (.x4 (.c (.e rfl rfl) (.c (.e (wi (by omega)) rfl) (.x8 (.x4 (.c .a .n))))))))) (.b n0 (.c (.e rfl rfl) (.c (.e rfl rfl) (.c (.e rfl rfl) (.c (.e rfl rfl) (.c (.e rfl rfl) (.c (.e rfl rfl) (.c (.e rfl rfl) (.c (.e rfl rfl) (.c (.e rfl rfl) (.c (.e rfl rfl) (.c (.e rfl rfl) (.c (.e rfl rfl) (.c (.e rfl rfl) (.c (.e rfl rfl) (.c (.e rfl rfl) (.c (.e rfl rfl) .n)))))))))))))))) .n)⟩
    ·
     replace hm := cf h7 hm
     have h7d := of_decide_eq_false h7
     refine ex (x1 ?_)
     replace hm := inr1 hm hq5
     exact ⟨(), hm, le [] (by decide) (.x16 (.x8 (.x4 (.c .a .n)))) .n⟩
   ·
    refine sr <| m (as_ .b) u2 <| e ?_
    replace hm := sj hm
    subst hm
    exact rt (ret1 (.t n2 (.p rfl) .n) rfl)

theorem tot_impl_AuditWorld (w_ : D.World) (hp0 : WOk2 w_) : Spec Tryz.prog G0 14 [.agg (D.World.V w_)] (fun v => v = .bool (auditF w_)) := sp_impl_AuditWorld w_ _ (t_impl_AuditWorld w_ hp0)
end Go.VK
