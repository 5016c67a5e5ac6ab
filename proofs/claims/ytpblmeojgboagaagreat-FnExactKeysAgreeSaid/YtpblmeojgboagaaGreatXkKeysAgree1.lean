/-
  Printed by wip/tools (own work of this part): models of functions, walks over the value kit, and proofs.
-/
import Derived.Test.YtpblmeojgboagaaGreatXkKeysAgree0
set_option linter.unusedVariables false
set_option linter.unusedSimpArgs false
set_option maxRecDepth 100000
set_option maxHeartbeats 4000000
namespace Go.VK
open Go.RowKit Go.Proofs
theorem sp_impl_hasDevice (w_ : D.World) (device_ : Int) (r : Bool) (hm : m_impl_hasDevice w_ device_ = some r) : Spec Tryz.prog G0 56 [.agg (D.World.V w_), .int .i64 device_] (fun v => v = .bool r) := by
  rw [m_impl_hasDevice] at hm
  refine enter (l := [.tmp 4]) Tryz.func56 rfl Tryz.ntmps56 rfl T.en56 fun E => ?_
  simp only [List.length_cons, List.length_nil, List.replicate_succ, List.replicate_zero, List.cons_append, List.nil_append, Nat.reduceAdd, Nat.reduceSub]
  refine sr <| k (bx rfl s0 u2 (.t n0)) <| m (as_ .b) u4 <| e ?_
  refine sr <| rjb hm (fun j0_4 : Bool => ⟨[.any, .any, .any, .any, .bool j0_4, .any, .any, .any, .any, .any, .any, .any, .any, .any], []⟩) (fun _ hm hq1 => ?_) (fun j0_4 hm => ?_)
  ·
    refine m (mv (.t n1)) u5 <| m (geq (.t n5) (.i rfl)) u6 <| m (mv (.t n6)) u7 <| sp n7 u7 u7 (fun h2 => ?_) (fun h2 => ?_)
    ·
      replace hm := ct h2 hm
      refine mg n2 rfl n7 (mv (.t n1)) u8 <| mg n2 rfl n7 (fab 2 rfl T.f57_2 (.t n2)) u9 <| mg n2 rfl n7 (ldb T.o42 n0 n2 (.t n9)) u10 <| mg n2 rfl n7 (lenm (l := w_.Devices) (f := D.Device.V) T.s42 (.t n10)) u11 <| mg n2 rfl n7 (lss (.t n8) (.t n11)) u12 <| m (pkt (.t n7) (.t n12)) u13 <| m (as_ (.t n13)) u4 <| e ?_
      replace hm := sj hm
      subst hm
      have hm := hq1
      exact ⟨decide (device_ < (w_.Devices.length : Int)), hm, le [] (by decide) (.c .a (.c .a (.c .a (.c .a (.c (.e rfl rfl) (.c .a (.c .a (.c .a (.c .a (.c .a (.c .a (.c .a (.c .a (.c .a .n)))))))))))))) .n⟩
    ·
      replace hm := cf h2 hm
      refine sk n2 rfl n7 rfl u8 <| sk n2 rfl n7 rfl u9 <| sk n2 rfl n7 rfl u10 <| sk n2 rfl n7 rfl u11 <| sk n2 rfl n7 rfl u12 <| m (pkf (.t n7) .b) u13 <| m (as_ (.t n13)) u4 <| e ?_
      replace hm := sj hm
      subst hm
      have hm := hq1
      exact ⟨false, hm, le [] (by decide) (.c .a (.c .a (.c .a (.c .a (.c (.e rfl rfl) (.c .a (.c .a (.c .a (.c .a (.c .a (.c .a (.c .a (.c .a (.c .a .n)))))))))))))) .n⟩
  ·
    replace hm := sj hm
    subst hm
    exact rt (ret1 (.t n4 (.p rfl) .n) rfl)

theorem tot_impl_hasDevice (w_ : D.World) (device_ : Int)  : Spec Tryz.prog G0 56 [.agg (D.World.V w_), .int .i64 device_] (fun v => v = .bool (hasDevF w_ device_)) := sp_impl_hasDevice w_ device_ _ (t_impl_hasDevice w_ device_)

theorem sp_impl_InList (w_ : D.World) (device_ : Int) (r : Bool) (hm : m_impl_InList w_ device_ = some r) : Spec Tryz.prog G0 69 [.agg (D.World.V w_), .int .i64 device_] (fun v => v = .bool r) := by
  rw [m_impl_InList] at hm
  refine enter (l := [.tmp 4]) Tryz.func69 rfl Tryz.ntmps69 rfl T.en69 fun E => ?_
  simp only [List.length_cons, List.length_nil, List.replicate_succ, List.replicate_zero, List.cons_append, List.nil_append, Nat.reduceAdd, Nat.reduceSub]
  refine sr <| k (bx rfl s0 u2 (.t n0)) <| m (as_ .b) u4 <| e ?_
  refine sd none [(0, true), (1, true), (2, false), (3, true), (4, true), (5, true), (6, true), (8, true), (9, true), (10, true), (11, true), (12, true), (13, true), (7, false), (14, false), (15, false), (16, true), (17, true)] T.mix (by kernel_rfl) <| rob hm (fun j0_4 : Bool => ⟨[.any, .any, .any, .any, .bool j0_4, .any, .any, .any, .any, .any, .any, .any, .any, .any, .any, .any, .any, .any, .any, .any, .any, .any], []⟩) (fun _ hm hq1 => ?_) (fun j0_4 hm => ?_)
  ·
    refine om n0 (lab T.a57 n0 d0 k16 (.t n2)) u5 <| om n1 (mv (.t n1)) u6 <| oc n2 (call (tot_impl_hasDevice w_ device_) (.c (.t n5) rfl (.c (.t n6) rfl .n))) u7 <| om n3 (mv (.t n7)) u8 <| osp n8 u8 u8 (fun h2 => ?_) (fun h2 => ?_)
    ·
      replace hm := ct h2 hm
      obtain ⟨z3, e4, hm⟩ := bd_some hm
      obtain ⟨c5, hm⟩ := gd_some hm
      refine omg n4 n3 rfl n8 (fab 4 rfl T.f57_4 (.t n2)) u9 <| omg n5 n3 rfl n8 (fab 4 rfl T.f49_0 (.t n9)) u10 <| omg n6 n3 rfl n8 (ldb T.o43 n0 n4 (.t n10)) u11 <| omg n8 n3 rfl n8 (fab 2 rfl T.f57_2 (.t n2)) u13 <| omg n9 n3 rfl n8 (ldb T.o42 n0 n2 (.t n13)) u14 <| omg n10 n3 rfl n8 (mv (.t n1)) u15 <| omg n11 n3 rfl n8 (ixq (f := D.Device.V) e4 T.s42 (.t n14) (.t n15)) u16 <| omg n12 n3 rfl n8 (fae T.f104_0 d0 (.t n16)) u17 <| omg n13 n3 rfl n8 (lae T.a99 k4 (.t n17)) u18 <| ocg n7 n3 rfl n8 (call (tot_impl_DevicesOf w_.Cloud.Log c5) (.c (.t n11) rfl .n)) u12 <| ocg n14 n3 rfl n8 (call (tot_impl_DevicePublic z3.Store) (.c (.t n18) rfl .n)) u19 <| ocg n15 n3 rfl n8 (call (tot_impl_has (devicesOfF w_.Cloud.Log) (devPubF z3.Store)) (.c (.t n12) rfl (.c (.t n19) rfl .n))) u20 <| om n16 (pkt (.t n8) (.t n20)) u21 <| om n17 (as_ (.t n21)) u4 <| oe ?_
      replace hm := sj hm
      subst hm
      have hm := hq1
      exact ⟨(hasF (devicesOfF w_.Cloud.Log) (devPubF z3.Store)), hm, le [] (by decide) (.c .a (.c .a (.c .a (.c .a (.c (.e rfl rfl) (.c .a (.c .a (.c .a (.c .a (.c .a (.c .a (.c .a (.c .a (.c .a (.c .a (.c .a (.c .a (.c .a (.c .a (.c .a (.c .a (.c .a .n)))))))))))))))))))))) .n⟩
    ·
      replace hm := cf h2 hm
      refine os n4 n3 rfl n8 rfl u9 <| os n5 n3 rfl n8 rfl u10 <| os n6 n3 rfl n8 rfl u11 <| os n8 n3 rfl n8 rfl u13 <| os n9 n3 rfl n8 rfl u14 <| os n10 n3 rfl n8 rfl u15 <| os n11 n3 rfl n8 rfl u16 <| os n12 n3 rfl n8 rfl u17 <| os n13 n3 rfl n8 rfl u18 <| osf n7 n3 rfl n8 rfl u12 <| osf n14 n3 rfl n8 rfl u19 <| osf n15 n3 rfl n8 rfl u20 <| om n16 (pkf (.t n8) .b) u21 <| om n17 (as_ (.t n21)) u4 <| oe ?_
      replace hm := sj hm
      subst hm
      have hm := hq1
      exact ⟨false, hm, le [] (by decide) (.c .a (.c .a (.c .a (.c .a (.c (.e rfl rfl) (.c .a (.c .a (.c .a (.c .a (.c .a (.c .a (.c .a (.c .a (.c .a (.c .a (.c .a (.c .a (.c .a (.c .a (.c .a (.c .a (.c .a .n)))))))))))))))))))))) .n⟩
  ·
    replace hm := sj hm
    subst hm
    exact rt (ret1 (.t n4 (.p rfl) .n) rfl)

theorem tot_impl_InList (w_ : D.World) (device_ : Int) (hp0 : WOk w_) : Spec Tryz.prog G0 69 [.agg (D.World.V w_), .int .i64 device_] (fun v => v = .bool (inListF w_ device_)) := sp_impl_InList w_ device_ _ (t_impl_InList w_ device_ hp0)

theorem sp_spec_KeysAgree (w_ : D.World) (device_ : Int) (r : Bool) (hm : m_spec_KeysAgree w_ device_ = some r) : Spec Tryz.prog G0 28 [.agg (D.World.V w_), .int .i64 device_] (fun v => v = .bool r) := by
  rw [m_spec_KeysAgree] at hm
  refine enter (l := [.tmp 4]) Tryz.func28 rfl Tryz.ntmps28 rfl T.en28 fun E => ?_
  simp only [List.length_cons, List.length_nil, List.replicate_succ, List.replicate_zero, List.cons_append, List.nil_append, Nat.reduceAdd, Nat.reduceSub]
  refine sr <| k (bx rfl s0 u2 (.t n0)) <| m (as_ .b) u4 <| e ?_
  refine sq ?_
  refine sr <| m (mv (.t n1)) u8 <| m (fab 2 rfl T.f57_2 (.t n2)) u9 <| m (ldb T.o42 n0 n2 (.t n9)) u10 <| m (lenm (l := w_.Devices) (f := D.Device.V) T.s42 (.t n10)) u11 <| m (sub (.t n11) (.i rfl)) u12 <| c (call (tot_spec_l1In device_ (0 : Int) (IntKind.i64.wrap ((w_.Devices.length : Int) - (1 : Int)))) (.c (.t n8) rfl (.c (.i rfl) rfl (.c (.t n12) rfl .n)))) u13 <| m (not_ (.t n13)) u14 <| e ?_
  refine cnd n14 (fun h1 => ?_) (fun h1 => ?_)
  ·
    replace hm := ct h1 hm
    refine sr <| m (as_ .b) u4 <| e ?_
    replace hm := sj hm
    subst hm
    exact rt (ret1 (.t n4 (.p rfl) .n) rfl)
  ·
    replace hm := cf h1 hm
    refine skp ?_
    obtain ⟨z2, e3, hm⟩ := bd_some hm
    refine sr <| m (fab 2 rfl T.f57_2 (.t n2)) u15 <| m (ldb T.o42 n0 n2 (.t n15)) u16 <| m (mv (.t n1)) u17 <| m (ixq (f := D.Device.V) e3 T.s42 (.t n16) (.t n17)) u18 <| m (lae T.a104 k9 (.t n18)) u19 <| k (al T.z104 s1 u5) <| k (sta T.a104 rfl rfl n1 (.z (.z (.z (.z (.z (.z (.z (.z (.z .n))))))))) q1 (.t n5) (.t n19)) <| e ?_
    refine sr <| m (fab 0 rfl T.f104_0 (.t n5)) u21 <| m (lab T.a99 n1 d0 k4 (.t n21)) u22 <| m (fab 4 rfl T.f57_4 (.t n2)) u23 <| m (fab 5 rfl T.f49_1 (.t n23)) u24 <| m (lab T.a46 n0 d5 k2 (.t n24)) u25 <| c (call (tot_spec_OpenEpochBoxes z2.Store w_.Cloud.Boxes) (.c (.t n22) rfl (.c (.t n25) rfl .n))) u26 <| m (mv (.t n26)) u20 <| m (ext_ n0 (.t n20)) u27 <| m (ext_ n1 (.t n20)) u28 <| m (as_ (.t n27)) u6 <| m (as_ (.t n28)) u7 <| e ?_
    refine sd none [(0, true), (1, true), (2, false), (3, true), (4, true), (5, true), (6, true), (7, true), (8, true), (9, true), (10, false), (11, true), (12, true), (13, true), (14, true), (15, true), (16, true), (17, true), (18, true), (19, true)] T.mix (by kernel_rfl) <| rob hm (fun j0_4 : Bool => ⟨[.any, .any, .any, .any, .bool j0_4, .any, .any, .any, .any, .any, .any, .any, .any, .any, .any, .any, .any, .any, .any, .any, .any, .any, .any, .any, .any, .any, .any, .any, .any, .any, .any, .any, .any, .any, .any, .any, .any, .any, .any, .any, .any, .any, .any, .any, .any, .any, .any, .any], []⟩) (fun _ hm hq4 => ?_) (fun j0_4 hm => ?_)
    ·
      obtain ⟨c5, hm⟩ := gd_some hm
      refine om n0 (lab T.a57 n0 d0 k16 (.t n2)) u29 <| om n1 (mv (.t n1)) u30 <| oc n2 (call (tot_spec_InList w_ device_ c5) (.c (.t n29) rfl (.c (.t n30) rfl .n))) u31 <| om n3 (not_ (.t n31)) u32 <| om n4 (mv (.t n32)) u33 <| osp n33 u33 u33 (fun h6 => ?_) (fun h6 => ?_)
      ·
        replace hm := ct h6 hm
        refine os n5 n4 rfl n33 rfl u34 <| os n6 n4 rfl n33 rfl u35 <| os n7 n4 rfl n33 rfl u36 <| os n8 n4 rfl n33 rfl u37 <| os n9 n4 rfl n33 rfl u38 <| osf n10 n4 rfl n33 rfl u39 <| os n11 n4 rfl n33 rfl u40 <| om n12 (pkt (.t n33) .b) u41 <| om n13 (mv (.t n41)) u42 <| os n14 n13 rfl n42 rfl u43 <| os n15 n13 rfl n42 rfl u44 <| os n16 n13 rfl n42 rfl u45 <| os n17 n13 rfl n42 rfl u46 <| om n18 (pkt (.t n42) .b) u47 <| om n19 (as_ (.t n47)) u4 <| oe ?_
        replace hm := sj hm
        subst hm
        have hm := hq4
        exact ⟨true, hm, le [] (by decide) (.c .a (.c .a (.c .a (.c .a (.c (.e rfl rfl) (.c .a (.c .a (.c .a (.c .a (.c .a (.c .a (.c .a (.c .a (.c .a (.c .a (.c .a (.c .a (.c .a (.c .a (.c .a (.c .a (.c .a (.c .a (.c .a (.c .a (.c .a (.c .a (.c .a (.c .a (.c .a (.c .a (.c .a (.c .a (.c .a (.c .a (.c .a (.c .a (.c .a (.c .a (.c .a (.c .a (.c .a (.c .a (.c .a (.c .a (.c .a (.c .a (.c .a .n)))))))))))))))))))))))))))))))))))))))))))))))) .n⟩
      ·
        replace hm := cf h6 hm
        refine omg n5 n4 rfl n33 (fab 6 rfl T.f104_3 (.t n5)) u34 <| omg n6 n4 rfl n33 (ldb T.o3 n1 n6 (.t n34)) u35 <| omg n7 n4 rfl n33 (fab 4 rfl T.f57_4 (.t n2)) u36 <| omg n8 n4 rfl n33 (fab 4 rfl T.f49_0 (.t n36)) u37 <| omg n9 n4 rfl n33 (ldb T.o43 n0 n4 (.t n37)) u38 <| ocg n10 n4 rfl n33 (call (tot_spec_EpochOf w_.Cloud.Log) (.c (.t n38) rfl .n)) u39 <| omg n11 n4 rfl n33 (neq (.t n35) (.t n39)) u40 <| om n12 (pkf (.t n33) (.t n40)) u41 <| om n13 (mv (.t n41)) u42 <| osp n42 u42 u42 (fun h7 => ?_) (fun h7 => ?_)
        ·
          replace hm := ct h7 hm
          refine os n14 n13 rfl n42 rfl u43 <| os n15 n13 rfl n42 rfl u44 <| os n16 n13 rfl n42 rfl u45 <| os n17 n13 rfl n42 rfl u46 <| om n18 (pkt (.t n42) .b) u47 <| om n19 (as_ (.t n47)) u4 <| oe ?_
          replace hm := sj hm
          subst hm
          have hm := hq4
          exact ⟨true, hm, le [] (by decide) (.c .a (.c .a (.c .a (.c .a (.c (.e rfl rfl) (.c .a (.c .a (.c .a (.c .a (.c .a (.c .a (.c .a (.c .a (.c .a (.c .a (.c .a (.c .a (.c .a (.c .a (.c .a (.c .a (.c .a (.c .a (.c .a (.c .a (.c .a (.c .a (.c .a (.c .a (.c .a (.c .a (.c .a (.c .a (.c .a (.c .a (.c .a (.c .a (.c .a (.c .a (.c .a (.c .a (.c .a (.c .a (.c .a (.c .a (.c .a (.c .a (.c .a .n)))))))))))))))))))))))))))))))))))))))))))))))) .n⟩
        ·
          replace hm := cf h7 hm
          refine omg n14 n13 rfl n42 (fab 5 rfl T.f104_2 (.t n5)) u43 <| omg n15 n13 rfl n42 (ldb T.o3 n1 n5 (.t n43)) u44 <| omg n16 n13 rfl n42 (mv (.t n6)) u45 <| omg n17 n13 rfl n42 (eql (.t n44) (.t n45)) u46 <| om n18 (pkf (.t n42) (.t n46)) u47 <| om n19 (as_ (.t n47)) u4 <| oe ?_
          replace hm := sj hm
          subst hm
          have hm := hq4
          exact ⟨(z2.Key == (openEpochF z2.Store w_.Cloud.Boxes).1), hm, le [] (by decide) (.c .a (.c .a (.c .a (.c .a (.c (.e rfl rfl) (.c .a (.c .a (.c .a (.c .a (.c .a (.c .a (.c .a (.c .a (.c .a (.c .a (.c .a (.c .a (.c .a (.c .a (.c .a (.c .a (.c .a (.c .a (.c .a (.c .a (.c .a (.c .a (.c .a (.c .a (.c .a (.c .a (.c .a (.c .a (.c .a (.c .a (.c .a (.c .a (.c .a (.c .a (.c .a (.c .a (.c .a (.c .a (.c .a (.c .a (.c .a (.c .a (.c .a .n)))))))))))))))))))))))))))))))))))))))))))))))) .n⟩
    ·
      replace hm := sj hm
      subst hm
      exact rt (ret1 (.t n4 (.p rfl) .n) rfl)

theorem tot_spec_KeysAgree (w_ : D.World) (device_ : Int) (hp0 : WOk w_) : Spec Tryz.prog G0 28 [.agg (D.World.V w_), .int .i64 device_] (fun v => v = .bool (keysAgreeF w_ device_)) := sp_spec_KeysAgree w_ device_ _ (t_spec_KeysAgree w_ device_ hp0)

theorem sp_impl_KeysAgree (w_ : D.World) (device_ : Int) (r : Bool) (hm : m_impl_KeysAgree w_ device_ = some r) : Spec Tryz.prog G0 29 [.agg (D.World.V w_), .int .i64 device_] (fun v => v = .bool r) := by
  rw [m_impl_KeysAgree] at hm
  refine enter (l := [.tmp 4]) Tryz.func29 rfl Tryz.ntmps29 rfl T.en29 fun E => ?_
  simp only [List.length_cons, List.length_nil, List.replicate_succ, List.replicate_zero, List.cons_append, List.nil_append, Nat.reduceAdd, Nat.reduceSub]
  refine sr <| k (bx rfl s0 u2 (.t n0)) <| m (as_ .b) u4 <| e ?_
  refine sq ?_
  refine sr <| m (lab T.a57 n0 d0 k16 (.t n2)) u8 <| m (mv (.t n1)) u9 <| c (call (tot_impl_hasDevice w_ device_) (.c (.t n8) rfl (.c (.t n9) rfl .n))) u10 <| m (not_ (.t n10)) u11 <| e ?_
  refine cnd n11 (fun h1 => ?_) (fun h1 => ?_)
  ·
    replace hm := ct h1 hm
    refine sr <| m (as_ .b) u4 <| e ?_
    replace hm := sj hm
    subst hm
    exact rt (ret1 (.t n4 (.p rfl) .n) rfl)
  ·
    replace hm := cf h1 hm
    refine skp ?_
    obtain ⟨z2, e3, hm⟩ := bd_some hm
    refine sr <| m (fab 2 rfl T.f57_2 (.t n2)) u12 <| m (ldb T.o42 n0 n2 (.t n12)) u13 <| m (mv (.t n1)) u14 <| m (ixq (f := D.Device.V) e3 T.s42 (.t n13) (.t n14)) u15 <| m (lae T.a104 k9 (.t n15)) u16 <| k (al T.z104 s1 u5) <| k (sta T.a104 rfl rfl n1 (.z (.z (.z (.z (.z (.z (.z (.z (.z .n))))))))) q1 (.t n5) (.t n16)) <| e ?_
    refine sr <| m (fab 0 rfl T.f104_0 (.t n5)) u18 <| m (lab T.a99 n1 d0 k4 (.t n18)) u19 <| m (fab 4 rfl T.f57_4 (.t n2)) u20 <| m (fab 5 rfl T.f49_1 (.t n20)) u21 <| m (lab T.a46 n0 d5 k2 (.t n21)) u22 <| c (call (tot_impl_OpenEpochBoxes z2.Store w_.Cloud.Boxes) (.c (.t n19) rfl (.c (.t n22) rfl .n))) u23 <| m (mv (.t n23)) u17 <| m (ext_ n0 (.t n17)) u24 <| m (ext_ n1 (.t n17)) u25 <| m (as_ (.t n24)) u6 <| m (as_ (.t n25)) u7 <| e ?_
    refine sd none [(0, true), (1, true), (2, false), (3, true), (4, true), (5, true), (6, true), (7, true), (8, true), (9, true), (10, false), (11, true), (12, true), (13, true), (14, true), (15, true), (16, true), (17, true), (18, true), (19, true)] T.mix (by kernel_rfl) <| rob hm (fun j0_4 : Bool => ⟨[.any, .any, .any, .any, .bool j0_4, .any, .any, .any, .any, .any, .any, .any, .any, .any, .any, .any, .any, .any, .any, .any, .any, .any, .any, .any, .any, .any, .any, .any, .any, .any, .any, .any, .any, .any, .any, .any, .any, .any, .any, .any, .any, .any, .any, .any, .any], []⟩) (fun _ hm hq4 => ?_) (fun j0_4 hm => ?_)
    ·
      obtain ⟨c5, hm⟩ := gd_some hm
      refine om n0 (lab T.a57 n0 d0 k16 (.t n2)) u26 <| om n1 (mv (.t n1)) u27 <| oc n2 (call (tot_impl_InList w_ device_ c5) (.c (.t n26) rfl (.c (.t n27) rfl .n))) u28 <| om n3 (not_ (.t n28)) u29 <| om n4 (mv (.t n29)) u30 <| osp n30 u30 u30 (fun h6 => ?_) (fun h6 => ?_)
      ·
        replace hm := ct h6 hm
        refine os n5 n4 rfl n30 rfl u31 <| os n6 n4 rfl n30 rfl u32 <| os n7 n4 rfl n30 rfl u33 <| os n8 n4 rfl n30 rfl u34 <| os n9 n4 rfl n30 rfl u35 <| osf n10 n4 rfl n30 rfl u36 <| os n11 n4 rfl n30 rfl u37 <| om n12 (pkt (.t n30) .b) u38 <| om n13 (mv (.t n38)) u39 <| os n14 n13 rfl n39 rfl u40 <| os n15 n13 rfl n39 rfl u41 <| os n16 n13 rfl n39 rfl u42 <| os n17 n13 rfl n39 rfl u43 <| om n18 (pkt (.t n39) .b) u44 <| om n19 (as_ (.t n44)) u4 <| oe ?_
        replace hm := sj hm
        subst hm
        have hm := hq4
        exact ⟨true, hm, le [] (by decide) (.c .a (.c .a (.c .a (.c .a (.c (.e rfl rfl) (.c .a (.c .a (.c .a (.c .a (.c .a (.c .a (.c .a (.c .a (.c .a (.c .a (.c .a (.c .a (.c .a (.c .a (.c .a (.c .a (.c .a (.c .a (.c .a (.c .a (.c .a (.c .a (.c .a (.c .a (.c .a (.c .a (.c .a (.c .a (.c .a (.c .a (.c .a (.c .a (.c .a (.c .a (.c .a (.c .a (.c .a (.c .a (.c .a (.c .a .n))))))))))))))))))))))))))))))))))))))))))))) .n⟩
      ·
        replace hm := cf h6 hm
        refine omg n5 n4 rfl n30 (fab 6 rfl T.f104_3 (.t n5)) u31 <| omg n6 n4 rfl n30 (ldb T.o3 n1 n6 (.t n31)) u32 <| omg n7 n4 rfl n30 (fab 4 rfl T.f57_4 (.t n2)) u33 <| omg n8 n4 rfl n30 (fab 4 rfl T.f49_0 (.t n33)) u34 <| omg n9 n4 rfl n30 (ldb T.o43 n0 n4 (.t n34)) u35 <| ocg n10 n4 rfl n30 (call (tot_impl_EpochOf w_.Cloud.Log) (.c (.t n35) rfl .n)) u36 <| omg n11 n4 rfl n30 (neq (.t n32) (.t n36)) u37 <| om n12 (pkf (.t n30) (.t n37)) u38 <| om n13 (mv (.t n38)) u39 <| osp n39 u39 u39 (fun h7 => ?_) (fun h7 => ?_)
        ·
          replace hm := ct h7 hm
          refine os n14 n13 rfl n39 rfl u40 <| os n15 n13 rfl n39 rfl u41 <| os n16 n13 rfl n39 rfl u42 <| os n17 n13 rfl n39 rfl u43 <| om n18 (pkt (.t n39) .b) u44 <| om n19 (as_ (.t n44)) u4 <| oe ?_
          replace hm := sj hm
          subst hm
          have hm := hq4
          exact ⟨true, hm, le [] (by decide) (.c .a (.c .a (.c .a (.c .a (.c (.e rfl rfl) (.c .a (.c .a (.c .a (.c .a (.c .a (.c .a (.c .a (.c .a (.c .a (.c .a (.c .a (.c .a (.c .a (.c .a (.c .a (.c .a (.c .a (.c .a (.c .a (.c .a (.c .a (.c .a (.c .a (.c .a (.c .a (.c .a (.c .a (.c .a (.c .a (.c .a (.c .a (.c .a (.c .a (.c .a (.c .a (.c .a (.c .a (.c .a (.c .a (.c .a .n))))))))))))))))))))))))))))))))))))))))))))) .n⟩
        ·
          replace hm := cf h7 hm
          refine omg n14 n13 rfl n39 (fab 5 rfl T.f104_2 (.t n5)) u40 <| omg n15 n13 rfl n39 (ldb T.o3 n1 n5 (.t n40)) u41 <| omg n16 n13 rfl n39 (mv (.t n6)) u42 <| omg n17 n13 rfl n39 (eql (.t n41) (.t n42)) u43 <| om n18 (pkf (.t n39) (.t n43)) u44 <| om n19 (as_ (.t n44)) u4 <| oe ?_
          replace hm := sj hm
          subst hm
          have hm := hq4
          exact ⟨(z2.Key == (openEpochF z2.Store w_.Cloud.Boxes).1), hm, le [] (by decide) (.c .a (.c .a (.c .a (.c .a (.c (.e rfl rfl) (.c .a (.c .a (.c .a (.c .a (.c .a (.c .a (.c .a (.c .a (.c .a (.c .a (.c .a (.c .a (.c .a (.c .a (.c .a (.c .a (.c .a (.c .a (.c .a (.c .a (.c .a (.c .a (.c .a (.c .a (.c .a (.c .a (.c .a (.c .a (.c .a (.c .a (.c .a (.c .a (.c .a (.c .a (.c .a (.c .a (.c .a (.c .a (.c .a (.c .a .n))))))))))))))))))))))))))))))))))))))))))))) .n⟩
    ·
      replace hm := sj hm
      subst hm
      exact rt (ret1 (.t n4 (.p rfl) .n) rfl)

theorem tot_impl_KeysAgree (w_ : D.World) (device_ : Int) (hp0 : WOk w_) : Spec Tryz.prog G0 29 [.agg (D.World.V w_), .int .i64 device_] (fun v => v = .bool (keysAgreeF w_ device_)) := sp_impl_KeysAgree w_ device_ _ (t_impl_KeysAgree w_ device_ hp0)
end Go.VK
