import Derived.Test.YtffpnfmhcpcaaaaGreatDoorXgPq
import Derived.Test.YtffpnfmhcpcaaaaGreatDoorXgQ
/-
  Printed by wip/tools (own work of this part): models of functions, walks over the value kit, and proofs.
-/
set_option linter.unusedVariables false
set_option linter.unusedSimpArgs false
set_option maxRecDepth 100000
set_option maxHeartbeats 4000000
namespace Go.VK
open Go.RowKit Go.Proofs
noncomputable section
open EV (itr)
theorem encLoop {k:Int}{b:List Int}(hl:b.length≤34359738368){F:(List Int×Nat→Option (List Int))→List Int×Nat→Option (List Int)}
  (hF:∀rec i s (hi:i<b.length),s.length≤34359738368→F rec (s,i)=rec (s++[encB k i b[i]],i+1)) (hE:∀rec s,F rec (s,b.length)=some s):EV.itr FUEL F ([],0)=some (encrF k b):=by
 refine itr0 (fun i s=>i≤b.length∧s=(catI (fun i z=>[encB k i z]) 0 (b.take i),i)) b.length _ (by omega) ⟨by omega,by simp[catI]⟩ (fun i s rec hi hv=> ?_) (fun s rec hv=> ?_)
 ·obtain⟨_,rfl⟩:=hv
  refine .inl ⟨_,⟨hi,rfl⟩,?_⟩
  rw[hF rec i _ hi (by rw[catI_len,List.length_take];omega),catI_snoc hi,Nat.zero_add]
 ·obtain⟨_,rfl⟩:=hv
  rw[hE,List.take_length];rfl
theorem t_impl_Encrypt (k:Int)(b:List Int)(h:bytesOk b):m_impl_Encrypt k b=some (encrF k b):=by
 unfold m_impl_Encrypt
 rw[encLoop (k:=k) h.1 (fun rec i s hi hs=>by
  have e:=enc_impl (k:=k) i (bytesOk_get h hi)
  have h4:((256:Int)≠0)=True:=by simp
  simp only[lt_i hi,cond_true,atq_nat hi,bd_s,gd_t (show([(i:Int)]:List Int).length≤34359738368 by simp),h4,gd_T,e,gd_ap1 hs]) (fun rec s=>by simp only[ge_i,cond_false])]
 rfl
theorem t_spec_Encrypt (k:Int)(b:List Int)(h:bytesOk b):m_spec_Encrypt k b=some (encrF k b):=by
 unfold m_spec_Encrypt
 rw[encLoop (k:=k) h.1 (fun rec i s hi hs=>by
  have e:=enc_spec (k:=k) i (bytesOk_get h hi)
  have h4:((256:Int)≠0)=True:=by simp
  simp only[lt_i hi,cond_true,atq_nat hi,bd_s,gd_t (show([(i:Int)]:List Int).length≤34359738368 by simp),h4,gd_T,e,gd_ap1 hs]) (fun rec s=>by simp only[ge_i,cond_false])]
 rfl
theorem t_impl_AppendUvarint (b:List Int)(n:Int)(h:b.length≤34359738300):m_impl_AppendUvarint b n=some (appUvF b n):=by
 unfold m_impl_AppendUvarint appUvF enc1
 have e:(decide (n<0)||decide (n>1000000000000))= !inR n 0 1000000000000:=by
  unfold inR;rw[Bool.eq_iff_iff];simp<;>omega
 rw[gd_t (show b.length≤34359738368 by omega),bd_s,if_or,bd_s,e]
 cases hr:inR n 0 1000000000000 with
 |false=>simp
 |true=>
  rw[Bool.not_true,cond_false,cond_true]
  exact uvE_fin (inR_t hr) h (fun rec n s h0 h1 h2=>by
   have h4:((128:Int)≠0)=True:=by simp
   have e1:decide (n≥128)=decide (n>127):=decide_eq_decide.2 (by omega)
   have e2:IntKind.u8.wrap (IntKind.i64.wrap (n.tmod 128+128))=n%128+128:=by rw[Int.tmod_eq_emod_of_nonneg h0,wrap64_id (by omega) (by omega),wrap8_id (by omega) (by omega)]
   have e3:IntKind.i64.wrap (n.tdiv 128)=n/128:=by rw[Int.tdiv_eq_ediv_of_nonneg h0,wrap64_id (by omega) (by omega)]
   simp only[h4,gd_T,e1,e2,e3,gd_ap1 (s:=s) h2])
theorem t_impl_EncodeInts (l:List Int)(h:l.length≤5000000000):m_impl_EncodeInts l=some (encF l):=by
 unfold m_impl_EncodeInts
 rw[foldLoopR (l:=l) appUvF (fun i s=>s.length≤6*i) (fun s=>some s) (by omega) (by simp) (fun i s hi hv=>by have:=enc1_len l[i];simp only[appUvF,List.length_append];omega) (fun rec i s hi hv=>by
  simp only[lt_i hi,cond_true,atq_nat hi,bd_s,gd_t (show s.length≤34359738300 by omega)]) (fun rec s _=>by simp only[ge_i,cond_false]),encF_fold]
 rfl
theorem t_impl_EncodeBundle (b:D.Bundle)(h:b.sz≤34359738368):m_impl_EncodeBundle b=some (encBF b):=by
 unfold m_impl_EncodeBundle encBF
 rw[gd_t h,bd_s]
 cases hb:bundleOkF b with
 |false=>rfl
 |true=>
  have hl:=bundle_len hb
  have hv:(valsF b).length=1+4*b.Entries.length:=by simp[valsF,flatE_len];omega
  rw[Bool.not_true,cond_false,cond_true,foldLoopR (l:=b.Entries) (fun s e=>s++ent4 e) (fun i s=>s.length≤1+4*i) (fun s=>some s) (by omega) (by simp) (fun i s hi hv=>by simp only[ent4,List.length_append,List.length_cons,List.length_nil];omega) (fun rec i s hi hv=>by
   have e:∀x y z w:Int,gd (apOk s [x,y,z,w]) (rec (s++[x,y,z,w],i+1))=rec (s++[x,y,z,w],i+1):=fun _ _ _ _=>gd_t (by unfold apOk;simp only[List.length_cons,List.length_nil];omega)
   simp only[lt_i hi,cond_true,atq_nat hi,bd_s,m_impl_bit,bb_some,e];rfl) (fun rec s _=>by simp only[ge_i,cond_false]),flatE_fold,bd_s]
  rw[gd_t (show([(b.Entries.length:Int)]++flatE b.Entries).length≤5000000000 by show(valsF b).length≤_;omega),bd_s]
  rfl
theorem enc_ok (k:Int)(b:D.Bundle):(encrF k (encBF b)).length≤34359738200:=by have:=encBF_len b;rw[encr_len];omega
theorem t_impl_SealBundle (k e v:Int)(b:D.Bundle)(h:b.sz≤34359738368):m_impl_SealBundle k e v b=some (sealF k e v b):=by
 unfold m_impl_SealBundle sealF sealS sealKeyF
 simp only[gd_t h,bd_s,gd_t (show[(223:Int),e,v].length≤34359738300 by simp),gd_t (encBF_ok b),gd_t (enc_ok (deriveF k [223,e,v]) b)]
 cases keyF k<;>cases inR e 0 1000000<;>cases inR v 0 1000000<;>cases bundleOkF b<;>rfl
theorem t_spec_SealBundle (k e v:Int)(b:D.Bundle)(h:b.sz≤34359738368):m_spec_SealBundle k e v b=some (sealF k e v b):=by
 unfold m_spec_SealBundle sealF sealS
 simp only[gd_t h,bd_s,gd_t (encBF_ok b),gd_t (enc_ok (sealKeyF k e v) b)]
 cases keyF k<;>cases inR e 0 1000000<;>cases inR v 0 1000000<;>cases bundleOkF b<;>rfl
theorem t_impl_IsFresher (a b:D.SealedBundle):m_impl_IsFresher a b=some (freshF a b):=by
 unfold m_impl_IsFresher freshF
 cases decide (a.Epoch>b.Epoch)<;>cases(a.Epoch==b.Epoch)<;>rfl
theorem t_spec_IsFresher (a b:D.SealedBundle):m_spec_IsFresher a b=some (freshF a b):=by
 unfold m_spec_IsFresher freshF
 cases decide (a.Epoch>b.Epoch)<;>cases(a.Epoch==b.Epoch)<;>rfl
theorem dev_bsz {d:D.Device}(h:d.sz≤34359738368):d.Bundle.sz≤34359738368:=by simp only[D.Device.sz,D.Bundle.sz] at*;omega
theorem t_impl_WriteDevice (d:D.Device)(h:d.sz≤34359738368):m_impl_WriteDevice d=some (writeF d):=by
 unfold m_impl_WriteDevice writeF
 simp only[gd_t h,gd_t (dev_bsz h),bd_s]
 cases(sealF d.Key d.Epoch (IntKind.i64.wrap (d.Version+1)) d.Bundle).2<;>rfl
theorem t_spec_WriteDevice (d:D.Device)(h:d.sz≤34359738368):m_spec_WriteDevice d=some (writeF d):=by
 unfold m_spec_WriteDevice writeF
 simp only[gd_t h,gd_t (dev_bsz h),bd_s]
 cases(sealF d.Key d.Epoch (IntKind.i64.wrap (d.Version+1)) d.Bundle).2<;>rfl
theorem upload_pl (c:D.Cloud)(s:D.SealedBundle)(h:c.sz≤34359738300∧s.sz≤34359738300):(bd (gd (c.sz≤34359738368) (some c)) fun z0=>bd (gd (c.Log.length≤34359738368) (some (epochOfF c.Log))) fun z1=>bd (bif (s.Epoch !=z1) then some true else(bif decide ((c.History.length:Int)>0) then(bd (atq c.History (IntKind.i64.wrap ((c.History.length:Int)-1))) fun z3=>bd (some (freshF s z3)) fun z4=>bif !z4 then some true else some (decide ((c.History.length:Int)≥60))) else some (decide ((c.History.length:Int)≥60)))) fun z2=>bif z2 then some (z0,false) else bd (gd (s.sz≤34359738368) (some s)) fun z3=>gd (apOk z0.History [z3]) (some (D.Cloud.mk z0.Log z0.Boxes (z0.History++[z3]),true)))=some (uploadF c s):=by
 obtain⟨h1,h2⟩:=h
 have hz:=h1
 simp only[D.Cloud.sz] at hz
 unfold uploadF
 simp only[gd_t (show c.sz≤34359738368 by omega),gd_t (show c.Log.length≤34359738368 by omega),gd_t (show s.sz≤34359738368 by omega),bd_s,gd_ap1 (show c.History.length≤34359738368 by omega)]
 by_cases h0:0<c.History.length
 ·have e2:atq c.History (IntKind.i64.wrap ((c.History.length:Int)-1))=some (c.History.getD (c.History.length-1) default):=by
   rw[wrap64_id (by omega) (by omega),atq_getD (by omega) (by omega)];congr 2;omega
  rw[decide_eq_true (show(c.History.length:Int)>0 by omega),e2]
  generalize c.History.getD (c.History.length-1) default=x
  simp only[bd_s,cond_true,Bool.true_and]
  cases(s.Epoch !=epochOfF c.Log)<;>cases freshF s x<;>cases decide ((c.History.length:Int)≥60)<;>rfl
 ·rw[decide_eq_false (show ¬(c.History.length:Int)>0 by omega)]
  cases(s.Epoch !=epochOfF c.Log)<;>cases decide ((c.History.length:Int)≥60)<;>rfl
theorem t_impl_UploadBundle (c:D.Cloud)(s:D.SealedBundle)(h:c.sz≤34359738300∧s.sz≤34359738300):m_impl_UploadBundle c s=some (uploadF c s):=upload_pl c s h
theorem t_spec_UploadBundle (c:D.Cloud)(s:D.SealedBundle)(h:c.sz≤34359738300∧s.sz≤34359738300):m_spec_UploadBundle c s=some (uploadF c s):=upload_pl c s h
theorem push_in {w:D.World}{d:Int}(hz:w.sz≤10000000000)(h:((syncF w d 0).2==0)=true):(hasDevF (syncF w d 0).1 d=true∧(devAt (syncF w d 0).1 d).sz≤34359738368)∧((syncF w d 0).1.Cloud.sz≤34359738300∧(writeF (devAt (syncF w d 0).1 d)).2.1.sz≤34359738300):=by
 obtain⟨⟨k1,k2⟩,k3,k4,k5⟩:=sync_ok h
 have hd:hasDevF (syncF w d 0).1 d=true:=by simp only[hasDevF] at*;rw[k4];exact k2
 have h1:=(dev_in hd).2.2.1
 have h2:=cloud_sz (syncF w d 0).1
 have h3:=(writeF_sz (devAt (syncF w d 0).1 d)).2
 have h4:w.Cloud.Log.length≤w.sz:=by simp only[D.World.sz,D.Cloud.sz];omega
 exact⟨⟨hd,by omega⟩,by omega,by simp only[D.SealedBundle.sz];omega⟩
theorem t_spec_PushBundle (w:D.World)(d:Int)(hz:w.sz≤10000000000):m_spec_PushBundle w d=some (pushF w d):=by
 unfold m_spec_PushBundle pushF
 have hw:w.sz≤34359738368:=by omega
 simp only[gd_t (show w.sz≤34359738100 by omega),gd_t hw,bd_s,bne]
 cases hs:((syncF w d 0).2==0) with
 |false=>rfl
 |true=>
  obtain⟨⟨k1,k2⟩,k3⟩:=push_in hz hs
  generalize(syncF w d 0).1=x at*
  simp only[Bool.not_true,cond_false,atq_dev k1,bd_s,gd_t k2,gd_t k3,if_or]
  unfold upF
  cases(writeF (devAt x d)).2.2<;>cases(uploadF x.Cloud (writeF (devAt x d)).2.1).2<;>rfl
theorem t_impl_PushBundle (w:D.World)(d:Int)(hz:w.sz≤10000000000):m_impl_PushBundle w d=some (pushF w d):=by
 unfold m_impl_PushBundle pushF
 have hw:w.sz≤34359738368:=by omega
 simp only[gd_t (show w.sz≤34359738100 by omega),gd_t hw,bd_s,bne]
 cases hs:((syncF w d 0).2==0) with
 |false=>rfl
 |true=>
  obtain⟨⟨k1,k2⟩,k3⟩:=push_in hz hs
  generalize(syncF w d 0).1=x at*
  simp only[Bool.not_true,cond_false,atq_dev k1,bd_s,gd_t k2,gd_t k3]
  unfold upF
  cases(writeF (devAt x d)).2.2<;>cases(uploadF x.Cloud (writeF (devAt x d)).2.1).2<;>rfl
end
end Go.VK
