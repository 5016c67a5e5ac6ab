import Derived.Test.YtffpnfmhcpcaaaaGreatDoorXgPp
import Derived.Test.YtffpnfmhcpcaaaaGreatDoorXgQ
/-
  Printed by wip/tools (own work of this part): models of functions, walks over the value kit, and proofs.
-/
set_option linter.unusedVariables false
set_option linter.unusedSimpArgs false
set_option maxRecDepth 100000
set_option maxHeartbeats 4000000
namespace Go.VK
open Go.RowKit Go.Proofs
noncomputable section
open EV (itr)
theorem uvE_fin {F:(Int×List Int→Option (Int×List Int))→Int×List Int→Option (Int×List Int)}{n:Int}{b:List Int}(hk:0≤n∧n≤1000000000000)(hb:b.length≤34359738300)
  (hF:∀rec (n:Int) (s:List Int),0≤n→n<9223372036854775807→s.length≤34359738368→F rec (n,s)=bif decide (n>127) then rec (n/128,s++[n%128+128]) else some (n,s)):
  (bd (EV.itr FUEL F (n,b)) fun z=>gd (apOk z.2 [IntKind.u8.wrap z.1]) (some (z.2++[IntKind.u8.wrap z.1])))=some (b++uvE 5 n):=by
 have h7:(128:Int)^(5+1)=4398046511104:=by decide
 obtain⟨m,q,e1,e2,e3,e4⟩:=uvE_loop hF 5 n b FUEL (by have:=FUEL_le;omega) hk.1 (by omega) (by omega) (by omega)
 have hq:q.length≤34359738368:=by
  have h1:=congrArg List.length e2
  have h2:=(uvE_len 5 n).2
  simp only[List.length_append,List.length_singleton] at h1;omega
 rw[e1,bd_s]
 simp only[wrap8_id e3 (show m≤255 by omega)]
 rw[gd_ap1 (s:=q) hq,e2]
theorem t_spec_AppendUvarint (b:List Int)(n:Int)(h:b.length≤34359738300):m_spec_AppendUvarint b n=some (appUvF b n):=by
 unfold m_spec_AppendUvarint appUvF enc1
 rw[gd_ap0 (by omega)]
 cases hr:inR n 0 1000000000000 with
 |false=>simp
 |true=>
  rw[Bool.not_true,cond_false,cond_true,List.nil_append]
  exact uvE_fin (inR_t hr) h (fun rec n s h0 h1 h2=>by
   show(bif decide (n>127) then gd (apOk s [IntKind.u8.wrap (orI .i64 (andI .i64 n 127) 128)]) (gd ((0:Int)≤7) (rec (shrI .i64 n 7,s++[IntKind.u8.wrap (orI .i64 (andI .i64 n 127) 128)]))) else some (n,s))=_
   rw[and_127 h0 (by omega),or_128 (Int.emod_nonneg _ (by decide)) (Int.emod_lt_of_pos _ (by decide)),shr_7 h0,wrap8_id (by omega) (by omega),gd_ap1 (s:=s) h2,gd_t (show(0:Int)≤7 by decide)])
theorem encF_fold:∀(l s:List Int),l.foldl appUvF s=s++encF l
 |[],s=>by simp[encF]
 |x::l,s=>by rw[List.foldl_cons,encF_fold l,encF_cons,appUvF,List.append_assoc]
theorem t_spec_EncodeInts (l:List Int)(h:l.length≤5000000000):m_spec_EncodeInts l=some (encF l):=by
 unfold m_spec_EncodeInts
 rw[foldLoopR (l:=l) appUvF (fun i s=>s.length≤6*i) (fun s=>some s) (by omega) (by simp) (fun i s hi hv=>by have:=enc1_len l[i];simp only[appUvF,List.length_append];omega) (fun rec i s hi hv=>by
  simp only[lt_i hi,cond_true,atq_nat hi,bd_s,gd_t (show s.length≤34359738300 by omega)]) (fun rec s _=>by simp only[ge_i,cond_false]),encF_fold]
 rfl
theorem flatE_fold:∀(l:List D.Entry) (s:List Int),l.foldl (fun s e=>s++ent4 e) s=s++flatE l
 |[],s=>by simp[flatE]
 |x::l,s=>by rw[List.foldl_cons,flatE_fold l];simp[flatE]
theorem t_spec_EncodeBundle (b:D.Bundle)(h:b.sz≤34359738368):m_spec_EncodeBundle b=some (encBF b):=by
 unfold m_spec_EncodeBundle encBF
 rw[gd_t h,bd_s]
 cases hb:bundleOkF b with
 |false=>rfl
 |true=>
  have hl:=bundle_len hb
  have hv:(valsF b).length=1+4*b.Entries.length:=by simp[valsF,flatE_len];omega
  rw[Bool.not_true,cond_false,cond_true,foldLoopR (l:=b.Entries) (fun s e=>s++ent4 e) (fun i s=>s.length≤1+4*i) (fun s=>some s) (by omega) (by simp) (fun i s hi hv=>by simp only[ent4,List.length_append,List.length_cons,List.length_nil];omega) (fun rec i s hi hv=>by
   have e:∀x y z w:Int,gd (apOk s [x,y,z,w]) (some (s++[x,y,z,w]))=some (s++[x,y,z,w]):=fun _ _ _ _=>gd_t (by unfold apOk;simp only[List.length_cons,List.length_nil];omega)
   simp only[lt_i hi,cond_true,atq_nat hi,bd_s,bb_some,e];rfl) (fun rec s _=>by simp only[ge_i,cond_false]),flatE_fold,bd_s]
  rw[gd_t (show([(b.Entries.length:Int)]++flatE b.Entries).length≤5000000000 by show(valsF b).length≤_;omega),bd_s]
  rfl
theorem t_spec_EqualBytes (a b:List Int)(h:bytesOk a∧bytesOk b):m_spec_EqualBytes a b=some (a==b):=by
 obtain⟨ha,hb⟩:=h
 have h1:=ha.1
 have h2:=hb.1
 unfold m_spec_EqualBytes
 rw[gd_t (by omega),gd_t (by omega),map_idI,map_idI,ByteArray.toList_eq,ByteArray.toList_eq,bstr_list,bstr_list]
 congr 1
 rw[Bool.eq_iff_iff,beq_iff_eq,beq_iff_eq]
 exact⟨fun h=>bytes_inj (bytesOk_mem ha) (bytesOk_mem hb) h,fun h=>by rw[h]⟩
theorem drop4 {v:List Int}{i:Nat}(h:4*i+3<v.length):v.drop (4*i)=v[4*i]::v[4*i+1]::v[4*i+2]::v[4*i+3]::v.drop (4*(i+1)):=by
 rw[List.drop_eq_getElem_cons (show 4*i<v.length by omega),List.drop_eq_getElem_cons (show 4*i+1<v.length by omega),List.drop_eq_getElem_cons (show 4*i+1+1<v.length by omega),List.drop_eq_getElem_cons (show 4*i+1+1+1<v.length by omega)];rfl
theorem ent_loop {v:List Int}{k:Nat}(hv:v.length=4*k)(hk:k≤20){τ:Type}{x:τ}{F:(Nat×List D.Entry→Option (τ⊕List D.Entry))→Nat×List D.Entry→Option (τ⊕List D.Entry)}
  (hF:∀rec i s (hi:i<k) (h:4*i+3<v.length),s.length≤100→F rec (i,s)=bif decide (v[4*i+3]>1) then some (.inl x) else rec (i+1,s++[⟨v[4*i],v[4*i+1],v[4*i+2],v[4*i+3]==1⟩])) (hE:∀rec s,F rec (k,s)=some (.inr s)):
  ∀(m i n:Nat) (s:List D.Entry),i+m=k→m<n→s.length≤i→EV.itr n F (i,s)=some (bif flagsOk (v.drop (4*i)) then .inr (s++ents (v.drop (4*i))) else .inl x)
 |0,i,n+1,s,h,_,_=>by
  have:i=k:=by omega
  subst this
  rw[itr_s,hE,List.drop_eq_nil_of_le (by omega)];simp[flagsOk,ents]
 |m+1,i,n+1,s,h,hn,hs=>by
  have h4:4*i+3<v.length:=by omega
  rw[itr_s,hF _ i s (by omega) h4 (by omega),drop4 h4]
  simp only[flagsOk,ents]
  by_cases hg:v[4*i+3]>1
  ·rw[decide_eq_true hg,decide_eq_false (show ¬v[4*i+3]≤1 by omega)];rfl
  ·rw[decide_eq_false hg,decide_eq_true (show v[4*i+3]≤1 by omega),cond_false,Bool.true_and,ent_loop hv hk hF hE m (i+1) n _ (by omega) (by omega) (by simp;omega)]
   simp
theorem uv_split {a:List Int}(hb:bytesOk a)(hc:(!(uvF a 0).2.2||decide ((uvF a 0).1>20))=false):∃(n:Int) (q:Nat),uvF a 0=(n,(q:Int),true)∧0≤n∧n≤20∧q≤a.length:=by
 simp only[Bool.or_eq_false_iff,Bool.not_eq_false',decide_eq_false_iff_not] at hc
 cases hu:uvF a 0 with
 |mk n r=>
  obtain⟨e,ok⟩:=r
  rw[hu] at hc
  obtain⟨rfl,hc2⟩:=hc
  obtain⟨q,⟨_,g1,g2,g3,g4⟩,_⟩:=uvF_enc hb hu
  exact⟨n,q,by rw[g3],g1,by simp only at hc2;omega,g4⟩
theorem decode_G {a:List Int}{e c:Int}(h0:0≤c)(h1:c≤100)(h2:0≤e)(h3:e≤a.length):decodeF a e c=decG a c.toNat e []:=by
 unfold decodeF inR
 rw[decide_eq_true h0,decide_eq_true h1,decide_eq_true h2,decide_eq_true h3];rfl
theorem atq_dr {v:List Int}{i j:Nat}{q:Int}(hq:q=(j:Int))(h:i+j<v.length):atq (v.drop i) q=some v[i+j]:=by
 subst hq
 rw[atq_nat (by rw[List.length_drop];omega),List.getElem_drop]
theorem t_impl_DecodeBundle (a:List Int)(hb:bytesOk a):m_impl_DecodeBundle a=some (decBF a):=by
 unfold m_impl_DecodeBundle decBF
 rw[gd_t hb,bd_s,if_or,bd_s]
 cases hc:(!(uvF a 0).2.2||decide ((uvF a 0).1>20)) with
 |true=>rfl
 |false=>
  obtain⟨n,q,hu,h0,h1,h2⟩:=uv_split hb hc
  rw[hu,cond_false,cond_false]
  dsimp only
  rw[wrap64_id (n:=4*n) (by omega) (by omega),gd_t hb,bd_s,decode_G (by omega) (by omega) (by omega) (by omega)]
  cases hd:decG a (4*n).toNat (q:Int) [] with
  |mk v r=>
   obtain⟨e,ok⟩:=r
   dsimp only
   rw[if_or,bd_s]
   unfold decBG
   cases ok with
   |false=>rfl
   |true=>
    dsimp only
    rw[Bool.not_true,Bool.false_or,Bool.false_or]
    cases he:(e !=(a.length:Int)) with
    |true=>rfl
    |false=>
     obtain⟨t,q',⟨k1,k2,k3,k4,k5⟩,_⟩:=decG_enc hb _ _ _ _ _ (by omega) (by omega) hd
     rw[List.nil_append] at k1
     subst k1
     have hv:v.length=4*n.toNat:=by omega
     rw[cond_false,Bool.false_or,ent_loop (x:=((D.Bundle.mk [],false):D.Bundle×Bool)) hv (by omega) (fun rec i s hi h4 hs=>by
      have e1:decide ((i:Int)<n)=true:=decide_eq_true (by omega)
      have e2:IntKind.i64.wrap (4*(i:Int))=((4*i:Nat):Int):=by rw[wrap64_id (by omega) (by omega)];omega
      have g0:atq (v.drop (4*i)) 0=some (v[4*i]'(by omega)):=atq_dr (j:=0) rfl (by omega)
      have g1:atq (v.drop (4*i)) 1=some (v[4*i+1]'(by omega)):=atq_dr (j:=1) rfl (by omega)
      have g2:atq (v.drop (4*i)) 2=some (v[4*i+2]'(by omega)):=atq_dr (j:=2) rfl (by omega)
      have g3:atq (v.drop (4*i)) 3=some v[4*i+3]:=atq_dr (j:=3) rfl h4
      simp only[e1,e2,Int.toNat_natCast,cond_true,gd_t (show hiOk v ((4*i:Nat):Int) from⟨by omega,by omega⟩),g0,g1,g2,g3,bd_s,gd_ap1 (show s.length≤34359738368 by omega)]) (fun rec s=>by
      rw[show decide (((n.toNat:Nat):Int)<n)=false from decide_eq_false (by omega)];rfl) n.toNat 0 FUEL [] (by omega) (by have:=FUEL_le;omega) (by simp)]
     simp only[Nat.mul_zero,List.drop_zero,List.nil_append]
     cases hf:flagsOk v with
     |false=>rfl
     |true=>
      have hl:=ents_len n.toNat v hv
      simp only[cond_true,nx_r]
      rw[gd_t (show(D.Bundle.mk (ents v)).sz≤34359738368 by simp only[D.Bundle.sz];omega),bd_s]
      cases bundleOkF ⟨ents v⟩<;>rfl
theorem ent_loopS {a:List Int}(hb:bytesOk a){k:Nat}(hk:k≤20){τ:Type}{x:τ}{F:(Int×Nat×List D.Entry→Option (τ⊕List D.Entry))→Int×Nat×List D.Entry→Option (τ⊕List D.Entry)}
  (hF:∀rec (q:Nat) i s (hi:i<k),q≤a.length→s.length≤100→F rec ((q:Int),i,s)=bif !(decG a 4 q []).2.2 then some (.inl x) else rec ((decG a 4 q []).2.1,i+1,s++ents (decG a 4 q []).1)) (hE:∀rec e s,F rec (e,k,s)=some (.inr s)):
  ∀(m i n q:Nat) (s:List D.Entry),i+m=k→m<n→q≤a.length→s.length≤i→EV.itr n F ((q:Int),i,s)=some (bif (decG a (4*m) q []).2.2 then .inr (s++ents (decG a (4*m) q []).1) else .inl x)
 |0,i,n+1,q,s,h,_,_,_=>by
  have:i=k:=by omega
  subst this
  rw[itr_s,hE];simp[decG,ents]
 |m+1,i,n+1,q,s,h,hn,hq,hs=>by
  rw[itr_s,hF _ q i s (by omega) hq (by omega),show 4*(m+1)=4+4*m by omega,decG_split 4 (4*m)]
  cases hd:decG a 4 (q:Int) [] with
  |mk l r=>
   obtain⟨e,ok⟩:=r
   cases ok with
   |false=>rfl
   |true=>
    obtain⟨t,q',⟨k1,k2,k3,k4,k5⟩,_⟩:=decG_enc hb _ _ _ _ _ (by omega) (by omega) hd
    rw[List.nil_append] at k1
    subst k1;subst k3
    have hl:(ents l).length=1:=ents_len 1 l (by omega)
    simp only[Bool.not_true,cond_false,cond_true]
    rw[ent_loopS hb hk hF hE m (i+1) n q' _ (by omega) (by omega) k4 (by simp[hl];omega),decG_acc (4*m) (q':Int) l]
    cases(decG a (4*m) (q':Int) []).2.2 with
    |false=>rfl
    |true=>simp[ents_app 1 l _ (by omega)]
theorem four {l:List Int}(h:l.length=4):∃w x y z,l=[w,x,y,z]:=by
 match l,h with
 |[w,x,y,z],_=>exact⟨w,x,y,z,rfl⟩
theorem t_spec_DecodeBundle (a:List Int)(hb:bytesOk a):m_spec_DecodeBundle a=some (decBF a):=by
 unfold m_spec_DecodeBundle decBF
 rw[gd_t hb,bd_s,if_or,bd_s]
 cases hc:(!(uvF a 0).2.2||decide ((uvF a 0).1>20)) with
 |true=>rfl
 |false=>
  obtain⟨n,q,hu,h0,h1,h2⟩:=uv_split hb hc
  rw[hu,cond_false,cond_false]
  dsimp only
  rw[ent_loopS (x:=((D.Bundle.mk [],false):D.Bundle×Bool)) hb (k:=n.toNat) (by omega) (fun rec q i s hi hq hs=>by
   have e1:decide ((i:Int)<n)=true:=decide_eq_true (by omega)
   simp only[e1,cond_true,gd_t hb,bd_s,decode_G (a:=a) (e:=(q:Int)) (c:=4) (by omega) (by omega) (by omega) (by omega),show Int.toNat 4=4 from rfl]
   cases hd:decG a 4 (q:Int) [] with
   |mk l r=>
    obtain⟨e,ok⟩:=r
    cases ok with
    |false=>rfl
    |true=>
     obtain⟨t,q',⟨k1,k2,_⟩,_⟩:=decG_enc hb _ _ _ _ _ (by omega) (by omega) hd
     rw[List.nil_append] at k1
     subst k1
     obtain⟨w,x,y,z,rfl⟩:=four k2
     simp only[Bool.not_true,cond_false,show atq [w,x,y,z] 0=some w from rfl,show atq [w,x,y,z] 1=some x from rfl,show atq [w,x,y,z] 2=some y from rfl,show atq [w,x,y,z] 3=some z from rfl,bd_s,gd_ap1 (show s.length≤34359738368 by omega)]
     rfl) (fun rec e s=>by
   rw[show decide (((n.toNat:Nat):Int)<n)=false from decide_eq_false (by omega)];rfl) n.toNat 0 FUEL q [] (by omega) (by have:=FUEL_le;omega) h2 (by simp)]
  rw[show(4*n).toNat=4*n.toNat by omega]
  unfold decBG
  cases hd:decG a (4*n.toNat) (q:Int) [] with
  |mk v r=>
   obtain⟨e,ok⟩:=r
   cases ok with
   |false=>rfl
   |true=>
    obtain⟨b1,b2,b3,b4⟩:=decB_iff hb hu h1 (show decG a (4*n).toNat (q:Int) []=(v,e,true) by rw[show(4*n).toNat=4*n.toNat by omega];exact hd)
    have hz:(D.Bundle.mk (ents v)).sz≤34359738368:=by simp only[D.Bundle.sz];omega
    simp only[cond_true,nx_r,List.nil_append,gd_t hz,bd_s,gd_t (show bytesOk (encBF ⟨ents v⟩)∧bytesOk a from⟨encBF_ok _,hb⟩),if_or]
    unfold encBF
    cases hbo:bundleOkF ⟨ents v⟩ with
    |false=>simp
    |true=>
     rw[cond_true]
     by_cases hq:encF (valsF ⟨ents v⟩)=a
     ·obtain⟨c1,c2⟩:=b1.1 hq
      rw[hq,c1,c2];simp
     ·have:(e !=(a.length:Int)|| !flagsOk v)=true:=by
       cases h3:(e !=(a.length:Int)) with
       |true=>rfl
       |false=>
        cases h4:flagsOk v with
        |false=>rfl
        |true=>exact absurd (b1.2 ⟨by simpa using h3,h4⟩) hq
      rw[show(encF (valsF ⟨ents v⟩)==a)=false by simpa using hq]
      simp only[Bool.not_true,Bool.not_false,cond_true,Bool.false_or,Bool.or_false,this]
theorem t_impl_OpenBundle (k:Int)(s:D.SealedBundle)(h:s.Data.length≤34359738200):m_impl_OpenBundle k s=some (openBF k s):=by
 unfold m_impl_OpenBundle openBF
 rw[gd_t h,gd_t (by simp)]
 simp only[bd_s,gd_t (show s.Data.length≤34359738368 by omega),gd_t (decF_ok (k:=deriveF k [223,s.Epoch,s.Version]) (show s.Data.length≤34359738368 by omega))]
 unfold sealKeyF
 cases keyF k<;>cases inR s.Epoch 0 1000000<;>cases inR s.Version 0 1000000<;>cases(s.MAC !=sealMacF k s)<;>rfl
theorem t_spec_OpenBundle (k:Int)(s:D.SealedBundle)(h:s.Data.length≤34359738200):m_spec_OpenBundle k s=some (openBF k s):=by
 unfold m_spec_OpenBundle openBF
 rw[gd_t h,gd_t (show s.Data.length≤34359738368 by omega)]
 simp only[bd_s,gd_t (decF_ok (k:=sealKeyF k s.Epoch s.Version) (show s.Data.length≤34359738368 by omega))]
 cases keyF k<;>cases inR s.Epoch 0 1000000<;>cases inR s.Version 0 1000000<;>cases(s.MAC !=sealMacF k s)<;>rfl
theorem t_impl_SyncDevice (d:D.Device)(l:List D.LogEntry)(bx:D.EpochBoxes)(s:D.SealedBundle)(h:d.sz≤34359738368∧l.length≤34359738368∧bx.sz≤34359738368∧s.Data.length≤34359738200):m_impl_SyncDevice d l bx s=some (syncDevF d l bx s):=by
 obtain⟨h1,h2,h3,h4⟩:=h
 have hdl:=devicesOf_len l
 have hb:d.Bundle.sz≤34359738368:=by simp only[D.Device.sz,D.Bundle.sz] at*;omega
 unfold m_impl_SyncDevice syncDevF syncBad
 simp only[gd_t h1,gd_t h2,gd_t h3,gd_t h4,gd_t (show(devicesOfF l).length≤1099511627776 by omega),bd_s,if_or,bif_and,bif_or,bb_some]
 have ho:=openBF_sz (openEpochF d.Store bx).1 s
 generalize openBF (openEpochF d.Store bx).1 s=o at ho ⊢
 simp only[gd_t (show d.Bundle.sz≤34359738368∧o.1.sz≤34359738368 from⟨hb,by omega⟩),bd_s]
 cases !logOkF l|| !extendsF l d.Log with
 |true=>rfl
 |false=>
  cases !hasF (devicesOfF l) (devPubF d.Store) with
  |true=>rfl
  |false=>
   cases bx.Epoch !=epochOfF l|| !(openEpochF d.Store bx).2 with
   |true=>rfl
   |false=>
    cases decide (s.Epoch<epochOfF l)||(decide (s.Epoch<d.Epoch)||(s.Epoch==d.Epoch&&decide (s.Version<d.Version))) with
    |true=>rfl
    |false=>cases !o.2<;>cases !(mergeF d.Bundle o.1).2<;>rfl
theorem t_spec_SyncDevice (d:D.Device)(l:List D.LogEntry)(bx:D.EpochBoxes)(s:D.SealedBundle)(h:d.sz≤34359738368∧l.length≤34359738368∧bx.sz≤34359738368∧s.Data.length≤34359738200):m_spec_SyncDevice d l bx s=some (syncDevF d l bx s):=by
 obtain⟨h1,h2,h3,h4⟩:=h
 have hdl:=devicesOf_len l
 have hb:d.Bundle.sz≤34359738368:=by simp only[D.Device.sz,D.Bundle.sz] at*;omega
 unfold m_spec_SyncDevice syncDevF syncBad
 simp only[gd_t h1,gd_t h2,gd_t h3,gd_t h4,gd_t (show(devicesOfF l).length≤1099511627776 by omega),bd_s,if_or,bif_and,bif_or,bb_some]
 have ho:=openBF_sz (openEpochF d.Store bx).1 s
 generalize openBF (openEpochF d.Store bx).1 s=o at ho ⊢
 simp only[gd_t (show d.Bundle.sz≤34359738368∧o.1.sz≤34359738368 from⟨hb,by omega⟩),bd_s]
 cases !logOkF l|| !extendsF l d.Log with
 |true=>rfl
 |false=>
  cases !hasF (devicesOfF l) (devPubF d.Store) with
  |true=>rfl
  |false=>
   cases bx.Epoch !=epochOfF l|| !(openEpochF d.Store bx).2 with
   |true=>rfl
   |false=>
    cases decide (s.Epoch<epochOfF l)||(decide (s.Epoch<d.Epoch)||(s.Epoch==d.Epoch&&decide (s.Version<d.Version))) with
    |true=>rfl
    |false=>cases !o.2<;>cases !(mergeF d.Bundle o.1).2<;>rfl
theorem fetch_len {c:D.Cloud}(h:c.sz≤34359738100)(b:Int):c.Log.length≤34359738100∧c.Boxes.sz≤34359738100∧(fetchF c b).1.Data.length≤34359738100:=by
 have hz:=h
 simp only[D.Cloud.sz] at h
 refine⟨by omega,by simp only[D.EpochBoxes.sz] at*;omega,?_⟩
 unfold fetchF
 cases e:(decide (b<0)||decide (b≥(c.History.length:Int))) with
 |true=>simp
 |false=>
  have:=(fetch_at (b:=b) (show c.sz≤34359738368 by omega) (out_no e)).2
  have h1:=getD_sz (f:=D.SealedBundle.sz) (l:=c.History) (i:=c.History.length-1-b.toNat) (by have:=out_no e;omega)
  simp only[cond_false]
  simp only[D.SealedBundle.sz] at h1
  omega
theorem t_spec_l32Sync (d:D.Device)(c:D.Cloud)(b:Int)(h:d.sz≤34359738100∧c.sz≤34359738100):m_spec_l32Sync d c b=some (syncDevF d c.Log c.Boxes (fetchF c b).1):=by
 obtain⟨h1,h2⟩:=h
 obtain⟨k1,k2,k3⟩:=fetch_len h2 b
 unfold m_spec_l32Sync
 rw[gd_t (show c.sz≤34359738368 by omega),bd_s,gd_t ⟨by omega,by omega,by omega,by omega⟩,bd_s]
theorem dev_in {w:D.World}{d:Int}(h:hasDevF w d=true):0≤d∧d.toNat<w.Devices.length∧(devAt w d).sz≤w.sz∧devAt w d=w.Devices.getD d.toNat default:=by
 simp only[hasDevF,Bool.and_eq_true,decide_eq_true_eq] at h
 have hi:d.toNat<w.Devices.length:=by omega
 have:=getD_sz (f:=D.Device.sz) hi
 refine⟨h.1,hi,?_,rfl⟩
 show(w.Devices.getD d.toNat default).sz≤_
 simp only[D.World.sz];omega
theorem cloud_sz (w:D.World):w.Cloud.sz≤w.sz:=by simp only[D.World.sz,D.Cloud.sz,D.EpochBoxes.sz];omega
theorem t_spec_SyncOne (w:D.World)(d b:Int)(hz:w.sz≤34359738100):m_spec_SyncOne w d b=some (syncF w d b):=by
 have hcl:=cloud_sz w
 unfold m_spec_SyncOne syncF
 rw[gd_t (show w.sz≤34359738368 by omega),bd_s,gd_t (show w.sz≤34359738368 by omega),bd_s]
 cases hc:(worldOkF w&&hasDevF w d) with
 |false=>rfl
 |true=>
  have hd:=(Bool.and_eq_true_iff.1 hc).2
  obtain⟨k1,k2,k3,k4⟩:=dev_in hd
  rw[Bool.not_true,cond_false,cond_true,atq_dev hd,bd_s,gd_t ⟨by omega,by omega⟩,bd_s,bd_s]
theorem t_impl_SyncOne (w:D.World)(d b:Int)(hz:w.sz≤34359738100):m_impl_SyncOne w d b=some (syncF w d b):=by
 have hcl:=cloud_sz w
 unfold m_impl_SyncOne syncF
 rw[gd_t (show w.sz≤34359738368 by omega),bd_s,gd_t (show w.sz≤34359738368 by omega),bd_s,if_or,bd_s,←Bool.not_and]
 cases hc:(worldOkF w&&hasDevF w d) with
 |false=>rfl
 |true=>
  have hd:=(Bool.and_eq_true_iff.1 hc).2
  obtain⟨k1,k2,k3,k4⟩:=dev_in hd
  obtain⟨l1,l2,l3⟩:=fetch_len (show w.Cloud.sz≤34359738100 by omega) b
  rw[Bool.not_true,cond_false,cond_true,gd_t (show w.Cloud.sz≤34359738368 by omega),bd_s,atq_dev hd,bd_s,gd_t ⟨by omega,by omega,by omega,by omega⟩,bd_s,bd_s]
end
end Go.VK
