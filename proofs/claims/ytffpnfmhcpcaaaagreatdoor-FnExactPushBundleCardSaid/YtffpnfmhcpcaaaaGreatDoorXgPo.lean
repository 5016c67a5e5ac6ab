import Derived.Test.YtffpnfmhcpcaaaaGreatDoorXgPm
import Derived.Test.YtffpnfmhcpcaaaaGreatDoorXgQ
/-
  Printed by wip/tools (own work of this part): models of functions, walks over the value kit, and proofs.
-/
set_option linter.unusedVariables false
set_option linter.unusedSimpArgs false
set_option maxRecDepth 100000
set_option maxHeartbeats 4000000
namespace Go.VK
open Go.RowKit Go.Proofs
noncomputable section
open EV (itr)
theorem t_spec_EpochOf (l:List D.LogEntry)(h:l.length≤34359738368):m_spec_EpochOf l=some (epochOfF l):=by
 unfold m_spec_EpochOf
 rw[foldLoopR (l:=l) (fun n e=>bif e.Kind==2 then IntKind.i64.wrap (n+1) else n) (fun _ _=>True) (fun s=>some s) (by omega) trivial (fun _ _ _ _=>trivial) (fun rec i s hi _=>by
  simp only[lt_i hi,cond_true,atq_nat hi,bd_s,bb_some]) (fun rec s _=>by simp only[ge_i,cond_false])]
 rfl
theorem t_impl_EpochOf (l:List D.LogEntry)(h:l.length≤34359738368):m_impl_EpochOf l=some (epochOfF l):=by
 unfold m_impl_EpochOf
 rw[foldLoopR (l:=l) (fun n e=>bif e.Kind==2 then IntKind.i64.wrap (n+1) else n) (fun _ _=>True) (fun s=>some s) (by omega) trivial (fun _ _ _ _=>trivial) (fun rec i s hi _=>by
  simp only[lt_i hi,cond_true,atq_nat hi,bd_s,bb_some]) (fun rec s _=>by simp only[ge_i,cond_false])]
 rfl
theorem t_impl_BoxKey (p e:Int):m_impl_BoxKey p e=some (boxKeyF p e):=by unfold m_impl_BoxKey;rw[gd_t (by simp)];rfl
theorem t_spec_BoxKey (p e:Int):m_spec_BoxKey p e=some (boxKeyF p e):=by unfold m_spec_BoxKey;rw[gd_t (by simp)];rfl
theorem t_spec_BoxMAC (k:Int)(b:D.Box)(h:b.Data.length≤34359738200):m_spec_BoxMAC k b=some (macF k b):=by
 unfold m_spec_BoxMAC macF
 rw[gd_t (by omega),bd_s,gd_t (by simp[apOk,b2iF];omega),gd_t (by simp[b2iF];omega)];rfl
theorem t_impl_BoxMAC (k:Int)(b:D.Box)(h:b.Data.length≤34359738200):m_impl_BoxMAC k b=some (macF k b):=by
 unfold m_impl_BoxMAC macF
 rw[gd_t (by omega),bd_s,gd_t (by simp[joinP,b2iF];omega),bd_s,gd_t (by simp[b2iF,joinF];omega)]
 simp[joinF]
theorem catI_snoc {α β:Type}{y:Nat→α→β}:∀{l:List α} {j i:Nat} (hi:i<l.length),catI (fun i x=>[y i x]) j (l.take (i+1))=catI (fun i x=>[y i x]) j (l.take i)++[y (j+i) l[i]]
 |x::xs,j,0,_=>by simp[catI]
 |x::xs,j,i+1,hi=>by
  have:=catI_snoc (y:=y) (l:=xs) (j:=j+1) (i:=i) (by simpa using hi)
  simp only[List.take_succ_cons,catI,List.getElem_cons_succ,this,List.cons_append,List.nil_append]
  rw[show j+1+i=j+(i+1) by omega]
theorem decLoop {k:Int}{b:List Int}(hl:b.length≤34359738368){F:(List Int×Nat→Option (List Int))→List Int×Nat→Option (List Int)}
  (hF:∀rec i s (hi:i<b.length),s.length≤34359738368→F rec (s,i)=rec (s++[decB k i b[i]],i+1)) (hE:∀rec s,F rec (s,b.length)=some s):itr FUEL F ([],0)=some (decF k b):=by
 refine itr0 (fun i s=>i≤b.length∧s=(catI (fun i z=>[decB k i z]) 0 (b.take i),i)) b.length _ (by omega) ⟨by omega,by simp[catI]⟩ (fun i s rec hi hv=> ?_) (fun s rec hv=> ?_)
 ·obtain⟨_,rfl⟩:=hv
  refine .inl ⟨_,⟨hi,rfl⟩,?_⟩
  rw[hF rec i _ hi (by rw[catI_len,List.length_take];omega),catI_snoc hi,Nat.zero_add]
 ·obtain⟨_,rfl⟩:=hv
  rw[hE,List.take_length];rfl
theorem t_spec_Decrypt (k:Int)(b:List Int)(h:b.length≤34359738368):m_spec_Decrypt k b=some (decF k b):=by
 unfold m_spec_Decrypt
 rw[decLoop (k:=k) h (fun rec i s hi hs=>by
  have e:=dec_spec k i b[i]
  have h4:((256:Int)≠0)=True:=by simp
  simp only[lt_i hi,cond_true,atq_nat hi,bd_s,gd_t (show([(i:Int)]:List Int).length≤34359738368 by simp),h4,gd_T,e,gd_ap1 hs]) (fun rec s=>by simp only[ge_i,cond_false])]
 rfl
theorem t_impl_Decrypt (k:Int)(b:List Int)(h:b.length≤34359738368):m_impl_Decrypt k b=some (decF k b):=by
 unfold m_impl_Decrypt
 rw[decLoop (k:=k) h (fun rec i s hi hs=>by
  have e:=dec_impl k i b[i]
  simp only[lt_i hi,cond_true,atq_nat hi,bd_s,gd_t (show([(i:Int)]:List Int).length≤34359738368 by simp),e,gd_ap1 hs]) (fun rec s=>by simp only[ge_i,cond_false])]
 rfl
theorem t_spec_OpenBox (p:Int)(b:D.Box):m_spec_OpenBox p b=some (openBoxF p b):=by
 unfold m_spec_OpenBox openBoxF
 by_cases hl:b.Data.length≤200
 ·simp only[gd_t (show b.Data.length≤34359738200 by omega),gd_t (show b.Data.length≤34359738368 by omega),bd_s,show decide ((b.Data.length:Int)>200)=false from decide_eq_false (by omega)]
  cases keyF p<;>cases(b.To !=publicF p)<;>cases keyF b.Ephemeral<;>cases(b.MAC !=macF (boxKeyF p b.Ephemeral) b)<;>rfl
 ·rw[show decide ((b.Data.length:Int)>200)=true from decide_eq_true (by omega)]
  cases keyF p<;>cases(b.To !=publicF p)<;>cases keyF b.Ephemeral<;>rfl
theorem findBox_loop {bs:List D.Box}{p:Int}(hl:bs.length≤34359738368){F:(Nat→Option ((List Int×Bool)⊕PUnit))→Nat→Option ((List Int×Bool)⊕PUnit)}
  (hF:∀rec i (hi:i<bs.length),F rec i=bif (openBoxF p bs[i]).2 then some (.inl ((openBoxF p bs[i]).1,true)) else rec (i+1)) (hE:∀rec,F rec bs.length=some (.inr ())):nx (itr FUEL F 0) (fun _=>some (([]:List Int),false))=some (findBoxF bs p):=by
 have go:∀(k i n:Nat),i+k=bs.length→k<n→nx (itr n F i) (fun _=>some (([]:List Int),false))=some (findBoxF (bs.drop i) p):=by
  intro k
  induction k with
  |zero=>
   intro i n hk hn
   obtain⟨n,rfl⟩:∃m,n=m+1:=⟨n-1,by omega⟩
   have:i=bs.length:=by omega
   subst this
   rw[itr_s,hE,List.drop_length];rfl
  |succ k ih=>
   intro i n hk hn
   obtain⟨n,rfl⟩:∃m,n=m+1:=⟨n-1,by omega⟩
   have hi:i<bs.length:=by omega
   rw[itr_s,hF _ i hi,List.drop_eq_getElem_cons hi,findBoxF]
   cases(openBoxF p bs[i]).2 with
   |true=>rfl
   |false=>exact ih (i+1) n (by omega) (by omega)
 exact go bs.length 0 FUEL (by omega) (by have:=FUEL_le;omega)
theorem t_spec_FindBox (bs:List D.Box)(p:Int)(h:bs.length≤34359738368):m_spec_FindBox bs p=some (findBoxF bs p):=by
 unfold m_spec_FindBox
 exact findBox_loop h (fun rec i hi=>by simp only[lt_i hi,cond_true,atq_nat hi,bd_s]) (fun rec=>by simp only[ge_i,cond_false])
theorem t_impl_OpenBox (p:Int)(b:D.Box):m_impl_OpenBox p b=some (openBoxF p b):=by
 unfold m_impl_OpenBox openBoxF
 by_cases hl:b.Data.length≤200
 ·simp only[gd_t (show b.Data.length≤34359738200 by omega),gd_t (show b.Data.length≤34359738368 by omega),bd_s,show decide ((b.Data.length:Int)>200)=false from decide_eq_false (by omega)]
  cases keyF p<;>cases(b.To !=publicF p)<;>cases keyF b.Ephemeral<;>cases(b.MAC !=macF (boxKeyF p b.Ephemeral) b)<;>rfl
 ·rw[show decide ((b.Data.length:Int)>200)=true from decide_eq_true (by omega)]
  cases keyF p<;>cases(b.To !=publicF p)<;>cases keyF b.Ephemeral<;>rfl
theorem t_impl_FindBox (bs:List D.Box)(p:Int)(h:bs.length≤34359738368):m_impl_FindBox bs p=some (findBoxF bs p):=by
 unfold m_impl_FindBox
 exact findBox_loop h (fun rec i hi=>by simp only[lt_i hi,cond_true,atq_nat hi,bd_s]) (fun rec=>by simp only[ge_i,cond_false])
theorem fetch_at {c:D.Cloud}{b:Int}(hz:c.sz≤34359738368)(h0:0≤b∧b<(c.History.length:Int)):atq c.History (IntKind.i64.wrap (IntKind.i64.wrap ((c.History.length:Int)-1)-b))=some (c.History.getD (c.History.length-1-b.toNat) default)∧(c.History.getD (c.History.length-1-b.toNat) default).sz≤34359738368:=by
 simp only[D.Cloud.sz] at hz
 have h1:=getD_sz (f:=D.SealedBundle.sz) (l:=c.History) (i:=c.History.length-1-b.toNat) (by omega)
 refine⟨?_,by omega⟩
 rw[wrap64_id (n:=(c.History.length:Int)-1) (by omega) (by omega),wrap64_id (by omega) (by omega),atq_getD (by omega) (by omega)]
 congr 2;omega
theorem t_spec_FetchBundle (c:D.Cloud)(b:Int)(hz:c.sz≤34359738368):m_spec_FetchBundle c b=some (fetchF c b):=by
 unfold m_spec_FetchBundle fetchF
 rw[inR_neg (by simp only[D.Cloud.sz] at hz;omega)]
 cases e:(decide (b<0)||decide (b≥(c.History.length:Int))) with
 |true=>rfl
 |false=>
  obtain⟨h1,h2⟩:=fetch_at hz (out_no e)
  rw[cond_false,cond_false,h1,bd_s,gd_t h2,bd_s]
theorem t_impl_FetchBundle (c:D.Cloud)(b:Int)(hz:c.sz≤34359738368):m_impl_FetchBundle c b=some (fetchF c b):=by
 unfold m_impl_FetchBundle fetchF
 rw[if_or,bd_s]
 cases e:(decide (b<0)||decide (b≥(c.History.length:Int))) with
 |true=>rfl
 |false=>
  obtain⟨h1,h2⟩:=fetch_at hz (out_no e)
  rw[cond_false,cond_false,h1,bd_s,gd_t h2,bd_s]
end
end Go.VK
