import Derived.Test.YtffpnfmhcpcaaaaGreatDoorXgPb
import Derived.Test.YtffpnfmhcpcaaaaGreatDoorXgQ
/-
  Printed by wip/tools (own work of this part): models of functions, walks over the value kit, and proofs.
-/
set_option linter.unusedVariables false
set_option linter.unusedSimpArgs false
set_option maxRecDepth 100000
set_option maxHeartbeats 4000000
namespace Go.VK
open Go.RowKit Go.Proofs
noncomputable section
open EV (itr)
theorem t_spec_l17Less (a:D.Entry)(s h:Int):m_spec_l17Less a s h=some (lessF a s h):=by
 unfold m_spec_l17Less lessF
 cases decide (a.Site<s)<;>cases(a.Site==s)<;>rfl
theorem t_impl_entryBefore (a b:D.Entry):m_impl_entryBefore a b=some (kless a b):=by
 unfold m_impl_entryBefore kless
 cases decide (a.Site<b.Site)<;>cases(a.Site==b.Site)<;>rfl
theorem bad_step {l:List D.Entry}{i:Nat}(hi:i<l.length)(hl:l.length≤34359738368){q:D.Entry→Bool}(hq:∀x,q x=kless x l[i]):
  (bif (!inR l[i].Site (0:Int) (2147483646:Int)) then(some (true)) else(bif (!inR l[i].Handle (0:Int) (1000000:Int)) then(some (true)) else(bif (!inR l[i].Version (1:Int) (1000000:Int)) then(some (true)) else(bif (decide ((i:Int)>(0:Int))) then(bd (atq l (IntKind.i64.wrap ((i:Int)-(1:Int)))) fun(z4:(D.Entry))=>some (!q z4)) else(some (false))))))=some (badE l i l[i]):=by
 unfold badE
 cases inR l[i].Site 0 2147483646 with
 |false=>rfl
 |true=>
  cases inR l[i].Handle 0 1000000 with
  |false=>rfl
  |true=>
   cases inR l[i].Version 1 1000000 with
   |false=>rfl
   |true=>
    by_cases h0:(i:Int)>0
    ·rw[decide_eq_true h0,wrap64_id (by omega) (by omega)]
     have hat:atq l ((i:Int)-1)=some l[i-1]:=by
      rw[show(i:Int)-1=((i-1:Nat):Int) by omega];exact atq_nat (by omega)
     have hg:l.getD (i-1) default=l[i-1]:=by rw[List.getD,List.getElem?_eq_getElem (by omega),Option.getD_some]
     simp only[hat,bd_s,hq,hg,Bool.not_true,cond_false,cond_true,Bool.false_or,Bool.true_and]
    ·rw[decide_eq_false h0];rfl
theorem t_spec_IsBundle (b:D.Bundle)(h:b.sz≤34359738368):m_spec_IsBundle b=some (bundleOkF b):=by
 simp only[D.Bundle.sz] at h
 unfold m_spec_IsBundle bundleOkF
 rw[anyLoopI (l:=b.Entries) (badE b.Entries) (.inl false) (.inr ()) (by omega) (fun rec i hi=>by
  simp only[lt_i hi,cond_true,atq_nat hi,bd_s]
  rw[bad_step hi h (q:=fun x=>lessF x b.Entries[i].Site b.Entries[i].Handle) (fun x=>rfl)]
  rfl) (fun rec=>by simp only[ge_i,cond_false])]
 cases anyI (badE b.Entries) 0 b.Entries with
 |true=>simp[nx]
 |false=>simp[nx]
theorem t_impl_IsBundle (b:D.Bundle)(h:b.sz≤34359738368):m_impl_IsBundle b=some (bundleOkF b):=by
 simp only[D.Bundle.sz] at h
 unfold m_impl_IsBundle bundleOkF
 by_cases h20:(b.Entries.length:Int)>20
 ·rw[decide_eq_true h20,show decide ((b.Entries.length:Int)≤20)=false from decide_eq_false (by omega)];rfl
 ·rw[decide_eq_false h20,show decide ((b.Entries.length:Int)≤20)=true from decide_eq_true (by omega),cond_false]
  rw[anyLoopI (l:=b.Entries) (badE b.Entries) (.inl false) (.inr ()) (by omega) (fun rec i hi=>by
   simp only[lt_i hi,cond_true,atq_nat hi,bd_s]
   rw[bad_step hi h (q:=fun x=>kless x b.Entries[i]) (fun x=>rfl)]
   rfl) (fun rec=>by simp only[ge_i,cond_false])]
  cases anyI (badE b.Entries) 0 b.Entries<;>rfl
theorem t_spec_FindEntry (b:D.Bundle)(s h:Int)(hz:b.sz≤34359738368):m_spec_FindEntry b s h=some (findEntryF b s h):=by
 simp only[D.Bundle.sz] at hz
 unfold m_spec_FindEntry findEntryF
 exact findLoop (l:=b.Entries) (fun(e:D.Entry)=>e.Site==s&&e.Handle==h) (by omega) (fun rec i hi=>by
  simp only[lt_i hi,cond_true,atq_nat hi,bd_s]
  cases(b.Entries[i].Site==s)<;>rfl) (fun rec=>by simp only[ge_i,cond_false])
theorem t_spec_l17Copy (b:D.Bundle)(h:b.sz≤34359738368):m_spec_l17Copy b=some (b):=by
 simp only[D.Bundle.sz] at h
 unfold m_spec_l17Copy
 rw[gd_t (by unfold apOk;simp only[List.length_nil];omega)];rfl
theorem t_impl_copyBundle (b:D.Bundle)(h:b.sz≤34359738368):m_impl_copyBundle b=some (b):=by
 simp only[D.Bundle.sz] at h
 unfold m_impl_copyBundle
 rw[gd_t (by unfold apOk;simp only[List.length_nil];omega)];rfl
theorem tw_step (p:D.Entry→Bool):∀(l:List D.Entry) (i:Nat),i≤(l.takeWhile p).length→(∃hi:i<l.length,p l[i]=true∧i<(l.takeWhile p).length)∨(i=(l.takeWhile p).length∧∀hi:i<l.length,p l[i]=false)
 |[],i,h=> .inr ⟨by simpa using h,fun hi=>by simp at hi⟩
 |x::l,i,h=>by
  rw[List.takeWhile_cons] at h ⊢
  cases hp:p x with
  |false=>
   rw[hp] at h
   simp at h
   subst h
   exact .inr ⟨by simp,fun _=>hp⟩
  |true=>
   rw[hp] at h
   simp only[if_true,List.length_cons] at h ⊢
   cases i with
   |zero=>exact .inl ⟨by simp,hp,by omega⟩
   |succ i=>
    rcases tw_step p l i (by omega) with⟨h1,h2,h3⟩|⟨h1,h2⟩
    ·exact .inl ⟨by simpa using h1,h2,by omega⟩
    ·exact .inr ⟨by omega,fun hi=>h2 (by simpa using hi)⟩
theorem tw_take (p:D.Entry→Bool):∀l:List D.Entry,l.take (l.takeWhile p).length=l.takeWhile p
 |[]=>rfl
 |x::l=>by
  rw[List.takeWhile_cons]
  cases p x with
  |false=>rfl
  |true=>simp only[if_true,List.length_cons,List.take_succ_cons];rw[tw_take p l]
theorem tw_drop (p:D.Entry→Bool):∀l:List D.Entry,l.drop (l.takeWhile p).length=l.dropWhile p
 |[]=>rfl
 |x::l=>by
  rw[List.takeWhile_cons,List.dropWhile_cons]
  cases p x with
  |false=>rfl
  |true=>simp only[if_true,List.length_cons,List.drop_succ_cons];rw[tw_drop p l]
theorem t_spec_l17Set (b:D.Bundle)(x:D.Entry)(h:b.sz≤34359738360):m_spec_l17Set b x=some (setF b x):=by
 have h':=h
 simp only[D.Bundle.sz] at h
 unfold m_spec_l17Set setF
 rw[gd_t (by omega),bd_s,gd_t (by omega),bd_s]
 by_cases hf:findEntryF b x.Site x.Handle≥0
 ·rw[decide_eq_true hf,cond_true,cond_true]
  have:=findP_lt (show 0≤findP (fun e=>e.Site==x.Site&&e.Handle==x.Handle) 0 b.Entries from hf)
  have hlt:(findEntryF b x.Site x.Handle).toNat<b.Entries.length:=by unfold findEntryF;omega
  rw[atq_int hf hlt];rfl
 ·rw[decide_eq_false hf,cond_false,cond_false]
  have htl:(b.Entries.takeWhile fun e=>lessF e x.Site x.Handle).length≤b.Entries.length:=(List.takeWhile_sublist _).length_le
  rw[itr0 (fun i s=>i≤(b.Entries.takeWhile fun e=>lessF e x.Site x.Handle).length∧s=(i:Int)) b.Entries.length (some ((b.Entries.takeWhile fun e=>lessF e x.Site x.Handle).length:Int)) (s:=(0:Int)) (by omega) ⟨by omega,rfl⟩ (fun i s rec hi hv=>by
   obtain⟨h1,rfl⟩:=hv
   rcases tw_step _ _ i h1 with⟨g1,g2,g3⟩|⟨g1,g2⟩
   ·refine .inl ⟨_,⟨by omega,rfl⟩,?_⟩
    simp only[lt_i hi,cond_true,atq_nat hi,bd_s,g2]
    rw[wrap64_id (by omega) (by omega)];rfl
   ·refine .inr ?_
    simp only[lt_i hi,cond_true,atq_nat hi,bd_s,g2 hi,cond_false]
    rw[←g1]) (fun s rec hv=>by
   obtain⟨h1,rfl⟩:=hv
   have e:b.Entries.length=(b.Entries.takeWhile fun e=>lessF e x.Site x.Handle).length:=by omega
   simp only[ge_i,cond_false,bd_s]
   rw[←e]),bd_s]
  rw[gd_t ⟨by omega,by simpa using htl⟩,gd_t ⟨by omega,by simpa using htl⟩,gd_t (by unfold apOk;simp;omega),gd_t (by unfold apOk;simp;omega),gd_t (by unfold apOk;simp;omega)]
  rw[Int.toNat_natCast,List.nil_append]
  rw[tw_take,tw_drop]
theorem newer_get {l:List D.Entry}{k:Int}(h0:0≤k)(h1:k.toNat<l.length)(x:D.Entry):(bd (atq l k) fun(z9:D.Entry)=>bif (decide (x.Version>z9.Version)) then(some (true)) else(bd (atq l k) fun(z10:D.Entry)=>bif (x.Version==z10.Version) then(some (x.Deleted)) else(some (false))))=some (newerE x (l.getD k.toNat default)):=by
 rw[atq_int h0 h1,List.getD,List.getElem?_eq_getElem h1,Option.getD_some]
 simp only[bd_s]
 unfold newerE
 cases decide (x.Version>l[k.toNat].Version)<;>cases(x.Version==l[k.toNat].Version)<;>rfl
theorem t_spec_MergeBundles (a b:D.Bundle)(h:a.sz≤34359738368∧b.sz≤34359738368):m_spec_MergeBundles a b=some (mergeF a b):=by
 unfold m_spec_MergeBundles mergeF
 rw[gd_t h.1,bd_s]
 cases ha:bundleOkF a with
 |false=>rw[gd_t h.1];rfl
 |true=>
  rw[gd_t h.2]
  cases hb:bundleOkF b with
  |false=>rw[gd_t h.1];rfl
  |true=>
   obtain⟨la,sa⟩:=ok_srt ha
   obtain⟨lb,sb⟩:=ok_srt hb
   rw[gd_t h.1]
   simp only[Bool.not_true,cond_false,cond_true,bd_s,Bool.and_self]
   rw[foldLoopL (l:=b.Entries) (s0:=a.Entries) (fun o x=>mergeL o [x]) (fun i o=>srt o∧o.length≤20+i) (fun o=>some o) (by omega) ⟨sa,by omega⟩ (fun i o hi hv=>by
     have:=merge_len _ o [b.Entries[i]] (Nat.le_refl _)
     exact⟨ins_srt hv.1,by simp only[List.length_singleton] at this;omega⟩) (fun rec i o hi hv=>by
     obtain⟨hs,hl⟩:=hv
     simp only[lt_i hi,cond_true,atq_nat hi,bd_s]
     rw[gd_t (by simp only[D.Bundle.sz];omega),bd_s,←step_ins hs]
     have hk:(bif decide (findEntryF ⟨o⟩ b.Entries[i].Site b.Entries[i].Handle<0) then some true else bd (atq o (findEntryF ⟨o⟩ b.Entries[i].Site b.Entries[i].Handle)) fun(z9:D.Entry)=>bif (decide (b.Entries[i].Version>z9.Version)) then(some (true)) else(bd (atq o (findEntryF ⟨o⟩ b.Entries[i].Site b.Entries[i].Handle)) fun(z10:D.Entry)=>bif (b.Entries[i].Version==z10.Version) then(some (b.Entries[i].Deleted)) else(some (false))))=some (decide (findEntryF ⟨o⟩ b.Entries[i].Site b.Entries[i].Handle<0)||newerE b.Entries[i] (o.getD (findEntryF ⟨o⟩ b.Entries[i].Site b.Entries[i].Handle).toNat default)):=by
      by_cases hf:findEntryF ⟨o⟩ b.Entries[i].Site b.Entries[i].Handle<0
      ·rw[decide_eq_true hf];rfl
      ·rw[decide_eq_false hf,cond_false]
       have:=findP_lt (show 0≤findP (fun(e:D.Entry)=>e.Site==b.Entries[i].Site&&e.Handle==b.Entries[i].Handle) 0 o from by unfold findEntryF at hf;simp only at hf;omega)
       rw[newer_get (by omega) (by unfold findEntryF;simp only;omega)];rfl
     rw[hk,bd_s]
     cases(decide (findEntryF ⟨o⟩ b.Entries[i].Site b.Entries[i].Handle<0)||newerE b.Entries[i] (o.getD (findEntryF ⟨o⟩ b.Entries[i].Site b.Entries[i].Handle).toNat default)) with
     |false=>rfl
     |true=>rw[cond_true,cond_true,gd_t (by simp only[D.Bundle.sz];omega)];rfl) (fun rec o _=>by simp only[ge_i,cond_false])]
   rw[fold_merge _ _ sb,bd_s]
   have hm:=merge_len _ a.Entries b.Entries (Nat.le_refl _)
   rw[gd_t (by simp only[D.Bundle.sz];omega),bd_s]
   cases bundleOkF ⟨mergeL a.Entries b.Entries⟩<;>rfl
theorem drop_at {l:List D.Entry}{i:Nat}(h:i<l.length):l.drop i=l[i]::l.drop (i+1):=List.drop_eq_getElem_cons h
theorem newer_pick (e f:D.Entry){X:Int×Int×Int×Bool→Option (List D.Entry)}:(bd (bd (bif (decide (f.Version>e.Version)) then(some (true)) else(bif (f.Version==e.Version) then(some (f.Deleted)) else(some (false)))) fun(z10:Bool)=>bif z10 then(some (f.Site,f.Handle,f.Version,f.Deleted)) else(some (e.Site,e.Handle,e.Version,e.Deleted))) X)=X ((pickE e f).Site,(pickE e f).Handle,(pickE e f).Version,(pickE e f).Deleted):=by
 unfold pickE newerE
 cases decide (f.Version>e.Version)<;>cases(f.Version==e.Version)<;>cases hd:f.Deleted<;>simp[bd,hd]
theorem t_impl_MergeBundles (a b:D.Bundle)(h:a.sz≤34359738368∧b.sz≤34359738368):m_impl_MergeBundles a b=some (mergeF a b):=by
 unfold m_impl_MergeBundles mergeF
 rw[gd_t h.1,bd_s]
 cases ha:bundleOkF a with
 |false=>rw[gd_t h.1];rfl
 |true=>
  rw[gd_t h.2]
  cases hb:bundleOkF b with
  |false=>rw[gd_t h.1];rfl
  |true=>
   obtain⟨la,sa⟩:=ok_srt ha
   obtain⟨lb,sb⟩:=ok_srt hb
   simp only[Bool.not_true,cond_false,cond_true,bd_s,Bool.and_self]
   have hm:=merge_len _ a.Entries b.Entries (Nat.le_refl _)
   rw[itr0 (fun n s=>∃(i k:Nat) (o:List D.Entry),s=((i:Int),(k:Int),o)∧i≤a.Entries.length∧k≤b.Entries.length∧n≤i+k∧o++mergeL (a.Entries.drop i) (b.Entries.drop k)=mergeL a.Entries b.Entries) (a.Entries.length+b.Entries.length) (some (mergeL a.Entries b.Entries)) (s:=((0:Int),(0:Int),([]:List D.Entry))) (by omega) ⟨0,0,[],rfl,by omega,by omega,by omega,rfl⟩ (fun n s rec hn hv=>by
     obtain⟨i,k,o,rfl,hi,hk,hik,ho⟩:=hv
     have hol:o.length≤40:=by have:=congrArg List.length ho;rw[List.length_append] at this;omega
     have hap:∀x:D.Entry,apOk o [x]:=fun x=>by unfold apOk;simp only[List.length_singleton];omega
     have wi:IntKind.i64.wrap ((i:Int)+1)=((i+1:Nat):Int):=by rw[wrap64_id (by omega) (by omega)];rfl
     have wk:IntKind.i64.wrap ((k:Int)+1)=((k+1:Nat):Int):=by rw[wrap64_id (by omega) (by omega)];rfl
     rcases Nat.lt_or_ge i a.Entries.length with hi'|hi'
     ·have ne1:((i:Int)==(a.Entries.length:Int))=false:=by simp;omega
      rw[drop_at hi'] at ho
      rcases Nat.lt_or_ge k b.Entries.length with hk'|hk'
      ·have ne2:((k:Int)==(b.Entries.length:Int))=false:=by simp;omega
       rw[drop_at hk',merge_cons] at ho
       simp only[lt_i hi',lt_i hk',cond_true,bd_s,ne2,cond_false,atq_nat hi',atq_nat hk',ne1,gd_t (hap _),wi,wk,newer_pick]
       cases h1:kless a.Entries[i] b.Entries[k] with
       |true=>
        rw[h1,cond_true,←drop_at hk'] at ho
        exact .inl ⟨_,⟨i+1,k,o++[a.Entries[i]],rfl,by omega,hk,by omega,by rw[←ho];simp⟩,rfl⟩
       |false=>
        cases h2:kless b.Entries[k] a.Entries[i] with
        |true=>
         rw[h1,cond_false,h2,cond_true,←drop_at hi'] at ho
         exact .inl ⟨_,⟨i,k+1,o++[b.Entries[k]],rfl,hi,by omega,by omega,by rw[←ho];simp⟩,rfl⟩
        |false=>
         rw[h1,cond_false,h2,cond_false] at ho
         exact .inl ⟨_,⟨i+1,k+1,o++[pickE a.Entries[i] b.Entries[k]],rfl,by omega,by omega,by omega,by rw[←ho];simp⟩,rfl⟩
      ·have e:k=b.Entries.length:=by omega
       subst e
       rw[List.drop_length,merge_nil] at ho
       simp only[lt_i hi',cond_true,bd_s,beq_self_eq_true,atq_nat hi',gd_t (hap _),wi]
       exact .inl ⟨_,⟨i+1,_,o++[a.Entries[i]],rfl,by omega,Nat.le_refl _,by omega,by rw[List.drop_length,merge_nil,←ho];simp⟩,rfl⟩
     ·have e:i=a.Entries.length:=by omega
      subst e
      rw[List.drop_length,merge_nil0] at ho
      rcases Nat.lt_or_ge k b.Entries.length with hk'|hk'
      ·have ne2:((k:Int)==(b.Entries.length:Int))=false:=by simp;omega
       simp only[ge_i,cond_false,lt_i hk',bd_s,cond_true,ne2,beq_self_eq_true,atq_nat hk',gd_t (hap _),wk]
       exact .inl ⟨_,⟨_,k+1,o++[b.Entries[k]],rfl,Nat.le_refl _,by omega,by omega,by rw[List.drop_length,merge_nil0,←ho,drop_at hk'];simp⟩,rfl⟩
      ·have e2:k=b.Entries.length:=by omega
       subst e2
       rw[List.drop_length,List.append_nil] at ho
       refine .inr ?_
       simp only[ge_i,cond_false,bd_s]
       rw[ho]) (fun s rec hv=>by
     obtain⟨i,k,o,rfl,hi,hk,hik,ho⟩:=hv
     have e1:i=a.Entries.length:=by omega
     have e2:k=b.Entries.length:=by omega
     subst e1;subst e2
     rw[List.drop_length,List.drop_length,merge_nil,List.append_nil] at ho
     simp only[ge_i,cond_false,bd_s]
     rw[ho])]
   rw[bd_s,gd_t (by simp only[D.Bundle.sz];omega),bd_s,gd_t h.1]
   cases bundleOkF ⟨mergeL a.Entries b.Entries⟩<;>rfl
end
end Go.VK
