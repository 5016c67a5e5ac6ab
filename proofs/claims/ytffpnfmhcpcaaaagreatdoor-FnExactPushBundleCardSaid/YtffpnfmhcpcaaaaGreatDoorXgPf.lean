import Derived.Test.YtffpnfmhcpcaaaaGreatDoorXgPe
import Derived.Test.YtffpnfmhcpcaaaaGreatDoorXgQ
/-
  Printed by wip/tools (own work of this part): models of functions, walks over the value kit, and proofs.
-/
set_option linter.unusedVariables false
set_option linter.unusedSimpArgs false
set_option maxRecDepth 100000
set_option maxHeartbeats 4000000
namespace Go.VK
open Go.RowKit Go.Proofs
noncomputable section
open EV (itr)
theorem powLoop {F:(Int×Int×Int→Option Int)→Int×Int×Int→Option Int}(hF:∀rec (b n s:Int),0≤n→n<9223372036854775807→F rec (b,n,s)=bif decide (n>0) then rec ((IntKind.i64.wrap (b*b)).tmod 2147483647,n/2,bif n%2==1 then(IntKind.i64.wrap (s*b)).tmod 2147483647 else s) else some s):
  ∀(k:Nat) (b n s:Int) (f:Nat),k<f→0≤n→n<2^k→k≤62→itr f F (b,n,s)=some (powG k b n s)
 |0,b,n,s,f+1,hf,h0,h1,hk=>by
  have:n=0:=by simp at h1;omega
  subst this;rw[itr_s,hF _ _ _ _ (by omega) (by omega)];rfl
 |k+1,b,n,s,f+1,hf,h0,h1,hk=>by
  have h2:(2:Int)^(k+1)=2*2^k:=by rw[Int.pow_succ];omega
  have h3:n<2^62:=Int.lt_of_lt_of_le h1 (by exact_mod_cast Nat.pow_le_pow_right (by omega) hk)
  rw[itr_s,hF _ _ _ _ h0 (by omega)]
  unfold powG
  by_cases hn:n>0
  ·rw[decide_eq_true hn,cond_true,if_pos hn]
   exact powLoop hF k _ (n/2) _ f (by omega) (by omega) (by omega) (by omega)
  ·rw[decide_eq_false hn,cond_false,if_neg hn]
theorem t_spec_l6Power (b n:Int)(h:0≤n∧n<2147483648):m_spec_l6Power b n=some (powG 31 b n 1):=by
 unfold m_spec_l6Power
 rw[powLoop (fun rec b n s h0 h1=>by simp only[show andI .i64 n 1=n%2 from and_one h0 (by omega),show shrI .i64 n 1=n/2 from shr_one h0,md_ne,gd_T,bb_some,bd_s,gd_t (show(0:Int)≤1 by decide)]) 31 b n 1 FUEL (by have:=FUEL_le;omega) h.1 (by have:=h.2;omega) (by omega)];rfl
theorem t_impl_powerM (b n:Int)(h:0≤n∧n<2147483648)(hb:0≤b∧b<2147483647):m_impl_power b n 2147483647=some (powG 31 b n 1):=by
 unfold m_impl_power
 rw[show b.tmod 2147483647=b by rw[Int.tmod_eq_emod_of_nonneg hb.1];omega,show(1:Int).tmod 2147483647=1 by decide,powLoop (fun rec b n s h0 h1=>by
  have h4:((2:Int)≠0)=True:=by simp
  simp only[show n.tmod 2=n%2 from Int.tmod_eq_emod_of_nonneg h0,show n.tdiv 2=n/2 from Int.tdiv_eq_ediv_of_nonneg h0,show IntKind.i64.wrap (n/2)=n/2 from wrap64_id (by omega) (by omega),md_ne,h4,gd_T,bb_some,bd_s]) 31 b n 1 FUEL (by have:=FUEL_le;omega) h.1 (by have:=h.2;omega) (by omega)]
 simp only[md_ne,gd_T,bd_s]
theorem t_spec_PrivateKey (q:Int):m_spec_PrivateKey q=some (privF q):=by
 unfold m_spec_PrivateKey privF
 rw[t_spec_l6Power _ _ (by decide),powG_c1,show inR q 1 2147483646=keyF q from rfl]
 cases hk:keyF q with
 |false=>rfl
 |true=>
  have hr:=inR_t hk
  have hw:IntKind.i64.wrap (q*1899818559)=q*1899818559:=wrap64_id (by omega) (by omega)
  simp only[Bool.not_true,cond_false,bd_s,hw,md_ne,gd_T,Int.tmod_eq_emod_of_nonneg (show 0≤q*1899818559 by omega)]
  have hp:publicF (q*1899818559%2147483647)=q:=by
   unfold publicF keyF inR
   have h1:1≤q*1899818559%2147483647:=by omega
   have h2:q*1899818559%2147483647≤2147483646:=by omega
   have hw2:IntKind.i64.wrap (q*1899818559%2147483647*48271)=q*1899818559%2147483647*48271:=wrap64_id (by omega) (by omega)
   simp only[h1,h2,decide_true,Bool.and_self,Bool.not_true,cond_false,hw2]
   rw[Int.tmod_eq_emod_of_nonneg (by omega)]
   omega
  rw[hp,bne_self_eq_false];rfl
theorem t_impl_PrivateKey (q:Int):m_impl_PrivateKey q=some (privF q):=by
 unfold m_impl_PrivateKey privF
 rw[t_impl_powerM _ _ (by decide) (by decide),powG_c1]
 cases hk:keyF q with
 |false=>rfl
 |true=>
  have hr:=inR_t hk
  have hw:IntKind.i64.wrap (q*1899818559)=q*1899818559:=wrap64_id (by omega) (by omega)
  simp only[Bool.not_true,cond_false,bd_s,hw,md_ne,gd_T,Int.tmod_eq_emod_of_nonneg (show 0≤q*1899818559 by omega)]
theorem t_spec_SignMessage (p:Int)(l:List Int)(h:l.length≤34359738300):m_spec_SignMessage p l=some (signF p l):=by
 unfold m_spec_SignMessage signF
 rw[gd_t (by simp[apOk];omega),gd_t (by simp;omega)]
 cases keyF p<;>rfl
theorem t_impl_SignMessage (p:Int)(l:List Int)(h:l.length≤34359738300):m_impl_SignMessage p l=some (signF p l):=by
 unfold m_impl_SignMessage signF
 rw[gd_t (by unfold joinP;simp;omega),bd_s,gd_t (by simp[joinF];omega)]
 cases keyF p<;>simp[joinF]
theorem t_spec_VerifySignature (q:Int)(l:List Int)(g:Int)(h:l.length≤34359738300):m_spec_VerifySignature q l g=some (verifyF q l g):=by
 unfold m_spec_VerifySignature verifyF
 simp only[gd_t h,bd_s,bb_some]
 cases(privF q !=0)<;>rfl
theorem t_impl_VerifySignature (q:Int)(l:List Int)(g:Int)(h:l.length≤34359738300):m_impl_VerifySignature q l g=some (verifyF q l g):=by
 unfold m_impl_VerifySignature verifyF
 simp only[gd_t h,bd_s,bb_some]
 cases(privF q !=0)<;>rfl
theorem book_step (b:D.ChallengeBook)(h:b.Open.length≤34359738368){τ:Type}(rec:Nat→Option τ)(r:Option τ)(i:Nat)(hi:i<b.Open.length):(bd (bif (!inR b.Open[i].Id (0:Int) (IntKind.i64.wrap (b.Next-(1:Int)))) then(some (true)) else(bif (decide ((↑i:Int)>(0:Int))) then(bd (atq (b.Open) (IntKind.i64.wrap ((↑i:Int)-(1:Int)))) fun z4=>bif (decide (z4.Id≥b.Open[i].Id)) then(some (true)) else(bif (!inR b.Open[i].Account (0:Int) (1000005:Int)) then(some (true)) else(some (!inR b.Open[i].Until (0:Int) (1000005:Int))))) else(bif (!inR b.Open[i].Account (0:Int) (1000005:Int)) then(some (true)) else(some (!inR b.Open[i].Until (0:Int) (1000005:Int)))))) fun z3=>bif z3 then r else(rec (i+1)))=bif challengeBad b i b.Open[i] then r else rec (i+1):=by
 unfold challengeBad
 by_cases h0:0<i
 ·rw[atq_prev h0 hi h,bd_s,show decide ((i:Int)>0)=true by simpa using h0,decide_eq_true h0]
  cases inR b.Open[i].Id 0 (IntKind.i64.wrap (b.Next-1))<;>cases decide ((b.Open.getD (i-1) default).Id≥b.Open[i].Id)<;>cases inR b.Open[i].Account 0 1000005<;>cases inR b.Open[i].Until 0 1000005<;>rfl
 ·rw[show decide ((i:Int)>0)=false by simpa using h0,decide_eq_false h0]
  cases inR b.Open[i].Id 0 (IntKind.i64.wrap (b.Next-1))<;>cases inR b.Open[i].Account 0 1000005<;>cases inR b.Open[i].Until 0 1000005<;>rfl
theorem t_spec_IsValidBook (b:D.ChallengeBook)(h:b.sz≤34359738368):m_spec_IsValidBook b=some (bookOkF b):=by
 simp only[D.ChallengeBook.sz] at h
 unfold m_spec_IsValidBook bookOkF
 rw[anyLoopI (l:=b.Open) (challengeBad b) (.inl false) (.inr ()) (by omega) (fun rec i hi=>by
  simp only[lt_i hi,cond_true,atq_nat hi,bd_s];exact book_step b h rec _ i hi) (fun rec=>by simp only[ge_i,cond_false])]
 rw[show decide ((b.Open.length:Int)≤16)=decide (b.Open.length≤16) from decide_eq_decide.2 (by omega)]
 cases inR b.Next 0 1000000<;>cases decide (b.Open.length≤16)<;>cases anyI (challengeBad b) 0 b.Open<;>rfl
theorem t_impl_IsValidBook (b:D.ChallengeBook)(h:b.sz≤34359738368):m_impl_IsValidBook b=some (bookOkF b):=by
 simp only[D.ChallengeBook.sz] at h
 unfold m_impl_IsValidBook bookOkF
 rw[anyLoopI (l:=b.Open) (challengeBad b) (.inl false) (.inr ()) (by omega) (fun rec i hi=>by
  simp only[lt_i hi,cond_true,atq_nat hi,bd_s];exact book_step b h rec _ i hi) (fun rec=>by simp only[ge_i,cond_false])]
 rw[show decide ((b.Open.length:Int)>16)= !decide (b.Open.length≤16) by rw[←decide_not];exact decide_eq_decide.2 (by omega)]
 cases inR b.Next 0 1000000<;>cases decide (b.Open.length≤16)<;>cases anyI (challengeBad b) 0 b.Open<;>rfl
theorem mail_step (m:D.Mailbox)(h:m.Notices.length≤34359738368){τ:Type}(rec:Nat→Option τ)(r:Option τ)(i:Nat)(hi:i<m.Notices.length):(bd (bif (!inR m.Notices[i].Kind (1:Int) (5:Int)) then(some (true)) else(bif (!inR m.Notices[i].Account (0:Int) (1000000:Int)) then(some (true)) else(bif (!inR m.Notices[i].Time (0:Int) (1000000:Int)) then(some (true)) else(bif (decide ((↑i:Int)>(0:Int))) then(bd (atq (m.Notices) (IntKind.i64.wrap ((↑i:Int)-(1:Int)))) fun z4=>some (decide (z4.Time>m.Notices[i].Time))) else(some (false)))))) fun z3=>bif z3 then r else(rec (i+1)))=bif noticeBad m.Notices i m.Notices[i] then r else rec (i+1):=by
 unfold noticeBad
 by_cases h0:0<i
 ·rw[atq_prev h0 hi h,bd_s,show decide ((i:Int)>0)=true by simpa using h0,decide_eq_true h0]
  cases inR m.Notices[i].Kind 1 5<;>cases inR m.Notices[i].Account 0 1000000<;>cases inR m.Notices[i].Time 0 1000000<;>cases decide ((m.Notices.getD (i-1) default).Time>m.Notices[i].Time)<;>rfl
 ·rw[show decide ((i:Int)>0)=false by simpa using h0,decide_eq_false h0]
  cases inR m.Notices[i].Kind 1 5<;>cases inR m.Notices[i].Account 0 1000000<;>cases inR m.Notices[i].Time 0 1000000<;>rfl
theorem t_spec_IsValidMailbox (m:D.Mailbox)(h:m.sz≤34359738368):m_spec_IsValidMailbox m=some (mailOkF m):=by
 simp only[D.Mailbox.sz] at h
 unfold m_spec_IsValidMailbox mailOkF
 rw[anyLoopI (l:=m.Notices) (noticeBad m.Notices) (.inl false) (.inr ()) (by omega) (fun rec i hi=>by
  simp only[lt_i hi,cond_true,atq_nat hi,bd_s];exact mail_step m h rec _ i hi) (fun rec=>by simp only[ge_i,cond_false])]
 rw[show decide ((m.Notices.length:Int)≤30)=decide (m.Notices.length≤30) from decide_eq_decide.2 (by omega)]
 cases decide (m.Notices.length≤30)<;>cases anyI (noticeBad m.Notices) 0 m.Notices<;>rfl
theorem t_impl_IsValidMailbox (m:D.Mailbox)(h:m.sz≤34359738368):m_impl_IsValidMailbox m=some (mailOkF m):=by
 simp only[D.Mailbox.sz] at h
 unfold m_impl_IsValidMailbox mailOkF
 rw[anyLoopI (l:=m.Notices) (noticeBad m.Notices) (.inl false) (.inr ()) (by omega) (fun rec i hi=>by
  simp only[lt_i hi,cond_true,atq_nat hi,bd_s];exact mail_step m h rec _ i hi) (fun rec=>by simp only[ge_i,cond_false])]
 rw[show decide ((m.Notices.length:Int)>30)= !decide (m.Notices.length≤30) by rw[←decide_not];exact decide_eq_decide.2 (by omega)]
 cases decide (m.Notices.length≤30)<;>cases anyI (noticeBad m.Notices) 0 m.Notices<;>rfl
theorem t_spec_SiteName (i:Int):m_spec_SiteName i=some (siteNameF i):=by
 unfold m_spec_SiteName siteNameF;cases i==0<;>cases i==1<;>rfl
theorem t_impl_SiteName (i:Int):m_impl_SiteName i=some (siteNameF i):=by
 unfold m_impl_SiteName siteNameF;cases i==0<;>cases i==1<;>rfl
theorem t_spec_EntryHash (e:D.LogEntry):m_spec_EntryHash e=some (entryHashF e):=by unfold m_spec_EntryHash;rw[gd_t (by simp)];rfl
theorem t_impl_EntryHash (e:D.LogEntry):m_impl_EntryHash e=some (entryHashF e):=by unfold m_impl_EntryHash;rw[gd_t (by simp)];rfl
theorem t_spec_LogHead (l:List D.LogEntry)(h:l.length≤34359738368):m_spec_LogHead l=some (logHeadF l):=by
 unfold m_spec_LogHead logHeadF
 cases hl:((l.length:Int)==0) with
 |true=>rfl
 |false=>
  have:l.length≠0:=by intro h0;rw[h0] at hl;simp at hl
  rw[wrap64_id (by omega) (by omega),show(l.length:Int)-1=((l.length-1:Nat):Int) by omega,atq_nat (by omega)]
  simp[List.getD,List.getElem?_eq_getElem (show l.length-1<l.length by omega)]
theorem t_impl_LogHead (l:List D.LogEntry)(h:l.length≤34359738368):m_impl_LogHead l=some (logHeadF l):=by
 unfold m_impl_LogHead logHeadF
 cases hl:((l.length:Int)==0) with
 |true=>rfl
 |false=>
  have:l.length≠0:=by intro h0;rw[h0] at hl;simp at hl
  rw[wrap64_id (by omega) (by omega),show(l.length:Int)-1=((l.length-1:Nat):Int) by omega,atq_nat (by omega)]
  simp[List.getD,List.getElem?_eq_getElem (show l.length-1<l.length by omega)]
theorem t_impl_wasRemoved (l:List D.LogEntry)(p:Int)(h:l.length≤34359738368):m_impl_wasRemoved l p=some (removedF l p):=by
 unfold m_impl_wasRemoved
 rw[anyLoop (l:=l) (fun e=>e.Kind==2&&e.Device==p) (.inl true) (.inr ()) (by omega) (fun rec i hi=>by
  simp only[lt_i hi,cond_true,atq_nat hi,bd_s,bb_some];cases(l[i].Kind==2)<;>rfl) (fun rec=>by simp only[ge_i,cond_false])]
 unfold removedF;cases l.any _<;>rfl
end
end Go.VK
