import Derived.Test.YtffpnfmhcpcaaaaGreatDoorXgM
/-
  Printed by wip/tools (own work of this part): models of functions, walks over the value kit, and proofs.
-/
set_option linter.unusedVariables false
set_option linter.unusedSimpArgs false
set_option maxRecDepth 100000
set_option maxHeartbeats 4000000
namespace Go.VK
open Go.RowKit Go.Proofs
noncomputable section
open EV (itr)
theorem t_spec_l1In (a b c:Int):m_spec_l1In a b c=some (inR a b c):=by
 unfold m_spec_l1In inR
 show bd (bif decide (b≤a) then some (decide (a≤c)) else some false) _=_
 cases decide (b≤a)<;>rfl
theorem t_impl_InRange (a b c:Int):m_impl_InRange a b c=some (inR a b c):=by
 unfold m_impl_InRange inR
 cases decide (b≤a)<;>rfl
theorem t_spec_Mod (p q:Int):m_spec_Mod p q=some (modI p q):=by
 unfold m_spec_Mod
 by_cases h:1≤q∧q≤1000000000000
 ·simp[inR,h.1,h.2,gd_t (show q≠0 by omega),modI_s h]
 ·rw[modI_0 h]
  rcases(show q<1∨q>1000000000000 by omega) with h|h
  ·simp[inR,show ¬1≤q by omega]
  ·simp[inR,show ¬q≤1000000000000 by omega]
theorem t_impl_Mod (p q:Int):m_impl_Mod p q=some (modI p q):=by
 unfold m_impl_Mod
 simp only[bd_bb]
 by_cases h:1≤q∧q≤1000000000000
 ·rw[gd_t (by omega)]
  by_cases ht:p.tmod q<0
  ·simp[h,ht,show ¬q<1 by omega,show ¬q>1000000000000 by omega,modI_n h ht]
   rw[IntKind.wrap_i64];have:=tmod_split (p:=p) (q:=q) h.1;omega
  ·simp[h,ht,show ¬q<1 by omega,show ¬q>1000000000000 by omega,modI_p h ht]
 ·rw[modI_0 h]
  rcases(show q<1∨q>1000000000000 by omega) with h|h<;>simp[h]
theorem md_ne:((2147483647:Int)≠0)=True:=by simp
theorem t_spec_Hash (l:List Int)(h:l.length≤1099511627776):m_spec_Hash l=some (hashI l):=by
 unfold m_spec_Hash
 rw[foldLoopR (l:=l) hstep (fun _ _=>True) (fun s=>some s) (by omega) trivial (fun _ _ _ _=>trivial) (fun rec i s hi _=>by
  simp only[lt_i hi,cond_true,atq_nat hi,bd_s,md_ne,gd_T];rfl) (fun rec s _=>by simp only[ge_i,cond_false])]
 rfl
theorem t_impl_Hash (l:List Int)(h:l.length≤1099511627776):m_impl_Hash l=some (hashI l):=by
 unfold m_impl_Hash
 rw[foldLoopR (l:=l) hstep (fun _ _=>True) (fun s=>some s) (by omega) trivial (fun _ _ _ _=>trivial) (fun rec i s hi _=>by
  simp only[lt_i hi,cond_true,atq_nat hi,bd_s,md_ne,gd_T];rfl) (fun rec s _=>by simp only[ge_i,cond_false])]
 rfl
theorem t_spec_KeyedHash (k:Int)(l:List Int)(h:l.length≤34359738368):m_spec_KeyedHash k l=some (keyedI k l):=by
 unfold m_spec_KeyedHash
 rw[gd_t (by simp[apOk];omega),gd_t (by simp[apOk];omega),gd_t (by simp;omega)]
 simp[keyedI]
theorem flatten_take1 {α:Type}{r:List (List α)}{i:Nat}(hi:i<r.length):(r.take (i+1)).flatten=(r.take i).flatten++r[i]:=by
 rw[List.take_add_one,List.getElem?_eq_getElem hi,List.flatten_append]
 simp only[Option.toList_some,List.flatten_cons,List.flatten_nil,List.append_nil]
theorem t_impl_joined (a:List Int)(r:List (List Int))(h:joinP a r):m_impl_joined a r=some (joinF a r):=by
 unfold m_impl_joined
 have hs:∀i,(r.take i).flatten.length≤r.flatten.length:=fun i=>by
  conv=>rhs;rw[←List.take_append_drop i r,List.flatten_append,List.length_append]
  omega
 rw[gd_t (by simp[apOk];omega),foldLoopR (l:=r) (fun s x=>s++x) (fun i s=>s=a++(r.take i).flatten) (fun s=>some s) (by omega) (by simp)
  (fun i s hi hv=>by rw[hv,flatten_take1 hi,List.append_assoc])
  (fun rec i s hi hv=>by
   have e:=flatten_take1 hi
   have h1:=hs (i+1)
   rw[e,List.length_append] at h1
   simp only[lt_i hi,cond_true,atq_nat hi,bd_s]
   rw[gd_t (by unfold apOk;rw[hv,List.length_append];omega)]) (fun rec s _=>by simp only[ge_i,cond_false])]
 have:r.foldl (fun s x=>s++x) ([]++a)=a++r.flatten:=by rw[List.nil_append,foldl_app (f:=fun x:List Int=>x)];simp
 rw[this];rfl
theorem t_impl_KeyedHash (k:Int)(l:List Int)(h:l.length≤34359738368):m_impl_KeyedHash k l=some (keyedI k l):=by
 unfold m_impl_KeyedHash
 rw[gd_t (by unfold joinP;simp;omega),bd_s,gd_t (by simp[joinF];omega)]
 simp[keyedI,joinF]
theorem t_spec_Max (a b:Int):m_spec_Max a b=some (maxF a b):=by simp[m_spec_Max,maxF]
theorem t_impl_orOne (n:Int):m_impl_orOne n=some (orOneF n):=by simp[m_impl_orOne,orOneF]
theorem t_spec_DeriveKey (k:Int)(l:List Int)(h:l.length≤34359738300):m_spec_DeriveKey k l=some (deriveF k l):=by
 unfold m_spec_DeriveKey
 rw[gd_t (by simp[apOk];omega),gd_t (by simp;omega),bd_s,maxF_one (keyedI_range _ _).1];rfl
theorem t_impl_DeriveKey (k:Int)(l:List Int)(h:l.length≤34359738300):m_impl_DeriveKey k l=some (deriveF k l):=by
 unfold m_impl_DeriveKey
 rw[gd_t (by simp[joinP];omega),bd_s,gd_t (by simp[joinF];omega)]
 simp[deriveF,joinF]
theorem t_spec_IsValidKey (n:Int):m_spec_IsValidKey n=some (keyF n):=rfl
theorem t_impl_IsValidKey (n:Int):m_impl_IsValidKey n=some (keyF n):=rfl
theorem t_spec_PublicKey (n:Int):m_spec_PublicKey n=some (publicF n):=by unfold m_spec_PublicKey publicF;cases keyF n<;>rfl
theorem t_impl_PublicKey (n:Int):m_impl_PublicKey n=some (publicF n):=by unfold m_impl_PublicKey publicF;cases keyF n<;>rfl
theorem t_spec_l10Device (s:D.KeyStore):m_spec_l10Device s=some (devKeyF s):=by unfold m_spec_l10Device;rw[gd_t (by simp)];rfl
theorem t_spec_DevicePublic (s:D.KeyStore):m_spec_DevicePublic s=some (devPubF s):=rfl
theorem t_impl_DevicePublic (s:D.KeyStore):m_impl_DevicePublic s=some (devPubF s):=by unfold m_impl_DevicePublic;rw[gd_t (by simp)];rfl
theorem t_spec_l19Has (l:List Int)(x:Int)(h:l.length≤1099511627776):m_spec_l19Has l x=some (hasF l x):=by
 unfold m_spec_l19Has
 rw[anyLoop (l:=l) (fun e=>e==x) (.inl true) (.inr ()) (by omega) (fun rec i hi=>by simp only[lt_i hi,cond_true,atq_nat hi,bd_s]) (fun rec=>by simp only[ge_i,cond_false])]
 unfold hasF;cases l.any _<;>rfl
theorem t_impl_has (l:List Int)(x:Int)(h:l.length≤1099511627776):m_impl_has l x=some (hasF l x):=by
 unfold m_impl_has
 rw[anyLoop (l:=l) (fun e=>e==x) (.inl true) (.inr ()) (by omega) (fun rec i hi=>by simp only[lt_i hi,cond_true,atq_nat hi,bd_s]) (fun rec=>by simp only[ge_i,cond_false])]
 unfold hasF;cases l.any _<;>rfl
theorem has_contains (s:List Int)(x:Int):hasF s x=s.contains x:=by
 unfold hasF
 rw[List.contains_eq_any_beq];congr 1;funext e;exact Bool.beq_comm
theorem stepDev_1 {s:List Int}{e:D.LogEntry}(h:(e.Kind==1)=true):stepDev s e=bif !hasF s e.Device then s++[e.Device] else s:=by
 unfold stepDev;rw[h,has_contains];cases s.contains e.Device<;>rfl
theorem stepDev_2 {s:List Int}{e:D.LogEntry}(h:(e.Kind==1)=false):stepDev s e=bif e.Kind==2 then s.filter (fun d=>d !=e.Device) else s:=by
 unfold stepDev;rw[h];rfl
theorem t_spec_DevicesOf (l:List D.LogEntry)(h:l.length≤34359738368):m_spec_DevicesOf l=some (devicesOfF l):=by
 unfold m_spec_DevicesOf
 rw[foldLoopR (l:=l) stepDev (fun i s=>s.length≤i) (fun s=>some s) (by omega) (by simp) (fun i s hi hv=>by have:=stepDev_len s l[i];omega)
  (fun rec i s hi hv=>by
   simp only[lt_i hi,cond_true,atq_nat hi,bd_s]
   rw[gd_t (by omega)]
   have hf:∀x:Int,itr (α:=List Int) FUEL (fun rec8 (i8:(List Int×Nat))=>bif (decide ((↑i8.snd:Int)<(↑s.length:Int))) then(bd (bd (atq s (↑i8.snd:Int)) fun(z10:(Int))=>bif (z10 !=x) then(bd (atq s (↑i8.snd:Int)) fun(z11:(Int))=>gd (apOk i8.fst [z11]) (some (i8.fst++[z11]))) else(some (i8.fst))) fun(z9:(List Int))=>rec8 ((z9,(i8.snd+1)))) else(some (i8.fst))) ([],0)=some (s.filter fun d=>d !=x):=fun x=>by
    rw[foldLoopR (l:=s) (fun q y=>bif y !=x then q++[y] else q) (fun i q=>q.length≤i) (fun q=>some q) (by omega) (by simp) (fun i q hi hv=>by cases(s[i] !=x)<;>simp<;>omega)
     (fun rec i q hi hv=>by
      simp only[lt_i hi,cond_true,atq_nat hi,bd_s]
      rw[gd_t (by unfold apOk;simp;omega)]
      cases(s[i] !=x)<;>rfl) (fun rec q _=>by simp only[ge_i,cond_false]),foldl_filter]
    simp
   rw[hf]
   cases h1:(l[i].Kind==1) with
   |true=>
    have h2:(l[i].Kind==2)=false:=by simp at h1 ⊢;omega
    rw[stepDev_1 h1,h2]
    rw[gd_t (by unfold apOk;simp;omega)]
    cases hasF s l[i].Device<;>rfl
   |false=>
    rw[stepDev_2 h1,gd_t (by unfold apOk;simp;omega)]
    cases(l[i].Kind==2)<;>rfl) (fun rec s _=>by simp only[ge_i,cond_false])]
 rfl
theorem t_impl_DevicesOf (l:List D.LogEntry)(h:l.length≤34359738368):m_impl_DevicesOf l=some (devicesOfF l):=by
 unfold m_impl_DevicesOf
 rw[foldLoopR (l:=l) stepDev (fun i s=>s.length≤i) (fun s=>some s) (by omega) (by simp) (fun i s hi hv=>by have:=stepDev_len s l[i];omega)
  (fun rec i s hi hv=>by
   simp only[lt_i hi,cond_true,atq_nat hi,bd_s]
   rw[gd_t (by omega)]
   have hf:∀x:Int,itr (α:=List Int) FUEL (fun rec5 (i5:(List Int×Nat))=>bif (decide ((↑i5.snd:Int)<(↑s.length:Int))) then(bd (bd (atq s (↑i5.snd:Int)) fun(z7:(Int))=>bif (z7 !=x) then(gd (apOk i5.fst [z7]) (some (i5.fst++[z7]))) else(some (i5.fst))) fun(z6:(List Int))=>rec5 ((z6,(i5.snd+1)))) else(some (i5.fst))) ([],0)=some (s.filter fun d=>d !=x):=fun x=>by
    rw[foldLoopR (l:=s) (fun q y=>bif y !=x then q++[y] else q) (fun i q=>q.length≤i) (fun q=>some q) (by omega) (by simp) (fun i q hi hv=>by cases(s[i] !=x)<;>simp<;>omega)
     (fun rec i q hi hv=>by
      simp only[lt_i hi,cond_true,atq_nat hi,bd_s]
      rw[gd_t (by unfold apOk;simp;omega)]
      cases(s[i] !=x)<;>rfl) (fun rec q _=>by simp only[ge_i,cond_false]),foldl_filter]
    simp
   rw[hf]
   cases h1:(l[i].Kind==1) with
   |true=>
    rw[stepDev_1 h1,gd_t (by unfold apOk;simp;omega)]
    cases hasF s l[i].Device<;>rfl
   |false=>
    rw[stepDev_2 h1]
    cases(l[i].Kind==2)<;>rfl) (fun rec s _=>by simp only[ge_i,cond_false])]
 rfl
theorem t_impl_hasDevice (w:D.World)(d:Int):m_impl_hasDevice w d=some (hasDevF w d):=by
 unfold m_impl_hasDevice hasDevF
 show bd (bif decide (0≤d) then _ else _) _=_
 cases decide (0≤d)<;>rfl
end
end Go.VK
