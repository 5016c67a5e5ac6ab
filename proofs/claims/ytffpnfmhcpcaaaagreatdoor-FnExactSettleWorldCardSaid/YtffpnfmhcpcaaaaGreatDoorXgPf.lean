import Derived.Test.YtffpnfmhcpcaaaaGreatDoorXgPe
import Derived.Test.YtffpnfmhcpcaaaaGreatDoorXgQ
/-
  Printed by wip/tools (own work of this part): models of functions, walks over the value kit, and proofs.
-/
set_option linter.unusedVariables false
set_option linter.unusedSimpArgs false
set_option maxRecDepth 100000
set_option maxHeartbeats 4000000
namespace Go.VK
open Go.RowKit Go.Proofs
noncomputable section
open EV (bW)
theorem aRm {F:(Int×Int×Int→Option Int)→Int×Int×Int→Option Int}(hF:∀rec (b n s:Int),0≤n→n<9223372036854775807→F rec (b,n,s)=bif decide (n>0) then rec ((IntKind.i64.wrap (b*b)).tmod 2147483647,n/2,bif n%2==1 then(IntKind.i64.wrap (s*b)).tmod 2147483647 else s) else some s):
  ∀(k:Nat) (b n s:Int) (f:Nat),k<f→0≤n→n<2^k→k≤62→bW f F (b,n,s)=some (aX4 k b n s)
 |0,b,n,s,f+1,hf,h0,h1,hk=>by
  have:n=0:=by simp at h1;omega
  subst this;rw[kJ,hF _ _ _ _ (by omega) (by omega)];rfl
 |k+1,b,n,s,f+1,hf,h0,h1,hk=>by
  have h2:(2:Int)^(k+1)=2*2^k:=by rw[Int.pow_succ];omega
  have h3:n<2^62:=Int.lt_of_lt_of_le h1 (by exact_mod_cast Nat.pow_le_pow_right (by omega) hk)
  rw[kJ,hF _ _ _ _ h0 (by omega)]
  unfold aX4
  by_cases hn:n>0
  ·rw[decide_eq_true hn,cond_true,if_pos hn]
   exact aRm hF k _ (n/2) _ f (by omega) (by omega) (by omega) (by omega)
  ·rw[decide_eq_false hn,cond_false,if_neg hn]
theorem aJk (b n:Int)(h:0≤n∧n<2147483648):lW b n=some (aX4 31 b n 1):=by
 unfold lW
 rw[aRm (fun rec b n s h0 h1=>by simp only[show vG .i64 n 1=n%2 from and_one h0 (by omega),show P8 .i64 n 1=n/2 from bBc h0,aI5,gd_T,kQ,bd_s,aH (show(0:Int)≤1 by decide)]) 31 b n 1 FUEL (by have:=gT;omega) h.1 (by have:=h.2;omega) (by omega)];rfl
theorem aNh (b n:Int)(h:0≤n∧n<2147483648)(hb:0≤b∧b<2147483647):rG b n 2147483647=some (aX4 31 b n 1):=by
 unfold rG
 rw[show b.tmod 2147483647=b by rw[Int.tmod_eq_emod_of_nonneg hb.1];omega,show(1:Int).tmod 2147483647=1 by decide,aRm (fun rec b n s h0 h1=>by
  have h4:((2:Int)≠0)=True:=by simp
  simp only[show n.tmod 2=n%2 from Int.tmod_eq_emod_of_nonneg h0,show n.tdiv 2=n/2 from Int.tdiv_eq_ediv_of_nonneg h0,show IntKind.i64.wrap (n/2)=n/2 from aS (by omega) (by omega),aI5,h4,gd_T,kQ,bd_s]) 31 b n 1 FUEL (by have:=gT;omega) h.1 (by have:=h.2;omega) (by omega)]
 simp only[aI5,gd_T,bd_s]
theorem A9 (q:Int):vV q=some (jM q):=by
 unfold vV jM
 rw[aJk _ _ (by decide),aWa,show dD q 1 2147483646=eG q from rfl]
 cases hk:eG q with
 |false=>rfl
 |true=>
  have hr:=aGx hk
  have hw:IntKind.i64.wrap (q*1899818559)=q*1899818559:=aS (by omega) (by omega)
  simp only[Bool.not_true,cond_false,bd_s,hw,aI5,gd_T,Int.tmod_eq_emod_of_nonneg (show 0≤q*1899818559 by omega)]
  have hp:fZ (q*1899818559%2147483647)=q:=by
   unfold fZ eG dD
   have h1:1≤q*1899818559%2147483647:=by omega
   have h2:q*1899818559%2147483647≤2147483646:=by omega
   have hw2:IntKind.i64.wrap (q*1899818559%2147483647*48271)=q*1899818559%2147483647*48271:=aS (by omega) (by omega)
   simp only[h1,h2,decide_true,Bool.and_self,Bool.not_true,cond_false,hw2]
   rw[Int.tmod_eq_emod_of_nonneg (by omega)]
   omega
  rw[hp,bne_self_eq_false];rfl
theorem C8 (q:Int):wI q=some (jM q):=by
 unfold wI jM
 rw[aNh _ _ (by decide) (by decide),aWa]
 cases hk:eG q with
 |false=>rfl
 |true=>
  have hr:=aGx hk
  have hw:IntKind.i64.wrap (q*1899818559)=q*1899818559:=aS (by omega) (by omega)
  simp only[Bool.not_true,cond_false,bd_s,hw,aI5,gd_T,Int.tmod_eq_emod_of_nonneg (show 0≤q*1899818559 by omega)]
theorem Vf (p:Int)(l:List Int)(h:l.length≤34359738300):sS p l=some (Zp p l):=by
 unfold sS Zp
 rw[aH (by simp[bO];omega),aH (by simp;omega)]
 cases eG p<;>rfl
theorem Vg (p:Int)(l:List Int)(h:l.length≤34359738300):tN p l=some (Zp p l):=by
 unfold tN Zp
 rw[aH (by unfold sH;simp;omega),bd_s,aH (by simp[lI];omega)]
 cases eG p<;>simp[lI]
theorem Cj (q:Int)(l:List Int)(g:Int)(h:l.length≤34359738300):lX q l g=some (jG q l g):=by
 unfold lX jG
 simp only[aH h,bd_s,kQ]
 cases(jM q !=0)<;>rfl
theorem Ck (q:Int)(l:List Int)(g:Int)(h:l.length≤34359738300):lY q l g=some (jG q l g):=by
 unfold lY jG
 simp only[aH h,bd_s,kQ]
 cases(jM q !=0)<;>rfl
theorem aP2 (b:D.ChallengeBook)(h:b.Open.length≤34359738368){τ:Type}(rec:Nat→Option τ)(r:Option τ)(i:Nat)(hi:i<b.Open.length):(bd (bif (!dD b.Open[i].Id (0:Int) (IntKind.i64.wrap (b.Next-(1:Int)))) then(some (true)) else(bif (decide ((↑i:Int)>(0:Int))) then(bd (aT (b.Open) (IntKind.i64.wrap ((↑i:Int)-(1:Int)))) fun z4=>bif (decide (z4.Id≥b.Open[i].Id)) then(some (true)) else(bif (!dD b.Open[i].Account (0:Int) (1000005:Int)) then(some (true)) else(some (!dD b.Open[i].Until (0:Int) (1000005:Int))))) else(bif (!dD b.Open[i].Account (0:Int) (1000005:Int)) then(some (true)) else(some (!dD b.Open[i].Until (0:Int) (1000005:Int)))))) fun z3=>bif z3 then r else(rec (i+1)))=bif iT b i b.Open[i] then r else rec (i+1):=by
 unfold iT
 by_cases h0:0<i
 ·rw[Iu h0 hi h,bd_s,show decide ((i:Int)>0)=true by simpa using h0,decide_eq_true h0]
  cases dD b.Open[i].Id 0 (IntKind.i64.wrap (b.Next-1))<;>cases decide ((b.Open.getD (i-1) default).Id≥b.Open[i].Id)<;>cases dD b.Open[i].Account 0 1000005<;>cases dD b.Open[i].Until 0 1000005<;>rfl
 ·rw[show decide ((i:Int)>0)=false by simpa using h0,decide_eq_false h0]
  cases dD b.Open[i].Id 0 (IntKind.i64.wrap (b.Next-1))<;>cases dD b.Open[i].Account 0 1000005<;>cases dD b.Open[i].Until 0 1000005<;>rfl
theorem Vh (b:D.ChallengeBook)(h:b.sz≤34359738368):sP b=some (lL b):=by
 simp only[D.ChallengeBook.sz] at h
 unfold sP lL
 rw[gN (l:=b.Open) (iT b) (.inl false) (.inr ()) (by omega) (fun rec i hi=>by
  simp only[bD hi,cond_true,aG hi,bd_s];exact aP2 b h rec _ i hi) (fun rec=>by simp only[bE,cond_false])]
 rw[show decide ((b.Open.length:Int)≤16)=decide (b.Open.length≤16) from decide_eq_decide.2 (by omega)]
 cases dD b.Next 0 1000000<;>cases decide (b.Open.length≤16)<;>cases kF (iT b) 0 b.Open<;>rfl
theorem Vi (b:D.ChallengeBook)(h:b.sz≤34359738368):tK b=some (lL b):=by
 simp only[D.ChallengeBook.sz] at h
 unfold tK lL
 rw[gN (l:=b.Open) (iT b) (.inl false) (.inr ()) (by omega) (fun rec i hi=>by
  simp only[bD hi,cond_true,aG hi,bd_s];exact aP2 b h rec _ i hi) (fun rec=>by simp only[bE,cond_false])]
 rw[show decide ((b.Open.length:Int)>16)= !decide (b.Open.length≤16) by rw[←decide_not];exact decide_eq_decide.2 (by omega)]
 cases dD b.Next 0 1000000<;>cases decide (b.Open.length≤16)<;>cases kF (iT b) 0 b.Open<;>rfl
theorem aP3 (m:D.Mailbox)(h:m.Notices.length≤34359738368){τ:Type}(rec:Nat→Option τ)(r:Option τ)(i:Nat)(hi:i<m.Notices.length):(bd (bif (!dD m.Notices[i].Kind (1:Int) (5:Int)) then(some (true)) else(bif (!dD m.Notices[i].Account (0:Int) (1000000:Int)) then(some (true)) else(bif (!dD m.Notices[i].Time (0:Int) (1000000:Int)) then(some (true)) else(bif (decide ((↑i:Int)>(0:Int))) then(bd (aT (m.Notices) (IntKind.i64.wrap ((↑i:Int)-(1:Int)))) fun z4=>some (decide (z4.Time>m.Notices[i].Time))) else(some (false)))))) fun z3=>bif z3 then r else(rec (i+1)))=bif nL m.Notices i m.Notices[i] then r else rec (i+1):=by
 unfold nL
 by_cases h0:0<i
 ·rw[Iu h0 hi h,bd_s,show decide ((i:Int)>0)=true by simpa using h0,decide_eq_true h0]
  cases dD m.Notices[i].Kind 1 5<;>cases dD m.Notices[i].Account 0 1000000<;>cases dD m.Notices[i].Time 0 1000000<;>cases decide ((m.Notices.getD (i-1) default).Time>m.Notices[i].Time)<;>rfl
 ·rw[show decide ((i:Int)>0)=false by simpa using h0,decide_eq_false h0]
  cases dD m.Notices[i].Kind 1 5<;>cases dD m.Notices[i].Account 0 1000000<;>cases dD m.Notices[i].Time 0 1000000<;>rfl
theorem Gh (m:D.Mailbox)(h:m.sz≤34359738368):mU m=some (lK m):=by
 simp only[D.Mailbox.sz] at h
 unfold mU lK
 rw[gN (l:=m.Notices) (nL m.Notices) (.inl false) (.inr ()) (by omega) (fun rec i hi=>by
  simp only[bD hi,cond_true,aG hi,bd_s];exact aP3 m h rec _ i hi) (fun rec=>by simp only[bE,cond_false])]
 rw[show decide ((m.Notices.length:Int)≤30)=decide (m.Notices.length≤30) from decide_eq_decide.2 (by omega)]
 cases decide (m.Notices.length≤30)<;>cases kF (nL m.Notices) 0 m.Notices<;>rfl
theorem Gi (m:D.Mailbox)(h:m.sz≤34359738368):mY m=some (lK m):=by
 simp only[D.Mailbox.sz] at h
 unfold mY lK
 rw[gN (l:=m.Notices) (nL m.Notices) (.inl false) (.inr ()) (by omega) (fun rec i hi=>by
  simp only[bD hi,cond_true,aG hi,bd_s];exact aP3 m h rec _ i hi) (fun rec=>by simp only[bE,cond_false])]
 rw[show decide ((m.Notices.length:Int)>30)= !decide (m.Notices.length≤30) by rw[←decide_not];exact decide_eq_decide.2 (by omega)]
 cases decide (m.Notices.length≤30)<;>cases kF (nL m.Notices) 0 m.Notices<;>rfl
theorem aEs (i:Int):Em i=some (iJ i):=by
 unfold Em iJ;cases i==0<;>cases i==1<;>rfl
theorem aEt (i:Int):Ew i=some (iJ i):=by
 unfold Ew iJ;cases i==0<;>cases i==1<;>rfl
theorem aAi (e:D.LogEntry):yH e=some (dL e):=by unfold yH;rw[aH (by simp)];rfl
theorem aAj (e:D.LogEntry):yX e=some (dL e):=by unfold yX;rw[aH (by simp)];rfl
theorem aJl (l:List D.LogEntry)(h:l.length≤34359738368):Ki l=some (gY l):=by
 unfold Ki gY
 cases hl:((l.length:Int)==0) with
 |true=>rfl
 |false=>
  have:l.length≠0:=by intro h0;rw[h0] at hl;simp at hl
  rw[aS (by omega) (by omega),show(l.length:Int)-1=((l.length-1:Nat):Int) by omega,aG (by omega)]
  simp[List.getD,List.getElem?_eq_getElem (show l.length-1<l.length by omega)]
theorem aJm (l:List D.LogEntry)(h:l.length≤34359738368):Kw l=some (gY l):=by
 unfold Kw gY
 cases hl:((l.length:Int)==0) with
 |true=>rfl
 |false=>
  have:l.length≠0:=by intro h0;rw[h0] at hl;simp at hl
  rw[aS (by omega) (by omega),show(l.length:Int)-1=((l.length-1:Nat):Int) by omega,aG (by omega)]
  simp[List.getD,List.getElem?_eq_getElem (show l.length-1<l.length by omega)]
theorem C9 (l:List D.LogEntry)(p:Int)(h:l.length≤34359738368):wJ l p=some (lJ l p):=by
 unfold wJ
 rw[nV (l:=l) (fun e=>e.Kind==2&&e.Device==p) (.inl true) (.inr ()) (by omega) (fun rec i hi=>by
  simp only[bD hi,cond_true,aG hi,bd_s,kQ];cases(l[i].Kind==2)<;>rfl) (fun rec=>by simp only[bE,cond_false])]
 unfold lJ;cases l.any _<;>rfl
end
end Go.VK
