import Derived.Test.YtlnjelnfjgjanaaGreatXpPe
import Derived.Test.YtlnjelnfjgjanaaGreatXpM
/- Printed by wip/tools: models, walks, proofs. -/
set_option linter.unusedVariables false
set_option linter.unusedSimpArgs false
set_option maxRecDepth 100000
set_option maxHeartbeats 4000000
namespace Go.VK
open Go.RowKit Go.Proofs
noncomputable section
open EV (bT)
theorem aU9 {F:(Int×Int×Int→Option Int)→Int×Int×Int→Option Int}(hF:∀rec (b n s:Int),0≤n→n<9223372036854775807→F rec (b,n,s)=bif decide (n>0) then rec ((IntKind.i64.wrap (b*b)).tmod 2147483647,n/2,bif n%2==1 then(IntKind.i64.wrap (s*b)).tmod 2147483647 else s) else some s):
  ∀(k:Nat) (b n s:Int) (f:Nat),k<f→0≤n→n<2^k→k≤62→bT f F (b,n,s)=some (aZ8 k b n s)
 |0,b,n,s,f+1,hf,h0,h1,hk=>by
  have:n=0:=by simp at h1;omega
  subst this;rw[gU,hF _ _ _ _ (by omega) (by omega)];rfl
 |k+1,b,n,s,f+1,hf,h0,h1,hk=>by
  have h2:(2:Int)^(k+1)=2*2^k:=by rw[Int.pow_succ];omega
  have h3:n<2^62:=Int.lt_of_lt_of_le h1 (by exact_mod_cast Nat.pow_le_pow_right (by omega) hk)
  rw[gU,hF _ _ _ _ h0 (by omega)]
  unfold aZ8
  by_cases hn:n>0
  ·rw[decide_eq_true hn,cond_true,if_pos hn]
   exact aU9 hF k _ (n/2) _ f (by omega) (by omega) (by omega) (by omega)
  ·rw[decide_eq_false hn,cond_false,if_neg hn]
theorem aG1 (b n:Int)(h:0≤n∧n<2147483648):oL b n=some (aZ8 31 b n 1):=by
 unfold oL
 rw[aU9 (fun rec b n s h0 h1=>by simp only[show lD .i64 n 1=n%2 from and_one h0 (by omega),show zL .i64 n 1=n/2 from aUl h0,aU5,gd_T,rF,bd_s,aB (show(0:Int)≤1 by decide)]) 31 b n 1 FUEL (by have:=gY;omega) h.1 (by have:=h.2;omega) (by omega)];rfl
theorem Yw (q:Int):yA q=some (gG q):=by
 unfold yA gG
 rw[aG1 _ _ (by decide),bDc,show bF q 1 2147483646=bM q from rfl]
 cases hk:bM q with
 |false=>rfl
 |true=>
  have hr:=kJ hk
  have hw:IntKind.i64.wrap (q*1899818559)=q*1899818559:=aG (by omega) (by omega)
  simp only[Bool.not_true,cond_false,bd_s,hw,aU5,gd_T,Int.tmod_eq_emod_of_nonneg (show 0≤q*1899818559 by omega)]
  have hp:eF (q*1899818559%2147483647)=q:=by
   unfold eF bM bF
   have h1:1≤q*1899818559%2147483647:=by omega
   have h2:q*1899818559%2147483647≤2147483646:=by omega
   have hw2:IntKind.i64.wrap (q*1899818559%2147483647*48271)=q*1899818559%2147483647*48271:=aG (by omega) (by omega)
   simp only[h1,h2,decide_true,Bool.and_self,Bool.not_true,cond_false,hw2]
   rw[Int.tmod_eq_emod_of_nonneg (by omega)]
   omega
  rw[hp,bne_self_eq_false];rfl
theorem Uc (p:Int)(l:List Int)(h:l.length≤34359738300):vX p l=some (Ri p l):=by
 unfold vX Ri
 rw[aB (by simp[aS];omega),aB (by simp;omega)]
 cases bM p<;>rfl
theorem Eh (q:Int)(l:List Int)(g:Int)(h:l.length≤34359738300):oM q l g=some (lI q l g):=by
 unfold oM lI
 simp only[aB h,bd_s,rF]
 cases(gG q !=0)<;>rfl
theorem aXq (b:D.aAB)(h:b.Open.length≤34359738368){τ:Type}(rec:Nat→Option τ)(r:Option τ)(i:Nat)(hi:i<b.Open.length):(bd (bif (!bF b.Open[i].Id (0:Int) (IntKind.i64.wrap (b.Next-(1:Int)))) then(some (true)) else(bif (decide ((↑i:Int)>(0:Int))) then(bd (bA (b.Open) (IntKind.i64.wrap ((↑i:Int)-(1:Int)))) fun z4=>bif (decide (z4.Id≥b.Open[i].Id)) then(some (true)) else(bif (!bF b.Open[i].aAF (0:Int) (1000005:Int)) then(some (true)) else(some (!bF b.Open[i].Until (0:Int) (1000005:Int))))) else(bif (!bF b.Open[i].aAF (0:Int) (1000005:Int)) then(some (true)) else(some (!bF b.Open[i].Until (0:Int) (1000005:Int)))))) fun z3=>bif z3 then r else(rec (i+1)))=bif iL b i b.Open[i] then r else rec (i+1):=by
 unfold iL
 by_cases h0:0<i
 ·rw[Xx h0 hi h,bd_s,show decide ((i:Int)>0)=true by simpa using h0,decide_eq_true h0]
  cases bF b.Open[i].Id 0 (IntKind.i64.wrap (b.Next-1))<;>cases decide ((b.Open.getD (i-1) default).Id≥b.Open[i].Id)<;>cases bF b.Open[i].aAF 0 1000005<;>cases bF b.Open[i].Until 0 1000005<;>rfl
 ·rw[show decide ((i:Int)>0)=false by simpa using h0,decide_eq_false h0]
  cases bF b.Open[i].Id 0 (IntKind.i64.wrap (b.Next-1))<;>cases bF b.Open[i].aAF 0 1000005<;>cases bF b.Open[i].Until 0 1000005<;>rfl
theorem Ud (b:D.aAB)(h:b.sz≤34359738368):wB b=some (eG b):=by
 simp only[D.aAB.sz] at h
 unfold wB eG
 rw[kU (l:=b.Open) (iL b) (.inl false) (.inr ()) (by omega) (fun rec i hi=>by
  simp only[dQ hi,cond_true,aM hi,bd_s];exact aXq b h rec _ i hi) (fun rec=>by simp only[dS,cond_false])]
 rw[show decide ((b.Open.length:Int)≤16)=decide (b.Open.length≤16) from decide_eq_decide.2 (by omega)]
 cases bF b.Next 0 1000000<;>cases decide (b.Open.length≤16)<;>cases gB (iL b) 0 b.Open<;>rfl
theorem aXr (m:D.aAP)(h:m.Notices.length≤34359738368){τ:Type}(rec:Nat→Option τ)(r:Option τ)(i:Nat)(hi:i<m.Notices.length):(bd (bif (!bF m.Notices[i].Kind (1:Int) (5:Int)) then(some (true)) else(bif (!bF m.Notices[i].aAF (0:Int) (1000000:Int)) then(some (true)) else(bif (!bF m.Notices[i].Time (0:Int) (1000000:Int)) then(some (true)) else(bif (decide ((↑i:Int)>(0:Int))) then(bd (bA (m.Notices) (IntKind.i64.wrap ((↑i:Int)-(1:Int)))) fun z4=>some (decide (z4.Time>m.Notices[i].Time))) else(some (false)))))) fun z3=>bif z3 then r else(rec (i+1)))=bif Aj m.Notices i m.Notices[i] then r else rec (i+1):=by
 unfold Aj
 by_cases h0:0<i
 ·rw[Xx h0 hi h,bd_s,show decide ((i:Int)>0)=true by simpa using h0,decide_eq_true h0]
  cases bF m.Notices[i].Kind 1 5<;>cases bF m.Notices[i].aAF 0 1000000<;>cases bF m.Notices[i].Time 0 1000000<;>cases decide ((m.Notices.getD (i-1) default).Time>m.Notices[i].Time)<;>rfl
 ·rw[show decide ((i:Int)>0)=false by simpa using h0,decide_eq_false h0]
  cases bF m.Notices[i].Kind 1 5<;>cases bF m.Notices[i].aAF 0 1000000<;>cases bF m.Notices[i].Time 0 1000000<;>rfl
theorem Gh (m:D.aAP)(h:m.sz≤34359738368):pY m=some (fO m):=by
 simp only[D.aAP.sz] at h
 unfold pY fO
 rw[kU (l:=m.Notices) (Aj m.Notices) (.inl false) (.inr ()) (by omega) (fun rec i hi=>by
  simp only[dQ hi,cond_true,aM hi,bd_s];exact aXr m h rec _ i hi) (fun rec=>by simp only[dS,cond_false])]
 rw[show decide ((m.Notices.length:Int)≤30)=decide (m.Notices.length≤30) from decide_eq_decide.2 (by omega)]
 cases decide (m.Notices.length≤30)<;>cases gB (Aj m.Notices) 0 m.Notices<;>rfl
theorem aCf (i:Int):Fa i=some (aA i):=by
 unfold Fa aA;cases i==0<;>cases i==1<;>rfl
theorem R9 (e:D.aAC):Bc e=some (dY e):=by unfold Bc;rw[aB (by simp)];rfl
theorem aG2 (l:List D.aAC)(h:l.length≤34359738368):Jl l=some (mI l):=by
 unfold Jl mI
 cases hl:((l.length:Int)==0) with
 |true=>rfl
 |false=>
  have:l.length≠0:=by intro h0;rw[h0] at hl;simp at hl
  rw[aG (by omega) (by omega),show(l.length:Int)-1=((l.length-1:Nat):Int) by omega,aM (by omega)]
  simp[List.getD,List.getElem?_eq_getElem (show l.length-1<l.length by omega)]
end
end Go.VK
