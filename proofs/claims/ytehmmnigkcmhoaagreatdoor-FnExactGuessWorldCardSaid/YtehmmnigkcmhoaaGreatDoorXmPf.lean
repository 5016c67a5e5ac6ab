import Derived.Test.YtehmmnigkcmhoaaGreatDoorXmPe
import Derived.Test.YtehmmnigkcmhoaaGreatDoorXmQ
/- Printed by wip/tools: models, walks, proofs. -/
set_option linter.unusedVariables false
set_option linter.unusedSimpArgs false
set_option maxRecDepth 100000
set_option maxHeartbeats 4000000
namespace Go.VK
open Go.RowKit Go.Proofs
noncomputable section
open EV (cB)
theorem aPl {F:(Int×Int×Int→Option Int)→Int×Int×Int→Option Int}(hF:∀rec (b n s:Int),0≤n→n<9223372036854775807→F rec (b,n,s)=bif decide (n>0) then rec ((IntKind.i64.wrap (b*b)).tmod 2147483647,n/2,bif n%2==1 then(IntKind.i64.wrap (s*b)).tmod 2147483647 else s) else some s):
  ∀(k:Nat) (b n s:Int) (f:Nat),k<f→0≤n→n<2^k→k≤62→cB f F (b,n,s)=some (aVu k b n s)
 |0,b,n,s,f+1,hf,h0,h1,hk=>by
  have:n=0:=by simp at h1;omega
  subst this;rw[Qj,hF _ _ _ _ (by omega) (by omega)];rfl
 |k+1,b,n,s,f+1,hf,h0,h1,hk=>by
  have h2:(2:Int)^(k+1)=2*2^k:=by rw[Int.pow_succ];omega
  have h3:n<2^62:=Int.lt_of_lt_of_le h1 (by exact_mod_cast Nat.pow_le_pow_right (by omega) hk)
  rw[Qj,hF _ _ _ _ h0 (by omega)]
  unfold aVu
  by_cases hn:n>0
  ·rw[decide_eq_true hn,cond_true,if_pos hn]
   exact aPl hF k _ (n/2) _ f (by omega) (by omega) (by omega) (by omega)
  ·rw[decide_eq_false hn,cond_false,if_neg hn]
theorem aH6 (b n:Int)(h:0≤n∧n<2147483648):lQ b n=some (aVu 31 b n 1):=by
 unfold lQ
 rw[aPl (fun rec b n s h0 h1=>by simp only[show aP3 .i64 n 1=n%2 from and_one h0 (by omega),show aFk .i64 n 1=n/2 from aT4 h0,aHs,gd_T,kL,bd_s,aG (show(0:Int)≤1 by decide)]) 31 b n 1 FUEL (by have:=nQ;omega) h.1 (by have:=h.2;omega) (by omega)];rfl
theorem aLk (b n:Int)(h:0≤n∧n<2147483648)(hb:0≤b∧b<2147483647):eO b n 2147483647=some (aVu 31 b n 1):=by
 unfold eO
 rw[show b.tmod 2147483647=b by rw[Int.tmod_eq_emod_of_nonneg hb.1];omega,show(1:Int).tmod 2147483647=1 by decide,aPl (fun rec b n s h0 h1=>by
  have h4:((2:Int)≠0)=True:=by simp
  simp only[show n.tmod 2=n%2 from Int.tmod_eq_emod_of_nonneg h0,show n.tdiv 2=n/2 from Int.tdiv_eq_ediv_of_nonneg h0,show IntKind.i64.wrap (n/2)=n/2 from bN (by omega) (by omega),aHs,h4,gd_T,kL,bd_s]) 31 b n 1 FUEL (by have:=nQ;omega) h.1 (by have:=h.2;omega) (by omega)]
 simp only[aHs,gd_T,bd_s]
theorem Ye (q:Int):vF q=some (jM q):=by
 unfold vF jM
 rw[aH6 _ _ (by decide),aT5,show cZ q 1 2147483646=mK q from rfl]
 cases hk:mK q with
 |false=>rfl
 |true=>
  have hr:=aFj hk
  have hw:IntKind.i64.wrap (q*1899818559)=q*1899818559:=bN (by omega) (by omega)
  simp only[Bool.not_true,cond_false,bd_s,hw,aHs,gd_T,Int.tmod_eq_emod_of_nonneg (show 0≤q*1899818559 by omega)]
  have hp:Na (q*1899818559%2147483647)=q:=by
   unfold Na mK cZ
   have h1:1≤q*1899818559%2147483647:=by omega
   have h2:q*1899818559%2147483647≤2147483646:=by omega
   have hw2:IntKind.i64.wrap (q*1899818559%2147483647*48271)=q*1899818559%2147483647*48271:=bN (by omega) (by omega)
   simp only[h1,h2,decide_true,Bool.and_self,Bool.not_true,cond_false,hw2]
   rw[Int.tmod_eq_emod_of_nonneg (by omega)]
   omega
  rw[hp,bne_self_eq_false];rfl
theorem Yf (q:Int):vN q=some (jM q):=by
 unfold vN jM
 rw[aLk _ _ (by decide) (by decide),aT5]
 cases hk:mK q with
 |false=>rfl
 |true=>
  have hr:=aFj hk
  have hw:IntKind.i64.wrap (q*1899818559)=q*1899818559:=bN (by omega) (by omega)
  simp only[Bool.not_true,cond_false,bd_s,hw,aHs,gd_T,Int.tmod_eq_emod_of_nonneg (show 0≤q*1899818559 by omega)]
theorem Sy (p:Int)(l:List Int)(h:l.length≤34359738300):sS p l=some (Xc p l):=by
 unfold sS Xc
 rw[aG (by simp[bL];omega),aG (by simp;omega)]
 cases mK p<;>rfl
theorem Sz (p:Int)(l:List Int)(h:l.length≤34359738300):tJ p l=some (Xc p l):=by
 unfold tJ Xc
 rw[aG (by unfold Ia;simp;omega),bd_s,aG (by simp[xC];omega)]
 cases mK p<;>simp[xC]
theorem Bc (q:Int)(l:List Int)(g:Int)(h:l.length≤34359738300):lS q l g=some (iZ q l g):=by
 unfold lS iZ
 simp only[aG h,bd_s,kL]
 cases(jM q !=0)<;>rfl
theorem Bd (q:Int)(l:List Int)(g:Int)(h:l.length≤34359738300):lV q l g=some (iZ q l g):=by
 unfold lV iZ
 simp only[aG h,bd_s,kL]
 cases(jM q !=0)<;>rfl
theorem aN0 (b:D.aAC)(h:b.Open.length≤34359738368){τ:Type}(rec:Nat→Option τ)(r:Option τ)(i:Nat)(hi:i<b.Open.length):(bd (bif (!cZ b.Open[i].Id (0:Int) (IntKind.i64.wrap (b.Next-(1:Int)))) then(some (true)) else(bif (decide ((↑i:Int)>(0:Int))) then(bd (aV (b.Open) (IntKind.i64.wrap ((↑i:Int)-(1:Int)))) fun z4=>bif (decide (z4.Id≥b.Open[i].Id)) then(some (true)) else(bif (!cZ b.Open[i].aAE (0:Int) (1000005:Int)) then(some (true)) else(some (!cZ b.Open[i].Until (0:Int) (1000005:Int))))) else(bif (!cZ b.Open[i].aAE (0:Int) (1000005:Int)) then(some (true)) else(some (!cZ b.Open[i].Until (0:Int) (1000005:Int)))))) fun z3=>bif z3 then r else(rec (i+1)))=bif iL b i b.Open[i] then r else rec (i+1):=by
 unfold iL
 by_cases h0:0<i
 ·rw[Hu h0 hi h,bd_s,show decide ((i:Int)>0)=true by simpa using h0,decide_eq_true h0]
  cases cZ b.Open[i].Id 0 (IntKind.i64.wrap (b.Next-1))<;>cases decide ((b.Open.getD (i-1) default).Id≥b.Open[i].Id)<;>cases cZ b.Open[i].aAE 0 1000005<;>cases cZ b.Open[i].Until 0 1000005<;>rfl
 ·rw[show decide ((i:Int)>0)=false by simpa using h0,decide_eq_false h0]
  cases cZ b.Open[i].Id 0 (IntKind.i64.wrap (b.Next-1))<;>cases cZ b.Open[i].aAE 0 1000005<;>cases cZ b.Open[i].Until 0 1000005<;>rfl
theorem Ta (b:D.aAC)(h:b.sz≤34359738368):sP b=some (lH b):=by
 simp only[D.aAC.sz] at h
 unfold sP lH
 rw[fF (l:=b.Open) (iL b) (.inl false) (.inr ()) (by omega) (fun rec i hi=>by
  simp only[bG hi,cond_true,aD hi,bd_s];exact aN0 b h rec _ i hi) (fun rec=>by simp only[bH,cond_false])]
 rw[show decide ((b.Open.length:Int)≤16)=decide (b.Open.length≤16) from decide_eq_decide.2 (by omega)]
 cases cZ b.Next 0 1000000<;>cases decide (b.Open.length≤16)<;>cases eU (iL b) 0 b.Open<;>rfl
theorem Tc (b:D.aAC)(h:b.sz≤34359738368):tF b=some (lH b):=by
 simp only[D.aAC.sz] at h
 unfold tF lH
 rw[fF (l:=b.Open) (iL b) (.inl false) (.inr ()) (by omega) (fun rec i hi=>by
  simp only[bG hi,cond_true,aD hi,bd_s];exact aN0 b h rec _ i hi) (fun rec=>by simp only[bH,cond_false])]
 rw[show decide ((b.Open.length:Int)>16)= !decide (b.Open.length≤16) by rw[←decide_not];exact decide_eq_decide.2 (by omega)]
 cases cZ b.Next 0 1000000<;>cases decide (b.Open.length≤16)<;>cases eU (iL b) 0 b.Open<;>rfl
theorem aN1 (m:D.aAI)(h:m.Notices.length≤34359738368){τ:Type}(rec:Nat→Option τ)(r:Option τ)(i:Nat)(hi:i<m.Notices.length):(bd (bif (!cZ m.Notices[i].Kind (1:Int) (5:Int)) then(some (true)) else(bif (!cZ m.Notices[i].aAE (0:Int) (1000000:Int)) then(some (true)) else(bif (!cZ m.Notices[i].Time (0:Int) (1000000:Int)) then(some (true)) else(bif (decide ((↑i:Int)>(0:Int))) then(bd (aV (m.Notices) (IntKind.i64.wrap ((↑i:Int)-(1:Int)))) fun z4=>some (decide (z4.Time>m.Notices[i].Time))) else(some (false)))))) fun z3=>bif z3 then r else(rec (i+1)))=bif nO m.Notices i m.Notices[i] then r else rec (i+1):=by
 unfold nO
 by_cases h0:0<i
 ·rw[Hu h0 hi h,bd_s,show decide ((i:Int)>0)=true by simpa using h0,decide_eq_true h0]
  cases cZ m.Notices[i].Kind 1 5<;>cases cZ m.Notices[i].aAE 0 1000000<;>cases cZ m.Notices[i].Time 0 1000000<;>cases decide ((m.Notices.getD (i-1) default).Time>m.Notices[i].Time)<;>rfl
 ·rw[show decide ((i:Int)>0)=false by simpa using h0,decide_eq_false h0]
  cases cZ m.Notices[i].Kind 1 5<;>cases cZ m.Notices[i].aAE 0 1000000<;>cases cZ m.Notices[i].Time 0 1000000<;>rfl
theorem Fb (m:D.aAI)(h:m.sz≤34359738368):mU m=some (dU m):=by
 simp only[D.aAI.sz] at h
 unfold mU dU
 rw[fF (l:=m.Notices) (nO m.Notices) (.inl false) (.inr ()) (by omega) (fun rec i hi=>by
  simp only[bG hi,cond_true,aD hi,bd_s];exact aN1 m h rec _ i hi) (fun rec=>by simp only[bH,cond_false])]
 rw[show decide ((m.Notices.length:Int)≤30)=decide (m.Notices.length≤30) from decide_eq_decide.2 (by omega)]
 cases decide (m.Notices.length≤30)<;>cases eU (nO m.Notices) 0 m.Notices<;>rfl
theorem Fe (m:D.aAI)(h:m.sz≤34359738368):mZ m=some (dU m):=by
 simp only[D.aAI.sz] at h
 unfold mZ dU
 rw[fF (l:=m.Notices) (nO m.Notices) (.inl false) (.inr ()) (by omega) (fun rec i hi=>by
  simp only[bG hi,cond_true,aD hi,bd_s];exact aN1 m h rec _ i hi) (fun rec=>by simp only[bH,cond_false])]
 rw[show decide ((m.Notices.length:Int)>30)= !decide (m.Notices.length≤30) by rw[←decide_not];exact decide_eq_decide.2 (by omega)]
 cases decide (m.Notices.length≤30)<;>cases eU (nO m.Notices) 0 m.Notices<;>rfl
theorem aDc (i:Int):Dk i=some (gX i):=by
 unfold Dk gX;cases i==0<;>cases i==1<;>rfl
theorem aDd (i:Int):Dv i=some (gX i):=by
 unfold Dv gX;cases i==0<;>cases i==1<;>rfl
theorem Q5 (e:D.aAD):xS e=some (dH e):=by unfold xS;rw[aG (by simp)];rfl
theorem Q6 (e:D.aAD):yI e=some (dH e):=by unfold yI;rw[aG (by simp)];rfl
theorem aH7 (l:List D.aAD)(h:l.length≤34359738368):Jn l=some (gL l):=by
 unfold Jn gL
 cases hl:((l.length:Int)==0) with
 |true=>rfl
 |false=>
  have:l.length≠0:=by intro h0;rw[h0] at hl;simp at hl
  rw[bN (by omega) (by omega),show(l.length:Int)-1=((l.length-1:Nat):Int) by omega,aD (by omega)]
  simp[List.getD,List.getElem?_eq_getElem (show l.length-1<l.length by omega)]
theorem aH8 (l:List D.aAD)(h:l.length≤34359738368):Js l=some (gL l):=by
 unfold Js gL
 cases hl:((l.length:Int)==0) with
 |true=>rfl
 |false=>
  have:l.length≠0:=by intro h0;rw[h0] at hl;simp at hl
  rw[bN (by omega) (by omega),show(l.length:Int)-1=((l.length-1:Nat):Int) by omega,aD (by omega)]
  simp[List.getD,List.getElem?_eq_getElem (show l.length-1<l.length by omega)]
theorem Yg (l:List D.aAD)(p:Int)(h:l.length≤34359738368):vO l p=some (lG l p):=by
 unfold vO
 rw[kK (l:=l) (fun e=>e.Kind==2&&e.Device==p) (.inl true) (.inr ()) (by omega) (fun rec i hi=>by
  simp only[bG hi,cond_true,aD hi,bd_s,kL];cases(l[i].Kind==2)<;>rfl) (fun rec=>by simp only[bH,cond_false])]
 unfold lG;cases l.any _<;>rfl
end
end Go.VK
