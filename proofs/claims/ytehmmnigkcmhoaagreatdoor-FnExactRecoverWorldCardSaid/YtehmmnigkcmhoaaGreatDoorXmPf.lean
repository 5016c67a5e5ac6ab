import Derived.Test.YtehmmnigkcmhoaaGreatDoorXmPe
import Derived.Test.YtehmmnigkcmhoaaGreatDoorXmQ
/- Printed by wip/tools: models, walks, proofs. -/
set_option linter.unusedVariables false
set_option linter.unusedSimpArgs false
set_option maxRecDepth 100000
set_option maxHeartbeats 4000000
namespace Go.VK
open Go.RowKit Go.Proofs
noncomputable section
open EV (cB)
theorem aPb {F:(Int×Int×Int→Option Int)→Int×Int×Int→Option Int}(hF:∀rec (b n s:Int),0≤n→n<9223372036854775807→F rec (b,n,s)=bif decide (n>0) then rec ((IntKind.i64.wrap (b*b)).tmod 2147483647,n/2,bif n%2==1 then(IntKind.i64.wrap (s*b)).tmod 2147483647 else s) else some s):
  ∀(k:Nat) (b n s:Int) (f:Nat),k<f→0≤n→n<2^k→k≤62→cB f F (b,n,s)=some (aVl k b n s)
 |0,b,n,s,f+1,hf,h0,h1,hk=>by
  have:n=0:=by simp at h1;omega
  subst this;rw[Qh,hF _ _ _ _ (by omega) (by omega)];rfl
 |k+1,b,n,s,f+1,hf,h0,h1,hk=>by
  have h2:(2:Int)^(k+1)=2*2^k:=by rw[Int.pow_succ];omega
  have h3:n<2^62:=Int.lt_of_lt_of_le h1 (by exact_mod_cast Nat.pow_le_pow_right (by omega) hk)
  rw[Qh,hF _ _ _ _ h0 (by omega)]
  unfold aVl
  by_cases hn:n>0
  ·rw[decide_eq_true hn,cond_true,if_pos hn]
   exact aPb hF k _ (n/2) _ f (by omega) (by omega) (by omega) (by omega)
  ·rw[decide_eq_false hn,cond_false,if_neg hn]
theorem aHx (b n:Int)(h:0≤n∧n<2147483648):lQ b n=some (aVl 31 b n 1):=by
 unfold lQ
 rw[aPb (fun rec b n s h0 h1=>by simp only[show aPt .i64 n 1=n%2 from and_one h0 (by omega),show aFc .i64 n 1=n/2 from aTv h0,aHj,gd_T,kL,bd_s,aG (show(0:Int)≤1 by decide)]) 31 b n 1 FUEL (by have:=nQ;omega) h.1 (by have:=h.2;omega) (by omega)];rfl
theorem aLb (b n:Int)(h:0≤n∧n<2147483648)(hb:0≤b∧b<2147483647):eO b n 2147483647=some (aVl 31 b n 1):=by
 unfold eO
 rw[show b.tmod 2147483647=b by rw[Int.tmod_eq_emod_of_nonneg hb.1];omega,show(1:Int).tmod 2147483647=1 by decide,aPb (fun rec b n s h0 h1=>by
  have h4:((2:Int)≠0)=True:=by simp
  simp only[show n.tmod 2=n%2 from Int.tmod_eq_emod_of_nonneg h0,show n.tdiv 2=n/2 from Int.tdiv_eq_ediv_of_nonneg h0,show IntKind.i64.wrap (n/2)=n/2 from bT (by omega) (by omega),aHj,h4,gd_T,kL,bd_s]) 31 b n 1 FUEL (by have:=nQ;omega) h.1 (by have:=h.2;omega) (by omega)]
 simp only[aHj,gd_T,bd_s]
theorem Yd (q:Int):vH q=some (jM q):=by
 unfold vH jM
 rw[aHx _ _ (by decide),aTw,show cZ q 1 2147483646=mK q from rfl]
 cases hk:mK q with
 |false=>rfl
 |true=>
  have hr:=aFb hk
  have hw:IntKind.i64.wrap (q*1899818559)=q*1899818559:=bT (by omega) (by omega)
  simp only[Bool.not_true,cond_false,bd_s,hw,aHj,gd_T,Int.tmod_eq_emod_of_nonneg (show 0≤q*1899818559 by omega)]
  have hp:Mw (q*1899818559%2147483647)=q:=by
   unfold Mw mK cZ
   have h1:1≤q*1899818559%2147483647:=by omega
   have h2:q*1899818559%2147483647≤2147483646:=by omega
   have hw2:IntKind.i64.wrap (q*1899818559%2147483647*48271)=q*1899818559%2147483647*48271:=bT (by omega) (by omega)
   simp only[h1,h2,decide_true,Bool.and_self,Bool.not_true,cond_false,hw2]
   rw[Int.tmod_eq_emod_of_nonneg (by omega)]
   omega
  rw[hp,bne_self_eq_false];rfl
theorem Ye (q:Int):vP q=some (jM q):=by
 unfold vP jM
 rw[aLb _ _ (by decide) (by decide),aTw]
 cases hk:mK q with
 |false=>rfl
 |true=>
  have hr:=aFb hk
  have hw:IntKind.i64.wrap (q*1899818559)=q*1899818559:=bT (by omega) (by omega)
  simp only[Bool.not_true,cond_false,bd_s,hw,aHj,gd_T,Int.tmod_eq_emod_of_nonneg (show 0≤q*1899818559 by omega)]
theorem Sy (p:Int)(l:List Int)(h:l.length≤34359738300):sS p l=some (Xb p l):=by
 unfold sS Xb
 rw[aG (by simp[bO];omega),aG (by simp;omega)]
 cases mK p<;>rfl
theorem Sz (p:Int)(l:List Int)(h:l.length≤34359738300):tJ p l=some (Xb p l):=by
 unfold tJ Xb
 rw[aG (by unfold Hy;simp;omega),bd_s,aG (by simp[wY];omega)]
 cases mK p<;>simp[wY]
theorem Ay (q:Int)(l:List Int)(g:Int)(h:l.length≤34359738300):lS q l g=some (iZ q l g):=by
 unfold lS iZ
 simp only[aG h,bd_s,kL]
 cases(jM q !=0)<;>rfl
theorem Az (q:Int)(l:List Int)(g:Int)(h:l.length≤34359738300):lV q l g=some (iZ q l g):=by
 unfold lV iZ
 simp only[aG h,bd_s,kL]
 cases(jM q !=0)<;>rfl
theorem aNp (b:D.aAC)(h:b.Open.length≤34359738368){τ:Type}(rec:Nat→Option τ)(r:Option τ)(i:Nat)(hi:i<b.Open.length):(bd (bif (!cZ b.Open[i].Id (0:Int) (IntKind.i64.wrap (b.Next-(1:Int)))) then(some (true)) else(bif (decide ((↑i:Int)>(0:Int))) then(bd (aV (b.Open) (IntKind.i64.wrap ((↑i:Int)-(1:Int)))) fun z4=>bif (decide (z4.Id≥b.Open[i].Id)) then(some (true)) else(bif (!cZ b.Open[i].aAE (0:Int) (1000005:Int)) then(some (true)) else(some (!cZ b.Open[i].Until (0:Int) (1000005:Int))))) else(bif (!cZ b.Open[i].aAE (0:Int) (1000005:Int)) then(some (true)) else(some (!cZ b.Open[i].Until (0:Int) (1000005:Int)))))) fun z3=>bif z3 then r else(rec (i+1)))=bif iL b i b.Open[i] then r else rec (i+1):=by
 unfold iL
 by_cases h0:0<i
 ·rw[Hr h0 hi h,bd_s,show decide ((i:Int)>0)=true by simpa using h0,decide_eq_true h0]
  cases cZ b.Open[i].Id 0 (IntKind.i64.wrap (b.Next-1))<;>cases decide ((b.Open.getD (i-1) default).Id≥b.Open[i].Id)<;>cases cZ b.Open[i].aAE 0 1000005<;>cases cZ b.Open[i].Until 0 1000005<;>rfl
 ·rw[show decide ((i:Int)>0)=false by simpa using h0,decide_eq_false h0]
  cases cZ b.Open[i].Id 0 (IntKind.i64.wrap (b.Next-1))<;>cases cZ b.Open[i].aAE 0 1000005<;>cases cZ b.Open[i].Until 0 1000005<;>rfl
theorem Ta (b:D.aAC)(h:b.sz≤34359738368):sP b=some (lH b):=by
 simp only[D.aAC.sz] at h
 unfold sP lH
 rw[fF (l:=b.Open) (iL b) (.inl false) (.inr ()) (by omega) (fun rec i hi=>by
  simp only[bH hi,cond_true,aD hi,bd_s];exact aNp b h rec _ i hi) (fun rec=>by simp only[bI,cond_false])]
 rw[show decide ((b.Open.length:Int)≤16)=decide (b.Open.length≤16) from decide_eq_decide.2 (by omega)]
 cases cZ b.Next 0 1000000<;>cases decide (b.Open.length≤16)<;>cases eU (iL b) 0 b.Open<;>rfl
theorem Tc (b:D.aAC)(h:b.sz≤34359738368):tF b=some (lH b):=by
 simp only[D.aAC.sz] at h
 unfold tF lH
 rw[fF (l:=b.Open) (iL b) (.inl false) (.inr ()) (by omega) (fun rec i hi=>by
  simp only[bH hi,cond_true,aD hi,bd_s];exact aNp b h rec _ i hi) (fun rec=>by simp only[bI,cond_false])]
 rw[show decide ((b.Open.length:Int)>16)= !decide (b.Open.length≤16) by rw[←decide_not];exact decide_eq_decide.2 (by omega)]
 cases cZ b.Next 0 1000000<;>cases decide (b.Open.length≤16)<;>cases eU (iL b) 0 b.Open<;>rfl
theorem aNq (m:D.aAI)(h:m.Notices.length≤34359738368){τ:Type}(rec:Nat→Option τ)(r:Option τ)(i:Nat)(hi:i<m.Notices.length):(bd (bif (!cZ m.Notices[i].Kind (1:Int) (5:Int)) then(some (true)) else(bif (!cZ m.Notices[i].aAE (0:Int) (1000000:Int)) then(some (true)) else(bif (!cZ m.Notices[i].Time (0:Int) (1000000:Int)) then(some (true)) else(bif (decide ((↑i:Int)>(0:Int))) then(bd (aV (m.Notices) (IntKind.i64.wrap ((↑i:Int)-(1:Int)))) fun z4=>some (decide (z4.Time>m.Notices[i].Time))) else(some (false)))))) fun z3=>bif z3 then r else(rec (i+1)))=bif nO m.Notices i m.Notices[i] then r else rec (i+1):=by
 unfold nO
 by_cases h0:0<i
 ·rw[Hr h0 hi h,bd_s,show decide ((i:Int)>0)=true by simpa using h0,decide_eq_true h0]
  cases cZ m.Notices[i].Kind 1 5<;>cases cZ m.Notices[i].aAE 0 1000000<;>cases cZ m.Notices[i].Time 0 1000000<;>cases decide ((m.Notices.getD (i-1) default).Time>m.Notices[i].Time)<;>rfl
 ·rw[show decide ((i:Int)>0)=false by simpa using h0,decide_eq_false h0]
  cases cZ m.Notices[i].Kind 1 5<;>cases cZ m.Notices[i].aAE 0 1000000<;>cases cZ m.Notices[i].Time 0 1000000<;>rfl
theorem Ez (m:D.aAI)(h:m.sz≤34359738368):mU m=some (dU m):=by
 simp only[D.aAI.sz] at h
 unfold mU dU
 rw[fF (l:=m.Notices) (nO m.Notices) (.inl false) (.inr ()) (by omega) (fun rec i hi=>by
  simp only[bH hi,cond_true,aD hi,bd_s];exact aNq m h rec _ i hi) (fun rec=>by simp only[bI,cond_false])]
 rw[show decide ((m.Notices.length:Int)≤30)=decide (m.Notices.length≤30) from decide_eq_decide.2 (by omega)]
 cases decide (m.Notices.length≤30)<;>cases eU (nO m.Notices) 0 m.Notices<;>rfl
theorem Fa (m:D.aAI)(h:m.sz≤34359738368):mZ m=some (dU m):=by
 simp only[D.aAI.sz] at h
 unfold mZ dU
 rw[fF (l:=m.Notices) (nO m.Notices) (.inl false) (.inr ()) (by omega) (fun rec i hi=>by
  simp only[bH hi,cond_true,aD hi,bd_s];exact aNq m h rec _ i hi) (fun rec=>by simp only[bI,cond_false])]
 rw[show decide ((m.Notices.length:Int)>30)= !decide (m.Notices.length≤30) by rw[←decide_not];exact decide_eq_decide.2 (by omega)]
 cases decide (m.Notices.length≤30)<;>cases eU (nO m.Notices) 0 m.Notices<;>rfl
theorem aC5 (i:Int):Df i=some (gY i):=by
 unfold Df gY;cases i==0<;>cases i==1<;>rfl
theorem aC6 (i:Int):Dp i=some (gY i):=by
 unfold Dp gY;cases i==0<;>cases i==1<;>rfl
theorem P7 (e:D.aAD):xO e=some (dH e):=by unfold xO;rw[aG (by simp)];rfl
theorem P8 (e:D.aAD):yE e=some (dH e):=by unfold yE;rw[aG (by simp)];rfl
theorem aHy (l:List D.aAD)(h:l.length≤34359738368):Jl l=some (gL l):=by
 unfold Jl gL
 cases hl:((l.length:Int)==0) with
 |true=>rfl
 |false=>
  have:l.length≠0:=by intro h0;rw[h0] at hl;simp at hl
  rw[bT (by omega) (by omega),show(l.length:Int)-1=((l.length-1:Nat):Int) by omega,aD (by omega)]
  simp[List.getD,List.getElem?_eq_getElem (show l.length-1<l.length by omega)]
theorem aHz (l:List D.aAD)(h:l.length≤34359738368):Jq l=some (gL l):=by
 unfold Jq gL
 cases hl:((l.length:Int)==0) with
 |true=>rfl
 |false=>
  have:l.length≠0:=by intro h0;rw[h0] at hl;simp at hl
  rw[bT (by omega) (by omega),show(l.length:Int)-1=((l.length-1:Nat):Int) by omega,aD (by omega)]
  simp[List.getD,List.getElem?_eq_getElem (show l.length-1<l.length by omega)]
theorem Yf (l:List D.aAD)(p:Int)(h:l.length≤34359738368):vQ l p=some (lG l p):=by
 unfold vQ
 rw[kK (l:=l) (fun e=>e.Kind==2&&e.Device==p) (.inl true) (.inr ()) (by omega) (fun rec i hi=>by
  simp only[bH hi,cond_true,aD hi,bd_s,kL];cases(l[i].Kind==2)<;>rfl) (fun rec=>by simp only[bI,cond_false])]
 unfold lG;cases l.any _<;>rfl
end
end Go.VK
