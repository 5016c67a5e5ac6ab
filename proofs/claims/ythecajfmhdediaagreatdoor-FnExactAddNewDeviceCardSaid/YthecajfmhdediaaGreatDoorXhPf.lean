import Derived.Test.YthecajfmhdediaaGreatDoorXhPe
import Derived.Test.YthecajfmhdediaaGreatDoorXhQ
/- Printed by wip/tools: models, walks, proofs. -/
set_option linter.unusedVariables false
set_option linter.unusedSimpArgs false
set_option maxRecDepth 100000
set_option maxHeartbeats 4000000
namespace Go.VK
open Go.RowKit Go.Proofs
noncomputable section
open EV (bX)
theorem aX9 {F:(Int×Int×Int→Option Int)→Int×Int×Int→Option Int}(hF:∀rec (b n s:Int),0≤n→n<9223372036854775807→F rec (b,n,s)=bif decide (n>0) then rec ((IntKind.i64.wrap (b*b)).tmod 2147483647,n/2,bif n%2==1 then(IntKind.i64.wrap (s*b)).tmod 2147483647 else s) else some s):
  ∀(k:Nat) (b n s:Int) (f:Nat),k<f→0≤n→n<2^k→k≤62→bX f F (b,n,s)=some (bE8 k b n s)
 |0,b,n,s,f+1,hf,h0,h1,hk=>by
  have:n=0:=by simp at h1;omega
  subst this;rw[iW,hF _ _ _ _ (by omega) (by omega)];rfl
 |k+1,b,n,s,f+1,hf,h0,h1,hk=>by
  have h2:(2:Int)^(k+1)=2*2^k:=by rw[Int.pow_succ];omega
  have h3:n<2^62:=Int.lt_of_lt_of_le h1 (by exact_mod_cast Nat.pow_le_pow_right (by omega) hk)
  rw[iW,hF _ _ _ _ h0 (by omega)]
  unfold bE8
  by_cases hn:n>0
  ·rw[decide_eq_true hn,cond_true,if_pos hn]
   exact aX9 hF k _ (n/2) _ f (by omega) (by omega) (by omega) (by omega)
  ·rw[decide_eq_false hn,cond_false,if_neg hn]
theorem aP8 (b n:Int)(h:0≤n∧n<2147483648):nY b n=some (bE8 31 b n 1):=by
 unfold nY
 rw[aX9 (fun rec b n s h0 h1=>by simp only[show yI .i64 n 1=n%2 from and_one h0 (by omega),show aDt .i64 n 1=n/2 from bIz h0,aPt,gd_T,jZ,bd_s,aD (show(0:Int)≤1 by decide)]) 31 b n 1 FUEL (by have:=gN;omega) h.1 (by have:=h.2;omega) (by omega)];rfl
theorem aT4 (b n:Int)(h:0≤n∧n<2147483648)(hb:0≤b∧b<2147483647):uU b n 2147483647=some (bE8 31 b n 1):=by
 unfold uU
 rw[show b.tmod 2147483647=b by rw[Int.tmod_eq_emod_of_nonneg hb.1];omega,show(1:Int).tmod 2147483647=1 by decide,aX9 (fun rec b n s h0 h1=>by
  have h4:((2:Int)≠0)=True:=by simp
  simp only[show n.tmod 2=n%2 from Int.tmod_eq_emod_of_nonneg h0,show n.tdiv 2=n/2 from Int.tdiv_eq_ediv_of_nonneg h0,show IntKind.i64.wrap (n/2)=n/2 from aR (by omega) (by omega),aPt,h4,gd_T,jZ,bd_s]) 31 b n 1 FUEL (by have:=gN;omega) h.1 (by have:=h.2;omega) (by omega)]
 simp only[aPt,gd_T,bd_s]
theorem aAy (q:Int):yS q=some (fV q):=by
 unfold yS fV
 rw[aP8 _ _ (by decide),bDc,show dI q 1 2147483646=dY q from rfl]
 cases hk:dY q with
 |false=>rfl
 |true=>
  have hr:=aNc hk
  have hw:IntKind.i64.wrap (q*1899818559)=q*1899818559:=aR (by omega) (by omega)
  simp only[Bool.not_true,cond_false,bd_s,hw,aPt,gd_T,Int.tmod_eq_emod_of_nonneg (show 0≤q*1899818559 by omega)]
  have hp:fT (q*1899818559%2147483647)=q:=by
   unfold fT dY dI
   have h1:1≤q*1899818559%2147483647:=by omega
   have h2:q*1899818559%2147483647≤2147483646:=by omega
   have hw2:IntKind.i64.wrap (q*1899818559%2147483647*48271)=q*1899818559%2147483647*48271:=aR (by omega) (by omega)
   simp only[h1,h2,decide_true,Bool.and_self,Bool.not_true,cond_false,hw2]
   rw[Int.tmod_eq_emod_of_nonneg (by omega)]
   omega
  rw[hp,bne_self_eq_false];rfl
theorem aAz (q:Int):zJ q=some (fV q):=by
 unfold zJ fV
 rw[aT4 _ _ (by decide) (by decide),bDc]
 cases hk:dY q with
 |false=>rfl
 |true=>
  have hr:=aNc hk
  have hw:IntKind.i64.wrap (q*1899818559)=q*1899818559:=aR (by omega) (by omega)
  simp only[Bool.not_true,cond_false,bd_s,hw,aPt,gd_T,Int.tmod_eq_emod_of_nonneg (show 0≤q*1899818559 by omega)]
theorem D9 (p:Int)(l:List Int)(h:l.length≤34359738300):vY p l=some (Ij p l):=by
 unfold vY Ij
 rw[aD (by simp[bI];omega),aD (by simp;omega)]
 cases dY p<;>rfl
theorem E5 (p:Int)(l:List Int)(h:l.length≤34359738300):wN p l=some (Ij p l):=by
 unfold wN Ij
 rw[aD (by unfold vP;simp;omega),bd_s,aD (by simp[nO];omega)]
 cases dY p<;>simp[nO]
theorem Gr (q:Int)(l:List Int)(g:Int)(h:l.length≤34359738300):nZ q l g=some (kM q l g):=by
 unfold nZ kM
 simp only[aD h,bd_s,jZ]
 cases(fV q !=0)<;>rfl
theorem Gs (q:Int)(l:List Int)(g:Int)(h:l.length≤34359738300):oC q l g=some (kM q l g):=by
 unfold oC kM
 simp only[aD h,bd_s,jZ]
 cases(fV q !=0)<;>rfl
theorem aWl (b:D.aAF)(h:b.Open.length≤34359738368){τ:Type}(rec:Nat→Option τ)(r:Option τ)(i:Nat)(hi:i<b.Open.length):(bd (bif (!dI b.Open[i].Id (0:Int) (IntKind.i64.wrap (b.Next-(1:Int)))) then(some (true)) else(bif (decide ((↑i:Int)>(0:Int))) then(bd (aP (b.Open) (IntKind.i64.wrap ((↑i:Int)-(1:Int)))) fun z4=>bif (decide (z4.Id≥b.Open[i].Id)) then(some (true)) else(bif (!dI b.Open[i].aAG (0:Int) (1000005:Int)) then(some (true)) else(some (!dI b.Open[i].Until (0:Int) (1000005:Int))))) else(bif (!dI b.Open[i].aAG (0:Int) (1000005:Int)) then(some (true)) else(some (!dI b.Open[i].Until (0:Int) (1000005:Int)))))) fun z3=>bif z3 then r else(rec (i+1)))=bif jX b i b.Open[i] then r else rec (i+1):=by
 unfold jX
 by_cases h0:0<i
 ·rw[Nr h0 hi h,bd_s,show decide ((i:Int)>0)=true by simpa using h0,decide_eq_true h0]
  cases dI b.Open[i].Id 0 (IntKind.i64.wrap (b.Next-1))<;>cases decide ((b.Open.getD (i-1) default).Id≥b.Open[i].Id)<;>cases dI b.Open[i].aAG 0 1000005<;>cases dI b.Open[i].Until 0 1000005<;>rfl
 ·rw[show decide ((i:Int)>0)=false by simpa using h0,decide_eq_false h0]
  cases dI b.Open[i].Id 0 (IntKind.i64.wrap (b.Next-1))<;>cases dI b.Open[i].aAG 0 1000005<;>cases dI b.Open[i].Until 0 1000005<;>rfl
theorem E8 (b:D.aAF)(h:b.sz≤34359738368):vW b=some (nR b):=by
 simp only[D.aAF.sz] at h
 unfold vW nR
 rw[iL (l:=b.Open) (jX b) (.inl false) (.inr ()) (by omega) (fun rec i hi=>by
  simp only[bH hi,cond_true,aH hi,bd_s];exact aWl b h rec _ i hi) (fun rec=>by simp only[bJ,cond_false])]
 rw[show decide ((b.Open.length:Int)≤16)=decide (b.Open.length≤16) from decide_eq_decide.2 (by omega)]
 cases dI b.Next 0 1000000<;>cases decide (b.Open.length≤16)<;>cases kI (jX b) 0 b.Open<;>rfl
theorem E9 (b:D.aAF)(h:b.sz≤34359738368):wL b=some (nR b):=by
 simp only[D.aAF.sz] at h
 unfold wL nR
 rw[iL (l:=b.Open) (jX b) (.inl false) (.inr ()) (by omega) (fun rec i hi=>by
  simp only[bH hi,cond_true,aH hi,bd_s];exact aWl b h rec _ i hi) (fun rec=>by simp only[bJ,cond_false])]
 rw[show decide ((b.Open.length:Int)>16)= !decide (b.Open.length≤16) by rw[←decide_not];exact decide_eq_decide.2 (by omega)]
 cases dI b.Next 0 1000000<;>cases decide (b.Open.length≤16)<;>cases kI (jX b) 0 b.Open<;>rfl
theorem aWm (m:D.aAK)(h:m.Notices.length≤34359738368){τ:Type}(rec:Nat→Option τ)(r:Option τ)(i:Nat)(hi:i<m.Notices.length):(bd (bif (!dI m.Notices[i].Kind (1:Int) (5:Int)) then(some (true)) else(bif (!dI m.Notices[i].aAG (0:Int) (1000000:Int)) then(some (true)) else(bif (!dI m.Notices[i].Time (0:Int) (1000000:Int)) then(some (true)) else(bif (decide ((↑i:Int)>(0:Int))) then(bd (aP (m.Notices) (IntKind.i64.wrap ((↑i:Int)-(1:Int)))) fun z4=>some (decide (z4.Time>m.Notices[i].Time))) else(some (false)))))) fun z3=>bif z3 then r else(rec (i+1)))=bif qH m.Notices i m.Notices[i] then r else rec (i+1):=by
 unfold qH
 by_cases h0:0<i
 ·rw[Nr h0 hi h,bd_s,show decide ((i:Int)>0)=true by simpa using h0,decide_eq_true h0]
  cases dI m.Notices[i].Kind 1 5<;>cases dI m.Notices[i].aAG 0 1000000<;>cases dI m.Notices[i].Time 0 1000000<;>cases decide ((m.Notices.getD (i-1) default).Time>m.Notices[i].Time)<;>rfl
 ·rw[show decide ((i:Int)>0)=false by simpa using h0,decide_eq_false h0]
  cases dI m.Notices[i].Kind 1 5<;>cases dI m.Notices[i].aAG 0 1000000<;>cases dI m.Notices[i].Time 0 1000000<;>rfl
theorem Lb (m:D.aAK)(h:m.sz≤34359738368):pG m=some (fB m):=by
 simp only[D.aAK.sz] at h
 unfold pG fB
 rw[iL (l:=m.Notices) (qH m.Notices) (.inl false) (.inr ()) (by omega) (fun rec i hi=>by
  simp only[bH hi,cond_true,aH hi,bd_s];exact aWm m h rec _ i hi) (fun rec=>by simp only[bJ,cond_false])]
 rw[show decide ((m.Notices.length:Int)≤30)=decide (m.Notices.length≤30) from decide_eq_decide.2 (by omega)]
 cases decide (m.Notices.length≤30)<;>cases kI (qH m.Notices) 0 m.Notices<;>rfl
theorem Lc (m:D.aAK)(h:m.sz≤34359738368):pM m=some (fB m):=by
 simp only[D.aAK.sz] at h
 unfold pM fB
 rw[iL (l:=m.Notices) (qH m.Notices) (.inl false) (.inr ()) (by omega) (fun rec i hi=>by
  simp only[bH hi,cond_true,aH hi,bd_s];exact aWm m h rec _ i hi) (fun rec=>by simp only[bJ,cond_false])]
 rw[show decide ((m.Notices.length:Int)>30)= !decide (m.Notices.length≤30) by rw[←decide_not];exact decide_eq_decide.2 (by omega)]
 cases decide (m.Notices.length≤30)<;>cases kI (qH m.Notices) 0 m.Notices<;>rfl
theorem aKx (i:Int):Jc i=some (aW i):=by
 unfold Jc aW;cases i==0<;>cases i==1<;>rfl
theorem aKy (i:Int):Ji i=some (aW i):=by
 unfold Ji aW;cases i==0<;>cases i==1<;>rfl
theorem aFu (e:D.aAB):Cg e=some (dE e):=by unfold Cg;rw[aD (by simp)];rfl
theorem aFv (e:D.aAB):Cu e=some (dE e):=by unfold Cu;rw[aD (by simp)];rfl
theorem aP9 (l:List D.aAB)(h:l.length≤34359738368):Pn l=some (gT l):=by
 unfold Pn gT
 cases hl:((l.length:Int)==0) with
 |true=>rfl
 |false=>
  have:l.length≠0:=by intro h0;rw[h0] at hl;simp at hl
  rw[aR (by omega) (by omega),show(l.length:Int)-1=((l.length-1:Nat):Int) by omega,aH (by omega)]
  simp[List.getD,List.getElem?_eq_getElem (show l.length-1<l.length by omega)]
theorem aQa (l:List D.aAB)(h:l.length≤34359738368):Qa l=some (gT l):=by
 unfold Qa gT
 cases hl:((l.length:Int)==0) with
 |true=>rfl
 |false=>
  have:l.length≠0:=by intro h0;rw[h0] at hl;simp at hl
  rw[aR (by omega) (by omega),show(l.length:Int)-1=((l.length-1:Nat):Int) by omega,aH (by omega)]
  simp[List.getD,List.getElem?_eq_getElem (show l.length-1<l.length by omega)]
theorem aA0 (l:List D.aAB)(p:Int)(h:l.length≤34359738368):zK l p=some (nQ l p):=by
 unfold zK
 rw[mP (l:=l) (fun e=>e.Kind==2&&e.Device==p) (.inl true) (.inr ()) (by omega) (fun rec i hi=>by
  simp only[bH hi,cond_true,aH hi,bd_s,jZ];cases(l[i].Kind==2)<;>rfl) (fun rec=>by simp only[bJ,cond_false])]
 unfold nQ;cases l.any _<;>rfl
end
end Go.VK
