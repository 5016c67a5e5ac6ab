import Derived.Test.YtaaefkcjgkpckaaGreatDoorXoPe
import Derived.Test.YtaaefkcjgkpckaaGreatDoorXoQ
/- Printed by wip/tools: models, walks, proofs. -/
set_option linter.unusedVariables false
set_option linter.unusedSimpArgs false
set_option maxRecDepth 100000
set_option maxHeartbeats 4000000
namespace Go.VK
open Go.RowKit Go.Proofs
noncomputable section
open EV (bM)
theorem aOz {F:(Int×Int×Int→Option Int)→Int×Int×Int→Option Int}(hF:∀rec (b n s:Int),0≤n→n<9223372036854775807→F rec (b,n,s)=bif decide (n>0) then rec ((IntKind.i64.wrap (b*b)).tmod 2147483647,n/2,bif n%2==1 then(IntKind.i64.wrap (s*b)).tmod 2147483647 else s) else some s):
  ∀(k:Nat) (b n s:Int) (f:Nat),k<f→0≤n→n<2^k→k≤62→bM f F (b,n,s)=some (aXe k b n s)
 |0,b,n,s,f+1,hf,h0,h1,hk=>by
  have:n=0:=by simp at h1;omega
  subst this;rw[jJ,hF _ _ _ _ (by omega) (by omega)];rfl
 |k+1,b,n,s,f+1,hf,h0,h1,hk=>by
  have h2:(2:Int)^(k+1)=2*2^k:=by rw[Int.pow_succ];omega
  have h3:n<2^62:=Int.lt_of_lt_of_le h1 (by exact_mod_cast Nat.pow_le_pow_right (by omega) hk)
  rw[jJ,hF _ _ _ _ h0 (by omega)]
  unfold aXe
  by_cases hn:n>0
  ·rw[decide_eq_true hn,cond_true,if_pos hn]
   exact aOz hF k _ (n/2) _ f (by omega) (by omega) (by omega) (by omega)
  ·rw[decide_eq_false hn,cond_false,if_neg hn]
theorem aHu (b n:Int)(h:0≤n∧n<2147483648):nN b n=some (aXe 31 b n 1):=by
 unfold nN
 rw[aOz (fun rec b n s h0 h1=>by simp only[show tC .i64 n 1=n%2 from and_one h0 (by omega),show Rj .i64 n 1=n/2 from aU5 h0,aHf,gd_T,jC,bd_s,aA (show(0:Int)≤1 by decide)]) 31 b n 1 FUEL (by have:=gU;omega) h.1 (by have:=h.2;omega) (by omega)];rfl
theorem aKa (b n:Int)(h:0≤n∧n<2147483648)(hb:0≤b∧b<2147483647):eT b n 2147483647=some (aXe 31 b n 1):=by
 unfold eT
 rw[show b.tmod 2147483647=b by rw[Int.tmod_eq_emod_of_nonneg hb.1];omega,show(1:Int).tmod 2147483647=1 by decide,aOz (fun rec b n s h0 h1=>by
  have h4:((2:Int)≠0)=True:=by simp
  simp only[show n.tmod 2=n%2 from Int.tmod_eq_emod_of_nonneg h0,show n.tdiv 2=n/2 from Int.tdiv_eq_ediv_of_nonneg h0,show IntKind.i64.wrap (n/2)=n/2 from aG (by omega) (by omega),aHf,h4,gd_T,jC,bd_s]) 31 b n 1 FUEL (by have:=gU;omega) h.1 (by have:=h.2;omega) (by omega)]
 simp only[aHf,gd_T,bd_s]
theorem Yy (q:Int):wV q=some (dW q):=by
 unfold wV dW
 rw[aHu _ _ (by decide),aU6,show aW q 1 2147483646=bJ q from rfl]
 cases hk:bJ q with
 |false=>rfl
 |true=>
  have hr:=gM hk
  have hw:IntKind.i64.wrap (q*1899818559)=q*1899818559:=aG (by omega) (by omega)
  simp only[Bool.not_true,cond_false,bd_s,hw,aHf,gd_T,Int.tmod_eq_emod_of_nonneg (show 0≤q*1899818559 by omega)]
  have hp:fC (q*1899818559%2147483647)=q:=by
   unfold fC bJ aW
   have h1:1≤q*1899818559%2147483647:=by omega
   have h2:q*1899818559%2147483647≤2147483646:=by omega
   have hw2:IntKind.i64.wrap (q*1899818559%2147483647*48271)=q*1899818559%2147483647*48271:=aG (by omega) (by omega)
   simp only[h1,h2,decide_true,Bool.and_self,Bool.not_true,cond_false,hw2]
   rw[Int.tmod_eq_emod_of_nonneg (by omega)]
   omega
  rw[hp,bne_self_eq_false];rfl
theorem Yz (q:Int):xI q=some (dW q):=by
 unfold xI dW
 rw[aKa _ _ (by decide) (by decide),aU6]
 cases hk:bJ q with
 |false=>rfl
 |true=>
  have hr:=gM hk
  have hw:IntKind.i64.wrap (q*1899818559)=q*1899818559:=aG (by omega) (by omega)
  simp only[Bool.not_true,cond_false,bd_s,hw,aHf,gd_T,Int.tmod_eq_emod_of_nonneg (show 0≤q*1899818559 by omega)]
theorem Sq (p:Int)(l:List Int)(h:l.length≤34359738300):uO p l=some (zG p l):=by
 unfold uO zG
 rw[aA (by simp[aO];omega),aA (by simp;omega)]
 cases bJ p<;>rfl
theorem Sr (p:Int)(l:List Int)(h:l.length≤34359738300):vI p l=some (zG p l):=by
 unfold vI zG
 rw[aA (by unfold Ik;simp;omega),bd_s,aA (by simp[zC];omega)]
 cases bJ p<;>simp[zC]
theorem Cz (q:Int)(l:List Int)(g:Int)(h:l.length≤34359738300):nO q l g=some (gY q l g):=by
 unfold nO gY
 simp only[aA h,bd_s,jC]
 cases(dW q !=0)<;>rfl
theorem Da (q:Int)(l:List Int)(g:Int)(h:l.length≤34359738300):nQ q l g=some (gY q l g):=by
 unfold nQ gY
 simp only[aA h,bd_s,jC]
 cases(dW q !=0)<;>rfl
theorem aM3 (b:D.aAF)(h:b.Open.length≤34359738368){τ:Type}(rec:Nat→Option τ)(r:Option τ)(i:Nat)(hi:i<b.Open.length):(bd (bif (!aW b.Open[i].Id (0:Int) (IntKind.i64.wrap (b.Next-(1:Int)))) then(some (true)) else(bif (decide ((↑i:Int)>(0:Int))) then(bd (bA (b.Open) (IntKind.i64.wrap ((↑i:Int)-(1:Int)))) fun z4=>bif (decide (z4.Id≥b.Open[i].Id)) then(some (true)) else(bif (!aW b.Open[i].aAG (0:Int) (1000005:Int)) then(some (true)) else(some (!aW b.Open[i].Until (0:Int) (1000005:Int))))) else(bif (!aW b.Open[i].aAG (0:Int) (1000005:Int)) then(some (true)) else(some (!aW b.Open[i].Until (0:Int) (1000005:Int)))))) fun z3=>bif z3 then r else(rec (i+1)))=bif fO b i b.Open[i] then r else rec (i+1):=by
 unfold fO
 by_cases h0:0<i
 ·rw[Ig h0 hi h,bd_s,show decide ((i:Int)>0)=true by simpa using h0,decide_eq_true h0]
  cases aW b.Open[i].Id 0 (IntKind.i64.wrap (b.Next-1))<;>cases decide ((b.Open.getD (i-1) default).Id≥b.Open[i].Id)<;>cases aW b.Open[i].aAG 0 1000005<;>cases aW b.Open[i].Until 0 1000005<;>rfl
 ·rw[show decide ((i:Int)>0)=false by simpa using h0,decide_eq_false h0]
  cases aW b.Open[i].Id 0 (IntKind.i64.wrap (b.Next-1))<;>cases aW b.Open[i].aAG 0 1000005<;>cases aW b.Open[i].Until 0 1000005<;>rfl
theorem Su (b:D.aAF)(h:b.sz≤34359738368):uR b=some (iM b):=by
 simp only[D.aAF.sz] at h
 unfold uR iM
 rw[eG (l:=b.Open) (fO b) (.inl false) (.inr ()) (by omega) (fun rec i hi=>by
  simp only[bU hi,cond_true,aH hi,bd_s];exact aM3 b h rec _ i hi) (fun rec=>by simp only[bX,cond_false])]
 rw[show decide ((b.Open.length:Int)≤16)=decide (b.Open.length≤16) from decide_eq_decide.2 (by omega)]
 cases aW b.Next 0 1000000<;>cases decide (b.Open.length≤16)<;>cases dJ (fO b) 0 b.Open<;>rfl
theorem Sw (b:D.aAF)(h:b.sz≤34359738368):vG b=some (iM b):=by
 simp only[D.aAF.sz] at h
 unfold vG iM
 rw[eG (l:=b.Open) (fO b) (.inl false) (.inr ()) (by omega) (fun rec i hi=>by
  simp only[bU hi,cond_true,aH hi,bd_s];exact aM3 b h rec _ i hi) (fun rec=>by simp only[bX,cond_false])]
 rw[show decide ((b.Open.length:Int)>16)= !decide (b.Open.length≤16) by rw[←decide_not];exact decide_eq_decide.2 (by omega)]
 cases aW b.Next 0 1000000<;>cases decide (b.Open.length≤16)<;>cases dJ (fO b) 0 b.Open<;>rfl
theorem aM4 (m:D.aAJ)(h:m.Notices.length≤34359738368){τ:Type}(rec:Nat→Option τ)(r:Option τ)(i:Nat)(hi:i<m.Notices.length):(bd (bif (!aW m.Notices[i].Kind (1:Int) (5:Int)) then(some (true)) else(bif (!aW m.Notices[i].aAG (0:Int) (1000000:Int)) then(some (true)) else(bif (!aW m.Notices[i].Time (0:Int) (1000000:Int)) then(some (true)) else(bif (decide ((↑i:Int)>(0:Int))) then(bd (bA (m.Notices) (IntKind.i64.wrap ((↑i:Int)-(1:Int)))) fun z4=>some (decide (z4.Time>m.Notices[i].Time))) else(some (false)))))) fun z3=>bif z3 then r else(rec (i+1)))=bif pO m.Notices i m.Notices[i] then r else rec (i+1):=by
 unfold pO
 by_cases h0:0<i
 ·rw[Ig h0 hi h,bd_s,show decide ((i:Int)>0)=true by simpa using h0,decide_eq_true h0]
  cases aW m.Notices[i].Kind 1 5<;>cases aW m.Notices[i].aAG 0 1000000<;>cases aW m.Notices[i].Time 0 1000000<;>cases decide ((m.Notices.getD (i-1) default).Time>m.Notices[i].Time)<;>rfl
 ·rw[show decide ((i:Int)>0)=false by simpa using h0,decide_eq_false h0]
  cases aW m.Notices[i].Kind 1 5<;>cases aW m.Notices[i].aAG 0 1000000<;>cases aW m.Notices[i].Time 0 1000000<;>rfl
theorem Fs (m:D.aAJ)(h:m.sz≤34359738368):oU m=some (cZ m):=by
 simp only[D.aAJ.sz] at h
 unfold oU cZ
 rw[eG (l:=m.Notices) (pO m.Notices) (.inl false) (.inr ()) (by omega) (fun rec i hi=>by
  simp only[bU hi,cond_true,aH hi,bd_s];exact aM4 m h rec _ i hi) (fun rec=>by simp only[bX,cond_false])]
 rw[show decide ((m.Notices.length:Int)≤30)=decide (m.Notices.length≤30) from decide_eq_decide.2 (by omega)]
 cases decide (m.Notices.length≤30)<;>cases dJ (pO m.Notices) 0 m.Notices<;>rfl
theorem Fu (m:D.aAJ)(h:m.sz≤34359738368):oN m=some (cZ m):=by
 simp only[D.aAJ.sz] at h
 unfold oN cZ
 rw[eG (l:=m.Notices) (pO m.Notices) (.inl false) (.inr ()) (by omega) (fun rec i hi=>by
  simp only[bU hi,cond_true,aH hi,bd_s];exact aM4 m h rec _ i hi) (fun rec=>by simp only[bX,cond_false])]
 rw[show decide ((m.Notices.length:Int)>30)= !decide (m.Notices.length≤30) by rw[←decide_not];exact decide_eq_decide.2 (by omega)]
 cases decide (m.Notices.length≤30)<;>cases dJ (pO m.Notices) 0 m.Notices<;>rfl
theorem aDe (i:Int):Ef i=some (aD i):=by
 unfold Ef aD;cases i==0<;>cases i==1<;>rfl
theorem aDf (i:Int):Ep i=some (aD i):=by
 unfold Ep aD;cases i==0<;>cases i==1<;>rfl
theorem X6 (e:D.aAB):zY e=some (bL e):=by unfold zY;rw[aA (by simp)];rfl
theorem X7 (e:D.aAB):Ak e=some (bL e):=by unfold Ak;rw[aA (by simp)];rfl
theorem aHv (l:List D.aAB)(h:l.length≤34359738368):Jd l=some (fD l):=by
 unfold Jd fD
 cases hl:((l.length:Int)==0) with
 |true=>rfl
 |false=>
  have:l.length≠0:=by intro h0;rw[h0] at hl;simp at hl
  rw[aG (by omega) (by omega),show(l.length:Int)-1=((l.length-1:Nat):Int) by omega,aH (by omega)]
  simp[List.getD,List.getElem?_eq_getElem (show l.length-1<l.length by omega)]
theorem aHw (l:List D.aAB)(h:l.length≤34359738368):Ka l=some (fD l):=by
 unfold Ka fD
 cases hl:((l.length:Int)==0) with
 |true=>rfl
 |false=>
  have:l.length≠0:=by intro h0;rw[h0] at hl;simp at hl
  rw[aG (by omega) (by omega),show(l.length:Int)-1=((l.length-1:Nat):Int) by omega,aH (by omega)]
  simp[List.getD,List.getElem?_eq_getElem (show l.length-1<l.length by omega)]
theorem Za (l:List D.aAB)(p:Int)(h:l.length≤34359738368):xJ l p=some (iL l p):=by
 unfold xJ
 rw[lD (l:=l) (fun e=>e.Kind==2&&e.Device==p) (.inl true) (.inr ()) (by omega) (fun rec i hi=>by
  simp only[bU hi,cond_true,aH hi,bd_s,jC];cases(l[i].Kind==2)<;>rfl) (fun rec=>by simp only[bX,cond_false])]
 unfold iL;cases l.any _<;>rfl
end
end Go.VK
