import Derived.Test.YtefkjglmpmakcaaGreatDoorXlPe
import Derived.Test.YtefkjglmpmakcaaGreatDoorXlQ
/- Printed by wip/tools: models, walks, proofs. -/
set_option linter.unusedVariables false
set_option linter.unusedSimpArgs false
set_option maxRecDepth 100000
set_option maxHeartbeats 4000000
namespace Go.VK
open Go.RowKit Go.Proofs
noncomputable section
open EV (bS)
theorem aTo {F:(Int×Int×Int→Option Int)→Int×Int×Int→Option Int}(hF:∀rec (b n s:Int),0≤n→n<9223372036854775807→F rec (b,n,s)=bif decide (n>0) then rec ((IntKind.i64.wrap (b*b)).tmod 2147483647,n/2,bif n%2==1 then(IntKind.i64.wrap (s*b)).tmod 2147483647 else s) else some s):
  ∀(k:Nat) (b n s:Int) (f:Nat),k<f→0≤n→n<2^k→k≤62→bS f F (b,n,s)=some (bAq k b n s)
 |0,b,n,s,f+1,hf,h0,h1,hk=>by
  have:n=0:=by simp at h1;omega
  subst this;rw[jF,hF _ _ _ _ (by omega) (by omega)];rfl
 |k+1,b,n,s,f+1,hf,h0,h1,hk=>by
  have h2:(2:Int)^(k+1)=2*2^k:=by rw[Int.pow_succ];omega
  have h3:n<2^62:=Int.lt_of_lt_of_le h1 (by exact_mod_cast Nat.pow_le_pow_right (by omega) hk)
  rw[jF,hF _ _ _ _ h0 (by omega)]
  unfold bAq
  by_cases hn:n>0
  ·rw[decide_eq_true hn,cond_true,if_pos hn]
   exact aTo hF k _ (n/2) _ f (by omega) (by omega) (by omega) (by omega)
  ·rw[decide_eq_false hn,cond_false,if_neg hn]
theorem aMj (b n:Int)(h:0≤n∧n<2147483648):nS b n=some (bAq 31 b n 1):=by
 unfold nS
 rw[aTo (fun rec b n s h0 h1=>by simp only[show tJ .i64 n 1=n%2 from and_one h0 (by omega),show Uo .i64 n 1=n/2 from aYz h0,aL7,gd_T,jC,bd_s,aB (show(0:Int)≤1 by decide)]) 31 b n 1 FUEL (by have:=gU;omega) h.1 (by have:=h.2;omega) (by omega)];rfl
theorem aPo (b n:Int)(h:0≤n∧n<2147483648)(hb:0≤b∧b<2147483647):iR b n 2147483647=some (bAq 31 b n 1):=by
 unfold iR
 rw[show b.tmod 2147483647=b by rw[Int.tmod_eq_emod_of_nonneg hb.1];omega,show(1:Int).tmod 2147483647=1 by decide,aTo (fun rec b n s h0 h1=>by
  have h4:((2:Int)≠0)=True:=by simp
  simp only[show n.tmod 2=n%2 from Int.tmod_eq_emod_of_nonneg h0,show n.tdiv 2=n/2 from Int.tdiv_eq_ediv_of_nonneg h0,show IntKind.i64.wrap (n/2)=n/2 from aK (by omega) (by omega),aL7,h4,gd_T,jC,bd_s]) 31 b n 1 FUEL (by have:=gU;omega) h.1 (by have:=h.2;omega) (by omega)]
 simp only[aL7,gd_T,bd_s]
theorem M9 (q:Int):xL q=some (fQ q):=by
 unfold xL fQ
 rw[aMj _ _ (by decide),aY0,show cK q 1 2147483646=dG q from rfl]
 cases hk:dG q with
 |false=>rfl
 |true=>
  have hr:=nE hk
  have hw:IntKind.i64.wrap (q*1899818559)=q*1899818559:=aK (by omega) (by omega)
  simp only[Bool.not_true,cond_false,bd_s,hw,aL7,gd_T,Int.tmod_eq_emod_of_nonneg (show 0≤q*1899818559 by omega)]
  have hp:fZ (q*1899818559%2147483647)=q:=by
   unfold fZ dG cK
   have h1:1≤q*1899818559%2147483647:=by omega
   have h2:q*1899818559%2147483647≤2147483646:=by omega
   have hw2:IntKind.i64.wrap (q*1899818559%2147483647*48271)=q*1899818559%2147483647*48271:=aK (by omega) (by omega)
   simp only[h1,h2,decide_true,Bool.and_self,Bool.not_true,cond_false,hw2]
   rw[Int.tmod_eq_emod_of_nonneg (by omega)]
   omega
  rw[hp,bne_self_eq_false];rfl
theorem N7 (q:Int):yA q=some (fQ q):=by
 unfold yA fQ
 rw[aPo _ _ (by decide) (by decide),aY0]
 cases hk:dG q with
 |false=>rfl
 |true=>
  have hr:=nE hk
  have hw:IntKind.i64.wrap (q*1899818559)=q*1899818559:=aK (by omega) (by omega)
  simp only[Bool.not_true,cond_false,bd_s,hw,aL7,gd_T,Int.tmod_eq_emod_of_nonneg (show 0≤q*1899818559 by omega)]
theorem Wl (p:Int)(l:List Int)(h:l.length≤34359738300):uR p l=some (Gb p l):=by
 unfold uR Gb
 rw[aB (by simp[bD];omega),aB (by simp;omega)]
 cases dG p<;>rfl
theorem Wm (p:Int)(l:List Int)(h:l.length≤34359738300):vH p l=some (Gb p l):=by
 unfold vH Gb
 rw[aB (by unfold uP;simp;omega),bd_s,aB (by simp[nJ];omega)]
 cases dG p<;>simp[nJ]
theorem Eo (q:Int)(l:List Int)(g:Int)(h:l.length≤34359738300):nT q l g=some (kP q l g):=by
 unfold nT kP
 simp only[aB h,bd_s,jC]
 cases(fQ q !=0)<;>rfl
theorem Ep (q:Int)(l:List Int)(g:Int)(h:l.length≤34359738300):nV q l g=some (kP q l g):=by
 unfold nV kP
 simp only[aB h,bd_s,jC]
 cases(fQ q !=0)<;>rfl
theorem aRy (b:D.aAG)(h:b.Open.length≤34359738368){τ:Type}(rec:Nat→Option τ)(r:Option τ)(i:Nat)(hi:i<b.Open.length):(bd (bif (!cK b.Open[i].Id (0:Int) (IntKind.i64.wrap (b.Next-(1:Int)))) then(some (true)) else(bif (decide ((↑i:Int)>(0:Int))) then(bd (aT (b.Open) (IntKind.i64.wrap ((↑i:Int)-(1:Int)))) fun z4=>bif (decide (z4.Id≥b.Open[i].Id)) then(some (true)) else(bif (!cK b.Open[i].aAF (0:Int) (1000005:Int)) then(some (true)) else(some (!cK b.Open[i].Until (0:Int) (1000005:Int))))) else(bif (!cK b.Open[i].aAF (0:Int) (1000005:Int)) then(some (true)) else(some (!cK b.Open[i].Until (0:Int) (1000005:Int)))))) fun z3=>bif z3 then r else(rec (i+1)))=bif jV b i b.Open[i] then r else rec (i+1):=by
 unfold jV
 by_cases h0:0<i
 ·rw[J3 h0 hi h,bd_s,show decide ((i:Int)>0)=true by simpa using h0,decide_eq_true h0]
  cases cK b.Open[i].Id 0 (IntKind.i64.wrap (b.Next-1))<;>cases decide ((b.Open.getD (i-1) default).Id≥b.Open[i].Id)<;>cases cK b.Open[i].aAF 0 1000005<;>cases cK b.Open[i].Until 0 1000005<;>rfl
 ·rw[show decide ((i:Int)>0)=false by simpa using h0,decide_eq_false h0]
  cases cK b.Open[i].Id 0 (IntKind.i64.wrap (b.Next-1))<;>cases cK b.Open[i].aAF 0 1000005<;>cases cK b.Open[i].Until 0 1000005<;>rfl
theorem Wn (b:D.aAG)(h:b.sz≤34359738368):uU b=some (nM b):=by
 simp only[D.aAG.sz] at h
 unfold uU nM
 rw[kW (l:=b.Open) (jV b) (.inl false) (.inr ()) (by omega) (fun rec i hi=>by
  simp only[bJ hi,cond_true,aF hi,bd_s];exact aRy b h rec _ i hi) (fun rec=>by simp only[bM,cond_false])]
 rw[show decide ((b.Open.length:Int)≤16)=decide (b.Open.length≤16) from decide_eq_decide.2 (by omega)]
 cases cK b.Next 0 1000000<;>cases decide (b.Open.length≤16)<;>cases mK (jV b) 0 b.Open<;>rfl
theorem Wp (b:D.aAG)(h:b.sz≤34359738368):vM b=some (nM b):=by
 simp only[D.aAG.sz] at h
 unfold vM nM
 rw[kW (l:=b.Open) (jV b) (.inl false) (.inr ()) (by omega) (fun rec i hi=>by
  simp only[bJ hi,cond_true,aF hi,bd_s];exact aRy b h rec _ i hi) (fun rec=>by simp only[bM,cond_false])]
 rw[show decide ((b.Open.length:Int)>16)= !decide (b.Open.length≤16) by rw[←decide_not];exact decide_eq_decide.2 (by omega)]
 cases cK b.Next 0 1000000<;>cases decide (b.Open.length≤16)<;>cases mK (jV b) 0 b.Open<;>rfl
theorem aHg (i:Int):Gg i=some (aQ i):=by
 unfold Gg aQ;cases i==0<;>cases i==1<;>rfl
theorem aHh (i:Int):Gs i=some (aQ i):=by
 unfold Gs aQ;cases i==0<;>cases i==1<;>rfl
theorem aCo (e:D.aAB):Ap e=some (dE e):=by unfold Ap;rw[aB (by simp)];rfl
theorem aCp (e:D.aAB):Bg e=some (dE e):=by unfold Bg;rw[aB (by simp)];rfl
theorem aMk (l:List D.aAB)(h:l.length≤34359738368):Lg l=some (gP l):=by
 unfold Lg gP
 cases hl:((l.length:Int)==0) with
 |true=>rfl
 |false=>
  have:l.length≠0:=by intro h0;rw[h0] at hl;simp at hl
  rw[aK (by omega) (by omega),show(l.length:Int)-1=((l.length-1:Nat):Int) by omega,aF (by omega)]
  simp[List.getD,List.getElem?_eq_getElem (show l.length-1<l.length by omega)]
theorem aMl (l:List D.aAB)(h:l.length≤34359738368):Mk l=some (gP l):=by
 unfold Mk gP
 cases hl:((l.length:Int)==0) with
 |true=>rfl
 |false=>
  have:l.length≠0:=by intro h0;rw[h0] at hl;simp at hl
  rw[aK (by omega) (by omega),show(l.length:Int)-1=((l.length-1:Nat):Int) by omega,aF (by omega)]
  simp[List.getD,List.getElem?_eq_getElem (show l.length-1<l.length by omega)]
theorem N8 (l:List D.aAB)(p:Int)(h:l.length≤34359738368):xZ l p=some (nL l p):=by
 unfold xZ
 rw[mG (l:=l) (fun e=>e.Kind==2&&e.Device==p) (.inl true) (.inr ()) (by omega) (fun rec i hi=>by
  simp only[bJ hi,cond_true,aF hi,bd_s,jC];cases(l[i].Kind==2)<;>rfl) (fun rec=>by simp only[bM,cond_false])]
 unfold nL;cases l.any _<;>rfl
end
end Go.VK
