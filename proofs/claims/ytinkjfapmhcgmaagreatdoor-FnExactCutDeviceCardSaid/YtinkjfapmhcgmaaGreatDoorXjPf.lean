import Derived.Test.YtinkjfapmhcgmaaGreatDoorXjPe
import Derived.Test.YtinkjfapmhcgmaaGreatDoorXjQ
/- Printed by wip/tools: models, walks, proofs. -/
set_option linter.unusedVariables false
set_option linter.unusedSimpArgs false
set_option maxRecDepth 100000
set_option maxHeartbeats 4000000
namespace Go.VK
open Go.RowKit Go.Proofs
noncomputable section
open EV (bU)
theorem aXz {F:(Int×Int×Int→Option Int)→Int×Int×Int→Option Int}(hF:∀rec (b n s:Int),0≤n→n<9223372036854775807→F rec (b,n,s)=bif decide (n>0) then rec ((IntKind.i64.wrap (b*b)).tmod 2147483647,n/2,bif n%2==1 then(IntKind.i64.wrap (s*b)).tmod 2147483647 else s) else some s):
  ∀(k:Nat) (b n s:Int) (f:Nat),k<f→0≤n→n<2^k→k≤62→bU f F (b,n,s)=some (bE1 k b n s)
 |0,b,n,s,f+1,hf,h0,h1,hk=>by
  have:n=0:=by simp at h1;omega
  subst this;rw[iN,hF _ _ _ _ (by omega) (by omega)];rfl
 |k+1,b,n,s,f+1,hf,h0,h1,hk=>by
  have h2:(2:Int)^(k+1)=2*2^k:=by rw[Int.pow_succ];omega
  have h3:n<2^62:=Int.lt_of_lt_of_le h1 (by exact_mod_cast Nat.pow_le_pow_right (by omega) hk)
  rw[iN,hF _ _ _ _ h0 (by omega)]
  unfold bE1
  by_cases hn:n>0
  ·rw[decide_eq_true hn,cond_true,if_pos hn]
   exact aXz hF k _ (n/2) _ f (by omega) (by omega) (by omega) (by omega)
  ·rw[decide_eq_false hn,cond_false,if_neg hn]
theorem aPe (b n:Int)(h:0≤n∧n<2147483648):oF b n=some (bE1 31 b n 1):=by
 unfold oF
 rw[aXz (fun rec b n s h0 h1=>by simp only[show xV .i64 n 1=n%2 from and_one h0 (by omega),show aCw .i64 n 1=n/2 from bIs h0,aOz,gd_T,kF,bd_s,aC (show(0:Int)≤1 by decide)]) 31 b n 1 FUEL (by have:=gK;omega) h.1 (by have:=h.2;omega) (by omega)];rfl
theorem aTj (b n:Int)(h:0≤n∧n<2147483648)(hb:0≤b∧b<2147483647):uV b n 2147483647=some (bE1 31 b n 1):=by
 unfold uV
 rw[show b.tmod 2147483647=b by rw[Int.tmod_eq_emod_of_nonneg hb.1];omega,show(1:Int).tmod 2147483647=1 by decide,aXz (fun rec b n s h0 h1=>by
  have h4:((2:Int)≠0)=True:=by simp
  simp only[show n.tmod 2=n%2 from Int.tmod_eq_emod_of_nonneg h0,show n.tdiv 2=n/2 from Int.tdiv_eq_ediv_of_nonneg h0,show IntKind.i64.wrap (n/2)=n/2 from aP (by omega) (by omega),aOz,h4,gd_T,kF,bd_s]) 31 b n 1 FUEL (by have:=gK;omega) h.1 (by have:=h.2;omega) (by omega)]
 simp only[aOz,gd_T,bd_s]
theorem aAd (q:Int):yF q=some (fV q):=by
 unfold yF fV
 rw[aPe _ _ (by decide),bC6,show dG q 1 2147483646=dP q from rfl]
 cases hk:dP q with
 |false=>rfl
 |true=>
  have hr:=aMn hk
  have hw:IntKind.i64.wrap (q*1899818559)=q*1899818559:=aP (by omega) (by omega)
  simp only[Bool.not_true,cond_false,bd_s,hw,aOz,gd_T,Int.tmod_eq_emod_of_nonneg (show 0≤q*1899818559 by omega)]
  have hp:gV (q*1899818559%2147483647)=q:=by
   unfold gV dP dG
   have h1:1≤q*1899818559%2147483647:=by omega
   have h2:q*1899818559%2147483647≤2147483646:=by omega
   have hw2:IntKind.i64.wrap (q*1899818559%2147483647*48271)=q*1899818559%2147483647*48271:=aP (by omega) (by omega)
   simp only[h1,h2,decide_true,Bool.and_self,Bool.not_true,cond_false,hw2]
   rw[Int.tmod_eq_emod_of_nonneg (by omega)]
   omega
  rw[hp,bne_self_eq_false];rfl
theorem aAe (q:Int):yR q=some (fV q):=by
 unfold yR fV
 rw[aTj _ _ (by decide) (by decide),bC6]
 cases hk:dP q with
 |false=>rfl
 |true=>
  have hr:=aMn hk
  have hw:IntKind.i64.wrap (q*1899818559)=q*1899818559:=aP (by omega) (by omega)
  simp only[Bool.not_true,cond_false,bd_s,hw,aOz,gd_T,Int.tmod_eq_emod_of_nonneg (show 0≤q*1899818559 by omega)]
theorem D5 (p:Int)(l:List Int)(h:l.length≤34359738300):vW p l=some (Ih p l):=by
 unfold vW Ih
 rw[aC (by simp[bJ];omega),aC (by simp;omega)]
 cases dP p<;>rfl
theorem D6 (p:Int)(l:List Int)(h:l.length≤34359738300):wJ p l=some (Ih p l):=by
 unfold wJ Ih
 rw[aC (by unfold vN;simp;omega),bd_s,aC (by simp[nQ];omega)]
 cases dP p<;>simp[nQ]
theorem Gm (q:Int)(l:List Int)(g:Int)(h:l.length≤34359738300):oG q l g=some (kV q l g):=by
 unfold oG kV
 simp only[aC h,bd_s,kF]
 cases(fV q !=0)<;>rfl
theorem Gn (q:Int)(l:List Int)(g:Int)(h:l.length≤34359738300):oH q l g=some (kV q l g):=by
 unfold oH kV
 simp only[aC h,bd_s,kF]
 cases(fV q !=0)<;>rfl
theorem aV7 (b:D.aAF)(h:b.Open.length≤34359738368){τ:Type}(rec:Nat→Option τ)(r:Option τ)(i:Nat)(hi:i<b.Open.length):(bd (bif (!dG b.Open[i].Id (0:Int) (IntKind.i64.wrap (b.Next-(1:Int)))) then(some (true)) else(bif (decide ((↑i:Int)>(0:Int))) then(bd (aL (b.Open) (IntKind.i64.wrap ((↑i:Int)-(1:Int)))) fun z4=>bif (decide (z4.Id≥b.Open[i].Id)) then(some (true)) else(bif (!dG b.Open[i].aAG (0:Int) (1000005:Int)) then(some (true)) else(some (!dG b.Open[i].Until (0:Int) (1000005:Int))))) else(bif (!dG b.Open[i].aAG (0:Int) (1000005:Int)) then(some (true)) else(some (!dG b.Open[i].Until (0:Int) (1000005:Int)))))) fun z3=>bif z3 then r else(rec (i+1)))=bif kD b i b.Open[i] then r else rec (i+1):=by
 unfold kD
 by_cases h0:0<i
 ·rw[Nt h0 hi h,bd_s,show decide ((i:Int)>0)=true by simpa using h0,decide_eq_true h0]
  cases dG b.Open[i].Id 0 (IntKind.i64.wrap (b.Next-1))<;>cases decide ((b.Open.getD (i-1) default).Id≥b.Open[i].Id)<;>cases dG b.Open[i].aAG 0 1000005<;>cases dG b.Open[i].Until 0 1000005<;>rfl
 ·rw[show decide ((i:Int)>0)=false by simpa using h0,decide_eq_false h0]
  cases dG b.Open[i].Id 0 (IntKind.i64.wrap (b.Next-1))<;>cases dG b.Open[i].aAG 0 1000005<;>cases dG b.Open[i].Until 0 1000005<;>rfl
theorem D7 (b:D.aAF)(h:b.sz≤34359738368):vU b=some (nT b):=by
 simp only[D.aAF.sz] at h
 unfold vU nT
 rw[iG (l:=b.Open) (kD b) (.inl false) (.inr ()) (by omega) (fun rec i hi=>by
  simp only[bE hi,cond_true,aF hi,bd_s];exact aV7 b h rec _ i hi) (fun rec=>by simp only[bF,cond_false])]
 rw[show decide ((b.Open.length:Int)≤16)=decide (b.Open.length≤16) from decide_eq_decide.2 (by omega)]
 cases dG b.Next 0 1000000<;>cases decide (b.Open.length≤16)<;>cases kS (kD b) 0 b.Open<;>rfl
theorem D8 (b:D.aAF)(h:b.sz≤34359738368):wH b=some (nT b):=by
 simp only[D.aAF.sz] at h
 unfold wH nT
 rw[iG (l:=b.Open) (kD b) (.inl false) (.inr ()) (by omega) (fun rec i hi=>by
  simp only[bE hi,cond_true,aF hi,bd_s];exact aV7 b h rec _ i hi) (fun rec=>by simp only[bF,cond_false])]
 rw[show decide ((b.Open.length:Int)>16)= !decide (b.Open.length≤16) by rw[←decide_not];exact decide_eq_decide.2 (by omega)]
 cases dG b.Next 0 1000000<;>cases decide (b.Open.length≤16)<;>cases kS (kD b) 0 b.Open<;>rfl
theorem aV8 (m:D.aAK)(h:m.Notices.length≤34359738368){τ:Type}(rec:Nat→Option τ)(r:Option τ)(i:Nat)(hi:i<m.Notices.length):(bd (bif (!dG m.Notices[i].Kind (1:Int) (5:Int)) then(some (true)) else(bif (!dG m.Notices[i].aAG (0:Int) (1000000:Int)) then(some (true)) else(bif (!dG m.Notices[i].Time (0:Int) (1000000:Int)) then(some (true)) else(bif (decide ((↑i:Int)>(0:Int))) then(bd (aL (m.Notices) (IntKind.i64.wrap ((↑i:Int)-(1:Int)))) fun z4=>some (decide (z4.Time>m.Notices[i].Time))) else(some (false)))))) fun z3=>bif z3 then r else(rec (i+1)))=bif qN m.Notices i m.Notices[i] then r else rec (i+1):=by
 unfold qN
 by_cases h0:0<i
 ·rw[Nt h0 hi h,bd_s,show decide ((i:Int)>0)=true by simpa using h0,decide_eq_true h0]
  cases dG m.Notices[i].Kind 1 5<;>cases dG m.Notices[i].aAG 0 1000000<;>cases dG m.Notices[i].Time 0 1000000<;>cases decide ((m.Notices.getD (i-1) default).Time>m.Notices[i].Time)<;>rfl
 ·rw[show decide ((i:Int)>0)=false by simpa using h0,decide_eq_false h0]
  cases dG m.Notices[i].Kind 1 5<;>cases dG m.Notices[i].aAG 0 1000000<;>cases dG m.Notices[i].Time 0 1000000<;>rfl
theorem Kw (m:D.aAK)(h:m.sz≤34359738368):pM m=some (eZ m):=by
 simp only[D.aAK.sz] at h
 unfold pM eZ
 rw[iG (l:=m.Notices) (qN m.Notices) (.inl false) (.inr ()) (by omega) (fun rec i hi=>by
  simp only[bE hi,cond_true,aF hi,bd_s];exact aV8 m h rec _ i hi) (fun rec=>by simp only[bF,cond_false])]
 rw[show decide ((m.Notices.length:Int)≤30)=decide (m.Notices.length≤30) from decide_eq_decide.2 (by omega)]
 cases decide (m.Notices.length≤30)<;>cases kS (qN m.Notices) 0 m.Notices<;>rfl
theorem Ky (m:D.aAK)(h:m.sz≤34359738368):pV m=some (eZ m):=by
 simp only[D.aAK.sz] at h
 unfold pV eZ
 rw[iG (l:=m.Notices) (qN m.Notices) (.inl false) (.inr ()) (by omega) (fun rec i hi=>by
  simp only[bE hi,cond_true,aF hi,bd_s];exact aV8 m h rec _ i hi) (fun rec=>by simp only[bF,cond_false])]
 rw[show decide ((m.Notices.length:Int)>30)= !decide (m.Notices.length≤30) by rw[←decide_not];exact decide_eq_decide.2 (by omega)]
 cases decide (m.Notices.length≤30)<;>cases kS (qN m.Notices) 0 m.Notices<;>rfl
theorem aJz (i:Int):Jb i=some (bD i):=by
 unfold Jb bD;cases i==0<;>cases i==1<;>rfl
theorem aJ0 (i:Int):Ji i=some (bD i):=by
 unfold Ji bD;cases i==0<;>cases i==1<;>rfl
theorem aEy (e:D.aAB):Bo e=some (dC e):=by unfold Bo;rw[aC (by simp)];rfl
theorem aEz (e:D.aAB):Ch e=some (dC e):=by unfold Ch;rw[aC (by simp)];rfl
theorem aPf (l:List D.aAB)(h:l.length≤34359738368):Ps l=some (gM l):=by
 unfold Ps gM
 cases hl:((l.length:Int)==0) with
 |true=>rfl
 |false=>
  have:l.length≠0:=by intro h0;rw[h0] at hl;simp at hl
  rw[aP (by omega) (by omega),show(l.length:Int)-1=((l.length-1:Nat):Int) by omega,aF (by omega)]
  simp[List.getD,List.getElem?_eq_getElem (show l.length-1<l.length by omega)]
theorem aPg (l:List D.aAB)(h:l.length≤34359738368):Qe l=some (gM l):=by
 unfold Qe gM
 cases hl:((l.length:Int)==0) with
 |true=>rfl
 |false=>
  have:l.length≠0:=by intro h0;rw[h0] at hl;simp at hl
  rw[aP (by omega) (by omega),show(l.length:Int)-1=((l.length-1:Nat):Int) by omega,aF (by omega)]
  simp[List.getD,List.getElem?_eq_getElem (show l.length-1<l.length by omega)]
theorem aAf (l:List D.aAB)(p:Int)(h:l.length≤34359738368):yS l p=some (nS l p):=by
 unfold yS
 rw[mP (l:=l) (fun e=>e.Kind==2&&e.Device==p) (.inl true) (.inr ()) (by omega) (fun rec i hi=>by
  simp only[bE hi,cond_true,aF hi,bd_s,kF];cases(l[i].Kind==2)<;>rfl) (fun rec=>by simp only[bF,cond_false])]
 unfold nS;cases l.any _<;>rfl
end
end Go.VK
