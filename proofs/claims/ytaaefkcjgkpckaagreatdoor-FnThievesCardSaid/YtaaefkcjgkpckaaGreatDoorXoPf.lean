import Derived.Test.YtaaefkcjgkpckaaGreatDoorXoPe
import Derived.Test.YtaaefkcjgkpckaaGreatDoorXoM
/- Printed by wip/tools: models, walks, proofs. -/
set_option linter.unusedVariables false
set_option linter.unusedSimpArgs false
set_option maxRecDepth 100000
set_option maxHeartbeats 4000000
namespace Go.VK
open Go.RowKit Go.Proofs
noncomputable section
open EV (dL)
theorem aOb {F:(Int×Int×Int→Option Int)→Int×Int×Int→Option Int}(hF:∀rec (b n s:Int),0≤n→n<9223372036854775807→F rec (b,n,s)=bif decide (n>0) then rec ((IntKind.i64.wrap (b*b)).tmod 2147483647,n/2,bif n%2==1 then(IntKind.i64.wrap (s*b)).tmod 2147483647 else s) else some s):
  ∀(k:Nat) (b n s:Int) (f:Nat),k<f→0≤n→n<2^k→k≤62→dL f F (b,n,s)=some (aW3 k b n s)
 |0,b,n,s,f+1,hf,h0,h1,hk=>by
  have:n=0:=by simp at h1;omega
  subst this;rw[jY,hF _ _ _ _ (by omega) (by omega)];rfl
 |k+1,b,n,s,f+1,hf,h0,h1,hk=>by
  have h2:(2:Int)^(k+1)=2*2^k:=by rw[Int.pow_succ];omega
  have h3:n<2^62:=Int.lt_of_lt_of_le h1 (by exact_mod_cast Nat.pow_le_pow_right (by omega) hk)
  rw[jY,hF _ _ _ _ h0 (by omega)]
  unfold aW3
  by_cases hn:n>0
  ·rw[decide_eq_true hn,cond_true,if_pos hn]
   exact aOb hF k _ (n/2) _ f (by omega) (by omega) (by omega) (by omega)
  ·rw[decide_eq_false hn,cond_false,if_neg hn]
theorem aG9 (b n:Int)(h:0≤n∧n<2147483648):oZ b n=some (aW3 31 b n 1):=by
 unfold oZ
 rw[aOb (fun rec b n s h0 h1=>by simp only[show uH .i64 n 1=n%2 from and_one h0 (by omega),show Rt .i64 n 1=n/2 from aUx h0,aGt,gd_T,nA,bd_s,aG (show(0:Int)≤1 by decide)]) 31 b n 1 FUEL (by have:=jF;omega) h.1 (by have:=h.2;omega) (by omega)];rfl
theorem aJp (b n:Int)(h:0≤n∧n<2147483648)(hb:0≤b∧b<2147483647):uS b n 2147483647=some (aW3 31 b n 1):=by
 unfold uS
 rw[show b.tmod 2147483647=b by rw[Int.tmod_eq_emod_of_nonneg hb.1];omega,show(1:Int).tmod 2147483647=1 by decide,aOb (fun rec b n s h0 h1=>by
  have h4:((2:Int)≠0)=True:=by simp
  simp only[show n.tmod 2=n%2 from Int.tmod_eq_emod_of_nonneg h0,show n.tdiv 2=n/2 from Int.tdiv_eq_ediv_of_nonneg h0,show IntKind.i64.wrap (n/2)=n/2 from aK (by omega) (by omega),aGt,h4,gd_T,nA,bd_s]) 31 b n 1 FUEL (by have:=jF;omega) h.1 (by have:=h.2;omega) (by omega)]
 simp only[aGt,gd_T,bd_s]
theorem Ze (q:Int):yA q=some (fF q):=by
 unfold yA fF
 rw[aG9 _ _ (by decide),aUy,show bR q 1 2147483646=bE q from rfl]
 cases hk:bE q with
 |false=>rfl
 |true=>
  have hr:=gW hk
  have hw:IntKind.i64.wrap (q*1899818559)=q*1899818559:=aK (by omega) (by omega)
  simp only[Bool.not_true,cond_false,bd_s,hw,aGt,gd_T,Int.tmod_eq_emod_of_nonneg (show 0≤q*1899818559 by omega)]
  have hp:dI (q*1899818559%2147483647)=q:=by
   unfold dI bE bR
   have h1:1≤q*1899818559%2147483647:=by omega
   have h2:q*1899818559%2147483647≤2147483646:=by omega
   have hw2:IntKind.i64.wrap (q*1899818559%2147483647*48271)=q*1899818559%2147483647*48271:=aK (by omega) (by omega)
   simp only[h1,h2,decide_true,Bool.and_self,Bool.not_true,cond_false,hw2]
   rw[Int.tmod_eq_emod_of_nonneg (by omega)]
   omega
  rw[hp,bne_self_eq_false];rfl
theorem Zg (q:Int):yM q=some (fF q):=by
 unfold yM fF
 rw[aJp _ _ (by decide) (by decide),aUy]
 cases hk:bE q with
 |false=>rfl
 |true=>
  have hr:=gW hk
  have hw:IntKind.i64.wrap (q*1899818559)=q*1899818559:=aK (by omega) (by omega)
  simp only[Bool.not_true,cond_false,bd_s,hw,aGt,gd_T,Int.tmod_eq_emod_of_nonneg (show 0≤q*1899818559 by omega)]
theorem Te (p:Int)(l:List Int)(h:l.length≤34359738300):vR p l=some (oN p l):=by
 unfold vR oN
 rw[aG (by simp[aX];omega),aG (by simp;omega)]
 cases bE p<;>rfl
theorem Tf (p:Int)(l:List Int)(h:l.length≤34359738300):wL p l=some (oN p l):=by
 unfold wL oN
 rw[aG (by unfold tH;simp;omega),bd_s,aG (by simp[oL];omega)]
 cases bE p<;>simp[oL]
theorem Ed (q:Int)(l:List Int)(g:Int)(h:l.length≤34359738300):pE q l g=some (fA q l g):=by
 unfold pE fA
 simp only[aG h,bd_s,nA]
 cases(fF q !=0)<;>rfl
theorem Ee (q:Int)(l:List Int)(g:Int)(h:l.length≤34359738300):pG q l g=some (fA q l g):=by
 unfold pG fA
 simp only[aG h,bd_s,nA]
 cases(fF q !=0)<;>rfl
theorem aMj (b:D.aAD)(h:b.Open.length≤34359738368){τ:Type}(rec:Nat→Option τ)(r:Option τ)(i:Nat)(hi:i<b.Open.length):(bd (bif (!bR b.Open[i].Id (0:Int) (IntKind.i64.wrap (b.Next-(1:Int)))) then(some (true)) else(bif (decide ((↑i:Int)>(0:Int))) then(bd (bT (b.Open) (IntKind.i64.wrap ((↑i:Int)-(1:Int)))) fun z4=>bif (decide (z4.Id≥b.Open[i].Id)) then(some (true)) else(bif (!bR b.Open[i].aAF (0:Int) (1000005:Int)) then(some (true)) else(some (!bR b.Open[i].Until (0:Int) (1000005:Int))))) else(bif (!bR b.Open[i].aAF (0:Int) (1000005:Int)) then(some (true)) else(some (!bR b.Open[i].Until (0:Int) (1000005:Int)))))) fun z3=>bif z3 then r else(rec (i+1)))=bif fP b i b.Open[i] then r else rec (i+1):=by
 unfold fP
 by_cases h0:0<i
 ·rw[Ji h0 hi h,bd_s,show decide ((i:Int)>0)=true by simpa using h0,decide_eq_true h0]
  cases bR b.Open[i].Id 0 (IntKind.i64.wrap (b.Next-1))<;>cases decide ((b.Open.getD (i-1) default).Id≥b.Open[i].Id)<;>cases bR b.Open[i].aAF 0 1000005<;>cases bR b.Open[i].Until 0 1000005<;>rfl
 ·rw[show decide ((i:Int)>0)=false by simpa using h0,decide_eq_false h0]
  cases bR b.Open[i].Id 0 (IntKind.i64.wrap (b.Next-1))<;>cases bR b.Open[i].aAF 0 1000005<;>cases bR b.Open[i].Until 0 1000005<;>rfl
theorem Tg (b:D.aAD)(h:b.sz≤34359738368):vU b=some (dV b):=by
 simp only[D.aAD.sz] at h
 unfold vU dV
 rw[jK (l:=b.Open) (fP b) (.inl false) (.inr ()) (by omega) (fun rec i hi=>by
  simp only[dZ hi,cond_true,aR hi,bd_s];exact aMj b h rec _ i hi) (fun rec=>by simp only[eD,cond_false])]
 rw[show decide ((b.Open.length:Int)≤16)=decide (b.Open.length≤16) from decide_eq_decide.2 (by omega)]
 cases bR b.Next 0 1000000<;>cases decide (b.Open.length≤16)<;>cases jB (fP b) 0 b.Open<;>rfl
theorem Ti (b:D.aAD)(h:b.sz≤34359738368):wJ b=some (dV b):=by
 simp only[D.aAD.sz] at h
 unfold wJ dV
 rw[jK (l:=b.Open) (fP b) (.inl false) (.inr ()) (by omega) (fun rec i hi=>by
  simp only[dZ hi,cond_true,aR hi,bd_s];exact aMj b h rec _ i hi) (fun rec=>by simp only[eD,cond_false])]
 rw[show decide ((b.Open.length:Int)>16)= !decide (b.Open.length≤16) by rw[←decide_not];exact decide_eq_decide.2 (by omega)]
 cases bR b.Next 0 1000000<;>cases decide (b.Open.length≤16)<;>cases jB (fP b) 0 b.Open<;>rfl
theorem aMk (m:D.aAN)(h:m.Notices.length≤34359738368){τ:Type}(rec:Nat→Option τ)(r:Option τ)(i:Nat)(hi:i<m.Notices.length):(bd (bif (!bR m.Notices[i].Kind (1:Int) (5:Int)) then(some (true)) else(bif (!bR m.Notices[i].aAF (0:Int) (1000000:Int)) then(some (true)) else(bif (!bR m.Notices[i].Time (0:Int) (1000000:Int)) then(some (true)) else(bif (decide ((↑i:Int)>(0:Int))) then(bd (bT (m.Notices) (IntKind.i64.wrap ((↑i:Int)-(1:Int)))) fun z4=>some (decide (z4.Time>m.Notices[i].Time))) else(some (false)))))) fun z3=>bif z3 then r else(rec (i+1)))=bif qR m.Notices i m.Notices[i] then r else rec (i+1):=by
 unfold qR
 by_cases h0:0<i
 ·rw[Ji h0 hi h,bd_s,show decide ((i:Int)>0)=true by simpa using h0,decide_eq_true h0]
  cases bR m.Notices[i].Kind 1 5<;>cases bR m.Notices[i].aAF 0 1000000<;>cases bR m.Notices[i].Time 0 1000000<;>cases decide ((m.Notices.getD (i-1) default).Time>m.Notices[i].Time)<;>rfl
 ·rw[show decide ((i:Int)>0)=false by simpa using h0,decide_eq_false h0]
  cases bR m.Notices[i].Kind 1 5<;>cases bR m.Notices[i].aAF 0 1000000<;>cases bR m.Notices[i].Time 0 1000000<;>rfl
theorem Gq (m:D.aAN)(h:m.sz≤34359738368):qF m=some (dP m):=by
 simp only[D.aAN.sz] at h
 unfold qF dP
 rw[jK (l:=m.Notices) (qR m.Notices) (.inl false) (.inr ()) (by omega) (fun rec i hi=>by
  simp only[dZ hi,cond_true,aR hi,bd_s];exact aMk m h rec _ i hi) (fun rec=>by simp only[eD,cond_false])]
 rw[show decide ((m.Notices.length:Int)≤30)=decide (m.Notices.length≤30) from decide_eq_decide.2 (by omega)]
 cases decide (m.Notices.length≤30)<;>cases jB (qR m.Notices) 0 m.Notices<;>rfl
theorem Gr (m:D.aAN)(h:m.sz≤34359738368):qD m=some (dP m):=by
 simp only[D.aAN.sz] at h
 unfold qD dP
 rw[jK (l:=m.Notices) (qR m.Notices) (.inl false) (.inr ()) (by omega) (fun rec i hi=>by
  simp only[dZ hi,cond_true,aR hi,bd_s];exact aMk m h rec _ i hi) (fun rec=>by simp only[eD,cond_false])]
 rw[show decide ((m.Notices.length:Int)>30)= !decide (m.Notices.length≤30) by rw[←decide_not];exact decide_eq_decide.2 (by omega)]
 cases decide (m.Notices.length≤30)<;>cases jB (qR m.Notices) 0 m.Notices<;>rfl
theorem aCh (i:Int):Ex i=some (aA i):=by
 unfold Ex aA;cases i==0<;>cases i==1<;>rfl
theorem aCi (i:Int):Fh i=some (aA i):=by
 unfold Fh aA;cases i==0<;>cases i==1<;>rfl
theorem U0 (e:D.aAA):Aj e=some (bN e):=by unfold Aj;rw[aG (by simp)];rfl
theorem U1 (e:D.aAA):Az e=some (bN e):=by unfold Az;rw[aG (by simp)];rfl
theorem aHa (l:List D.aAA)(h:l.length≤34359738368):Jz l=some (fH l):=by
 unfold Jz fH
 cases hl:((l.length:Int)==0) with
 |true=>rfl
 |false=>
  have:l.length≠0:=by intro h0;rw[h0] at hl;simp at hl
  rw[aK (by omega) (by omega),show(l.length:Int)-1=((l.length-1:Nat):Int) by omega,aR (by omega)]
  simp[List.getD,List.getElem?_eq_getElem (show l.length-1<l.length by omega)]
theorem aHb (l:List D.aAA)(h:l.length≤34359738368):Lb l=some (fH l):=by
 unfold Lb fH
 cases hl:((l.length:Int)==0) with
 |true=>rfl
 |false=>
  have:l.length≠0:=by intro h0;rw[h0] at hl;simp at hl
  rw[aK (by omega) (by omega),show(l.length:Int)-1=((l.length-1:Nat):Int) by omega,aR (by omega)]
  simp[List.getD,List.getElem?_eq_getElem (show l.length-1<l.length by omega)]
theorem Zh (l:List D.aAA)(p:Int)(h:l.length≤34359738368):yN l p=some (dM l p):=by
 unfold yN
 rw[mZ (l:=l) (fun e=>e.Kind==2&&e.Device==p) (.inl true) (.inr ()) (by omega) (fun rec i hi=>by
  simp only[dZ hi,cond_true,aR hi,bd_s,nA];cases(l[i].Kind==2)<;>rfl) (fun rec=>by simp only[eD,cond_false])]
 unfold dM;cases l.any _<;>rfl
end
end Go.VK
