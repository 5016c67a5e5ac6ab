import Derived.Test.YtajiimgjfnnjlaaGreatDoorXkPe
import Derived.Test.YtajiimgjfnnjlaaGreatDoorXkQ
/- Printed by wip/tools: models, walks, proofs. -/
set_option linter.unusedVariables false
set_option linter.unusedSimpArgs false
set_option maxRecDepth 100000
set_option maxHeartbeats 4000000
namespace Go.VK
open Go.RowKit Go.Proofs
noncomputable section
open EV (bK)
theorem aJ6 {F:(Int×Int×Int→Option Int)→Int×Int×Int→Option Int}(hF:∀rec (b n s:Int),0≤n→n<9223372036854775807→F rec (b,n,s)=bif decide (n>0) then rec ((IntKind.i64.wrap (b*b)).tmod 2147483647,n/2,bif n%2==1 then(IntKind.i64.wrap (s*b)).tmod 2147483647 else s) else some s):
  ∀(k:Nat) (b n s:Int) (f:Nat),k<f→0≤n→n<2^k→k≤62→bK f F (b,n,s)=some (aQb k b n s)
 |0,b,n,s,f+1,hf,h0,h1,hk=>by
  have:n=0:=by simp at h1;omega
  subst this;rw[Tz,hF _ _ _ _ (by omega) (by omega)];rfl
 |k+1,b,n,s,f+1,hf,h0,h1,hk=>by
  have h2:(2:Int)^(k+1)=2*2^k:=by rw[Int.pow_succ];omega
  have h3:n<2^62:=Int.lt_of_lt_of_le h1 (by exact_mod_cast Nat.pow_le_pow_right (by omega) hk)
  rw[Tz,hF _ _ _ _ h0 (by omega)]
  unfold aQb
  by_cases hn:n>0
  ·rw[decide_eq_true hn,cond_true,if_pos hn]
   exact aJ6 hF k _ (n/2) _ f (by omega) (by omega) (by omega) (by omega)
  ·rw[decide_eq_false hn,cond_false,if_neg hn]
theorem aDf (b n:Int)(h:0≤n∧n<2147483648):jV b n=some (aQb 31 b n 1):=by
 unfold jV
 rw[aJ6 (fun rec b n s h0 h1=>by simp only[show aPa .i64 n 1=n%2 from and_one h0 (by omega),show aI5 .i64 n 1=n/2 from aTk h0,aC0,gd_T,xO,bd_s,aC (show(0:Int)≤1 by decide)]) 31 b n 1 FUEL (by have:=sI;omega) h.1 (by have:=h.2;omega) (by omega)];rfl
theorem aGg (b n:Int)(h:0≤n∧n<2147483648)(hb:0≤b∧b<2147483647):oU b n 2147483647=some (aQb 31 b n 1):=by
 unfold oU
 rw[show b.tmod 2147483647=b by rw[Int.tmod_eq_emod_of_nonneg hb.1];omega,show(1:Int).tmod 2147483647=1 by decide,aJ6 (fun rec b n s h0 h1=>by
  have h4:((2:Int)≠0)=True:=by simp
  simp only[show n.tmod 2=n%2 from Int.tmod_eq_emod_of_nonneg h0,show n.tdiv 2=n/2 from Int.tdiv_eq_ediv_of_nonneg h0,show IntKind.i64.wrap (n/2)=n/2 from bA (by omega) (by omega),aC0,h4,gd_T,xO,bd_s]) 31 b n 1 FUEL (by have:=sI;omega) h.1 (by have:=h.2;omega) (by omega)]
 simp only[aC0,gd_T,bd_s]
theorem Uy (q:Int):sZ q=some (gD q):=by
 unfold sZ gD
 rw[aDf _ _ (by decide),aOv,show bI q 1 2147483646=gY q from rfl]
 cases hk:gY q with
 |false=>rfl
 |true=>
  have hr:=aTq hk
  have hw:IntKind.i64.wrap (q*1899818559)=q*1899818559:=bA (by omega) (by omega)
  simp only[Bool.not_true,cond_false,bd_s,hw,aC0,gd_T,Int.tmod_eq_emod_of_nonneg (show 0≤q*1899818559 by omega)]
  have hp:Je (q*1899818559%2147483647)=q:=by
   unfold Je gY bI
   have h1:1≤q*1899818559%2147483647:=by omega
   have h2:q*1899818559%2147483647≤2147483646:=by omega
   have hw2:IntKind.i64.wrap (q*1899818559%2147483647*48271)=q*1899818559%2147483647*48271:=bA (by omega) (by omega)
   simp only[h1,h2,decide_true,Bool.and_self,Bool.not_true,cond_false,hw2]
   rw[Int.tmod_eq_emod_of_nonneg (by omega)]
   omega
  rw[hp,bne_self_eq_false];rfl
theorem Uz (q:Int):tH q=some (gD q):=by
 unfold tH gD
 rw[aGg _ _ (by decide) (by decide),aOv]
 cases hk:gY q with
 |false=>rfl
 |true=>
  have hr:=aTq hk
  have hw:IntKind.i64.wrap (q*1899818559)=q*1899818559:=bA (by omega) (by omega)
  simp only[Bool.not_true,cond_false,bd_s,hw,aC0,gd_T,Int.tmod_eq_emod_of_nonneg (show 0≤q*1899818559 by omega)]
theorem Pi (p:Int)(l:List Int)(h:l.length≤34359738300):qK p l=some (yR p l):=by
 unfold qK yR
 rw[aC (by simp[aU];omega),aC (by simp;omega)]
 cases gY p<;>rfl
theorem Pj (p:Int)(l:List Int)(h:l.length≤34359738300):qW p l=some (yR p l):=by
 unfold qW yR
 rw[aC (by unfold nH;simp;omega),bd_s,aC (by simp[jK];omega)]
 cases gY p<;>simp[jK]
theorem xX (q:Int)(l:List Int)(g:Int)(h:l.length≤34359738300):jW q l g=some (dC q l g):=by
 unfold jW dC
 simp only[aC h,bd_s,xO]
 cases(gD q !=0)<;>rfl
theorem xY (q:Int)(l:List Int)(g:Int)(h:l.length≤34359738300):jX q l g=some (dC q l g):=by
 unfold jX dC
 simp only[aC h,bd_s,xO]
 cases(gD q !=0)<;>rfl
theorem aIy (b:D.aAA)(h:b.Open.length≤34359738368){τ:Type}(rec:Nat→Option τ)(r:Option τ)(i:Nat)(hi:i<b.Open.length):(bd (bif (!bI b.Open[i].Id (0:Int) (IntKind.i64.wrap (b.Next-(1:Int)))) then(some (true)) else(bif (decide ((↑i:Int)>(0:Int))) then(bd (aW (b.Open) (IntKind.i64.wrap ((↑i:Int)-(1:Int)))) fun z4=>bif (decide (z4.Id≥b.Open[i].Id)) then(some (true)) else(bif (!bI b.Open[i].aAD (0:Int) (1000005:Int)) then(some (true)) else(some (!bI b.Open[i].Until (0:Int) (1000005:Int))))) else(bif (!bI b.Open[i].aAD (0:Int) (1000005:Int)) then(some (true)) else(some (!bI b.Open[i].Until (0:Int) (1000005:Int)))))) fun z3=>bif z3 then r else(rec (i+1)))=bif eX b i b.Open[i] then r else rec (i+1):=by
 unfold eX
 by_cases h0:0<i
 ·rw[Df h0 hi h,bd_s,show decide ((i:Int)>0)=true by simpa using h0,decide_eq_true h0]
  cases bI b.Open[i].Id 0 (IntKind.i64.wrap (b.Next-1))<;>cases decide ((b.Open.getD (i-1) default).Id≥b.Open[i].Id)<;>cases bI b.Open[i].aAD 0 1000005<;>cases bI b.Open[i].Until 0 1000005<;>rfl
 ·rw[show decide ((i:Int)>0)=false by simpa using h0,decide_eq_false h0]
  cases bI b.Open[i].Id 0 (IntKind.i64.wrap (b.Next-1))<;>cases bI b.Open[i].aAD 0 1000005<;>cases bI b.Open[i].Until 0 1000005<;>rfl
theorem Pk (b:D.aAA)(h:b.sz≤34359738368):qI b=some (bW b):=by
 simp only[D.aAA.sz] at h
 unfold qI bW
 rw[fA (l:=b.Open) (eX b) (.inl false) (.inr ()) (by omega) (fun rec i hi=>by
  simp only[bB hi,cond_true,aD hi,bd_s];exact aIy b h rec _ i hi) (fun rec=>by simp only[bC,cond_false])]
 rw[show decide ((b.Open.length:Int)≤16)=decide (b.Open.length≤16) from decide_eq_decide.2 (by omega)]
 cases bI b.Next 0 1000000<;>cases decide (b.Open.length≤16)<;>cases kE (eX b) 0 b.Open<;>rfl
theorem Pm (b:D.aAA)(h:b.sz≤34359738368):qU b=some (bW b):=by
 simp only[D.aAA.sz] at h
 unfold qU bW
 rw[fA (l:=b.Open) (eX b) (.inl false) (.inr ()) (by omega) (fun rec i hi=>by
  simp only[bB hi,cond_true,aD hi,bd_s];exact aIy b h rec _ i hi) (fun rec=>by simp only[bC,cond_false])]
 rw[show decide ((b.Open.length:Int)>16)= !decide (b.Open.length≤16) by rw[←decide_not];exact decide_eq_decide.2 (by omega)]
 cases bI b.Next 0 1000000<;>cases decide (b.Open.length≤16)<;>cases kE (eX b) 0 b.Open<;>rfl
theorem aIz (m:D.aAI)(h:m.Notices.length≤34359738368){τ:Type}(rec:Nat→Option τ)(r:Option τ)(i:Nat)(hi:i<m.Notices.length):(bd (bif (!bI m.Notices[i].Kind (1:Int) (5:Int)) then(some (true)) else(bif (!bI m.Notices[i].aAD (0:Int) (1000000:Int)) then(some (true)) else(bif (!bI m.Notices[i].Time (0:Int) (1000000:Int)) then(some (true)) else(bif (decide ((↑i:Int)>(0:Int))) then(bd (aW (m.Notices) (IntKind.i64.wrap ((↑i:Int)-(1:Int)))) fun z4=>some (decide (z4.Time>m.Notices[i].Time))) else(some (false)))))) fun z3=>bif z3 then r else(rec (i+1)))=bif lD m.Notices i m.Notices[i] then r else rec (i+1):=by
 unfold lD
 by_cases h0:0<i
 ·rw[Df h0 hi h,bd_s,show decide ((i:Int)>0)=true by simpa using h0,decide_eq_true h0]
  cases bI m.Notices[i].Kind 1 5<;>cases bI m.Notices[i].aAD 0 1000000<;>cases bI m.Notices[i].Time 0 1000000<;>cases decide ((m.Notices.getD (i-1) default).Time>m.Notices[i].Time)<;>rfl
 ·rw[show decide ((i:Int)>0)=false by simpa using h0,decide_eq_false h0]
  cases bI m.Notices[i].Kind 1 5<;>cases bI m.Notices[i].aAD 0 1000000<;>cases bI m.Notices[i].Time 0 1000000<;>rfl
theorem Aq (m:D.aAI)(h:m.sz≤34359738368):kJ m=some (bR m):=by
 simp only[D.aAI.sz] at h
 unfold kJ bR
 rw[fA (l:=m.Notices) (lD m.Notices) (.inl false) (.inr ()) (by omega) (fun rec i hi=>by
  simp only[bB hi,cond_true,aD hi,bd_s];exact aIz m h rec _ i hi) (fun rec=>by simp only[bC,cond_false])]
 rw[show decide ((m.Notices.length:Int)≤30)=decide (m.Notices.length≤30) from decide_eq_decide.2 (by omega)]
 cases decide (m.Notices.length≤30)<;>cases kE (lD m.Notices) 0 m.Notices<;>rfl
theorem Ar (m:D.aAI)(h:m.sz≤34359738368):kP m=some (bR m):=by
 simp only[D.aAI.sz] at h
 unfold kP bR
 rw[fA (l:=m.Notices) (lD m.Notices) (.inl false) (.inr ()) (by omega) (fun rec i hi=>by
  simp only[bB hi,cond_true,aD hi,bd_s];exact aIz m h rec _ i hi) (fun rec=>by simp only[bC,cond_false])]
 rw[show decide ((m.Notices.length:Int)>30)= !decide (m.Notices.length≤30) by rw[←decide_not];exact decide_eq_decide.2 (by omega)]
 cases decide (m.Notices.length≤30)<;>cases kE (lD m.Notices) 0 m.Notices<;>rfl
theorem R8 (i:Int):zG i=some (aJ i):=by
 unfold zG aJ;cases i==0<;>cases i==1<;>rfl
theorem R9 (i:Int):zM i=some (aJ i):=by
 unfold zM aJ;cases i==0<;>cases i==1<;>rfl
theorem Zn (e:D.aAE):vE e=some (bG e):=by unfold vE;rw[aC (by simp)];rfl
theorem Zo (e:D.aAE):vJ e=some (bG e):=by unfold vJ;rw[aC (by simp)];rfl
theorem aDg (l:List D.aAE)(h:l.length≤34359738368):Eg l=some (dR l):=by
 unfold Eg dR
 cases hl:((l.length:Int)==0) with
 |true=>rfl
 |false=>
  have:l.length≠0:=by intro h0;rw[h0] at hl;simp at hl
  rw[bA (by omega) (by omega),show(l.length:Int)-1=((l.length-1:Nat):Int) by omega,aD (by omega)]
  simp[List.getD,List.getElem?_eq_getElem (show l.length-1<l.length by omega)]
theorem aDh (l:List D.aAE)(h:l.length≤34359738368):Ez l=some (dR l):=by
 unfold Ez dR
 cases hl:((l.length:Int)==0) with
 |true=>rfl
 |false=>
  have:l.length≠0:=by intro h0;rw[h0] at hl;simp at hl
  rw[bA (by omega) (by omega),show(l.length:Int)-1=((l.length-1:Nat):Int) by omega,aD (by omega)]
  simp[List.getD,List.getElem?_eq_getElem (show l.length-1<l.length by omega)]
theorem Va (l:List D.aAE)(p:Int)(h:l.length≤34359738368):tJ l p=some (jL l p):=by
 unfold tJ
 rw[gK (l:=l) (fun e=>e.Kind==2&&e.Device==p) (.inl true) (.inr ()) (by omega) (fun rec i hi=>by
  simp only[bB hi,cond_true,aD hi,bd_s,xO];cases(l[i].Kind==2)<;>rfl) (fun rec=>by simp only[bC,cond_false])]
 unfold jL;cases l.any _<;>rfl
end
end Go.VK
