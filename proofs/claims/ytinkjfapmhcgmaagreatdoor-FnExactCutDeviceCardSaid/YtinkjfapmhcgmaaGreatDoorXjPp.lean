import Derived.Test.YtinkjfapmhcgmaaGreatDoorXjPo
import Derived.Test.YtinkjfapmhcgmaaGreatDoorXjQ
/- Printed by wip/tools: models, walks, proofs. -/
set_option linter.unusedVariables false
set_option linter.unusedSimpArgs false
set_option maxRecDepth 100000
set_option maxHeartbeats 4000000
namespace Go.VK
open Go.RowKit Go.Proofs
noncomputable section
open EV (bU)
theorem bAm {a b:List D.aAB}(ha:a.length≤34359738368){F:(Nat→Option (Bool⊕PUnit))→Nat→Option (Bool⊕PUnit)}
  (hF:∀rec i (hi:i<b.length) (hj:i<a.length),F rec i=bif !bIy a[i] b[i] then some (.inl false) else rec (i+1)) (hE:∀rec,F rec b.length=some (.inr ())):
  (bif decide ((a.length:Int)<(b.length:Int)) then some false else nx (bU FUEL F 0) fun _=>some true)=some (dY a b):=by
 unfold dY
 by_cases h:b.length≤a.length
 ·rw[decide_eq_false (show ¬(a.length:Int)<(b.length:Int) by omega),cond_false,decide_eq_true h,Bool.true_and,
   iG (l:=b) (fun i e=> !bIy (a.getD i default) e) (.inl false) (.inr ()) (by omega) (fun rec i hi=>by
    rw[hF rec i hi (by omega),List.getD,List.getElem?_eq_getElem (show i<a.length by omega)];rfl) hE]
  cases kS (fun i e=> !bIy (a.getD i default) e) 0 b<;>rfl
 ·rw[decide_eq_true (show(a.length:Int)<(b.length:Int) by omega),decide_eq_false h];rfl
theorem aAh (a b:List D.aAB)(h:a.length≤34359738368):yG a b=some (dY a b):=by
 unfold yG
 exact bAm h (fun rec i hi hj=>by simp only[bE hi,cond_true,aF hi,aF hj,bd_s];rfl) (fun rec=>by simp only[bF,cond_false])
theorem aAi (a b:List D.aAB)(h:a.length≤34359738368):yY a b=some (dY a b):=by
 unfold yY
 exact bAm h (fun rec i hi hj=>by simp only[bE hi,cond_true,aF hi,aF hj,bd_s];rfl) (fun rec=>by simp only[bF,cond_false])
theorem aE4 (k:Int)(b:D.aAA)(h:b.Data.length≤34359738200):Bv k b=some (iK k b):=by
 unfold Bv iK
 rw[aC (by omega),bd_s,aC (by simp[bJ,sS];omega),aC (by simp[sS];omega)];rfl
theorem aE5 (k:Int)(b:D.aAA)(h:b.Data.length≤34359738200):Cu k b=some (iK k b):=by
 unfold Cu iK
 rw[aC (by omega),bd_s,aC (by simp[vN,sS];omega),bd_s,aC (by simp[sS,nQ];omega)]
 simp[nQ]
theorem aJ7 (k e v:Int):Jd k e v=some (dP k&&(dG e 0 1000000&&dG v 0 1000000)):=by
 unfold Jd
 cases dP k<;>cases dG e 0 1000000<;>rfl
theorem aTr (k e v:Int):Yo k e v=some (lJ k e v):=by unfold Yo;rw[aC (by simp)];rfl
theorem xG (b:List Int)(hb:aW b)(p:Nat)(hp:p≤34359738368){F:(Int×Int×Nat→Option ((Int×Int×Bool)⊕PUnit))→Int×Int×Nat→Option ((Int×Int×Bool)⊕PUnit)}
  (hF:∀rec (n q:Int) (i:Nat),F rec (n,q,i)=bif decide ((i:Int)<6) then(bif decide (IntKind.i64.wrap ((p:Int)+(i:Int))≥(b.length:Int)) then some (.inl (0,0,false)) else bd (aL b (IntKind.i64.wrap ((p:Int)+(i:Int)))) fun z=>gd ((128:Int)≠0) (bif decide (IntKind.i64.wrap z<128) then(bd (bif decide ((i:Int)>0) then(bif IntKind.i64.wrap z==0 then some true else some (decide (IntKind.i64.wrap (n+IntKind.i64.wrap ((IntKind.i64.wrap z).tmod 128*q))>1000000000000))) else some (decide (IntKind.i64.wrap (n+IntKind.i64.wrap ((IntKind.i64.wrap z).tmod 128*q))>1000000000000))) fun c=>bif c then some (.inl (0,0,false)) else some (.inl (IntKind.i64.wrap (n+IntKind.i64.wrap ((IntKind.i64.wrap z).tmod 128*q)),IntKind.i64.wrap (IntKind.i64.wrap ((p:Int)+(i:Int))+1),true))) else rec (IntKind.i64.wrap (n+IntKind.i64.wrap ((IntKind.i64.wrap z).tmod 128*q)),IntKind.i64.wrap (q*128),i+1))) else some (.inr ())):
  ∀(k i:Nat) (n:Int) (f:Nat),i+k=6→k<f→0≤n→n<128^i→nx (bU f F (n,(128:Int)^i,i)) (fun _=>some ((0:Int),(0:Int),false))=some (uvG b p k i n)
 |0,i,n,f+1,hk,hf,h0,h1=>by
  rw[iN,hF,show decide ((i:Int)<6)=false from decide_eq_false (by omega)];rfl
 |k+1,i,n,f+1,hk,hf,h0,h1=>by
  have hp128:=aXc (i:=i) (by omega)
  rw[iN,hF,show decide ((i:Int)<6)=true from decide_eq_true (by omega),cond_true]
  rw[show IntKind.i64.wrap ((p:Int)+(i:Int))=((p+i:Nat):Int) by rw[aP (by omega) (by omega)];omega]
  unfold uvG
  by_cases hlt:p+i<b.length
  ·have hz:=rO hb hlt
   have hg:b.getD (p+i) 0=b[p+i]:=by simp[List.getD,List.getElem?_eq_getElem hlt]
   rw[if_pos hlt,hg,aF hlt]
   generalize b[p+i]=z at hz
   rw[show decide (((p+i:Nat):Int)≥(b.length:Int))=false from decide_eq_false (by omega)]
   have hs:=aXd (z:=z) (n:=n) (i:=i) (by omega) hz.1 h0 h1
   have hwz:IntKind.i64.wrap z=z:=aP (by omega) (by omega)
   have htm:z.tmod 128=z%128:=Int.tmod_eq_emod_of_nonneg hz.1
   have hw1:IntKind.i64.wrap (z%128*128^i)=z%128*128^i:=aP (by omega) (by omega)
   have hp6:=aXc (i:=i+1) (by omega)
   have hw2:IntKind.i64.wrap (n+z%128*128^i)=n+z%128*128^i:=aP (by omega) (by omega)
   have hw3:IntKind.i64.wrap (((p+i:Nat):Int)+1)=((p+i+1:Nat):Int):=by rw[aP (by omega) (by omega)];omega
   have hw4:IntKind.i64.wrap ((128:Int)^i*128)=128^(i+1):=by rw[←Int.pow_succ,aP (by omega) (by omega)]
   have h128n:((128:Int)≠0)=True:=by simp
   simp only[cond_false,bd_s,hwz,htm,hw1,hw2,hw3,hw4,h128n,gd_T]
   by_cases h128:z<128
   ·simp only[h128,decide_true,cond_true]
    have e:(decide ((i:Int)>0))=decide (0<i):=decide_eq_decide.2 (by omega)
    rw[e]
    cases decide (0<i)<;>cases(z==0)<;>cases decide (n+z%128*128^i>1000000000000)<;>rfl
   ·simp only[h128,decide_false,cond_false]
    exact xG b hb p hp hF k (i+1) _ f (by omega) (by omega) hs.1 hs.2.1
  ·rw[if_neg hlt,show decide (((p+i:Nat):Int)≥(b.length:Int))=true from decide_eq_true (by omega)];rfl
theorem F9 (b:List Int)(a:Int)(hb:aW b):wN b a=some (xS b a):=by
 unfold wN xS
 have hf:=gK
 have hlen:=hb.1
 rw[Ay,bd_s]
 by_cases h0:a<0
 ·simp[h0]
 ·rw[if_neg h0,decide_eq_false h0,Bool.false_or]
  by_cases h1:a≥b.length
  ·rw[decide_eq_true h1]
   unfold uvG
   rw[if_neg (by omega)]
   rfl
  ·rw[decide_eq_false h1,cond_false]
   obtain⟨p,rfl⟩:=Int.eq_ofNat_of_zero_le (show 0≤a by omega)
   exact xG b hb p (by omega) (fun rec n q i=>rfl) 6 0 0 FUEL rfl (by omega) (by omega) (by decide)
theorem Gp (b:List Int)(c:Int)(hc:c≤100){F:(Int×List Int×Nat→Option ((List Int×Int×Bool)⊕(Int×List Int)))→Int×List Int×Nat→Option ((List Int×Int×Bool)⊕(Int×List Int))}
  (hF:∀rec (a:Int) (s:List Int) (i:Nat),s.length≤34359738368→F rec (a,s,i)=bif decide ((i:Int)<c) then(bif !(xS b a).2.2 then some (.inl ([],0,false)) else rec ((xS b a).2.1,s++[(xS b a).1],i+1)) else some (.inr (a,s))):
  ∀(k i:Nat) (a:Int) (s:List Int) (f:Nat),((i+k:Nat):Int)=c→k<f→s.length≤i→nx (bU f F (a,s,i)) (fun z=>some (z.2,z.1,true))=some (jV b k a s)
 |0,i,a,s,f+1,hk,hf,hs=>by
  rw[iN,hF _ _ _ _ (by omega),show decide ((i:Int)<c)=false from decide_eq_false (by omega)];rfl
 |k+1,i,a,s,f+1,hk,hf,hs=>by
  rw[iN,hF _ _ _ _ (by omega),show decide ((i:Int)<c)=true from decide_eq_true (by omega),cond_true]
  unfold jV
  cases(xS b a).2.2 with
  |false=>rfl
  |true=>
   simp only[Bool.not_true,cond_false,cond_true]
   exact Gp b c hc hF k (i+1) _ _ f (by omega) (by omega) (by simp;omega)
theorem aAj (b:List Int)(a c:Int)(hb:aW b):yZ b a c=some (iL b a c):=by
 unfold yZ iL dG
 by_cases h1:c<0
 ·simp[h1,show ¬0≤c by omega]
 ·by_cases h2:c>100
  ·simp[h1,h2,show ¬c≤100 by omega]
  ·by_cases h3:a<0
   ·simp[h1,h2,h3,show ¬0≤a by omega]
   ·by_cases h4:a>b.length
    ·simp[h1,h2,h3,h4,show ¬a≤b.length by omega]
    ·simp only[h1,h2,h3,h4,decide_false,cond_false,bd_s,show 0≤c by omega,show c≤100 by omega,show 0≤a by omega,show a≤b.length by omega,decide_true,Bool.and_true,Bool.not_true,Bool.or_self,cond_false]
     exact Gp b c (by omega) (fun rec a s i hs=>by simp only[aC hb,bd_s,fF hs]) c.toNat 0 a [] FUEL (by omega) (by have:=gK;omega) (by simp)
theorem aAk (b:List Int)(a c:Int)(hb:aW b):yH b a c=some (iL b a c):=by
 unfold yH iL
 cases h1:dG c 0 100 with
 |false=>rfl
 |true=>
  cases h2:dG a 0 b.length with
  |false=>rfl
  |true=>
   have:=aMn h1
   simp only[Bool.not_true,cond_false,bd_s,Bool.or_self]
   exact Gp b c (by omega) (fun rec a s i hs=>by simp only[aC hb,bd_s,fF hs]) c.toNat 0 a [] FUEL (by omega) (by have:=gK;omega) (by simp)
theorem xH (b:List Int)(hb:aW b)(a:Int)(ha:0≤a){F:(Int×Nat→Option ((Int×Int×Bool)⊕PUnit))→Int×Nat→Option ((Int×Int×Bool)⊕PUnit)}
  (hF:∀rec (n:Int) (i:Nat),F rec (n,i)=bif decide ((i:Int)<6) then(bd (bif decide (a<0) then some true else some (decide (a≥IntKind.i64.wrap ((b.length:Int)-(i:Int))))) fun c=>bif c then some (.inl (0,0,false)) else bd (aL b (IntKind.i64.wrap (a+(i:Int)))) fun z=>gd ((0:Int)≤IntKind.i64.wrap (7*(i:Int))) (bif decide (IntKind.i64.wrap z<128) then(bd (bif IntKind.i64.wrap z==0 then(bif decide ((i:Int)>0) then some true else some (decide (orI .i64 n (T9 .i64 (xV .i64 (IntKind.i64.wrap z) 127) (IntKind.i64.wrap (7*(i:Int))))>1000000000000))) else some (decide (orI .i64 n (T9 .i64 (xV .i64 (IntKind.i64.wrap z) 127) (IntKind.i64.wrap (7*(i:Int))))>1000000000000))) fun c=>bif c then some (.inl (0,0,false)) else some (.inl (orI .i64 n (T9 .i64 (xV .i64 (IntKind.i64.wrap z) 127) (IntKind.i64.wrap (7*(i:Int)))),IntKind.i64.wrap (IntKind.i64.wrap (a+(i:Int))+1),true))) else rec (orI .i64 n (T9 .i64 (xV .i64 (IntKind.i64.wrap z) 127) (IntKind.i64.wrap (7*(i:Int)))),i+1))) else some (.inr ())):
  ∀(k i:Nat) (n:Int) (f:Nat),i+k=6→k<f→0≤n→n<128^i→nx (bU f F (n,i)) (fun _=>some ((0:Int),(0:Int),false))=some (uvG b a.toNat k i n)
 |0,i,n,f+1,hk,hf,h0,h1=>by
  rw[iN,hF,show decide ((i:Int)<6)=false from decide_eq_false (by omega)];rfl
 |k+1,i,n,f+1,hk,hf,h0,h1=>by
  have hlen:=hb.1
  rw[iN,hF,show decide ((i:Int)<6)=true from decide_eq_true (by omega),cond_true,Ay,bd_s]
  rw[show IntKind.i64.wrap ((b.length:Int)-(i:Int))=(b.length:Int)-(i:Int) from aP (by omega) (by omega),show decide (a<0)=false from decide_eq_false (by omega),Bool.false_or]
  unfold uvG
  by_cases hlt:a.toNat+i<b.length
  ·have hz:=rO hb hlt
   have hg:b.getD (a.toNat+i) 0=b[a.toNat+i]:=by simp[List.getD,List.getElem?_eq_getElem hlt]
   have hwa:IntKind.i64.wrap (a+(i:Int))=((a.toNat+i:Nat):Int):=by rw[aP (by omega) (by omega)];omega
   rw[if_pos hlt,hg,hwa,aF hlt]
   generalize b[a.toNat+i]=z at hz
   rw[show decide (a≥(b.length:Int)-(i:Int))=false from decide_eq_false (by omega)]
   have hs:=aXd (z:=z) (n:=n) (i:=i) (by omega) hz.1 h0 h1
   have hwz:IntKind.i64.wrap z=z:=aP (by omega) (by omega)
   have ho:=bIr (z:=z) (n:=n) (i:=i) (by omega) hz.1 hz.2 h0 h1
   have hw3:IntKind.i64.wrap (((a.toNat+i:Nat):Int)+1)=((a.toNat+i+1:Nat):Int):=by rw[aP (by omega) (by omega)];omega
   have h7:0≤IntKind.i64.wrap ((7:Int)*(i:Int)):=by rw[aP (by omega) (by omega)];omega
   simp only[cond_false,bd_s,hwz,ho,hw3]
   rw[aC h7]
   by_cases h128:z<128
   ·simp only[h128,decide_true,cond_true]
    have e:(decide ((i:Int)>0))=decide (0<i):=decide_eq_decide.2 (by omega)
    rw[e]
    cases decide (0<i)<;>cases(z==0)<;>cases decide (n+z%128*128^i>1000000000000)<;>rfl
   ·simp only[h128,decide_false,cond_false]
    exact xH b hb a ha hF k (i+1) _ f (by omega) (by omega) hs.1 hs.2.1
  ·rw[if_neg hlt,show decide (a≥(b.length:Int)-(i:Int))=true from decide_eq_true (by omega)];rfl
theorem G5 (b:List Int)(a:Int)(hb:aW b):vZ b a=some (xS b a):=by
 unfold vZ xS
 have hf:=gK
 by_cases h0:a<0
 ·rw[if_pos h0]
  obtain⟨f,hf'⟩:∃f,FUEL=f+1:=⟨FUEL-1,by omega⟩
  rw[hf',iN]
  simp[h0,nx]
 ·rw[if_neg h0]
  exact xH b hb a (by omega) (fun rec n i=>rfl) 6 0 0 FUEL rfl (by omega) (by omega) (by decide)
theorem Lc (s:D.aAJ)(e:D.aAE)(hz:e.sz≤34359738368):pO s e=some (dI s e):=by
 simp only[D.aAE.sz] at hz
 unfold pO dI
 rw[aC (by omega),bd_s,aC (Zu _ _),bd_s]
 generalize gY e.Boxes (mQ s)=x
 obtain⟨x1,x2⟩:=x
 dsimp only
 cases x2 with
 |false=>rfl
 |true=>
  have hl:=fun h=>decode_len (b:=x1) (a:=0) (c:=2) (by omega) h
  generalize iL x1 0 2=y at hl
  obtain⟨y1,y2,y3⟩:=y
  unfold Zv
  cases y3 with
  |false=>rfl
  |true=>
   have hl':y1.length=2:=hl rfl
   obtain⟨a,c,rfl⟩:∃a c,y1=[a,c]:=by
    match y1,hl' with
    |[a,c],_=>exact⟨a,c,rfl⟩
   have e0:aL [a,c] 0=some a:=rfl
   have e1:aL [a,c] 1=some c:=rfl
   simp only[e0,e1,bd_s,Bool.not_true,cond_false,Bool.false_or]
   cases(y2 !=(x1.length:Int))<;>cases ha:(a !=e.Epoch)<;>cases hc:dP c<;>simp[ha,hc]
theorem Ld (s:D.aAJ)(e:D.aAE)(hz:e.sz≤34359738368):pX s e=some (dI s e):=by
 simp only[D.aAE.sz] at hz
 unfold pX dI
 rw[aC (by simp),bd_s,aC (by omega),bd_s,aC (Zu _ _),show eU s.Seed [181]=mQ s from rfl]
 generalize gY e.Boxes (mQ s)=x
 obtain⟨x1,x2⟩:=x
 dsimp only
 cases x2 with
 |false=>rfl
 |true=>
  have hl:=fun h=>decode_len (b:=x1) (a:=0) (c:=2) (by omega) h
  generalize iL x1 0 2=y at hl
  obtain⟨y1,y2,y3⟩:=y
  unfold Zv
  cases y3 with
  |false=>rfl
  |true=>
   have hl':y1.length=2:=hl rfl
   obtain⟨a,c,rfl⟩:∃a c,y1=[a,c]:=by
    match y1,hl' with
    |[a,c],_=>exact⟨a,c,rfl⟩
   have e0:aL [a,c] 0=some a:=rfl
   have e1:aL [a,c] 1=some c:=rfl
   simp only[e0,e1,bd_s,Bool.not_true,cond_false,Bool.false_or]
   cases(y2 !=(x1.length:Int))<;>cases ha:(a !=e.Epoch)<;>cases hc:dP c<;>simp[ha,hc]
end
end Go.VK
