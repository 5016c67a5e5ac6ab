import Derived.Test.YtefkjglmpmakcaaGreatDoorXlPo
import Derived.Test.YtefkjglmpmakcaaGreatDoorXlQ
/- Printed by wip/tools: models, walks, proofs. -/
set_option linter.unusedVariables false
set_option linter.unusedSimpArgs false
set_option maxRecDepth 100000
set_option maxHeartbeats 4000000
namespace Go.VK
open Go.RowKit Go.Proofs
noncomputable section
open EV (bS)
theorem aWd {a b:List D.aAB}(ha:a.length≤34359738368){F:(Nat→Option (Bool⊕PUnit))→Nat→Option (Bool⊕PUnit)}
  (hF:∀rec i (hi:i<b.length) (hj:i<a.length),F rec i=bif !bEq a[i] b[i] then some (.inl false) else rec (i+1)) (hE:∀rec,F rec b.length=some (.inr ())):
  (bif decide ((a.length:Int)<(b.length:Int)) then some false else nx (bS FUEL F 0) fun _=>some true)=some (fJ a b):=by
 unfold fJ
 by_cases h:b.length≤a.length
 ·rw[decide_eq_false (show ¬(a.length:Int)<(b.length:Int) by omega),cond_false,decide_eq_true h,Bool.true_and,
   kW (l:=b) (fun i e=> !bEq (a.getD i default) e) (.inl false) (.inr ()) (by omega) (fun rec i hi=>by
    rw[hF rec i hi (by omega),List.getD,List.getElem?_eq_getElem (show i<a.length by omega)];rfl) hE]
  cases mK (fun i e=> !bEq (a.getD i default) e) 0 b<;>rfl
 ·rw[decide_eq_true (show(a.length:Int)<(b.length:Int) by omega),decide_eq_false h];rfl
theorem O1 (a b:List D.aAB)(h:a.length≤34359738368):xP a b=some (fJ a b):=by
 unfold xP
 exact aWd h (fun rec i hi hj=>by simp only[bJ hi,cond_true,aF hi,aF hj,bd_s];rfl) (fun rec=>by simp only[bM,cond_false])
theorem O3 (a b:List D.aAB)(h:a.length≤34359738368):yG a b=some (fJ a b):=by
 unfold yG
 exact aWd h (fun rec i hi hj=>by simp only[bJ hi,cond_true,aF hi,aF hj,bd_s];rfl) (fun rec=>by simp only[bM,cond_false])
theorem aCu (k:Int)(b:D.aAA)(h:b.Data.length≤34359738200):Ay k b=some (iF k b):=by
 unfold Ay iF
 rw[aB (by omega),bd_s,aB (by simp[bD,rU];omega),aB (by simp[rU];omega)];rfl
theorem aCv (k:Int)(b:D.aAA)(h:b.Data.length≤34359738200):Bp k b=some (iF k b):=by
 unfold Bp iF
 rw[aB (by omega),bd_s,aB (by simp[uP,rU];omega),bd_s,aB (by simp[rU,nJ];omega)]
 simp[nJ]
theorem aHo (k e v:Int):Gm k e v=some (dG k&&(cK e 0 1000000&&cK v 0 1000000)):=by
 unfold Gm
 cases dG k<;>cases cK e 0 1000000<;>rfl
theorem aPx (k e v:Int):Tv k e v=some (kY k e v):=by unfold Tv;rw[aB (by simp)];rfl
theorem wM (b:List Int)(hb:aW b)(p:Nat)(hp:p≤34359738368){F:(Int×Int×Nat→Option ((Int×Int×Bool)⊕PUnit))→Int×Int×Nat→Option ((Int×Int×Bool)⊕PUnit)}
  (hF:∀rec (n q:Int) (i:Nat),F rec (n,q,i)=bif decide ((i:Int)<6) then(bif decide (IntKind.i64.wrap ((p:Int)+(i:Int))≥(b.length:Int)) then some (.inl (0,0,false)) else bd (aT b (IntKind.i64.wrap ((p:Int)+(i:Int)))) fun z=>gd ((128:Int)≠0) (bif decide (IntKind.i64.wrap z<128) then(bd (bif decide ((i:Int)>0) then(bif IntKind.i64.wrap z==0 then some true else some (decide (IntKind.i64.wrap (n+IntKind.i64.wrap ((IntKind.i64.wrap z).tmod 128*q))>1000000000000))) else some (decide (IntKind.i64.wrap (n+IntKind.i64.wrap ((IntKind.i64.wrap z).tmod 128*q))>1000000000000))) fun c=>bif c then some (.inl (0,0,false)) else some (.inl (IntKind.i64.wrap (n+IntKind.i64.wrap ((IntKind.i64.wrap z).tmod 128*q)),IntKind.i64.wrap (IntKind.i64.wrap ((p:Int)+(i:Int))+1),true))) else rec (IntKind.i64.wrap (n+IntKind.i64.wrap ((IntKind.i64.wrap z).tmod 128*q)),IntKind.i64.wrap (q*128),i+1))) else some (.inr ())):
  ∀(k i:Nat) (n:Int) (f:Nat),i+k=6→k<f→0≤n→n<128^i→nx (bS f F (n,(128:Int)^i,i)) (fun _=>some ((0:Int),(0:Int),false))=some (uvG b p k i n)
 |0,i,n,f+1,hk,hf,h0,h1=>by
  rw[jF,hF,show decide ((i:Int)<6)=false from decide_eq_false (by omega)];rfl
 |k+1,i,n,f+1,hk,hf,h0,h1=>by
  have hp128:=aS2 (i:=i) (by omega)
  rw[jF,hF,show decide ((i:Int)<6)=true from decide_eq_true (by omega),cond_true]
  rw[show IntKind.i64.wrap ((p:Int)+(i:Int))=((p+i:Nat):Int) by rw[aK (by omega) (by omega)];omega]
  unfold uvG
  by_cases hlt:p+i<b.length
  ·have hz:=qW hb hlt
   have hg:b.getD (p+i) 0=b[p+i]:=by simp[List.getD,List.getElem?_eq_getElem hlt]
   rw[if_pos hlt,hg,aF hlt]
   generalize b[p+i]=z at hz
   rw[show decide (((p+i:Nat):Int)≥(b.length:Int))=false from decide_eq_false (by omega)]
   have hs:=aS3 (z:=z) (n:=n) (i:=i) (by omega) hz.1 h0 h1
   have hwz:IntKind.i64.wrap z=z:=aK (by omega) (by omega)
   have htm:z.tmod 128=z%128:=Int.tmod_eq_emod_of_nonneg hz.1
   have hw1:IntKind.i64.wrap (z%128*128^i)=z%128*128^i:=aK (by omega) (by omega)
   have hp6:=aS2 (i:=i+1) (by omega)
   have hw2:IntKind.i64.wrap (n+z%128*128^i)=n+z%128*128^i:=aK (by omega) (by omega)
   have hw3:IntKind.i64.wrap (((p+i:Nat):Int)+1)=((p+i+1:Nat):Int):=by rw[aK (by omega) (by omega)];omega
   have hw4:IntKind.i64.wrap ((128:Int)^i*128)=128^(i+1):=by rw[←Int.pow_succ,aK (by omega) (by omega)]
   have h128n:((128:Int)≠0)=True:=by simp
   simp only[cond_false,bd_s,hwz,htm,hw1,hw2,hw3,hw4,h128n,gd_T]
   by_cases h128:z<128
   ·simp only[h128,decide_true,cond_true]
    have e:(decide ((i:Int)>0))=decide (0<i):=decide_eq_decide.2 (by omega)
    rw[e]
    cases decide (0<i)<;>cases(z==0)<;>cases decide (n+z%128*128^i>1000000000000)<;>rfl
   ·simp only[h128,decide_false,cond_false]
    exact wM b hb p hp hF k (i+1) _ f (by omega) (by omega) hs.1 hs.2.1
  ·rw[if_neg hlt,show decide (((p+i:Nat):Int)≥(b.length:Int))=true from decide_eq_true (by omega)];rfl
theorem Xa (b:List Int)(a:Int)(hb:aW b):vW b a=some (xB b a):=by
 unfold vW xB
 have hf:=gU
 have hlen:=hb.1
 rw[Ai,bd_s]
 by_cases h0:a<0
 ·simp[h0]
 ·rw[if_neg h0,decide_eq_false h0,Bool.false_or]
  by_cases h1:a≥b.length
  ·rw[decide_eq_true h1]
   unfold uvG
   rw[if_neg (by omega)]
   rfl
  ·rw[decide_eq_false h1,cond_false]
   obtain⟨p,rfl⟩:=Int.eq_ofNat_of_zero_le (show 0≤a by omega)
   exact wM b hb p (by omega) (fun rec n q i=>rfl) 6 0 0 FUEL rfl (by omega) (by omega) (by decide)
theorem Er (b:List Int)(c:Int)(hc:c≤100){F:(Int×List Int×Nat→Option ((List Int×Int×Bool)⊕(Int×List Int)))→Int×List Int×Nat→Option ((List Int×Int×Bool)⊕(Int×List Int))}
  (hF:∀rec (a:Int) (s:List Int) (i:Nat),s.length≤34359738368→F rec (a,s,i)=bif decide ((i:Int)<c) then(bif !(xB b a).2.2 then some (.inl ([],0,false)) else rec ((xB b a).2.1,s++[(xB b a).1],i+1)) else some (.inr (a,s))):
  ∀(k i:Nat) (a:Int) (s:List Int) (f:Nat),((i+k:Nat):Int)=c→k<f→s.length≤i→nx (bS f F (a,s,i)) (fun z=>some (z.2,z.1,true))=some (jQ b k a s)
 |0,i,a,s,f+1,hk,hf,hs=>by
  rw[jF,hF _ _ _ _ (by omega),show decide ((i:Int)<c)=false from decide_eq_false (by omega)];rfl
 |k+1,i,a,s,f+1,hk,hf,hs=>by
  rw[jF,hF _ _ _ _ (by omega),show decide ((i:Int)<c)=true from decide_eq_true (by omega),cond_true]
  unfold jQ
  cases(xB b a).2.2 with
  |false=>rfl
  |true=>
   simp only[Bool.not_true,cond_false,cond_true]
   exact Er b c hc hF k (i+1) _ _ f (by omega) (by omega) (by simp;omega)
theorem O4 (b:List Int)(a c:Int)(hb:aW b):yK b a c=some (iG b a c):=by
 unfold yK iG cK
 by_cases h1:c<0
 ·simp[h1,show ¬0≤c by omega]
 ·by_cases h2:c>100
  ·simp[h1,h2,show ¬c≤100 by omega]
  ·by_cases h3:a<0
   ·simp[h1,h2,h3,show ¬0≤a by omega]
   ·by_cases h4:a>b.length
    ·simp[h1,h2,h3,h4,show ¬a≤b.length by omega]
    ·simp only[h1,h2,h3,h4,decide_false,cond_false,bd_s,show 0≤c by omega,show c≤100 by omega,show 0≤a by omega,show a≤b.length by omega,decide_true,Bool.and_true,Bool.not_true,Bool.or_self,cond_false]
     exact Er b c (by omega) (fun rec a s i hs=>by simp only[aB hb,bd_s,gM hs]) c.toNat 0 a [] FUEL (by omega) (by have:=gU;omega) (by simp)
theorem O5 (b:List Int)(a c:Int)(hb:aW b):xS b a c=some (iG b a c):=by
 unfold xS iG
 cases h1:cK c 0 100 with
 |false=>rfl
 |true=>
  cases h2:cK a 0 b.length with
  |false=>rfl
  |true=>
   have:=nE h1
   simp only[Bool.not_true,cond_false,bd_s,Bool.or_self]
   exact Er b c (by omega) (fun rec a s i hs=>by simp only[aB hb,bd_s,gM hs]) c.toNat 0 a [] FUEL (by omega) (by have:=gU;omega) (by simp)
theorem wN (b:List Int)(hb:aW b)(a:Int)(ha:0≤a){F:(Int×Nat→Option ((Int×Int×Bool)⊕PUnit))→Int×Nat→Option ((Int×Int×Bool)⊕PUnit)}
  (hF:∀rec (n:Int) (i:Nat),F rec (n,i)=bif decide ((i:Int)<6) then(bd (bif decide (a<0) then some true else some (decide (a≥IntKind.i64.wrap ((b.length:Int)-(i:Int))))) fun c=>bif c then some (.inl (0,0,false)) else bd (aT b (IntKind.i64.wrap (a+(i:Int)))) fun z=>gd ((0:Int)≤IntKind.i64.wrap (7*(i:Int))) (bif decide (IntKind.i64.wrap z<128) then(bd (bif IntKind.i64.wrap z==0 then(bif decide ((i:Int)>0) then some true else some (decide (orI .i64 n (F7 .i64 (tJ .i64 (IntKind.i64.wrap z) 127) (IntKind.i64.wrap (7*(i:Int))))>1000000000000))) else some (decide (orI .i64 n (F7 .i64 (tJ .i64 (IntKind.i64.wrap z) 127) (IntKind.i64.wrap (7*(i:Int))))>1000000000000))) fun c=>bif c then some (.inl (0,0,false)) else some (.inl (orI .i64 n (F7 .i64 (tJ .i64 (IntKind.i64.wrap z) 127) (IntKind.i64.wrap (7*(i:Int)))),IntKind.i64.wrap (IntKind.i64.wrap (a+(i:Int))+1),true))) else rec (orI .i64 n (F7 .i64 (tJ .i64 (IntKind.i64.wrap z) 127) (IntKind.i64.wrap (7*(i:Int)))),i+1))) else some (.inr ())):
  ∀(k i:Nat) (n:Int) (f:Nat),i+k=6→k<f→0≤n→n<128^i→nx (bS f F (n,i)) (fun _=>some ((0:Int),(0:Int),false))=some (uvG b a.toNat k i n)
 |0,i,n,f+1,hk,hf,h0,h1=>by
  rw[jF,hF,show decide ((i:Int)<6)=false from decide_eq_false (by omega)];rfl
 |k+1,i,n,f+1,hk,hf,h0,h1=>by
  have hlen:=hb.1
  rw[jF,hF,show decide ((i:Int)<6)=true from decide_eq_true (by omega),cond_true,Ai,bd_s]
  rw[show IntKind.i64.wrap ((b.length:Int)-(i:Int))=(b.length:Int)-(i:Int) from aK (by omega) (by omega),show decide (a<0)=false from decide_eq_false (by omega),Bool.false_or]
  unfold uvG
  by_cases hlt:a.toNat+i<b.length
  ·have hz:=qW hb hlt
   have hg:b.getD (a.toNat+i) 0=b[a.toNat+i]:=by simp[List.getD,List.getElem?_eq_getElem hlt]
   have hwa:IntKind.i64.wrap (a+(i:Int))=((a.toNat+i:Nat):Int):=by rw[aK (by omega) (by omega)];omega
   rw[if_pos hlt,hg,hwa,aF hlt]
   generalize b[a.toNat+i]=z at hz
   rw[show decide (a≥(b.length:Int)-(i:Int))=false from decide_eq_false (by omega)]
   have hs:=aS3 (z:=z) (n:=n) (i:=i) (by omega) hz.1 h0 h1
   have hwz:IntKind.i64.wrap z=z:=aK (by omega) (by omega)
   have ho:=bEk (z:=z) (n:=n) (i:=i) (by omega) hz.1 hz.2 h0 h1
   have hw3:IntKind.i64.wrap (((a.toNat+i:Nat):Int)+1)=((a.toNat+i+1:Nat):Int):=by rw[aK (by omega) (by omega)];omega
   have h7:0≤IntKind.i64.wrap ((7:Int)*(i:Int)):=by rw[aK (by omega) (by omega)];omega
   simp only[cond_false,bd_s,hwz,ho,hw3]
   rw[aB h7]
   by_cases h128:z<128
   ·simp only[h128,decide_true,cond_true]
    have e:(decide ((i:Int)>0))=decide (0<i):=decide_eq_decide.2 (by omega)
    rw[e]
    cases decide (0<i)<;>cases(z==0)<;>cases decide (n+z%128*128^i>1000000000000)<;>rfl
   ·simp only[h128,decide_false,cond_false]
    exact wN b hb a ha hF k (i+1) _ f (by omega) (by omega) hs.1 hs.2.1
  ·rw[if_neg hlt,show decide (a≥(b.length:Int)-(i:Int))=true from decide_eq_true (by omega)];rfl
theorem Xb (b:List Int)(a:Int)(hb:aW b):vE b a=some (xB b a):=by
 unfold vE xB
 have hf:=gU
 by_cases h0:a<0
 ·rw[if_pos h0]
  obtain⟨f,hf'⟩:∃f,FUEL=f+1:=⟨FUEL-1,by omega⟩
  rw[hf',jF]
  simp[h0,nx]
 ·rw[if_neg h0]
  exact wN b hb a (by omega) (fun rec n i=>rfl) 6 0 0 FUEL rfl (by omega) (by omega) (by decide)
theorem Iu (s:D.aAH)(e:D.aAD)(hz:e.sz≤34359738368):oV s e=some (dD s e):=by
 simp only[D.aAD.sz] at hz
 unfold oV dD
 rw[aB (by omega),bd_s,aB (Vb _ _),bd_s]
 generalize gX e.Boxes (mH s)=x
 obtain⟨x1,x2⟩:=x
 dsimp only
 cases x2 with
 |false=>rfl
 |true=>
  have hl:=fun h=>decode_len (b:=x1) (a:=0) (c:=2) (by omega) h
  generalize iG x1 0 2=y at hl
  obtain⟨y1,y2,y3⟩:=y
  unfold Vd
  cases y3 with
  |false=>rfl
  |true=>
   have hl':y1.length=2:=hl rfl
   obtain⟨a,c,rfl⟩:∃a c,y1=[a,c]:=by
    match y1,hl' with
    |[a,c],_=>exact⟨a,c,rfl⟩
   have e0:aT [a,c] 0=some a:=rfl
   have e1:aT [a,c] 1=some c:=rfl
   simp only[e0,e1,bd_s,Bool.not_true,cond_false,Bool.false_or]
   cases(y2 !=(x1.length:Int))<;>cases ha:(a !=e.Epoch)<;>cases hc:dG c<;>simp[ha,hc]
theorem Iw (s:D.aAH)(e:D.aAD)(hz:e.sz≤34359738368):pG s e=some (dD s e):=by
 simp only[D.aAD.sz] at hz
 unfold pG dD
 rw[aB (by simp),bd_s,aB (by omega),bd_s,aB (Vb _ _),show aY s.Seed [181]=mH s from rfl]
 generalize gX e.Boxes (mH s)=x
 obtain⟨x1,x2⟩:=x
 dsimp only
 cases x2 with
 |false=>rfl
 |true=>
  have hl:=fun h=>decode_len (b:=x1) (a:=0) (c:=2) (by omega) h
  generalize iG x1 0 2=y at hl
  obtain⟨y1,y2,y3⟩:=y
  unfold Vd
  cases y3 with
  |false=>rfl
  |true=>
   have hl':y1.length=2:=hl rfl
   obtain⟨a,c,rfl⟩:∃a c,y1=[a,c]:=by
    match y1,hl' with
    |[a,c],_=>exact⟨a,c,rfl⟩
   have e0:aT [a,c] 0=some a:=rfl
   have e1:aT [a,c] 1=some c:=rfl
   simp only[e0,e1,bd_s,Bool.not_true,cond_false,Bool.false_or]
   cases(y2 !=(x1.length:Int))<;>cases ha:(a !=e.Epoch)<;>cases hc:dG c<;>simp[ha,hc]
end
end Go.VK
