import Derived.Test.YtffpnfmhcpcaaaaGreatDoorXgPo
import Derived.Test.YtffpnfmhcpcaaaaGreatDoorXgQ
/-
  Printed by wip/tools (own work of this part): models of functions, walks over the value kit, and proofs.
-/
set_option linter.unusedVariables false
set_option linter.unusedSimpArgs false
set_option maxRecDepth 100000
set_option maxHeartbeats 4000000
namespace Go.VK
open Go.RowKit Go.Proofs
noncomputable section
open EV (bW)
theorem aTu {a b:List D.LogEntry}(ha:a.length≤34359738368){F:(Nat→Option (Bool⊕PUnit))→Nat→Option (Bool⊕PUnit)}
  (hF:∀rec i (hi:i<b.length) (hj:i<a.length),F rec i=bif !bBg a[i] b[i] then some (.inl false) else rec (i+1)) (hE:∀rec,F rec b.length=some (.inr ())):
  (bif decide ((a.length:Int)<(b.length:Int)) then some false else nx (bW FUEL F 0) fun _=>some true)=some (iY a b):=by
 unfold iY
 by_cases h:b.length≤a.length
 ·rw[decide_eq_false (show ¬(a.length:Int)<(b.length:Int) by omega),cond_false,decide_eq_true h,Bool.true_and,
   gN (l:=b) (fun i e=> !bBg (a.getD i default) e) (.inl false) (.inr ()) (by omega) (fun rec i hi=>by
    rw[hF rec i hi (by omega),List.getD,List.getElem?_eq_getElem (show i<a.length by omega)];rfl) hE]
  cases kF (fun i e=> !bBg (a.getD i default) e) 0 b<;>rfl
 ·rw[decide_eq_true (show(a.length:Int)<(b.length:Int) by omega),decide_eq_false h];rfl
theorem D6 (a b:List D.LogEntry)(h:a.length≤34359738368):vW a b=some (iY a b):=by
 unfold vW
 exact aTu h (fun rec i hi hj=>by simp only[bD hi,cond_true,aG hi,aG hj,bd_s];rfl) (fun rec=>by simp only[bE,cond_false])
theorem D7 (a b:List D.LogEntry)(h:a.length≤34359738368):wK a b=some (iY a b):=by
 unfold wK
 exact aTu h (fun rec i hi hj=>by simp only[bD hi,cond_true,aG hi,aG hj,bd_s];rfl) (fun rec=>by simp only[bE,cond_false])
theorem aAn (k:Int)(b:D.SealedBundle)(h:b.Data.length≤34359738200):yM k b=some (gQ k b):=by
 unfold yM gQ
 rw[aH (by omega),bd_s,aH (by simp[bO,xS];omega),aH (by simp[xS];omega)];rfl
theorem aAo (k:Int)(b:D.SealedBundle)(h:b.Data.length≤34359738200):zD k b=some (gQ k b):=by
 unfold zD gQ
 rw[aH (by omega),bd_s,aH (by simp[sH,xS];omega),bd_s,aH (by simp[xS,lI];omega)]
 simp[lI]
theorem aEw (k e v:Int):Eo k e v=some (eG k&&(dD e 0 1000000&&dD v 0 1000000)):=by
 unfold Eo
 cases eG k<;>cases dD e 0 1000000<;>rfl
theorem aNp (k e v:Int):Su k e v=some (jQ k e v):=by unfold Su;rw[aH (by simp)];rfl
theorem uL (b:List Int)(hb:bF b)(p:Nat)(hp:p≤34359738368){F:(Int×Int×Nat→Option ((Int×Int×Bool)⊕PUnit))→Int×Int×Nat→Option ((Int×Int×Bool)⊕PUnit)}
  (hF:∀rec (n q:Int) (i:Nat),F rec (n,q,i)=bif decide ((i:Int)<6) then(bif decide (IntKind.i64.wrap ((p:Int)+(i:Int))≥(b.length:Int)) then some (.inl (0,0,false)) else bd (aT b (IntKind.i64.wrap ((p:Int)+(i:Int)))) fun z=>gd ((128:Int)≠0) (bif decide (IntKind.i64.wrap z<128) then(bd (bif decide ((i:Int)>0) then(bif IntKind.i64.wrap z==0 then some true else some (decide (IntKind.i64.wrap (n+IntKind.i64.wrap ((IntKind.i64.wrap z).tmod 128*q))>1000000000000))) else some (decide (IntKind.i64.wrap (n+IntKind.i64.wrap ((IntKind.i64.wrap z).tmod 128*q))>1000000000000))) fun c=>bif c then some (.inl (0,0,false)) else some (.inl (IntKind.i64.wrap (n+IntKind.i64.wrap ((IntKind.i64.wrap z).tmod 128*q)),IntKind.i64.wrap (IntKind.i64.wrap ((p:Int)+(i:Int))+1),true))) else rec (IntKind.i64.wrap (n+IntKind.i64.wrap ((IntKind.i64.wrap z).tmod 128*q)),IntKind.i64.wrap (q*128),i+1))) else some (.inr ())):
  ∀(k i:Nat) (n:Int) (f:Nat),i+k=6→k<f→0≤n→n<128^i→nx (bW f F (n,(128:Int)^i,i)) (fun _=>some ((0:Int),(0:Int),false))=some (uvG b p k i n)
 |0,i,n,f+1,hk,hf,h0,h1=>by
  rw[kJ,hF,show decide ((i:Int)<6)=false from decide_eq_false (by omega)];rfl
 |k+1,i,n,f+1,hk,hf,h0,h1=>by
  have hp128:=aQ0 (i:=i) (by omega)
  rw[kJ,hF,show decide ((i:Int)<6)=true from decide_eq_true (by omega),cond_true]
  rw[show IntKind.i64.wrap ((p:Int)+(i:Int))=((p+i:Nat):Int) by rw[aS (by omega) (by omega)];omega]
  unfold uvG
  by_cases hlt:p+i<b.length
  ·have hz:=oJ hb hlt
   have hg:b.getD (p+i) 0=b[p+i]:=by simp[List.getD,List.getElem?_eq_getElem hlt]
   rw[if_pos hlt,hg,aG hlt]
   generalize b[p+i]=z at hz
   rw[show decide (((p+i:Nat):Int)≥(b.length:Int))=false from decide_eq_false (by omega)]
   have hs:=aQ1 (z:=z) (n:=n) (i:=i) (by omega) hz.1 h0 h1
   have hwz:IntKind.i64.wrap z=z:=aS (by omega) (by omega)
   have htm:z.tmod 128=z%128:=Int.tmod_eq_emod_of_nonneg hz.1
   have hw1:IntKind.i64.wrap (z%128*128^i)=z%128*128^i:=aS (by omega) (by omega)
   have hp6:=aQ0 (i:=i+1) (by omega)
   have hw2:IntKind.i64.wrap (n+z%128*128^i)=n+z%128*128^i:=aS (by omega) (by omega)
   have hw3:IntKind.i64.wrap (((p+i:Nat):Int)+1)=((p+i+1:Nat):Int):=by rw[aS (by omega) (by omega)];omega
   have hw4:IntKind.i64.wrap ((128:Int)^i*128)=128^(i+1):=by rw[←Int.pow_succ,aS (by omega) (by omega)]
   have h128n:((128:Int)≠0)=True:=by simp
   simp only[cond_false,bd_s,hwz,htm,hw1,hw2,hw3,hw4,h128n,gd_T]
   by_cases h128:z<128
   ·simp only[h128,decide_true,cond_true]
    have e:(decide ((i:Int)>0))=decide (0<i):=decide_eq_decide.2 (by omega)
    rw[e]
    cases decide (0<i)<;>cases(z==0)<;>cases decide (n+z%128*128^i>1000000000000)<;>rfl
   ·simp only[h128,decide_false,cond_false]
    exact uL b hb p hp hF k (i+1) _ f (by omega) (by omega) hs.1 hs.2.1
  ·rw[if_neg hlt,show decide (((p+i:Nat):Int)≥(b.length:Int))=true from decide_eq_true (by omega)];rfl
theorem Vr (b:List Int)(a:Int)(hb:bF b):tT b a=some (vE b a):=by
 unfold tT vE
 have hf:=gT
 have hlen:=hb.1
 rw[Dx,bd_s]
 by_cases h0:a<0
 ·simp[h0]
 ·rw[if_neg h0,decide_eq_false h0,Bool.false_or]
  by_cases h1:a≥b.length
  ·rw[decide_eq_true h1]
   unfold uvG
   rw[if_neg (by omega)]
   rfl
  ·rw[decide_eq_false h1,cond_false]
   obtain⟨p,rfl⟩:=Int.eq_ofNat_of_zero_le (show 0≤a by omega)
   exact uL b hb p (by omega) (fun rec n q i=>rfl) 6 0 0 FUEL rfl (by omega) (by omega) (by decide)
theorem Cm (b:List Int)(c:Int)(hc:c≤100){F:(Int×List Int×Nat→Option ((List Int×Int×Bool)⊕(Int×List Int)))→Int×List Int×Nat→Option ((List Int×Int×Bool)⊕(Int×List Int))}
  (hF:∀rec (a:Int) (s:List Int) (i:Nat),s.length≤34359738368→F rec (a,s,i)=bif decide ((i:Int)<c) then(bif !(vE b a).2.2 then some (.inl ([],0,false)) else rec ((vE b a).2.1,s++[(vE b a).1],i+1)) else some (.inr (a,s))):
  ∀(k i:Nat) (a:Int) (s:List Int) (f:Nat),((i+k:Nat):Int)=c→k<f→s.length≤i→nx (bW f F (a,s,i)) (fun z=>some (z.2,z.1,true))=some (iP b k a s)
 |0,i,a,s,f+1,hk,hf,hs=>by
  rw[kJ,hF _ _ _ _ (by omega),show decide ((i:Int)<c)=false from decide_eq_false (by omega)];rfl
 |k+1,i,a,s,f+1,hk,hf,hs=>by
  rw[kJ,hF _ _ _ _ (by omega),show decide ((i:Int)<c)=true from decide_eq_true (by omega),cond_true]
  unfold iP
  cases(vE b a).2.2 with
  |false=>rfl
  |true=>
   simp only[Bool.not_true,cond_false,cond_true]
   exact Cm b c hc hF k (i+1) _ _ f (by omega) (by omega) (by simp;omega)
theorem D8 (b:List Int)(a c:Int)(hb:bF b):wL b a c=some (gU b a c):=by
 unfold wL gU dD
 by_cases h1:c<0
 ·simp[h1,show ¬0≤c by omega]
 ·by_cases h2:c>100
  ·simp[h1,h2,show ¬c≤100 by omega]
  ·by_cases h3:a<0
   ·simp[h1,h2,h3,show ¬0≤a by omega]
   ·by_cases h4:a>b.length
    ·simp[h1,h2,h3,h4,show ¬a≤b.length by omega]
    ·simp only[h1,h2,h3,h4,decide_false,cond_false,bd_s,show 0≤c by omega,show c≤100 by omega,show 0≤a by omega,show a≤b.length by omega,decide_true,Bool.and_true,Bool.not_true,Bool.or_self,cond_false]
     exact Cm b c (by omega) (fun rec a s i hs=>by simp only[aH hb,bd_s,fM hs]) c.toNat 0 a [] FUEL (by omega) (by have:=gT;omega) (by simp)
theorem D9 (b:List Int)(a c:Int)(hb:bF b):vX b a c=some (gU b a c):=by
 unfold vX gU
 cases h1:dD c 0 100 with
 |false=>rfl
 |true=>
  cases h2:dD a 0 b.length with
  |false=>rfl
  |true=>
   have:=aGx h1
   simp only[Bool.not_true,cond_false,bd_s,Bool.or_self]
   exact Cm b c (by omega) (fun rec a s i hs=>by simp only[aH hb,bd_s,fM hs]) c.toNat 0 a [] FUEL (by omega) (by have:=gT;omega) (by simp)
theorem uM (b:List Int)(hb:bF b)(a:Int)(ha:0≤a){F:(Int×Nat→Option ((Int×Int×Bool)⊕PUnit))→Int×Nat→Option ((Int×Int×Bool)⊕PUnit)}
  (hF:∀rec (n:Int) (i:Nat),F rec (n,i)=bif decide ((i:Int)<6) then(bd (bif decide (a<0) then some true else some (decide (a≥IntKind.i64.wrap ((b.length:Int)-(i:Int))))) fun c=>bif c then some (.inl (0,0,false)) else bd (aT b (IntKind.i64.wrap (a+(i:Int)))) fun z=>gd ((0:Int)≤IntKind.i64.wrap (7*(i:Int))) (bif decide (IntKind.i64.wrap z<128) then(bd (bif IntKind.i64.wrap z==0 then(bif decide ((i:Int)>0) then some true else some (decide (orI .i64 n (Yy .i64 (vG .i64 (IntKind.i64.wrap z) 127) (IntKind.i64.wrap (7*(i:Int))))>1000000000000))) else some (decide (orI .i64 n (Yy .i64 (vG .i64 (IntKind.i64.wrap z) 127) (IntKind.i64.wrap (7*(i:Int))))>1000000000000))) fun c=>bif c then some (.inl (0,0,false)) else some (.inl (orI .i64 n (Yy .i64 (vG .i64 (IntKind.i64.wrap z) 127) (IntKind.i64.wrap (7*(i:Int)))),IntKind.i64.wrap (IntKind.i64.wrap (a+(i:Int))+1),true))) else rec (orI .i64 n (Yy .i64 (vG .i64 (IntKind.i64.wrap z) 127) (IntKind.i64.wrap (7*(i:Int)))),i+1))) else some (.inr ())):
  ∀(k i:Nat) (n:Int) (f:Nat),i+k=6→k<f→0≤n→n<128^i→nx (bW f F (n,i)) (fun _=>some ((0:Int),(0:Int),false))=some (uvG b a.toNat k i n)
 |0,i,n,f+1,hk,hf,h0,h1=>by
  rw[kJ,hF,show decide ((i:Int)<6)=false from decide_eq_false (by omega)];rfl
 |k+1,i,n,f+1,hk,hf,h0,h1=>by
  have hlen:=hb.1
  rw[kJ,hF,show decide ((i:Int)<6)=true from decide_eq_true (by omega),cond_true,Dx,bd_s]
  rw[show IntKind.i64.wrap ((b.length:Int)-(i:Int))=(b.length:Int)-(i:Int) from aS (by omega) (by omega),show decide (a<0)=false from decide_eq_false (by omega),Bool.false_or]
  unfold uvG
  by_cases hlt:a.toNat+i<b.length
  ·have hz:=oJ hb hlt
   have hg:b.getD (a.toNat+i) 0=b[a.toNat+i]:=by simp[List.getD,List.getElem?_eq_getElem hlt]
   have hwa:IntKind.i64.wrap (a+(i:Int))=((a.toNat+i:Nat):Int):=by rw[aS (by omega) (by omega)];omega
   rw[if_pos hlt,hg,hwa,aG hlt]
   generalize b[a.toNat+i]=z at hz
   rw[show decide (a≥(b.length:Int)-(i:Int))=false from decide_eq_false (by omega)]
   have hs:=aQ1 (z:=z) (n:=n) (i:=i) (by omega) hz.1 h0 h1
   have hwz:IntKind.i64.wrap z=z:=aS (by omega) (by omega)
   have ho:=bBb (z:=z) (n:=n) (i:=i) (by omega) hz.1 hz.2 h0 h1
   have hw3:IntKind.i64.wrap (((a.toNat+i:Nat):Int)+1)=((a.toNat+i+1:Nat):Int):=by rw[aS (by omega) (by omega)];omega
   have h7:0≤IntKind.i64.wrap ((7:Int)*(i:Int)):=by rw[aS (by omega) (by omega)];omega
   simp only[cond_false,bd_s,hwz,ho,hw3]
   rw[aH h7]
   by_cases h128:z<128
   ·simp only[h128,decide_true,cond_true]
    have e:(decide ((i:Int)>0))=decide (0<i):=decide_eq_decide.2 (by omega)
    rw[e]
    cases decide (0<i)<;>cases(z==0)<;>cases decide (n+z%128*128^i>1000000000000)<;>rfl
   ·simp only[h128,decide_false,cond_false]
    exact uM b hb a ha hF k (i+1) _ f (by omega) (by omega) hs.1 hs.2.1
  ·rw[if_neg hlt,show decide (a≥(b.length:Int)-(i:Int))=true from decide_eq_true (by omega)];rfl
theorem Vs (b:List Int)(a:Int)(hb:bF b):sZ b a=some (vE b a):=by
 unfold sZ vE
 have hf:=gT
 by_cases h0:a<0
 ·rw[if_pos h0]
  obtain⟨f,hf'⟩:∃f,FUEL=f+1:=⟨FUEL-1,by omega⟩
  rw[hf',kJ]
  simp[h0,nx]
 ·rw[if_neg h0]
  exact uM b hb a (by omega) (fun rec n i=>rfl) 6 0 0 FUEL rfl (by omega) (by omega) (by decide)
theorem Gm (s:D.KeyStore)(e:D.EpochBoxes)(hz:e.sz≤34359738368):mV s e=some (dA s e):=by
 simp only[D.EpochBoxes.sz] at hz
 unfold mV dA
 rw[aH (by omega),bd_s,aH (Uc _ _),bd_s]
 generalize gB e.Boxes (nW s)=x
 obtain⟨x1,x2⟩:=x
 dsimp only
 cases x2 with
 |false=>rfl
 |true=>
  have hl:=fun h=>decode_len (b:=x1) (a:=0) (c:=2) (by omega) h
  generalize gU x1 0 2=y at hl
  obtain⟨y1,y2,y3⟩:=y
  unfold Ud
  cases y3 with
  |false=>rfl
  |true=>
   have hl':y1.length=2:=hl rfl
   obtain⟨a,c,rfl⟩:∃a c,y1=[a,c]:=by
    match y1,hl' with
    |[a,c],_=>exact⟨a,c,rfl⟩
   have e0:aT [a,c] 0=some a:=rfl
   have e1:aT [a,c] 1=some c:=rfl
   simp only[e0,e1,bd_s,Bool.not_true,cond_false,Bool.false_or]
   cases(y2 !=(x1.length:Int))<;>cases ha:(a !=e.Epoch)<;>cases hc:eG c<;>simp[ha,hc]
theorem Gn (s:D.KeyStore)(e:D.EpochBoxes)(hz:e.sz≤34359738368):mZ s e=some (dA s e):=by
 simp only[D.EpochBoxes.sz] at hz
 unfold mZ dA
 rw[aH (by simp),bd_s,aH (by omega),bd_s,aH (Uc _ _),show gD s.Seed [181]=nW s from rfl]
 generalize gB e.Boxes (nW s)=x
 obtain⟨x1,x2⟩:=x
 dsimp only
 cases x2 with
 |false=>rfl
 |true=>
  have hl:=fun h=>decode_len (b:=x1) (a:=0) (c:=2) (by omega) h
  generalize gU x1 0 2=y at hl
  obtain⟨y1,y2,y3⟩:=y
  unfold Ud
  cases y3 with
  |false=>rfl
  |true=>
   have hl':y1.length=2:=hl rfl
   obtain⟨a,c,rfl⟩:∃a c,y1=[a,c]:=by
    match y1,hl' with
    |[a,c],_=>exact⟨a,c,rfl⟩
   have e0:aT [a,c] 0=some a:=rfl
   have e1:aT [a,c] 1=some c:=rfl
   simp only[e0,e1,bd_s,Bool.not_true,cond_false,Bool.false_or]
   cases(y2 !=(x1.length:Int))<;>cases ha:(a !=e.Epoch)<;>cases hc:eG c<;>simp[ha,hc]
end
end Go.VK
