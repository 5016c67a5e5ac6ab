import Derived.Test.YthecajfmhdediaaGreatDoorXhPo
import Derived.Test.YthecajfmhdediaaGreatDoorXhQ
/- Printed by wip/tools: models, walks, proofs. -/
set_option linter.unusedVariables false
set_option linter.unusedSimpArgs false
set_option maxRecDepth 100000
set_option maxHeartbeats 4000000
namespace Go.VK
open Go.RowKit Go.Proofs
noncomputable section
open EV (bX)
theorem bAq {a b:List D.aAB}(ha:a.length≤34359738368){F:(Nat→Option (Bool⊕PUnit))→Nat→Option (Bool⊕PUnit)}
  (hF:∀rec i (hi:i<b.length) (hj:i<a.length),F rec i=bif !bI5 a[i] b[i] then some (.inl false) else rec (i+1)) (hE:∀rec,F rec b.length=some (.inr ())):
  (bif decide ((a.length:Int)<(b.length:Int)) then some false else nx (bX FUEL F 0) fun _=>some true)=some (fM a b):=by
 unfold fM
 by_cases h:b.length≤a.length
 ·rw[decide_eq_false (show ¬(a.length:Int)<(b.length:Int) by omega),cond_false,decide_eq_true h,Bool.true_and,
   iL (l:=b) (fun i e=> !bI5 (a.getD i default) e) (.inl false) (.inr ()) (by omega) (fun rec i hi=>by
    rw[hF rec i hi (by omega),List.getD,List.getElem?_eq_getElem (show i<a.length by omega)];rfl) hE]
  cases kI (fun i e=> !bI5 (a.getD i default) e) 0 b<;>rfl
 ·rw[decide_eq_true (show(a.length:Int)<(b.length:Int) by omega),decide_eq_false h];rfl
theorem aA2 (a b:List D.aAB)(h:a.length≤34359738368):yT a b=some (fM a b):=by
 unfold yT
 exact bAq h (fun rec i hi hj=>by simp only[bH hi,cond_true,aH hi,aH hj,bd_s];rfl) (fun rec=>by simp only[bJ,cond_false])
theorem aA3 (a b:List D.aAB)(h:a.length≤34359738368):zO a b=some (fM a b):=by
 unfold zO
 exact bAq h (fun rec i hi hj=>by simp only[bH hi,cond_true,aH hi,aH hj,bd_s];rfl) (fun rec=>by simp only[bJ,cond_false])
theorem aF0 (k:Int)(b:D.aAA)(h:b.Data.length≤34359738200):Cm k b=some (iP k b):=by
 unfold Cm iP
 rw[aD (by omega),bd_s,aD (by simp[bI,sK];omega),aD (by simp[sK];omega)];rfl
theorem aF1 (k:Int)(b:D.aAA)(h:b.Data.length≤34359738200):Di k b=some (iP k b):=by
 unfold Di iP
 rw[aD (by omega),bd_s,aD (by simp[vP,sK];omega),bd_s,aD (by simp[sK,nO];omega)]
 simp[nO]
theorem aK5 (k e v:Int):Je k e v=some (dY k&&(dI e 0 1000000&&dI v 0 1000000)):=by
 unfold Je
 cases dY k<;>cases dI e 0 1000000<;>rfl
theorem aUc (k e v:Int):Yu k e v=some (lC k e v):=by unfold Yu;rw[aD (by simp)];rfl
theorem xM (b:List Int)(hb:bA b)(p:Nat)(hp:p≤34359738368){F:(Int×Int×Nat→Option ((Int×Int×Bool)⊕PUnit))→Int×Int×Nat→Option ((Int×Int×Bool)⊕PUnit)}
  (hF:∀rec (n q:Int) (i:Nat),F rec (n,q,i)=bif decide ((i:Int)<6) then(bif decide (IntKind.i64.wrap ((p:Int)+(i:Int))≥(b.length:Int)) then some (.inl (0,0,false)) else bd (aP b (IntKind.i64.wrap ((p:Int)+(i:Int)))) fun z=>gd ((128:Int)≠0) (bif decide (IntKind.i64.wrap z<128) then(bd (bif decide ((i:Int)>0) then(bif IntKind.i64.wrap z==0 then some true else some (decide (IntKind.i64.wrap (n+IntKind.i64.wrap ((IntKind.i64.wrap z).tmod 128*q))>1000000000000))) else some (decide (IntKind.i64.wrap (n+IntKind.i64.wrap ((IntKind.i64.wrap z).tmod 128*q))>1000000000000))) fun c=>bif c then some (.inl (0,0,false)) else some (.inl (IntKind.i64.wrap (n+IntKind.i64.wrap ((IntKind.i64.wrap z).tmod 128*q)),IntKind.i64.wrap (IntKind.i64.wrap ((p:Int)+(i:Int))+1),true))) else rec (IntKind.i64.wrap (n+IntKind.i64.wrap ((IntKind.i64.wrap z).tmod 128*q)),IntKind.i64.wrap (q*128),i+1))) else some (.inr ())):
  ∀(k i:Nat) (n:Int) (f:Nat),i+k=6→k<f→0≤n→n<128^i→nx (bX f F (n,(128:Int)^i,i)) (fun _=>some ((0:Int),(0:Int),false))=some (uvG b p k i n)
 |0,i,n,f+1,hk,hf,h0,h1=>by
  rw[iW,hF,show decide ((i:Int)<6)=false from decide_eq_false (by omega)];rfl
 |k+1,i,n,f+1,hk,hf,h0,h1=>by
  have hp128:=aXo (i:=i) (by omega)
  rw[iW,hF,show decide ((i:Int)<6)=true from decide_eq_true (by omega),cond_true]
  rw[show IntKind.i64.wrap ((p:Int)+(i:Int))=((p+i:Nat):Int) by rw[aR (by omega) (by omega)];omega]
  unfold uvG
  by_cases hlt:p+i<b.length
  ·have hz:=rF hb hlt
   have hg:b.getD (p+i) 0=b[p+i]:=by simp[List.getD,List.getElem?_eq_getElem hlt]
   rw[if_pos hlt,hg,aH hlt]
   generalize b[p+i]=z at hz
   rw[show decide (((p+i:Nat):Int)≥(b.length:Int))=false from decide_eq_false (by omega)]
   have hs:=aXp (z:=z) (n:=n) (i:=i) (by omega) hz.1 h0 h1
   have hwz:IntKind.i64.wrap z=z:=aR (by omega) (by omega)
   have htm:z.tmod 128=z%128:=Int.tmod_eq_emod_of_nonneg hz.1
   have hw1:IntKind.i64.wrap (z%128*128^i)=z%128*128^i:=aR (by omega) (by omega)
   have hp6:=aXo (i:=i+1) (by omega)
   have hw2:IntKind.i64.wrap (n+z%128*128^i)=n+z%128*128^i:=aR (by omega) (by omega)
   have hw3:IntKind.i64.wrap (((p+i:Nat):Int)+1)=((p+i+1:Nat):Int):=by rw[aR (by omega) (by omega)];omega
   have hw4:IntKind.i64.wrap ((128:Int)^i*128)=128^(i+1):=by rw[←Int.pow_succ,aR (by omega) (by omega)]
   have h128n:((128:Int)≠0)=True:=by simp
   simp only[cond_false,bd_s,hwz,htm,hw1,hw2,hw3,hw4,h128n,gd_T]
   by_cases h128:z<128
   ·simp only[h128,decide_true,cond_true]
    have e:(decide ((i:Int)>0))=decide (0<i):=decide_eq_decide.2 (by omega)
    rw[e]
    cases decide (0<i)<;>cases(z==0)<;>cases decide (n+z%128*128^i>1000000000000)<;>rfl
   ·simp only[h128,decide_false,cond_false]
    exact xM b hb p hp hF k (i+1) _ f (by omega) (by omega) hs.1 hs.2.1
  ·rw[if_neg hlt,show decide (((p+i:Nat):Int)≥(b.length:Int))=true from decide_eq_true (by omega)];rfl
theorem G8 (b:List Int)(a:Int)(hb:bA b):wR b a=some (yG b a):=by
 unfold wR yG
 have hf:=gN
 have hlen:=hb.1
 rw[sS,bd_s]
 by_cases h0:a<0
 ·simp[h0]
 ·rw[if_neg h0,decide_eq_false h0,Bool.false_or]
  by_cases h1:a≥b.length
  ·rw[decide_eq_true h1]
   unfold uvG
   rw[if_neg (by omega)]
   rfl
  ·rw[decide_eq_false h1,cond_false]
   obtain⟨p,rfl⟩:=Int.eq_ofNat_of_zero_le (show 0≤a by omega)
   exact xM b hb p (by omega) (fun rec n q i=>rfl) 6 0 0 FUEL rfl (by omega) (by omega) (by decide)
theorem Gt (b:List Int)(c:Int)(hc:c≤100){F:(Int×List Int×Nat→Option ((List Int×Int×Bool)⊕(Int×List Int)))→Int×List Int×Nat→Option ((List Int×Int×Bool)⊕(Int×List Int))}
  (hF:∀rec (a:Int) (s:List Int) (i:Nat),s.length≤34359738368→F rec (a,s,i)=bif decide ((i:Int)<c) then(bif !(yG b a).2.2 then some (.inl ([],0,false)) else rec ((yG b a).2.1,s++[(yG b a).1],i+1)) else some (.inr (a,s))):
  ∀(k i:Nat) (a:Int) (s:List Int) (f:Nat),((i+k:Nat):Int)=c→k<f→s.length≤i→nx (bX f F (a,s,i)) (fun z=>some (z.2,z.1,true))=some (jT b k a s)
 |0,i,a,s,f+1,hk,hf,hs=>by
  rw[iW,hF _ _ _ _ (by omega),show decide ((i:Int)<c)=false from decide_eq_false (by omega)];rfl
 |k+1,i,a,s,f+1,hk,hf,hs=>by
  rw[iW,hF _ _ _ _ (by omega),show decide ((i:Int)<c)=true from decide_eq_true (by omega),cond_true]
  unfold jT
  cases(yG b a).2.2 with
  |false=>rfl
  |true=>
   simp only[Bool.not_true,cond_false,cond_true]
   exact Gt b c hc hF k (i+1) _ _ f (by omega) (by omega) (by simp;omega)
theorem aA4 (b:List Int)(a c:Int)(hb:bA b):zP b a c=some (iR b a c):=by
 unfold zP iR dI
 by_cases h1:c<0
 ·simp[h1,show ¬0≤c by omega]
 ·by_cases h2:c>100
  ·simp[h1,h2,show ¬c≤100 by omega]
  ·by_cases h3:a<0
   ·simp[h1,h2,h3,show ¬0≤a by omega]
   ·by_cases h4:a>b.length
    ·simp[h1,h2,h3,h4,show ¬a≤b.length by omega]
    ·simp only[h1,h2,h3,h4,decide_false,cond_false,bd_s,show 0≤c by omega,show c≤100 by omega,show 0≤a by omega,show a≤b.length by omega,decide_true,Bool.and_true,Bool.not_true,Bool.or_self,cond_false]
     exact Gt b c (by omega) (fun rec a s i hs=>by simp only[aD hb,bd_s,eT hs]) c.toNat 0 a [] FUEL (by omega) (by have:=gN;omega) (by simp)
theorem aA5 (b:List Int)(a c:Int)(hb:bA b):yU b a c=some (iR b a c):=by
 unfold yU iR
 cases h1:dI c 0 100 with
 |false=>rfl
 |true=>
  cases h2:dI a 0 b.length with
  |false=>rfl
  |true=>
   have:=aNc h1
   simp only[Bool.not_true,cond_false,bd_s,Bool.or_self]
   exact Gt b c (by omega) (fun rec a s i hs=>by simp only[aD hb,bd_s,eT hs]) c.toNat 0 a [] FUEL (by omega) (by have:=gN;omega) (by simp)
theorem xN (b:List Int)(hb:bA b)(a:Int)(ha:0≤a){F:(Int×Nat→Option ((Int×Int×Bool)⊕PUnit))→Int×Nat→Option ((Int×Int×Bool)⊕PUnit)}
  (hF:∀rec (n:Int) (i:Nat),F rec (n,i)=bif decide ((i:Int)<6) then(bd (bif decide (a<0) then some true else some (decide (a≥IntKind.i64.wrap ((b.length:Int)-(i:Int))))) fun c=>bif c then some (.inl (0,0,false)) else bd (aP b (IntKind.i64.wrap (a+(i:Int)))) fun z=>gd ((0:Int)≤IntKind.i64.wrap (7*(i:Int))) (bif decide (IntKind.i64.wrap z<128) then(bd (bif IntKind.i64.wrap z==0 then(bif decide ((i:Int)>0) then some true else some (decide (orI .i64 n (W9 .i64 (yI .i64 (IntKind.i64.wrap z) 127) (IntKind.i64.wrap (7*(i:Int))))>1000000000000))) else some (decide (orI .i64 n (W9 .i64 (yI .i64 (IntKind.i64.wrap z) 127) (IntKind.i64.wrap (7*(i:Int))))>1000000000000))) fun c=>bif c then some (.inl (0,0,false)) else some (.inl (orI .i64 n (W9 .i64 (yI .i64 (IntKind.i64.wrap z) 127) (IntKind.i64.wrap (7*(i:Int)))),IntKind.i64.wrap (IntKind.i64.wrap (a+(i:Int))+1),true))) else rec (orI .i64 n (W9 .i64 (yI .i64 (IntKind.i64.wrap z) 127) (IntKind.i64.wrap (7*(i:Int)))),i+1))) else some (.inr ())):
  ∀(k i:Nat) (n:Int) (f:Nat),i+k=6→k<f→0≤n→n<128^i→nx (bX f F (n,i)) (fun _=>some ((0:Int),(0:Int),false))=some (uvG b a.toNat k i n)
 |0,i,n,f+1,hk,hf,h0,h1=>by
  rw[iW,hF,show decide ((i:Int)<6)=false from decide_eq_false (by omega)];rfl
 |k+1,i,n,f+1,hk,hf,h0,h1=>by
  have hlen:=hb.1
  rw[iW,hF,show decide ((i:Int)<6)=true from decide_eq_true (by omega),cond_true,sS,bd_s]
  rw[show IntKind.i64.wrap ((b.length:Int)-(i:Int))=(b.length:Int)-(i:Int) from aR (by omega) (by omega),show decide (a<0)=false from decide_eq_false (by omega),Bool.false_or]
  unfold uvG
  by_cases hlt:a.toNat+i<b.length
  ·have hz:=rF hb hlt
   have hg:b.getD (a.toNat+i) 0=b[a.toNat+i]:=by simp[List.getD,List.getElem?_eq_getElem hlt]
   have hwa:IntKind.i64.wrap (a+(i:Int))=((a.toNat+i:Nat):Int):=by rw[aR (by omega) (by omega)];omega
   rw[if_pos hlt,hg,hwa,aH hlt]
   generalize b[a.toNat+i]=z at hz
   rw[show decide (a≥(b.length:Int)-(i:Int))=false from decide_eq_false (by omega)]
   have hs:=aXp (z:=z) (n:=n) (i:=i) (by omega) hz.1 h0 h1
   have hwz:IntKind.i64.wrap z=z:=aR (by omega) (by omega)
   have ho:=bIy (z:=z) (n:=n) (i:=i) (by omega) hz.1 hz.2 h0 h1
   have hw3:IntKind.i64.wrap (((a.toNat+i:Nat):Int)+1)=((a.toNat+i+1:Nat):Int):=by rw[aR (by omega) (by omega)];omega
   have h7:0≤IntKind.i64.wrap ((7:Int)*(i:Int)):=by rw[aR (by omega) (by omega)];omega
   simp only[cond_false,bd_s,hwz,ho,hw3]
   rw[aD h7]
   by_cases h128:z<128
   ·simp only[h128,decide_true,cond_true]
    have e:(decide ((i:Int)>0))=decide (0<i):=decide_eq_decide.2 (by omega)
    rw[e]
    cases decide (0<i)<;>cases(z==0)<;>cases decide (n+z%128*128^i>1000000000000)<;>rfl
   ·simp only[h128,decide_false,cond_false]
    exact xN b hb a ha hF k (i+1) _ f (by omega) (by omega) hs.1 hs.2.1
  ·rw[if_neg hlt,show decide (a≥(b.length:Int)-(i:Int))=true from decide_eq_true (by omega)];rfl
theorem G9 (b:List Int)(a:Int)(hb:bA b):wC b a=some (yG b a):=by
 unfold wC yG
 have hf:=gN
 by_cases h0:a<0
 ·rw[if_pos h0]
  obtain⟨f,hf'⟩:∃f,FUEL=f+1:=⟨FUEL-1,by omega⟩
  rw[hf',iW]
  simp[h0,nx]
 ·rw[if_neg h0]
  exact xN b hb a (by omega) (fun rec n i=>rfl) 6 0 0 FUEL rfl (by omega) (by omega) (by decide)
theorem Lh (s:D.aAI)(e:D.aAE)(hz:e.sz≤34359738368):pI s e=some (dK s e):=by
 simp only[D.aAE.sz] at hz
 unfold pI dK
 rw[aD (by omega),bd_s,aD (Zw _ _),bd_s]
 generalize iA e.Boxes (mQ s)=x
 obtain⟨x1,x2⟩:=x
 dsimp only
 cases x2 with
 |false=>rfl
 |true=>
  have hl:=fun h=>decode_len (b:=x1) (a:=0) (c:=2) (by omega) h
  generalize iR x1 0 2=y at hl
  obtain⟨y1,y2,y3⟩:=y
  unfold Zx
  cases y3 with
  |false=>rfl
  |true=>
   have hl':y1.length=2:=hl rfl
   obtain⟨a,c,rfl⟩:∃a c,y1=[a,c]:=by
    match y1,hl' with
    |[a,c],_=>exact⟨a,c,rfl⟩
   have e0:aP [a,c] 0=some a:=rfl
   have e1:aP [a,c] 1=some c:=rfl
   simp only[e0,e1,bd_s,Bool.not_true,cond_false,Bool.false_or]
   cases(y2 !=(x1.length:Int))<;>cases ha:(a !=e.Epoch)<;>cases hc:dY c<;>simp[ha,hc]
theorem Li (s:D.aAI)(e:D.aAE)(hz:e.sz≤34359738368):pQ s e=some (dK s e):=by
 simp only[D.aAE.sz] at hz
 unfold pQ dK
 rw[aD (by simp),bd_s,aD (by omega),bd_s,aD (Zw _ _),show dD s.Seed [181]=mQ s from rfl]
 generalize iA e.Boxes (mQ s)=x
 obtain⟨x1,x2⟩:=x
 dsimp only
 cases x2 with
 |false=>rfl
 |true=>
  have hl:=fun h=>decode_len (b:=x1) (a:=0) (c:=2) (by omega) h
  generalize iR x1 0 2=y at hl
  obtain⟨y1,y2,y3⟩:=y
  unfold Zx
  cases y3 with
  |false=>rfl
  |true=>
   have hl':y1.length=2:=hl rfl
   obtain⟨a,c,rfl⟩:∃a c,y1=[a,c]:=by
    match y1,hl' with
    |[a,c],_=>exact⟨a,c,rfl⟩
   have e0:aP [a,c] 0=some a:=rfl
   have e1:aP [a,c] 1=some c:=rfl
   simp only[e0,e1,bd_s,Bool.not_true,cond_false,Bool.false_or]
   cases(y2 !=(x1.length:Int))<;>cases ha:(a !=e.Epoch)<;>cases hc:dY c<;>simp[ha,hc]
end
end Go.VK
