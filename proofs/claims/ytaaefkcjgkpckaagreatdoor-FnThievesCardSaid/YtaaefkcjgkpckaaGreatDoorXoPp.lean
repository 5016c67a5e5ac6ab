import Derived.Test.YtaaefkcjgkpckaaGreatDoorXoPo
import Derived.Test.YtaaefkcjgkpckaaGreatDoorXoM
/- Printed by wip/tools: models, walks, proofs. -/
set_option linter.unusedVariables false
set_option linter.unusedSimpArgs false
set_option maxRecDepth 100000
set_option maxHeartbeats 4000000
namespace Go.VK
open Go.RowKit Go.Proofs
noncomputable section
open EV (dL)
theorem bBy {a b:List D.aAA}(ha:a.length≤34359738368){F:(Nat→Option (Bool⊕PUnit))→Nat→Option (Bool⊕PUnit)}
  (hF:∀rec i (hi:i<b.length) (hj:i<a.length),F rec i=bif !aW7 a[i] b[i] then some (.inl false) else rec (i+1)) (hE:∀rec,F rec b.length=some (.inr ())):
  (bif decide ((a.length:Int)<(b.length:Int)) then some false else nx (dL FUEL F 0) fun _=>some true)=some (cO a b):=by
 unfold cO
 by_cases h:b.length≤a.length
 ·rw[decide_eq_false (show ¬(a.length:Int)<(b.length:Int) by omega),cond_false,decide_eq_true h,Bool.true_and,
   jK (l:=b) (fun i e=> !aW7 (a.getD i default) e) (.inl false) (.inr ()) (by omega) (fun rec i hi=>by
    rw[hF rec i hi (by omega),List.getD,List.getElem?_eq_getElem (show i<a.length by omega)];rfl) hE]
  cases jB (fun i e=> !aW7 (a.getD i default) e) 0 b<;>rfl
 ·rw[decide_eq_true (show(a.length:Int)<(b.length:Int) by omega),decide_eq_false h];rfl
theorem Zi (a b:List D.aAA)(h:a.length≤34359738368):yE a b=some (cO a b):=by
 unfold yE
 exact bBy h (fun rec i hi hj=>by simp only[dZ hi,cond_true,aR hi,aR hj,bd_s];rfl) (fun rec=>by simp only[eD,cond_false])
theorem U5 (k:Int)(b:D.aAC)(h:b.Data.length≤34359738200):Ar k b=some (lN k b):=by
 unfold Ar lN
 rw[aG (by omega),bd_s,aG (by simp[aX,Di];omega),aG (by simp[Di];omega)];rfl
theorem aCo (k e v:Int):Fe k e v=some (bE k&&(bR e 0 1000000&&bR v 0 1000000)):=by
 unfold Fe
 cases bE k<;>cases bR e 0 1000000<;>rfl
theorem aJw (k e v:Int):Rb k e v=some (lQ k e v):=by unfold Rb;rw[aG (by simp)];rfl
theorem Zj (b:List Int)(c:Int)(hc:c≤100){F:(Int×List Int×Nat→Option ((List Int×Int×Bool)⊕(Int×List Int)))→Int×List Int×Nat→Option ((List Int×Int×Bool)⊕(Int×List Int))}
  (hF:∀rec (a:Int) (s:List Int) (i:Nat),s.length≤34359738368→F rec (a,s,i)=bif decide ((i:Int)<c) then(bif !(zM b a).2.2 then some (.inl ([],0,false)) else rec ((zM b a).2.1,s++[(zM b a).1],i+1)) else some (.inr (a,s))):
  ∀(k i:Nat) (a:Int) (s:List Int) (f:Nat),((i+k:Nat):Int)=c→k<f→s.length≤i→nx (dL f F (a,s,i)) (fun z=>some (z.2,z.1,true))=some (jR b k a s)
 |0,i,a,s,f+1,hk,hf,hs=>by
  rw[jY,hF _ _ _ _ (by omega),show decide ((i:Int)<c)=false from decide_eq_false (by omega)];rfl
 |k+1,i,a,s,f+1,hk,hf,hs=>by
  rw[jY,hF _ _ _ _ (by omega),show decide ((i:Int)<c)=true from decide_eq_true (by omega),cond_true]
  unfold jR
  cases(zM b a).2.2 with
  |false=>rfl
  |true=>
   simp only[Bool.not_true,cond_false,cond_true]
   exact Zj b c hc hF k (i+1) _ _ f (by omega) (by omega) (by simp;omega)
theorem Zk (b:List Int)(a c:Int)(hb:bF b):yH b a c=some (lD b a c):=by
 unfold yH lD
 cases h1:bR c 0 100 with
 |false=>rfl
 |true=>
  cases h2:bR a 0 b.length with
  |false=>rfl
  |true=>
   have:=gW h1
   simp only[Bool.not_true,cond_false,bd_s,Bool.or_self]
   exact Zj b c (by omega) (fun rec a s i hs=>by simp only[aG hb,bd_s,iC hs]) c.toNat 0 a [] FUEL (by omega) (by have:=jF;omega) (by simp)
theorem wW (b:List Int)(hb:bF b)(a:Int)(ha:0≤a){F:(Int×Nat→Option ((Int×Int×Bool)⊕PUnit))→Int×Nat→Option ((Int×Int×Bool)⊕PUnit)}
  (hF:∀rec (n:Int) (i:Nat),F rec (n,i)=bif decide ((i:Int)<6) then(bd (bif decide (a<0) then some true else some (decide (a≥IntKind.i64.wrap ((b.length:Int)-(i:Int))))) fun c=>bif c then some (.inl (0,0,false)) else bd (bT b (IntKind.i64.wrap (a+(i:Int)))) fun z=>gd ((0:Int)≤IntKind.i64.wrap (7*(i:Int))) (bif decide (IntKind.i64.wrap z<128) then(bd (bif IntKind.i64.wrap z==0 then(bif decide ((i:Int)>0) then some true else some (decide (orI .i64 n (Xa .i64 (uH .i64 (IntKind.i64.wrap z) 127) (IntKind.i64.wrap (7*(i:Int))))>1000000000000))) else some (decide (orI .i64 n (Xa .i64 (uH .i64 (IntKind.i64.wrap z) 127) (IntKind.i64.wrap (7*(i:Int))))>1000000000000))) fun c=>bif c then some (.inl (0,0,false)) else some (.inl (orI .i64 n (Xa .i64 (uH .i64 (IntKind.i64.wrap z) 127) (IntKind.i64.wrap (7*(i:Int)))),IntKind.i64.wrap (IntKind.i64.wrap (a+(i:Int))+1),true))) else rec (orI .i64 n (Xa .i64 (uH .i64 (IntKind.i64.wrap z) 127) (IntKind.i64.wrap (7*(i:Int)))),i+1))) else some (.inr ())):
  ∀(k i:Nat) (n:Int) (f:Nat),i+k=6→k<f→0≤n→n<128^i→nx (dL f F (n,i)) (fun _=>some ((0:Int),(0:Int),false))=some (uvG b a.toNat k i n)
 |0,i,n,f+1,hk,hf,h0,h1=>by
  rw[jY,hF,show decide ((i:Int)<6)=false from decide_eq_false (by omega)];rfl
 |k+1,i,n,f+1,hk,hf,h0,h1=>by
  have hlen:=hb.1
  rw[jY,hF,show decide ((i:Int)<6)=true from decide_eq_true (by omega),cond_true,aFe,bd_s]
  rw[show IntKind.i64.wrap ((b.length:Int)-(i:Int))=(b.length:Int)-(i:Int) from aK (by omega) (by omega),show decide (a<0)=false from decide_eq_false (by omega),Bool.false_or]
  unfold uvG
  by_cases hlt:a.toNat+i<b.length
  ·have hz:=Jh hb hlt
   have hg:b.getD (a.toNat+i) 0=b[a.toNat+i]:=by simp[List.getD,List.getElem?_eq_getElem hlt]
   have hwa:IntKind.i64.wrap (a+(i:Int))=((a.toNat+i:Nat):Int):=by rw[aK (by omega) (by omega)];omega
   rw[if_pos hlt,hg,hwa,aR hlt]
   generalize b[a.toNat+i]=z at hz
   rw[show decide (a≥(b.length:Int)-(i:Int))=false from decide_eq_false (by omega)]
   have hs:=aUv (z:=z) (n:=n) (i:=i) (by omega) hz.1 h0 h1
   have hwz:IntKind.i64.wrap z=z:=aK (by omega) (by omega)
   have ho:=bDa (z:=z) (n:=n) (i:=i) (by omega) hz.1 hz.2 h0 h1
   have hw3:IntKind.i64.wrap (((a.toNat+i:Nat):Int)+1)=((a.toNat+i+1:Nat):Int):=by rw[aK (by omega) (by omega)];omega
   have h7:0≤IntKind.i64.wrap ((7:Int)*(i:Int)):=by rw[aK (by omega) (by omega)];omega
   simp only[cond_false,bd_s,hwz,ho,hw3]
   rw[aG h7]
   by_cases h128:z<128
   ·simp only[h128,decide_true,cond_true]
    have e:(decide ((i:Int)>0))=decide (0<i):=decide_eq_decide.2 (by omega)
    rw[e]
    cases decide (0<i)<;>cases(z==0)<;>cases decide (n+z%128*128^i>1000000000000)<;>rfl
   ·simp only[h128,decide_false,cond_false]
    exact wW b hb a ha hF k (i+1) _ f (by omega) (by omega) hs.1 hs.2.1
  ·rw[if_neg hlt,show decide (a≥(b.length:Int)-(i:Int))=true from decide_eq_true (by omega)];rfl
theorem Ty (b:List Int)(a:Int)(hb:bF b):wE b a=some (zM b a):=by
 unfold wE zM
 have hf:=jF
 by_cases h0:a<0
 ·rw[if_pos h0]
  obtain⟨f,hf'⟩:∃f,FUEL=f+1:=⟨FUEL-1,by omega⟩
  rw[hf',jY]
  simp[h0,nx]
 ·rw[if_neg h0]
  exact wW b hb a (by omega) (fun rec n i=>rfl) 6 0 0 FUEL rfl (by omega) (by omega) (by decide)
theorem Gu (s:D.aAH)(e:D.aAG)(hz:e.sz≤34359738368):qA s e=some (bW s e):=by
 simp only[D.aAG.sz] at hz
 unfold qA bW
 rw[aG (by omega),bd_s,aG (aFa _ _),bd_s]
 generalize iD e.Boxes (gM s)=x
 obtain⟨x1,x2⟩:=x
 dsimp only
 cases x2 with
 |false=>rfl
 |true=>
  have hl:=fun h=>decode_len (b:=x1) (a:=0) (c:=2) (by omega) h
  generalize lD x1 0 2=y at hl
  obtain⟨y1,y2,y3⟩:=y
  unfold Sg
  cases y3 with
  |false=>rfl
  |true=>
   have hl':y1.length=2:=hl rfl
   obtain⟨a,c,rfl⟩:∃a c,y1=[a,c]:=by
    match y1,hl' with
    |[a,c],_=>exact⟨a,c,rfl⟩
   have e0:bT [a,c] 0=some a:=rfl
   have e1:bT [a,c] 1=some c:=rfl
   simp only[e0,e1,bd_s,Bool.not_true,cond_false,Bool.false_or]
   cases(y2 !=(x1.length:Int))<;>cases ha:(a !=e.Epoch)<;>cases hc:bE c<;>simp[ha,hc]
end
end Go.VK
