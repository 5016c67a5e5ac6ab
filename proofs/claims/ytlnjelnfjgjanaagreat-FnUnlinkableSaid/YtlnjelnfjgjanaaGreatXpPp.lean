import Derived.Test.YtlnjelnfjgjanaaGreatXpPo
import Derived.Test.YtlnjelnfjgjanaaGreatXpM
/- Printed by wip/tools: models, walks, proofs. -/
set_option linter.unusedVariables false
set_option linter.unusedSimpArgs false
set_option maxRecDepth 100000
set_option maxHeartbeats 4000000
namespace Go.VK
open Go.RowKit Go.Proofs
noncomputable section
open EV (bT)
theorem bBn {a b:List D.aAC}(ha:a.length≤34359738368){F:(Nat→Option (Bool⊕PUnit))→Nat→Option (Bool⊕PUnit)}
  (hF:∀rec i (hi:i<b.length) (hj:i<a.length),F rec i=bif !bDj a[i] b[i] then some (.inl false) else rec (i+1)) (hE:∀rec,F rec b.length=some (.inr ())):
  (bif decide ((a.length:Int)<(b.length:Int)) then some false else nx (bT FUEL F 0) fun _=>some true)=some (dX a b):=by
 unfold dX
 by_cases h:b.length≤a.length
 ·rw[decide_eq_false (show ¬(a.length:Int)<(b.length:Int) by omega),cond_false,decide_eq_true h,Bool.true_and,
   kU (l:=b) (fun i e=> !bDj (a.getD i default) e) (.inl false) (.inr ()) (by omega) (fun rec i hi=>by
    rw[hF rec i hi (by omega),List.getD,List.getElem?_eq_getElem (show i<a.length by omega)];rfl) hE]
  cases gB (fun i e=> !bDj (a.getD i default) e) 0 b<;>rfl
 ·rw[decide_eq_true (show(a.length:Int)<(b.length:Int) by omega),decide_eq_false h];rfl
theorem Za (a b:List D.aAC)(h:a.length≤34359738368):yE a b=some (dX a b):=by
 unfold yE
 exact bBn h (fun rec i hi hj=>by simp only[dQ hi,cond_true,aM hi,aM hj,bd_s];rfl) (fun rec=>by simp only[dS,cond_false])
theorem U2 (k:Int)(b:D.aAD)(h:b.Data.length≤34359738200):Bi k b=some (oD k b):=by
 unfold Bi oD
 rw[aB (by omega),bd_s,aB (by simp[aS,Tq];omega),aB (by simp[Tq];omega)];rfl
theorem aCk (k e v:Int):Fh k e v=some (bM k&&(bF e 0 1000000&&bF v 0 1000000)):=by
 unfold Fh
 cases bM k<;>cases bF e 0 1000000<;>rfl
theorem aJp (k e v:Int):Rv k e v=some (oF k e v):=by unfold Rv;rw[aB (by simp)];rfl
theorem Zb (b:List Int)(c:Int)(hc:c≤100){F:(Int×List Int×Nat→Option ((List Int×Int×Bool)⊕(Int×List Int)))→Int×List Int×Nat→Option ((List Int×Int×Bool)⊕(Int×List Int))}
  (hF:∀rec (a:Int) (s:List Int) (i:Nat),s.length≤34359738368→F rec (a,s,i)=bif decide ((i:Int)<c) then(bif !(Ea b a).2.2 then some (.inl ([],0,false)) else rec ((Ea b a).2.1,s++[(Ea b a).1],i+1)) else some (.inr (a,s))):
  ∀(k i:Nat) (a:Int) (s:List Int) (f:Nat),((i+k:Nat):Int)=c→k<f→s.length≤i→nx (bT f F (a,s,i)) (fun z=>some (z.2,z.1,true))=some (jO b k a s)
 |0,i,a,s,f+1,hk,hf,hs=>by
  rw[gU,hF _ _ _ _ (by omega),show decide ((i:Int)<c)=false from decide_eq_false (by omega)];rfl
 |k+1,i,a,s,f+1,hk,hf,hs=>by
  rw[gU,hF _ _ _ _ (by omega),show decide ((i:Int)<c)=true from decide_eq_true (by omega),cond_true]
  unfold jO
  cases(Ea b a).2.2 with
  |false=>rfl
  |true=>
   simp only[Bool.not_true,cond_false,cond_true]
   exact Zb b c hc hF k (i+1) _ _ f (by omega) (by omega) (by simp;omega)
theorem Zc (b:List Int)(a c:Int)(hb:bB b):yH b a c=some (mV b a c):=by
 unfold yH mV
 cases h1:bF c 0 100 with
 |false=>rfl
 |true=>
  cases h2:bF a 0 b.length with
  |false=>rfl
  |true=>
   have:=kJ h1
   simp only[Bool.not_true,cond_false,bd_s,Bool.or_self]
   exact Zb b c (by omega) (fun rec a s i hs=>by simp only[aB hb,bd_s,gT hs]) c.toNat 0 a [] FUEL (by omega) (by have:=gY;omega) (by simp)
theorem wT (b:List Int)(hb:bB b)(a:Int)(ha:0≤a){F:(Int×Nat→Option ((Int×Int×Bool)⊕PUnit))→Int×Nat→Option ((Int×Int×Bool)⊕PUnit)}
  (hF:∀rec (n:Int) (i:Nat),F rec (n,i)=bif decide ((i:Int)<6) then(bd (bif decide (a<0) then some true else some (decide (a≥IntKind.i64.wrap ((b.length:Int)-(i:Int))))) fun c=>bif c then some (.inl (0,0,false)) else bd (bA b (IntKind.i64.wrap (a+(i:Int)))) fun z=>gd ((0:Int)≤IntKind.i64.wrap (7*(i:Int))) (bif decide (IntKind.i64.wrap z<128) then(bd (bif IntKind.i64.wrap z==0 then(bif decide ((i:Int)>0) then some true else some (decide (orI .i64 n (Ww .i64 (lD .i64 (IntKind.i64.wrap z) 127) (IntKind.i64.wrap (7*(i:Int))))>1000000000000))) else some (decide (orI .i64 n (Ww .i64 (lD .i64 (IntKind.i64.wrap z) 127) (IntKind.i64.wrap (7*(i:Int))))>1000000000000))) fun c=>bif c then some (.inl (0,0,false)) else some (.inl (orI .i64 n (Ww .i64 (lD .i64 (IntKind.i64.wrap z) 127) (IntKind.i64.wrap (7*(i:Int)))),IntKind.i64.wrap (IntKind.i64.wrap (a+(i:Int))+1),true))) else rec (orI .i64 n (Ww .i64 (lD .i64 (IntKind.i64.wrap z) 127) (IntKind.i64.wrap (7*(i:Int)))),i+1))) else some (.inr ())):
  ∀(k i:Nat) (n:Int) (f:Nat),i+k=6→k<f→0≤n→n<128^i→nx (bT f F (n,i)) (fun _=>some ((0:Int),(0:Int),false))=some (uvG b a.toNat k i n)
 |0,i,n,f+1,hk,hf,h0,h1=>by
  rw[gU,hF,show decide ((i:Int)<6)=false from decide_eq_false (by omega)];rfl
 |k+1,i,n,f+1,hk,hf,h0,h1=>by
  have hlen:=hb.1
  rw[gU,hF,show decide ((i:Int)<6)=true from decide_eq_true (by omega),cond_true,Ap,bd_s]
  rw[show IntKind.i64.wrap ((b.length:Int)-(i:Int))=(b.length:Int)-(i:Int) from aG (by omega) (by omega),show decide (a<0)=false from decide_eq_false (by omega),Bool.false_or]
  unfold uvG
  by_cases hlt:a.toNat+i<b.length
  ·have hz:=Ik hb hlt
   have hg:b.getD (a.toNat+i) 0=b[a.toNat+i]:=by simp[List.getD,List.getElem?_eq_getElem hlt]
   have hwa:IntKind.i64.wrap (a+(i:Int))=((a.toNat+i:Nat):Int):=by rw[aG (by omega) (by omega)];omega
   rw[if_pos hlt,hg,hwa,aM hlt]
   generalize b[a.toNat+i]=z at hz
   rw[show decide (a≥(b.length:Int)-(i:Int))=false from decide_eq_false (by omega)]
   have hs:=aUj (z:=z) (n:=n) (i:=i) (by omega) hz.1 h0 h1
   have hwz:IntKind.i64.wrap z=z:=aG (by omega) (by omega)
   have ho:=bDb (z:=z) (n:=n) (i:=i) (by omega) hz.1 hz.2 h0 h1
   have hw3:IntKind.i64.wrap (((a.toNat+i:Nat):Int)+1)=((a.toNat+i+1:Nat):Int):=by rw[aG (by omega) (by omega)];omega
   have h7:0≤IntKind.i64.wrap ((7:Int)*(i:Int)):=by rw[aG (by omega) (by omega)];omega
   simp only[cond_false,bd_s,hwz,ho,hw3]
   rw[aB h7]
   by_cases h128:z<128
   ·simp only[h128,decide_true,cond_true]
    have e:(decide ((i:Int)>0))=decide (0<i):=decide_eq_decide.2 (by omega)
    rw[e]
    cases decide (0<i)<;>cases(z==0)<;>cases decide (n+z%128*128^i>1000000000000)<;>rfl
   ·simp only[h128,decide_false,cond_false]
    exact wT b hb a ha hF k (i+1) _ f (by omega) (by omega) hs.1 hs.2.1
  ·rw[if_neg hlt,show decide (a≥(b.length:Int)-(i:Int))=true from decide_eq_true (by omega)];rfl
theorem Ui (b:List Int)(a:Int)(hb:bB b):wK b a=some (Ea b a):=by
 unfold wK Ea
 have hf:=gY
 by_cases h0:a<0
 ·rw[if_pos h0]
  obtain⟨f,hf'⟩:∃f,FUEL=f+1:=⟨FUEL-1,by omega⟩
  rw[hf',gU]
  simp[h0,nx]
 ·rw[if_neg h0]
  exact wT b hb a (by omega) (fun rec n i=>rfl) 6 0 0 FUEL rfl (by omega) (by omega) (by decide)
theorem Gj (s:D.aAI)(e:D.aAH)(hz:e.sz≤34359738368):pW s e=some (cO s e):=by
 simp only[D.aAH.sz] at hz
 unfold pW cO
 rw[aB (by omega),bd_s,aB (aFb _ _),bd_s]
 generalize jW e.Boxes (iA s)=x
 obtain⟨x1,x2⟩:=x
 dsimp only
 cases x2 with
 |false=>rfl
 |true=>
  have hl:=fun h=>decode_len (b:=x1) (a:=0) (c:=2) (by omega) h
  generalize mV x1 0 2=y at hl
  obtain⟨y1,y2,y3⟩:=y
  unfold aFc
  cases y3 with
  |false=>rfl
  |true=>
   have hl':y1.length=2:=hl rfl
   obtain⟨a,c,rfl⟩:∃a c,y1=[a,c]:=by
    match y1,hl' with
    |[a,c],_=>exact⟨a,c,rfl⟩
   have e0:bA [a,c] 0=some a:=rfl
   have e1:bA [a,c] 1=some c:=rfl
   simp only[e0,e1,bd_s,Bool.not_true,cond_false,Bool.false_or]
   cases(y2 !=(x1.length:Int))<;>cases ha:(a !=e.Epoch)<;>cases hc:bM c<;>simp[ha,hc]
end
end Go.VK
