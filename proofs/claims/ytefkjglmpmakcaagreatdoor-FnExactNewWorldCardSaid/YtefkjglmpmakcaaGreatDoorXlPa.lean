import Derived.Test.YtefkjglmpmakcaaGreatDoorXlM
/- Printed by wip/tools: models, walks, proofs. -/
set_option linter.unusedVariables false
set_option linter.unusedSimpArgs false
set_option maxRecDepth 100000
set_option maxHeartbeats 4000000
namespace Go.VK
open Go.RowKit Go.Proofs
noncomputable section
open EV (bS)
theorem aV6 (a b c:Int):aF8 a b c=some (cK a b c):=by
 unfold aF8 cK
 show bd (bif decide (b≤a) then some (decide (a≤c)) else some false) _=_
 cases decide (b≤a)<;>rfl
theorem aL6 (a b c:Int):Mj a b c=some (cK a b c):=by
 unfold Mj cK
 cases decide (b≤a)<;>rfl
theorem aXx (p q:Int):aLq p q=some (iJ p q):=by
 unfold aLq
 by_cases h:1≤q∧q≤1000000000000
 ·simp[cK,h.1,h.2,aB (show q≠0 by omega),bGg h]
 ·rw[bBf h]
  rcases(show q<1∨q>1000000000000 by omega) with h|h
  ·simp[cK,show ¬1≤q by omega]
  ·simp[cK,show ¬q≤1000000000000 by omega]
theorem aXy (p q:Int):aLu p q=some (iJ p q):=by
 unfold aLu
 simp only[bd_bb]
 by_cases h:1≤q∧q≤1000000000000
 ·rw[aB (by omega)]
  by_cases ht:p.tmod q<0
  ·simp[h,ht,show ¬q<1 by omega,show ¬q>1000000000000 by omega,bGe h ht]
   rw[IntKind.wrap_i64];have:=Dm (p:=p) (q:=q) h.1;omega
  ·simp[h,ht,show ¬q<1 by omega,show ¬q>1000000000000 by omega,bGf h ht]
 ·rw[bBf h]
  rcases(show q<1∨q>1000000000000 by omega) with h|h<;>simp[h]
theorem aL7:((2147483647:Int)≠0)=True:=by simp
theorem aV7 (l:List Int)(h:l.length≤1099511627776):aF9 l=some (zR l):=by
 unfold aF9
 rw[fB (l:=l) hstep (fun _ _=>True) (fun s=>some s) (by omega) trivial (fun _ _ _ _=>trivial) (fun rec i s hi _=>by
  simp only[bJ hi,cond_true,aF hi,bd_s,aL7,gd_T];rfl) (fun rec s _=>by simp only[bM,cond_false])]
 rfl
theorem aV8 (l:List Int)(h:l.length≤1099511627776):aGa l=some (zR l):=by
 unfold aGa
 rw[fB (l:=l) hstep (fun _ _=>True) (fun s=>some s) (by omega) trivial (fun _ _ _ _=>trivial) (fun rec i s hi _=>by
  simp only[bJ hi,cond_true,aF hi,bd_s,aL7,gd_T];rfl) (fun rec s _=>by simp only[bM,cond_false])]
 rfl
theorem aB9 (k:Int)(l:List Int)(h:l.length≤34359738368):Aj k l=some (dH k l):=by
 unfold Aj
 rw[aB (by simp[bD];omega),aB (by simp[bD];omega),aB (by simp;omega)]
 simp[dH]
theorem Uf {α:Type}{r:List (List α)}{i:Nat}(hi:i<r.length):(r.take (i+1)).flatten=(r.take i).flatten++r[i]:=by
 rw[List.take_add_one,List.getElem?_eq_getElem hi,List.flatten_append]
 simp only[Option.toList_some,List.flatten_cons,List.flatten_nil,List.append_nil]
theorem aPl (a:List Int)(r:List (List Int))(h:uP a r):Tx a r=some (nJ a r):=by
 unfold Tx
 have hs:∀i,(r.take i).flatten.length≤r.flatten.length:=fun i=>by
  conv=>rhs;rw[←List.take_append_drop i r,List.flatten_append,List.length_append]
  omega
 rw[aB (by simp[bD];omega),fB (l:=r) (fun s x=>s++x) (fun i s=>s=a++(r.take i).flatten) (fun s=>some s) (by omega) (by simp)
  (fun i s hi hv=>by rw[hv,Uf hi,List.append_assoc])
  (fun rec i s hi hv=>by
   have e:=Uf hi
   have h1:=hs (i+1)
   rw[e,List.length_append] at h1
   simp only[bJ hi,cond_true,aF hi,bd_s]
   rw[aB (by unfold bD;rw[hv,List.length_append];omega)]) (fun rec s _=>by simp only[bM,cond_false])]
 have:r.foldl (fun s x=>s++x) ([]++a)=a++r.flatten:=by rw[List.nil_append,aBb (f:=fun x:List Int=>x)];simp
 rw[this];rfl
theorem aCa (k:Int)(l:List Int)(h:l.length≤34359738368):Bc k l=some (dH k l):=by
 unfold Bc
 rw[aB (by unfold uP;simp;omega),bd_s,aB (by simp[nJ];omega)]
 simp[dH,nJ]
theorem aXz (a b:Int):aLr a b=some (aS0 a b):=by simp[aLr,aS0]
theorem aTm (n:Int):K8 n=some (rT n):=by simp[K8,rT]
theorem aCb (k:Int)(l:List Int)(h:l.length≤34359738300):Ak k l=some (aY k l):=by
 unfold Ak
 rw[aB (by simp[bD];omega),aB (by simp;omega),bd_s,aVi (lI _ _).1];rfl
theorem aCc (k:Int)(l:List Int)(h:l.length≤34359738300):Bd k l=some (aY k l):=by
 unfold Bd
 rw[aB (by simp[uP];omega),bd_s,aB (by simp[nJ];omega)]
 simp[aY,nJ]
theorem M4 (n:Int):K6 n=some (dG n):=rfl
theorem M5 (n:Int):K7 n=some (dG n):=rfl
theorem aCd (n:Int):Ao n=some (fZ n):=by unfold Ao fZ;cases dG n<;>rfl
theorem aCe (n:Int):Be n=some (fZ n):=by unfold Be fZ;cases dG n<;>rfl
theorem aCf (s:D.aAH):Al s=some (mH s):=by unfold Al;rw[aB (by simp)];rfl
theorem Qk (s:D.aAH):Pz s=some (dY s):=rfl
theorem Ql (s:D.aAH):sJ s=some (dY s):=by unfold sJ;rw[aB (by simp)];rfl
theorem aPm (l:List Int)(x:Int)(h:l.length≤1099511627776):Tj l x=some (jP l x):=by
 unfold Tj
 rw[mG (l:=l) (fun e=>e==x) (.inl true) (.inr ()) (by omega) (fun rec i hi=>by simp only[bJ hi,cond_true,aF hi,bd_s]) (fun rec=>by simp only[bM,cond_false])]
 unfold jP;cases l.any _<;>rfl
theorem aX0 (l:List Int)(x:Int)(h:l.length≤1099511627776):aLv l x=some (jP l x):=by
 unfold aLv
 rw[mG (l:=l) (fun e=>e==x) (.inl true) (.inr ()) (by omega) (fun rec i hi=>by simp only[bJ hi,cond_true,aF hi,bd_s]) (fun rec=>by simp only[bM,cond_false])]
 unfold jP;cases l.any _<;>rfl
theorem aTn (s:List Int)(x:Int):jP s x=s.contains x:=by
 unfold jP
 rw[List.contains_eq_any_beq];congr 1;funext e;exact Bool.beq_comm
theorem aRw {s:List Int}{e:D.aAB}(h:(e.Kind==1)=true):jA s e=bif !jP s e.Device then s++[e.Device] else s:=by
 unfold jA;rw[h,aTn];cases s.contains e.Device<;>rfl
theorem aRx {s:List Int}{e:D.aAB}(h:(e.Kind==1)=false):jA s e=bif e.Kind==2 then s.filter (fun d=>d !=e.Device) else s:=by
 unfold jA;rw[h];rfl
theorem aCg (l:List D.aAB)(h:l.length≤34359738368):Aq l=some (aJ l):=by
 unfold Aq
 rw[fB (l:=l) jA (fun i s=>s.length≤i) (fun s=>some s) (by omega) (by simp) (fun i s hi hv=>by have:=aF0 s l[i];omega)
  (fun rec i s hi hv=>by
   simp only[bJ hi,cond_true,aF hi,bd_s]
   rw[aB (by omega)]
   have hf:∀x:Int,bS (α:=List Int) FUEL (fun rec8 (i8:(List Int×Nat))=>bif (decide ((↑i8.2:Int)<(↑s.length:Int))) then(bd (bd (aT s (↑i8.2:Int)) fun(z10:(Int))=>bif (z10 !=x) then(bd (aT s (↑i8.2:Int)) fun(z11:(Int))=>gd (bD i8.1 [z11]) (some (i8.1++[z11]))) else(some (i8.1))) fun(z9:(List Int))=>rec8 ((z9,(i8.2+1)))) else(some (i8.1))) ([],0)=some (s.filter fun d=>d !=x):=fun x=>by
    rw[fB (l:=s) (fun q y=>bif y !=x then q++[y] else q) (fun i q=>q.length≤i) (fun q=>some q) (by omega) (by simp) (fun i q hi hv=>by cases(s[i] !=x)<;>simp<;>omega)
     (fun rec i q hi hv=>by
      simp only[bJ hi,cond_true,aF hi,bd_s]
      rw[aB (by unfold bD;simp;omega)]
      cases(s[i] !=x)<;>rfl) (fun rec q _=>by simp only[bM,cond_false]),Dp]
    simp
   rw[hf]
   cases h1:(l[i].Kind==1) with
   |true=>
    have h2:(l[i].Kind==2)=false:=by simp at h1 ⊢;omega
    rw[aRw h1,h2]
    rw[aB (by unfold bD;simp;omega)]
    cases jP s l[i].Device<;>rfl
   |false=>
    rw[aRx h1,aB (by unfold bD;simp;omega)]
    cases(l[i].Kind==2)<;>rfl) (fun rec s _=>by simp only[bM,cond_false])]
 rfl
theorem aCh (l:List D.aAB)(h:l.length≤34359738368):Bf l=some (aJ l):=by
 unfold Bf
 rw[fB (l:=l) jA (fun i s=>s.length≤i) (fun s=>some s) (by omega) (by simp) (fun i s hi hv=>by have:=aF0 s l[i];omega)
  (fun rec i s hi hv=>by
   simp only[bJ hi,cond_true,aF hi,bd_s]
   rw[aB (by omega)]
   have hf:∀x:Int,bS (α:=List Int) FUEL (fun rec5 (i5:(List Int×Nat))=>bif (decide ((↑i5.2:Int)<(↑s.length:Int))) then(bd (bd (aT s (↑i5.2:Int)) fun(z7:(Int))=>bif (z7 !=x) then(gd (bD i5.1 [z7]) (some (i5.1++[z7]))) else(some (i5.1))) fun(z6:(List Int))=>rec5 ((z6,(i5.2+1)))) else(some (i5.1))) ([],0)=some (s.filter fun d=>d !=x):=fun x=>by
    rw[fB (l:=s) (fun q y=>bif y !=x then q++[y] else q) (fun i q=>q.length≤i) (fun q=>some q) (by omega) (by simp) (fun i q hi hv=>by cases(s[i] !=x)<;>simp<;>omega)
     (fun rec i q hi hv=>by
      simp only[bJ hi,cond_true,aF hi,bd_s]
      rw[aB (by unfold bD;simp;omega)]
      cases(s[i] !=x)<;>rfl) (fun rec q _=>by simp only[bM,cond_false]),Dp]
    simp
   rw[hf]
   cases h1:(l[i].Kind==1) with
   |true=>
    rw[aRw h1,aB (by unfold bD;simp;omega)]
    cases jP s l[i].Device<;>rfl
   |false=>
    rw[aRx h1]
    cases(l[i].Kind==2)<;>rfl) (fun rec s _=>by simp only[bM,cond_false])]
 rfl
end
end Go.VK
