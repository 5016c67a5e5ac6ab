import Derived.Test.YtehmmnigkcmhoaaGreatDoorXmM
/- Printed by wip/tools: models, walks, proofs. -/
set_option linter.unusedVariables false
set_option linter.unusedSimpArgs false
set_option maxRecDepth 100000
set_option maxHeartbeats 4000000
namespace Go.VK
open Go.RowKit Go.Proofs
noncomputable section
open EV (cB)
theorem aRd (a b c:Int):aBx a b c=some (cZ a b c):=by
 unfold aBx cZ
 show bd (bif decide (b≤a) then some (decide (a≤c)) else some false) _=_
 cases decide (b≤a)<;>rfl
theorem aHi (a b c:Int):Jp a b c=some (cZ a b c):=by
 unfold Jp cZ
 cases decide (b≤a)<;>rfl
theorem aSt (p q:Int):aGr p q=some (bW p q):=by
 unfold aGr
 by_cases h:1≤q∧q≤1000000000000
 ·simp[cZ,h.1,h.2,aG (show q≠0 by omega),bAq h]
 ·rw[aV5 h]
  rcases(show q<1∨q>1000000000000 by omega) with h|h
  ·simp[cZ,show ¬1≤q by omega]
  ·simp[cZ,show ¬q≤1000000000000 by omega]
theorem aSu (p q:Int):aGv p q=some (bW p q):=by
 unfold aGv
 simp only[bd_bb]
 by_cases h:1≤q∧q≤1000000000000
 ·rw[aG (by omega)]
  by_cases ht:p.tmod q<0
  ·simp[h,ht,show ¬q<1 by omega,show ¬q>1000000000000 by omega,bAo h ht]
   rw[IntKind.wrap_i64];have:=jF (p:=p) (q:=q) h.1;omega
  ·simp[h,ht,show ¬q<1 by omega,show ¬q>1000000000000 by omega,bAp h ht]
 ·rw[aV5 h]
  rcases(show q<1∨q>1000000000000 by omega) with h|h<;>simp[h]
theorem aHj:((2147483647:Int)≠0)=True:=by simp
theorem aRe (l:List Int)(h:l.length≤1099511627776):aBy l=some (wP l):=by
 unfold aBy
 rw[kX (l:=l) hstep (fun _ _=>True) (fun s=>some s) (by omega) trivial (fun _ _ _ _=>trivial) (fun rec i s hi _=>by
  simp only[bH hi,cond_true,aD hi,bd_s,aHj,gd_T];rfl) (fun rec s _=>by simp only[bI,cond_false])]
 rfl
theorem aRf (l:List Int)(h:l.length≤1099511627776):aBz l=some (wP l):=by
 unfold aBz
 rw[kX (l:=l) hstep (fun _ _=>True) (fun s=>some s) (by omega) trivial (fun _ _ _ _=>trivial) (fun rec i s hi _=>by
  simp only[bH hi,cond_true,aD hi,bd_s,aHj,gd_T];rfl) (fun rec s _=>by simp only[bI,cond_false])]
 rfl
theorem N9 (k:Int)(l:List Int)(h:l.length≤34359738368):xP k l=some (fI k l):=by
 unfold xP
 rw[aG (by simp[bO];omega),aG (by simp[bO];omega),aG (by simp;omega)]
 simp[fI]
theorem Qz {α:Type}{r:List (List α)}{i:Nat}(hi:i<r.length):(r.take (i+1)).flatten=(r.take i).flatten++r[i]:=by
 rw[List.take_add_one,List.getElem?_eq_getElem hi,List.flatten_append]
 simp only[Option.toList_some,List.flatten_cons,List.flatten_nil,List.append_nil]
theorem aK9 (a:List Int)(r:List (List Int))(h:Hy a r):Qs a r=some (wY a r):=by
 unfold Qs
 have hs:∀i,(r.take i).flatten.length≤r.flatten.length:=fun i=>by
  conv=>rhs;rw[←List.take_append_drop i r,List.flatten_append,List.length_append]
  omega
 rw[aG (by simp[bO];omega),kX (l:=r) (fun s x=>s++x) (fun i s=>s=a++(r.take i).flatten) (fun s=>some s) (by omega) (by simp)
  (fun i s hi hv=>by rw[hv,Qz hi,List.append_assoc])
  (fun rec i s hi hv=>by
   have e:=Qz hi
   have h1:=hs (i+1)
   rw[e,List.length_append] at h1
   simp only[bH hi,cond_true,aD hi,bd_s]
   rw[aG (by unfold bO;rw[hv,List.length_append];omega)]) (fun rec s _=>by simp only[bI,cond_false])]
 have:r.foldl (fun s x=>s++x) ([]++a)=a++r.flatten:=by rw[List.nil_append,I4 (f:=fun x:List Int=>x)];simp
 rw[this];rfl
theorem O0 (k:Int)(l:List Int)(h:l.length≤34359738368):yF k l=some (fI k l):=by
 unfold yF
 rw[aG (by unfold Hy;simp;omega),bd_s,aG (by simp[wY];omega)]
 simp[fI,wY]
theorem aSv (a b:Int):aGs a b=some (aQ4 a b):=by simp[aGs,aQ4]
theorem aO9 (n:Int):Xl n=some (wH n):=by simp[Xl,wH]
theorem O1 (k:Int)(l:List Int)(h:l.length≤34359738300):xR k l=some (lF k l):=by
 unfold xR
 rw[aG (by simp[bO];omega),aG (by simp;omega),bd_s,aXn (Xa _ _).1];rfl
theorem O3 (k:Int)(l:List Int)(h:l.length≤34359738300):yH k l=some (lF k l):=by
 unfold yH
 rw[aG (by simp[Hy];omega),bd_s,aG (by simp[wY];omega)]
 simp[lF,wY]
theorem Xx (n:Int):Xj n=some (mK n):=rfl
theorem Xy (n:Int):Xk n=some (mK n):=rfl
theorem O4 (n:Int):xM n=some (Mw n):=by unfold xM Mw;cases mK n<;>rfl
theorem aLa (l:List Int)(x:Int)(h:l.length≤1099511627776):Qq l x=some (jD l x):=by
 unfold Qq
 rw[kK (l:=l) (fun e=>e==x) (.inl true) (.inr ()) (by omega) (fun rec i hi=>by simp only[bH hi,cond_true,aD hi,bd_s]) (fun rec=>by simp only[bI,cond_false])]
 unfold jD;cases l.any _<;>rfl
theorem aSw (l:List Int)(x:Int)(h:l.length≤1099511627776):aGu l x=some (jD l x):=by
 unfold aGu
 rw[kK (l:=l) (fun e=>e==x) (.inl true) (.inr ()) (by omega) (fun rec i hi=>by simp only[bH hi,cond_true,aD hi,bd_s]) (fun rec=>by simp only[bI,cond_false])]
 unfold jD;cases l.any _<;>rfl
theorem aPa (s:List Int)(x:Int):jD s x=s.contains x:=by
 unfold jD
 rw[List.contains_eq_any_beq];congr 1;funext e;exact Bool.beq_comm
theorem aNn {s:List Int}{e:D.aAD}(h:(e.Kind==1)=true):jS s e=bif !jD s e.Device then s++[e.Device] else s:=by
 unfold jS;rw[h,aPa];cases s.contains e.Device<;>rfl
theorem aNo {s:List Int}{e:D.aAD}(h:(e.Kind==1)=false):jS s e=bif e.Kind==2 then s.filter (fun d=>d !=e.Device) else s:=by
 unfold jS;rw[h];rfl
theorem O5 (l:List D.aAD)(h:l.length≤34359738368):xN l=some (bF l):=by
 unfold xN
 rw[kX (l:=l) jS (fun i s=>s.length≤i) (fun s=>some s) (by omega) (by simp) (fun i s hi hv=>by have:=aBu s l[i];omega)
  (fun rec i s hi hv=>by
   simp only[bH hi,cond_true,aD hi,bd_s]
   rw[aG (by omega)]
   have hf:∀x:Int,cB (α:=List Int) FUEL (fun rec8 (i8:(List Int×Nat))=>bif (decide ((↑i8.2:Int)<(↑s.length:Int))) then(bd (bd (aV s (↑i8.2:Int)) fun(z10:(Int))=>bif (z10 !=x) then(bd (aV s (↑i8.2:Int)) fun(z11:(Int))=>gd (bO i8.1 [z11]) (some (i8.1++[z11]))) else(some (i8.1))) fun(z9:(List Int))=>rec8 ((z9,(i8.2+1)))) else(some (i8.1))) ([],0)=some (s.filter fun d=>d !=x):=fun x=>by
    rw[kX (l:=s) (fun q y=>bif y !=x then q++[y] else q) (fun i q=>q.length≤i) (fun q=>some q) (by omega) (by simp) (fun i q hi hv=>by cases(s[i] !=x)<;>simp<;>omega)
     (fun rec i q hi hv=>by
      simp only[bH hi,cond_true,aD hi,bd_s]
      rw[aG (by unfold bO;simp;omega)]
      cases(s[i] !=x)<;>rfl) (fun rec q _=>by simp only[bI,cond_false]),zQ]
    simp
   rw[hf]
   cases h1:(l[i].Kind==1) with
   |true=>
    have h2:(l[i].Kind==2)=false:=by simp at h1 ⊢;omega
    rw[aNn h1,h2]
    rw[aG (by unfold bO;simp;omega)]
    cases jD s l[i].Device<;>rfl
   |false=>
    rw[aNo h1,aG (by unfold bO;simp;omega)]
    cases(l[i].Kind==2)<;>rfl) (fun rec s _=>by simp only[bI,cond_false])]
 rfl
theorem O6 (l:List D.aAD)(h:l.length≤34359738368):yD l=some (bF l):=by
 unfold yD
 rw[kX (l:=l) jS (fun i s=>s.length≤i) (fun s=>some s) (by omega) (by simp) (fun i s hi hv=>by have:=aBu s l[i];omega)
  (fun rec i s hi hv=>by
   simp only[bH hi,cond_true,aD hi,bd_s]
   rw[aG (by omega)]
   have hf:∀x:Int,cB (α:=List Int) FUEL (fun rec5 (i5:(List Int×Nat))=>bif (decide ((↑i5.2:Int)<(↑s.length:Int))) then(bd (bd (aV s (↑i5.2:Int)) fun(z7:(Int))=>bif (z7 !=x) then(gd (bO i5.1 [z7]) (some (i5.1++[z7]))) else(some (i5.1))) fun(z6:(List Int))=>rec5 ((z6,(i5.2+1)))) else(some (i5.1))) ([],0)=some (s.filter fun d=>d !=x):=fun x=>by
    rw[kX (l:=s) (fun q y=>bif y !=x then q++[y] else q) (fun i q=>q.length≤i) (fun q=>some q) (by omega) (by simp) (fun i q hi hv=>by cases(s[i] !=x)<;>simp<;>omega)
     (fun rec i q hi hv=>by
      simp only[bH hi,cond_true,aD hi,bd_s]
      rw[aG (by unfold bO;simp;omega)]
      cases(s[i] !=x)<;>rfl) (fun rec q _=>by simp only[bI,cond_false]),zQ]
    simp
   rw[hf]
   cases h1:(l[i].Kind==1) with
   |true=>
    rw[aNn h1,aG (by unfold bO;simp;omega)]
    cases jD s l[i].Device<;>rfl
   |false=>
    rw[aNo h1]
    cases(l[i].Kind==2)<;>rfl) (fun rec s _=>by simp only[bI,cond_false])]
 rfl
end
end Go.VK
