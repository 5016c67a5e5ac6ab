import Derived.Test.YtehmmnigkcmhoaaGreatDoorXmM
/- Printed by wip/tools: models, walks, proofs. -/
set_option linter.unusedVariables false
set_option linter.unusedSimpArgs false
set_option maxRecDepth 100000
set_option maxHeartbeats 4000000
namespace Go.VK
open Go.RowKit Go.Proofs
noncomputable section
open EV (cB)
theorem aRn (a b c:Int):aB3 a b c=some (cZ a b c):=by
 unfold aB3 cZ
 show bd (bif decide (b≤a) then some (decide (a≤c)) else some false) _=_
 cases decide (b≤a)<;>rfl
theorem aHr (a b c:Int):Jr a b c=some (cZ a b c):=by
 unfold Jr cZ
 cases decide (b≤a)<;>rfl
theorem aS2 (p q:Int):aG0 p q=some (bU p q):=by
 unfold aG0
 by_cases h:1≤q∧q≤1000000000000
 ·simp[cZ,h.1,h.2,aG (show q≠0 by omega),bA2 h]
 ·rw[aWf h]
  rcases(show q<1∨q>1000000000000 by omega) with h|h
  ·simp[cZ,show ¬1≤q by omega]
  ·simp[cZ,show ¬q≤1000000000000 by omega]
theorem aS3 (p q:Int):aG4 p q=some (bU p q):=by
 unfold aG4
 simp only[bd_bb]
 by_cases h:1≤q∧q≤1000000000000
 ·rw[aG (by omega)]
  by_cases ht:p.tmod q<0
  ·simp[h,ht,show ¬q<1 by omega,show ¬q>1000000000000 by omega,bA0 h ht]
   rw[IntKind.wrap_i64];have:=jF (p:=p) (q:=q) h.1;omega
  ·simp[h,ht,show ¬q<1 by omega,show ¬q>1000000000000 by omega,bA1 h ht]
 ·rw[aWf h]
  rcases(show q<1∨q>1000000000000 by omega) with h|h<;>simp[h]
theorem aHs:((2147483647:Int)≠0)=True:=by simp
theorem aRo (l:List Int)(h:l.length≤1099511627776):aB4 l=some (wT l):=by
 unfold aB4
 rw[kX (l:=l) hstep (fun _ _=>True) (fun s=>some s) (by omega) trivial (fun _ _ _ _=>trivial) (fun rec i s hi _=>by
  simp only[bG hi,cond_true,aD hi,bd_s,aHs,gd_T];rfl) (fun rec s _=>by simp only[bH,cond_false])]
 rfl
theorem aRp (l:List Int)(h:l.length≤1099511627776):aB5 l=some (wT l):=by
 unfold aB5
 rw[kX (l:=l) hstep (fun _ _=>True) (fun s=>some s) (by omega) trivial (fun _ _ _ _=>trivial) (fun rec i s hi _=>by
  simp only[bG hi,cond_true,aD hi,bd_s,aHs,gd_T];rfl) (fun rec s _=>by simp only[bH,cond_false])]
 rfl
theorem O6 (k:Int)(l:List Int)(h:l.length≤34359738368):xU k l=some (fI k l):=by
 unfold xU
 rw[aG (by simp[bL];omega),aG (by simp[bL];omega),aG (by simp;omega)]
 simp[fI]
theorem Rb {α:Type}{r:List (List α)}{i:Nat}(hi:i<r.length):(r.take (i+1)).flatten=(r.take i).flatten++r[i]:=by
 rw[List.take_add_one,List.getElem?_eq_getElem hi,List.flatten_append]
 simp only[Option.toList_some,List.flatten_cons,List.flatten_nil,List.append_nil]
theorem aLi (a:List Int)(r:List (List Int))(h:Ia a r):Qu a r=some (xC a r):=by
 unfold Qu
 have hs:∀i,(r.take i).flatten.length≤r.flatten.length:=fun i=>by
  conv=>rhs;rw[←List.take_append_drop i r,List.flatten_append,List.length_append]
  omega
 rw[aG (by simp[bL];omega),kX (l:=r) (fun s x=>s++x) (fun i s=>s=a++(r.take i).flatten) (fun s=>some s) (by omega) (by simp)
  (fun i s hi hv=>by rw[hv,Rb hi,List.append_assoc])
  (fun rec i s hi hv=>by
   have e:=Rb hi
   have h1:=hs (i+1)
   rw[e,List.length_append] at h1
   simp only[bG hi,cond_true,aD hi,bd_s]
   rw[aG (by unfold bL;rw[hv,List.length_append];omega)]) (fun rec s _=>by simp only[bH,cond_false])]
 have:r.foldl (fun s x=>s++x) ([]++a)=a++r.flatten:=by rw[List.nil_append,J3 (f:=fun x:List Int=>x)];simp
 rw[this];rfl
theorem O7 (k:Int)(l:List Int)(h:l.length≤34359738368):yJ k l=some (fI k l):=by
 unfold yJ
 rw[aG (by unfold Ia;simp;omega),bd_s,aG (by simp[xC];omega)]
 simp[fI,xC]
theorem aS4 (a b:Int):aG1 a b=some (aRe a b):=by simp[aG1,aRe]
theorem aPj (n:Int):Xm n=some (wG n):=by simp[Xm,wG]
theorem O8 (k:Int)(l:List Int)(h:l.length≤34359738300):xW k l=some (lF k l):=by
 unfold xW
 rw[aG (by simp[bL];omega),aG (by simp;omega),bd_s,aXx (Xb _ _).1];rfl
theorem O9 (k:Int)(l:List Int)(h:l.length≤34359738300):yL k l=some (lF k l):=by
 unfold yL
 rw[aG (by simp[Ia];omega),bd_s,aG (by simp[xC];omega)]
 simp[lF,xC]
theorem Xy (n:Int):Xk n=some (mK n):=rfl
theorem Xz (n:Int):Xl n=some (mK n):=rfl
theorem P5 (n:Int):xQ n=some (Na n):=by unfold xQ Na;cases mK n<;>rfl
theorem aLj (l:List Int)(x:Int)(h:l.length≤1099511627776):Qs l x=some (jD l x):=by
 unfold Qs
 rw[kK (l:=l) (fun e=>e==x) (.inl true) (.inr ()) (by omega) (fun rec i hi=>by simp only[bG hi,cond_true,aD hi,bd_s]) (fun rec=>by simp only[bH,cond_false])]
 unfold jD;cases l.any _<;>rfl
theorem aS5 (l:List Int)(x:Int)(h:l.length≤1099511627776):aG3 l x=some (jD l x):=by
 unfold aG3
 rw[kK (l:=l) (fun e=>e==x) (.inl true) (.inr ()) (by omega) (fun rec i hi=>by simp only[bG hi,cond_true,aD hi,bd_s]) (fun rec=>by simp only[bH,cond_false])]
 unfold jD;cases l.any _<;>rfl
theorem aPk (s:List Int)(x:Int):jD s x=s.contains x:=by
 unfold jD
 rw[List.contains_eq_any_beq];congr 1;funext e;exact Bool.beq_comm
theorem aNy {s:List Int}{e:D.aAD}(h:(e.Kind==1)=true):jQ s e=bif !jD s e.Device then s++[e.Device] else s:=by
 unfold jQ;rw[h,aPk];cases s.contains e.Device<;>rfl
theorem aNz {s:List Int}{e:D.aAD}(h:(e.Kind==1)=false):jQ s e=bif e.Kind==2 then s.filter (fun d=>d !=e.Device) else s:=by
 unfold jQ;rw[h];rfl
theorem P6 (l:List D.aAD)(h:l.length≤34359738368):xR l=some (bF l):=by
 unfold xR
 rw[kX (l:=l) jQ (fun i s=>s.length≤i) (fun s=>some s) (by omega) (by simp) (fun i s hi hv=>by have:=aB0 s l[i];omega)
  (fun rec i s hi hv=>by
   simp only[bG hi,cond_true,aD hi,bd_s]
   rw[aG (by omega)]
   have hf:∀x:Int,cB (α:=List Int) FUEL (fun rec8 (i8:(List Int×Nat))=>bif (decide ((↑i8.2:Int)<(↑s.length:Int))) then(bd (bd (aV s (↑i8.2:Int)) fun(z10:(Int))=>bif (z10 !=x) then(bd (aV s (↑i8.2:Int)) fun(z11:(Int))=>gd (bL i8.1 [z11]) (some (i8.1++[z11]))) else(some (i8.1))) fun(z9:(List Int))=>rec8 ((z9,(i8.2+1)))) else(some (i8.1))) ([],0)=some (s.filter fun d=>d !=x):=fun x=>by
    rw[kX (l:=s) (fun q y=>bif y !=x then q++[y] else q) (fun i q=>q.length≤i) (fun q=>some q) (by omega) (by simp) (fun i q hi hv=>by cases(s[i] !=x)<;>simp<;>omega)
     (fun rec i q hi hv=>by
      simp only[bG hi,cond_true,aD hi,bd_s]
      rw[aG (by unfold bL;simp;omega)]
      cases(s[i] !=x)<;>rfl) (fun rec q _=>by simp only[bH,cond_false]),zU]
    simp
   rw[hf]
   cases h1:(l[i].Kind==1) with
   |true=>
    have h2:(l[i].Kind==2)=false:=by simp at h1 ⊢;omega
    rw[aNy h1,h2]
    rw[aG (by unfold bL;simp;omega)]
    cases jD s l[i].Device<;>rfl
   |false=>
    rw[aNz h1,aG (by unfold bL;simp;omega)]
    cases(l[i].Kind==2)<;>rfl) (fun rec s _=>by simp only[bH,cond_false])]
 rfl
theorem P7 (l:List D.aAD)(h:l.length≤34359738368):yH l=some (bF l):=by
 unfold yH
 rw[kX (l:=l) jQ (fun i s=>s.length≤i) (fun s=>some s) (by omega) (by simp) (fun i s hi hv=>by have:=aB0 s l[i];omega)
  (fun rec i s hi hv=>by
   simp only[bG hi,cond_true,aD hi,bd_s]
   rw[aG (by omega)]
   have hf:∀x:Int,cB (α:=List Int) FUEL (fun rec5 (i5:(List Int×Nat))=>bif (decide ((↑i5.2:Int)<(↑s.length:Int))) then(bd (bd (aV s (↑i5.2:Int)) fun(z7:(Int))=>bif (z7 !=x) then(gd (bL i5.1 [z7]) (some (i5.1++[z7]))) else(some (i5.1))) fun(z6:(List Int))=>rec5 ((z6,(i5.2+1)))) else(some (i5.1))) ([],0)=some (s.filter fun d=>d !=x):=fun x=>by
    rw[kX (l:=s) (fun q y=>bif y !=x then q++[y] else q) (fun i q=>q.length≤i) (fun q=>some q) (by omega) (by simp) (fun i q hi hv=>by cases(s[i] !=x)<;>simp<;>omega)
     (fun rec i q hi hv=>by
      simp only[bG hi,cond_true,aD hi,bd_s]
      rw[aG (by unfold bL;simp;omega)]
      cases(s[i] !=x)<;>rfl) (fun rec q _=>by simp only[bH,cond_false]),zU]
    simp
   rw[hf]
   cases h1:(l[i].Kind==1) with
   |true=>
    rw[aNy h1,aG (by unfold bL;simp;omega)]
    cases jD s l[i].Device<;>rfl
   |false=>
    rw[aNz h1]
    cases(l[i].Kind==2)<;>rfl) (fun rec s _=>by simp only[bH,cond_false])]
 rfl
end
end Go.VK
