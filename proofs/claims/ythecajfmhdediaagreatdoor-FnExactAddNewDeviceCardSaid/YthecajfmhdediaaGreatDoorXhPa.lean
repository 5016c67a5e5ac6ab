import Derived.Test.YthecajfmhdediaaGreatDoorXhM
/- Printed by wip/tools: models, walks, proofs. -/
set_option linter.unusedVariables false
set_option linter.unusedSimpArgs false
set_option maxRecDepth 100000
set_option maxHeartbeats 4000000
namespace Go.VK
open Go.RowKit Go.Proofs
noncomputable section
open EV (bX)
theorem bAl (a b c:Int):aJk a b c=some (dI a b c):=by
 unfold aJk dI
 show bd (bif decide (b≤a) then some (decide (a≤c)) else some false) _=_
 cases decide (b≤a)<;>rfl
theorem aPs (a b c:Int):Pz a b c=some (dI a b c):=by
 unfold Pz dI
 cases decide (b≤a)<;>rfl
theorem bCa (p q:Int):aO0 p q=some (rA p q):=by
 unfold aO0
 by_cases h:1≤q∧q≤1000000000000
 ·simp[dI,h.1,h.2,aD (show q≠0 by omega),bJ9 h]
 ·rw[bFt h]
  rcases(show q<1∨q>1000000000000 by omega) with h|h
  ·simp[dI,show ¬1≤q by omega]
  ·simp[dI,show ¬q≤1000000000000 by omega]
theorem bCb (p q:Int):aO4 p q=some (rA p q):=by
 unfold aO4
 simp only[bd_bb]
 by_cases h:1≤q∧q≤1000000000000
 ·rw[aD (by omega)]
  by_cases ht:p.tmod q<0
  ·simp[h,ht,show ¬q<1 by omega,show ¬q>1000000000000 by omega,bJ7 h ht]
   rw[IntKind.wrap_i64];have:=Ez (p:=p) (q:=q) h.1;omega
  ·simp[h,ht,show ¬q<1 by omega,show ¬q>1000000000000 by omega,bJ8 h ht]
 ·rw[bFt h]
  rcases(show q<1∨q>1000000000000 by omega) with h|h<;>simp[h]
theorem aPt:((2147483647:Int)≠0)=True:=by simp
theorem bAm (l:List Int)(h:l.length≤1099511627776):aJl l=some (Bb l):=by
 unfold aJl
 rw[fJ (l:=l) hstep (fun _ _=>True) (fun s=>some s) (by omega) trivial (fun _ _ _ _=>trivial) (fun rec i s hi _=>by
  simp only[bH hi,cond_true,aH hi,bd_s,aPt,gd_T];rfl) (fun rec s _=>by simp only[bJ,cond_false])]
 rfl
theorem bAn (l:List Int)(h:l.length≤1099511627776):aJm l=some (Bb l):=by
 unfold aJm
 rw[fJ (l:=l) hstep (fun _ _=>True) (fun s=>some s) (by omega) trivial (fun _ _ _ _=>trivial) (fun rec i s hi _=>by
  simp only[bH hi,cond_true,aH hi,bd_s,aPt,gd_T];rfl) (fun rec s _=>by simp only[bJ,cond_false])]
 rfl
theorem aFe (k:Int)(l:List Int)(h:l.length≤34359738368):Ch k l=some (eQ k l):=by
 unfold Ch
 rw[aD (by simp[bI];omega),aD (by simp[bI];omega),aD (by simp;omega)]
 simp[eQ]
theorem Ze {α:Type}{r:List (List α)}{i:Nat}(hi:i<r.length):(r.take (i+1)).flatten=(r.take i).flatten++r[i]:=by
 rw[List.take_add_one,List.getElem?_eq_getElem hi,List.flatten_append]
 simp only[Option.toList_some,List.flatten_cons,List.flatten_nil,List.append_nil]
theorem aT1 (a:List Int)(r:List (List Int))(h:vP a r):Yy a r=some (nO a r):=by
 unfold Yy
 have hs:∀i,(r.take i).flatten.length≤r.flatten.length:=fun i=>by
  conv=>rhs;rw[←List.take_append_drop i r,List.flatten_append,List.length_append]
  omega
 rw[aD (by simp[bI];omega),fJ (l:=r) (fun s x=>s++x) (fun i s=>s=a++(r.take i).flatten) (fun s=>some s) (by omega) (by simp)
  (fun i s hi hv=>by rw[hv,Ze hi,List.append_assoc])
  (fun rec i s hi hv=>by
   have e:=Ze hi
   have h1:=hs (i+1)
   rw[e,List.length_append] at h1
   simp only[bH hi,cond_true,aH hi,bd_s]
   rw[aD (by unfold bI;rw[hv,List.length_append];omega)]) (fun rec s _=>by simp only[bJ,cond_false])]
 have:r.foldl (fun s x=>s++x) ([]++a)=a++r.flatten:=by rw[List.nil_append,aD8 (f:=fun x:List Int=>x)];simp
 rw[this];rfl
theorem aFf (k:Int)(l:List Int)(h:l.length≤34359738368):Cw k l=some (eQ k l):=by
 unfold Cw
 rw[aD (by unfold vP;simp;omega),bd_s,aD (by simp[nO];omega)]
 simp[eQ,nO]
theorem bCc (a b:Int):aO1 a b=some (bBx a b):=by simp[aO1,bBx]
theorem aX7 (n:Int):aAi n=some (Ga n):=by simp[aAi,Ga]
theorem aFg (k:Int)(l:List Int)(h:l.length≤34359738300):Cj k l=some (dD k l):=by
 unfold Cj
 rw[aD (by simp[bI];omega),aD (by simp;omega),bd_s,aZu (nN _ _).1];rfl
theorem aFh (k:Int)(l:List Int)(h:l.length≤34359738300):Df k l=some (dD k l):=by
 unfold Df
 rw[aD (by simp[vP];omega),bd_s,aD (by simp[nO];omega)]
 simp[dD,nO]
theorem aAt (n:Int):aAf n=some (dY n):=rfl
theorem aAu (n:Int):aAh n=some (dY n):=rfl
theorem aFi (n:Int):Ce n=some (fT n):=by unfold Ce fT;cases dY n<;>rfl
theorem aFj (n:Int):Dh n=some (fT n):=by unfold Dh fT;cases dY n<;>rfl
theorem aFk (s:D.aAI):Ck s=some (mQ s):=by unfold Ck;rw[aD (by simp)];rfl
theorem Uv (s:D.aAI):Uc s=some (dV s):=rfl
theorem Uw (s:D.aAI):tY s=some (dV s):=by unfold tY;rw[aD (by simp)];rfl
theorem aT2 (l:List Int)(x:Int)(h:l.length≤1099511627776):Yq l x=some (jW l x):=by
 unfold Yq
 rw[mP (l:=l) (fun e=>e==x) (.inl true) (.inr ()) (by omega) (fun rec i hi=>by simp only[bH hi,cond_true,aH hi,bd_s]) (fun rec=>by simp only[bJ,cond_false])]
 unfold jW;cases l.any _<;>rfl
theorem bCd (l:List Int)(x:Int)(h:l.length≤1099511627776):aO3 l x=some (jW l x):=by
 unfold aO3
 rw[mP (l:=l) (fun e=>e==x) (.inl true) (.inr ()) (by omega) (fun rec i hi=>by simp only[bH hi,cond_true,aH hi,bd_s]) (fun rec=>by simp only[bJ,cond_false])]
 unfold jW;cases l.any _<;>rfl
theorem aX8 (s:List Int)(x:Int):jW s x=s.contains x:=by
 unfold jW
 rw[List.contains_eq_any_beq];congr 1;funext e;exact Bool.beq_comm
theorem aWj {s:List Int}{e:D.aAB}(h:(e.Kind==1)=true):lM s e=bif !jW s e.Device then s++[e.Device] else s:=by
 unfold lM;rw[h,aX8];cases s.contains e.Device<;>rfl
theorem aWk {s:List Int}{e:D.aAB}(h:(e.Kind==1)=false):lM s e=bif e.Kind==2 then s.filter (fun d=>d !=e.Device) else s:=by
 unfold lM;rw[h];rfl
theorem aFl (l:List D.aAB)(h:l.length≤34359738368):Cf l=some (aL l):=by
 unfold Cf
 rw[fJ (l:=l) lM (fun i s=>s.length≤i) (fun s=>some s) (by omega) (by simp) (fun i s hi hv=>by have:=aJf s l[i];omega)
  (fun rec i s hi hv=>by
   simp only[bH hi,cond_true,aH hi,bd_s]
   rw[aD (by omega)]
   have hf:∀x:Int,bX (α:=List Int) FUEL (fun rec8 (i8:(List Int×Nat))=>bif (decide ((↑i8.2:Int)<(↑s.length:Int))) then(bd (bd (aP s (↑i8.2:Int)) fun(z10:(Int))=>bif (z10 !=x) then(bd (aP s (↑i8.2:Int)) fun(z11:(Int))=>gd (bI i8.1 [z11]) (some (i8.1++[z11]))) else(some (i8.1))) fun(z9:(List Int))=>rec8 ((z9,(i8.2+1)))) else(some (i8.1))) ([],0)=some (s.filter fun d=>d !=x):=fun x=>by
    rw[fJ (l:=s) (fun q y=>bif y !=x then q++[y] else q) (fun i q=>q.length≤i) (fun q=>some q) (by omega) (by simp) (fun i q hi hv=>by cases(s[i] !=x)<;>simp<;>omega)
     (fun rec i q hi hv=>by
      simp only[bH hi,cond_true,aH hi,bd_s]
      rw[aD (by unfold bI;simp;omega)]
      cases(s[i] !=x)<;>rfl) (fun rec q _=>by simp only[bJ,cond_false]),Fb]
    simp
   rw[hf]
   cases h1:(l[i].Kind==1) with
   |true=>
    have h2:(l[i].Kind==2)=false:=by simp at h1 ⊢;omega
    rw[aWj h1,h2]
    rw[aD (by unfold bI;simp;omega)]
    cases jW s l[i].Device<;>rfl
   |false=>
    rw[aWk h1,aD (by unfold bI;simp;omega)]
    cases(l[i].Kind==2)<;>rfl) (fun rec s _=>by simp only[bJ,cond_false])]
 rfl
theorem aFm (l:List D.aAB)(h:l.length≤34359738368):Ct l=some (aL l):=by
 unfold Ct
 rw[fJ (l:=l) lM (fun i s=>s.length≤i) (fun s=>some s) (by omega) (by simp) (fun i s hi hv=>by have:=aJf s l[i];omega)
  (fun rec i s hi hv=>by
   simp only[bH hi,cond_true,aH hi,bd_s]
   rw[aD (by omega)]
   have hf:∀x:Int,bX (α:=List Int) FUEL (fun rec5 (i5:(List Int×Nat))=>bif (decide ((↑i5.2:Int)<(↑s.length:Int))) then(bd (bd (aP s (↑i5.2:Int)) fun(z7:(Int))=>bif (z7 !=x) then(gd (bI i5.1 [z7]) (some (i5.1++[z7]))) else(some (i5.1))) fun(z6:(List Int))=>rec5 ((z6,(i5.2+1)))) else(some (i5.1))) ([],0)=some (s.filter fun d=>d !=x):=fun x=>by
    rw[fJ (l:=s) (fun q y=>bif y !=x then q++[y] else q) (fun i q=>q.length≤i) (fun q=>some q) (by omega) (by simp) (fun i q hi hv=>by cases(s[i] !=x)<;>simp<;>omega)
     (fun rec i q hi hv=>by
      simp only[bH hi,cond_true,aH hi,bd_s]
      rw[aD (by unfold bI;simp;omega)]
      cases(s[i] !=x)<;>rfl) (fun rec q _=>by simp only[bJ,cond_false]),Fb]
    simp
   rw[hf]
   cases h1:(l[i].Kind==1) with
   |true=>
    rw[aWj h1,aD (by unfold bI;simp;omega)]
    cases jW s l[i].Device<;>rfl
   |false=>
    rw[aWk h1]
    cases(l[i].Kind==2)<;>rfl) (fun rec s _=>by simp only[bJ,cond_false])]
 rfl
theorem aFn (w:D.World)(d:Int):Cy w d=some (bK w d):=by
 unfold Cy bK
 show bd (bif decide (0≤d) then _ else _) _=_
 cases decide (0≤d)<;>rfl
end
end Go.VK
