import Derived.Test.YtinkjfapmhcgmaaGreatDoorXjM
/- Printed by wip/tools: models, walks, proofs. -/
set_option linter.unusedVariables false
set_option linter.unusedSimpArgs false
set_option maxRecDepth 100000
set_option maxHeartbeats 4000000
namespace Go.VK
open Go.RowKit Go.Proofs
noncomputable section
open EV (bU)
theorem bAh (a b c:Int):aIn a b c=some (dG a b c):=by
 unfold aIn dG
 show bd (bif decide (b≤a) then some (decide (a≤c)) else some false) _=_
 cases decide (b≤a)<;>rfl
theorem aOy (a b c:Int):Qd a b c=some (dG a b c):=by
 unfold Qd dG
 cases decide (b≤a)<;>rfl
theorem bB3 (p q:Int):aN6 p q=some (rH p q):=by
 unfold aN6
 by_cases h:1≤q∧q≤1000000000000
 ·simp[dG,h.1,h.2,aC (show q≠0 by omega),bKo h]
 ·rw[bFm h]
  rcases(show q<1∨q>1000000000000 by omega) with h|h
  ·simp[dG,show ¬1≤q by omega]
  ·simp[dG,show ¬q≤1000000000000 by omega]
theorem bB4 (p q:Int):aOa p q=some (rH p q):=by
 unfold aOa
 simp only[bd_bb]
 by_cases h:1≤q∧q≤1000000000000
 ·rw[aC (by omega)]
  by_cases ht:p.tmod q<0
  ·simp[h,ht,show ¬q<1 by omega,show ¬q>1000000000000 by omega,bKm h ht]
   rw[IntKind.wrap_i64];have:=Eu (p:=p) (q:=q) h.1;omega
  ·simp[h,ht,show ¬q<1 by omega,show ¬q>1000000000000 by omega,bKn h ht]
 ·rw[bFm h]
  rcases(show q<1∨q>1000000000000 by omega) with h|h<;>simp[h]
theorem aOz:((2147483647:Int)≠0)=True:=by simp
theorem bAi (l:List Int)(h:l.length≤1099511627776):aIo l=some (Ac l):=by
 unfold aIo
 rw[fK (l:=l) hstep (fun _ _=>True) (fun s=>some s) (by omega) trivial (fun _ _ _ _=>trivial) (fun rec i s hi _=>by
  simp only[bE hi,cond_true,aF hi,bd_s,aOz,gd_T];rfl) (fun rec s _=>by simp only[bF,cond_false])]
 rfl
theorem bAj (l:List Int)(h:l.length≤1099511627776):aIp l=some (Ac l):=by
 unfold aIp
 rw[fK (l:=l) hstep (fun _ _=>True) (fun s=>some s) (by omega) trivial (fun _ _ _ _=>trivial) (fun rec i s hi _=>by
  simp only[bE hi,cond_true,aF hi,bd_s,aOz,gd_T];rfl) (fun rec s _=>by simp only[bF,cond_false])]
 rfl
theorem aEi (k:Int)(l:List Int)(h:l.length≤34359738368):Bp k l=some (eP k l):=by
 unfold Bp
 rw[aC (by simp[bJ];omega),aC (by simp[bJ];omega),aC (by simp;omega)]
 simp[eP]
theorem Zb {α:Type}{r:List (List α)}{i:Nat}(hi:i<r.length):(r.take (i+1)).flatten=(r.take i).flatten++r[i]:=by
 rw[List.take_add_one,List.getElem?_eq_getElem hi,List.flatten_append]
 simp only[Option.toList_some,List.flatten_cons,List.flatten_nil,List.append_nil]
theorem aTe (a:List Int)(r:List (List Int))(h:vN a r):Yu a r=some (nQ a r):=by
 unfold Yu
 have hs:∀i,(r.take i).flatten.length≤r.flatten.length:=fun i=>by
  conv=>rhs;rw[←List.take_append_drop i r,List.flatten_append,List.length_append]
  omega
 rw[aC (by simp[bJ];omega),fK (l:=r) (fun s x=>s++x) (fun i s=>s=a++(r.take i).flatten) (fun s=>some s) (by omega) (by simp)
  (fun i s hi hv=>by rw[hv,Zb hi,List.append_assoc])
  (fun rec i s hi hv=>by
   have e:=Zb hi
   have h1:=hs (i+1)
   rw[e,List.length_append] at h1
   simp only[bE hi,cond_true,aF hi,bd_s]
   rw[aC (by unfold bJ;rw[hv,List.length_append];omega)]) (fun rec s _=>by simp only[bF,cond_false])]
 have:r.foldl (fun s x=>s++x) ([]++a)=a++r.flatten:=by rw[List.nil_append,aDd (f:=fun x:List Int=>x)];simp
 rw[this];rfl
theorem aEj (k:Int)(l:List Int)(h:l.length≤34359738368):Ci k l=some (eP k l):=by
 unfold Ci
 rw[aC (by unfold vN;simp;omega),bd_s,aC (by simp[nQ];omega)]
 simp[eP,nQ]
theorem bB5 (a b:Int):aN7 a b=some (bBq a b):=by simp[aN7,bBq]
theorem aXx (n:Int):Y4 n=some (Fv n):=by simp[Y4,Fv]
theorem aEk (k:Int)(l:List Int)(h:l.length≤34359738300):Bt k l=some (eU k l):=by
 unfold Bt
 rw[aC (by simp[bJ];omega),aC (by simp;omega),bd_s,aZs (nP _ _).1];rfl
theorem aEl (k:Int)(l:List Int)(h:l.length≤34359738300):Cm k l=some (eU k l):=by
 unfold Cm
 rw[aC (by simp[vN];omega),bd_s,aC (by simp[nQ];omega)]
 simp[eU,nQ]
theorem Z8 (n:Int):Y2 n=some (dP n):=rfl
theorem Z9 (n:Int):Y3 n=some (dP n):=rfl
theorem aEm (n:Int):Bl n=some (gV n):=by unfold Bl gV;cases dP n<;>rfl
theorem aEn (n:Int):Cn n=some (gV n):=by unfold Cn gV;cases dP n<;>rfl
theorem aEo (s:D.aAJ):Bu s=some (mQ s):=by unfold Bu;rw[aC (by simp)];rfl
theorem Uw (s:D.aAJ):Ud s=some (dB s):=rfl
theorem Ux (s:D.aAJ):uB s=some (dB s):=by unfold uB;rw[aC (by simp)];rfl
theorem aTf (l:List Int)(x:Int)(h:l.length≤1099511627776):Yk l x=some (jC l x):=by
 unfold Yk
 rw[mP (l:=l) (fun e=>e==x) (.inl true) (.inr ()) (by omega) (fun rec i hi=>by simp only[bE hi,cond_true,aF hi,bd_s]) (fun rec=>by simp only[bF,cond_false])]
 unfold jC;cases l.any _<;>rfl
theorem bB6 (l:List Int)(x:Int)(h:l.length≤1099511627776):aN9 l x=some (jC l x):=by
 unfold aN9
 rw[mP (l:=l) (fun e=>e==x) (.inl true) (.inr ()) (by omega) (fun rec i hi=>by simp only[bE hi,cond_true,aF hi,bd_s]) (fun rec=>by simp only[bF,cond_false])]
 unfold jC;cases l.any _<;>rfl
theorem aXy (s:List Int)(x:Int):jC s x=s.contains x:=by
 unfold jC
 rw[List.contains_eq_any_beq];congr 1;funext e;exact Bool.beq_comm
theorem aV5 {s:List Int}{e:D.aAB}(h:(e.Kind==1)=true):lU s e=bif !jC s e.Device then s++[e.Device] else s:=by
 unfold lU;rw[h,aXy];cases s.contains e.Device<;>rfl
theorem aV6 {s:List Int}{e:D.aAB}(h:(e.Kind==1)=false):lU s e=bif e.Kind==2 then s.filter (fun d=>d !=e.Device) else s:=by
 unfold lU;rw[h];rfl
theorem aEp (l:List D.aAB)(h:l.length≤34359738368):Bn l=some (aI l):=by
 unfold Bn
 rw[fK (l:=l) lU (fun i s=>s.length≤i) (fun s=>some s) (by omega) (by simp) (fun i s hi hv=>by have:=aIj s l[i];omega)
  (fun rec i s hi hv=>by
   simp only[bE hi,cond_true,aF hi,bd_s]
   rw[aC (by omega)]
   have hf:∀x:Int,bU (α:=List Int) FUEL (fun rec8 (i8:(List Int×Nat))=>bif (decide ((↑i8.2:Int)<(↑s.length:Int))) then(bd (bd (aL s (↑i8.2:Int)) fun(z10:(Int))=>bif (z10 !=x) then(bd (aL s (↑i8.2:Int)) fun(z11:(Int))=>gd (bJ i8.1 [z11]) (some (i8.1++[z11]))) else(some (i8.1))) fun(z9:(List Int))=>rec8 ((z9,(i8.2+1)))) else(some (i8.1))) ([],0)=some (s.filter fun d=>d !=x):=fun x=>by
    rw[fK (l:=s) (fun q y=>bif y !=x then q++[y] else q) (fun i q=>q.length≤i) (fun q=>some q) (by omega) (by simp) (fun i q hi hv=>by cases(s[i] !=x)<;>simp<;>omega)
     (fun rec i q hi hv=>by
      simp only[bE hi,cond_true,aF hi,bd_s]
      rw[aC (by unfold bJ;simp;omega)]
      cases(s[i] !=x)<;>rfl) (fun rec q _=>by simp only[bF,cond_false]),Ex]
    simp
   rw[hf]
   cases h1:(l[i].Kind==1) with
   |true=>
    have h2:(l[i].Kind==2)=false:=by simp at h1 ⊢;omega
    rw[aV5 h1,h2]
    rw[aC (by unfold bJ;simp;omega)]
    cases jC s l[i].Device<;>rfl
   |false=>
    rw[aV6 h1,aC (by unfold bJ;simp;omega)]
    cases(l[i].Kind==2)<;>rfl) (fun rec s _=>by simp only[bF,cond_false])]
 rfl
theorem aEq (l:List D.aAB)(h:l.length≤34359738368):Cg l=some (aI l):=by
 unfold Cg
 rw[fK (l:=l) lU (fun i s=>s.length≤i) (fun s=>some s) (by omega) (by simp) (fun i s hi hv=>by have:=aIj s l[i];omega)
  (fun rec i s hi hv=>by
   simp only[bE hi,cond_true,aF hi,bd_s]
   rw[aC (by omega)]
   have hf:∀x:Int,bU (α:=List Int) FUEL (fun rec5 (i5:(List Int×Nat))=>bif (decide ((↑i5.2:Int)<(↑s.length:Int))) then(bd (bd (aL s (↑i5.2:Int)) fun(z7:(Int))=>bif (z7 !=x) then(gd (bJ i5.1 [z7]) (some (i5.1++[z7]))) else(some (i5.1))) fun(z6:(List Int))=>rec5 ((z6,(i5.2+1)))) else(some (i5.1))) ([],0)=some (s.filter fun d=>d !=x):=fun x=>by
    rw[fK (l:=s) (fun q y=>bif y !=x then q++[y] else q) (fun i q=>q.length≤i) (fun q=>some q) (by omega) (by simp) (fun i q hi hv=>by cases(s[i] !=x)<;>simp<;>omega)
     (fun rec i q hi hv=>by
      simp only[bE hi,cond_true,aF hi,bd_s]
      rw[aC (by unfold bJ;simp;omega)]
      cases(s[i] !=x)<;>rfl) (fun rec q _=>by simp only[bF,cond_false]),Ex]
    simp
   rw[hf]
   cases h1:(l[i].Kind==1) with
   |true=>
    rw[aV5 h1,aC (by unfold bJ;simp;omega)]
    cases jC s l[i].Device<;>rfl
   |false=>
    rw[aV6 h1]
    cases(l[i].Kind==2)<;>rfl) (fun rec s _=>by simp only[bF,cond_false])]
 rfl
theorem aEr (w:D.World)(d:Int):Ck w d=some (bH w d):=by
 unfold Ck bH
 show bd (bif decide (0≤d) then _ else _) _=_
 cases decide (0≤d)<;>rfl
theorem aTg (w:D.World)(d:Int)(h:WOk w):Yq w d=some (jF w d):=by
 unfold Yq jF
 rw[aVr h]
 have hl:=fE w.aAH.Log
 have h3:=h.2.2.1
 cases hd:bH w d with
 |false=>rfl
 |true=>simp only[cond_true,xZ hd,bd_s,aC h3,aC (show(aI w.aAH.Log).length≤1099511627776 by omega),Bool.true_and]
theorem aTh (w:D.World)(d:Int)(h:WOk w):Yv w d=some (jF w d):=by
 unfold Yv jF
 have hl:=fE w.aAH.Log
 have h3:=h.2.2.1
 cases hd:bH w d with
 |false=>rfl
 |true=>simp only[cond_true,xZ hd,bd_s,aC h3,aC (show(aI w.aAH.Log).length≤1099511627776 by omega),Bool.true_and]
end
end Go.VK
