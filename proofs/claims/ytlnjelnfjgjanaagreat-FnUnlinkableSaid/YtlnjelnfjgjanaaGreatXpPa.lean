import Derived.Test.YtlnjelnfjgjanaaGreatXpM
/- Printed by wip/tools: models, walks, proofs. -/
set_option linter.unusedVariables false
set_option linter.unusedSimpArgs false
set_option maxRecDepth 100000
set_option maxHeartbeats 4000000
namespace Go.VK
open Go.RowKit Go.Proofs
noncomputable section
open EV (bT)
theorem aQx (a b c:Int):aBv a b c=some (bF a b c):=by
 unfold aBv bF
 show bd (bif decide (b≤a) then some (decide (a≤c)) else some false) _=_
 cases decide (b≤a)<;>rfl
theorem aGm (a b c:Int):Kq a b c=some (bF a b c):=by
 unfold Kq bF
 cases decide (b≤a)<;>rfl
theorem aS7 (p q:Int):aGg p q=some (dI p q):=by
 unfold aGg
 by_cases h:1≤q∧q≤1000000000000
 ·simp[bF,h.1,h.2,aB (show q≠0 by omega),bFp h]
 ·rw[aYi h]
  rcases(show q<1∨q>1000000000000 by omega) with h|h
  ·simp[bF,show ¬1≤q by omega]
  ·simp[bF,show ¬q≤1000000000000 by omega]
theorem aS8 (p q:Int):aGl p q=some (dI p q):=by
 unfold aGl
 simp only[bd_bb]
 by_cases h:1≤q∧q≤1000000000000
 ·rw[aB (by omega)]
  by_cases ht:p.tmod q<0
  ·simp[h,ht,show ¬q<1 by omega,show ¬q>1000000000000 by omega,bFn h ht]
   rw[IntKind.wrap_i64];have:=Df (p:=p) (q:=q) h.1;omega
  ·simp[h,ht,show ¬q<1 by omega,show ¬q>1000000000000 by omega,bFo h ht]
 ·rw[aYi h]
  rcases(show q<1∨q>1000000000000 by omega) with h|h<;>simp[h]
theorem aU5:((2147483647:Int)≠0)=True:=by simp
theorem aQy (l:List Int)(h:l.length≤1099511627776):aBw l=some (vF l):=by
 unfold aBw
 rw[fD (l:=l) hstep (fun _ _=>True) (fun s=>some s) (by omega) trivial (fun _ _ _ _=>trivial) (fun rec i s hi _=>by
  simp only[dQ hi,cond_true,aM hi,bd_s,aU5,gd_T];rfl) (fun rec s _=>by simp only[dS,cond_false])]
 rfl
theorem aQz (l:List Int)(h:l.length≤1099511627776):aBx l=some (vF l):=by
 unfold aBx
 rw[fD (l:=l) hstep (fun _ _=>True) (fun s=>some s) (by omega) trivial (fun _ _ _ _=>trivial) (fun rec i s hi _=>by
  simp only[dQ hi,cond_true,aM hi,bd_s,aU5,gd_T];rfl) (fun rec s _=>by simp only[dS,cond_false])]
 rfl
theorem Q4 (k:Int)(l:List Int)(h:l.length≤34359738368):Ay k l=some (bI k l):=by
 unfold Ay
 rw[aB (by simp[aS];omega),aB (by simp[aS];omega),aB (by simp;omega)]
 simp[bI]
theorem Sk {α:Type}{r:List (List α)}{i:Nat}(hi:i<r.length):(r.take (i+1)).flatten=(r.take i).flatten++r[i]:=by
 rw[List.take_add_one,List.getElem?_eq_getElem hi,List.flatten_append]
 simp only[Option.toList_some,List.flatten_cons,List.flatten_nil,List.append_nil]
theorem aJf (a:List Int)(r:List (List Int))(h:aL2 a r):Si a r=some (aBf a r):=by
 unfold Si
 have hs:∀i,(r.take i).flatten.length≤r.flatten.length:=fun i=>by
  conv=>rhs;rw[←List.take_append_drop i r,List.flatten_append,List.length_append]
  omega
 rw[aB (by simp[aS];omega),fD (l:=r) (fun s x=>s++x) (fun i s=>s=a++(r.take i).flatten) (fun s=>some s) (by omega) (by simp)
  (fun i s hi hv=>by rw[hv,Sk hi,List.append_assoc])
  (fun rec i s hi hv=>by
   have e:=Sk hi
   have h1:=hs (i+1)
   rw[e,List.length_append] at h1
   simp only[dQ hi,cond_true,aM hi,bd_s]
   rw[aB (by unfold aS;rw[hv,List.length_append];omega)]) (fun rec s _=>by simp only[dS,cond_false])]
 have:r.foldl (fun s x=>s++x) ([]++a)=a++r.flatten:=by rw[List.nil_append,Ns (f:=fun x:List Int=>x)];simp
 rw[this];rfl
theorem Q5 (k:Int)(l:List Int)(h:l.length≤34359738368):Ch k l=some (bI k l):=by
 unfold Ch
 rw[aB (by unfold aL2;simp;omega),bd_s,aB (by simp[aBf];omega)]
 simp[bI,aBf]
theorem aS9 (a b:Int):aGh a b=some (aNq a b):=by simp[aGh,aNq]
theorem aN6 (n:Int):Yr n=some (gQ n):=by simp[Yr,gQ]
theorem Q6 (k:Int)(l:List Int)(h:l.length≤34359738300):Az k l=some (aU k l):=by
 unfold Az
 rw[aB (by simp[aS];omega),aB (by simp;omega),bd_s,aPq (jN _ _).1];rfl
theorem Q7 (k:Int)(l:List Int)(h:l.length≤34359738300):Ci k l=some (aU k l):=by
 unfold Ci
 rw[aB (by simp[aL2];omega),bd_s,aB (by simp[aBf];omega)]
 simp[aU,aBf]
theorem Yu (n:Int):Yq n=some (bM n):=rfl
theorem Yv (n:Int):Yt n=some (bM n):=rfl
theorem Q8 (n:Int):Bb n=some (eF n):=by unfold Bb eF;cases bM n<;>rfl
theorem Q9 (n:Int):Cj n=some (eF n):=by unfold Cj eF;cases bM n<;>rfl
theorem R3 (s:D.aAI):Ba s=some (iA s):=by unfold Ba;rw[aB (by simp)];rfl
theorem Ox (s:D.aAI):Oq s=some (aX s):=rfl
theorem Oy (s:D.aAI):uI s=some (aX s):=by unfold uI;rw[aB (by simp)];rfl
theorem aJg (l:List Int)(x:Int)(h:l.length≤1099511627776):Ro l x=some (iZ l x):=by
 unfold Ro
 rw[mU (l:=l) (fun e=>e==x) (.inl true) (.inr ()) (by omega) (fun rec i hi=>by simp only[dQ hi,cond_true,aM hi,bd_s]) (fun rec=>by simp only[dS,cond_false])]
 unfold iZ;cases l.any _<;>rfl
theorem aTa (l:List Int)(x:Int)(h:l.length≤1099511627776):aGk l x=some (iZ l x):=by
 unfold aGk
 rw[mU (l:=l) (fun e=>e==x) (.inl true) (.inr ()) (by omega) (fun rec i hi=>by simp only[dQ hi,cond_true,aM hi,bd_s]) (fun rec=>by simp only[dS,cond_false])]
 unfold iZ;cases l.any _<;>rfl
theorem aN7 (s:List Int)(x:Int):iZ s x=s.contains x:=by
 unfold iZ
 rw[List.contains_eq_any_beq];congr 1;funext e;exact Bool.beq_comm
theorem aMq {s:List Int}{e:D.aAC}(h:(e.Kind==1)=true):iB s e=bif !iZ s e.Device then s++[e.Device] else s:=by
 unfold iB;rw[h,aN7];cases s.contains e.Device<;>rfl
theorem aMr {s:List Int}{e:D.aAC}(h:(e.Kind==1)=false):iB s e=bif e.Kind==2 then s.filter (fun d=>d !=e.Device) else s:=by
 unfold iB;rw[h];rfl
theorem R4 (l:List D.aAC)(h:l.length≤34359738368):Bd l=some (aH l):=by
 unfold Bd
 rw[fD (l:=l) iB (fun i s=>s.length≤i) (fun s=>some s) (by omega) (by simp) (fun i s hi hv=>by have:=aBg s l[i];omega)
  (fun rec i s hi hv=>by
   simp only[dQ hi,cond_true,aM hi,bd_s]
   rw[aB (by omega)]
   have hf:∀x:Int,bT (α:=List Int) FUEL (fun rec8 (i8:(List Int×Nat))=>bif (decide ((↑i8.2:Int)<(↑s.length:Int))) then(bd (bd (bA s (↑i8.2:Int)) fun(z10:(Int))=>bif (z10 !=x) then(bd (bA s (↑i8.2:Int)) fun(z11:(Int))=>gd (aS i8.1 [z11]) (some (i8.1++[z11]))) else(some (i8.1))) fun(z9:(List Int))=>rec8 ((z9,(i8.2+1)))) else(some (i8.1))) ([],0)=some (s.filter fun d=>d !=x):=fun x=>by
    rw[fD (l:=s) (fun q y=>bif y !=x then q++[y] else q) (fun i q=>q.length≤i) (fun q=>some q) (by omega) (by simp) (fun i q hi hv=>by cases(s[i] !=x)<;>simp<;>omega)
     (fun rec i q hi hv=>by
      simp only[dQ hi,cond_true,aM hi,bd_s]
      rw[aB (by unfold aS;simp;omega)]
      cases(s[i] !=x)<;>rfl) (fun rec q _=>by simp only[dS,cond_false]),Dh]
    simp
   rw[hf]
   cases h1:(l[i].Kind==1) with
   |true=>
    have h2:(l[i].Kind==2)=false:=by simp at h1 ⊢;omega
    rw[aMq h1,h2]
    rw[aB (by unfold aS;simp;omega)]
    cases iZ s l[i].Device<;>rfl
   |false=>
    rw[aMr h1,aB (by unfold aS;simp;omega)]
    cases(l[i].Kind==2)<;>rfl) (fun rec s _=>by simp only[dS,cond_false])]
 rfl
theorem R5 (l:List D.aAC)(h:l.length≤34359738368):Cg l=some (aH l):=by
 unfold Cg
 rw[fD (l:=l) iB (fun i s=>s.length≤i) (fun s=>some s) (by omega) (by simp) (fun i s hi hv=>by have:=aBg s l[i];omega)
  (fun rec i s hi hv=>by
   simp only[dQ hi,cond_true,aM hi,bd_s]
   rw[aB (by omega)]
   have hf:∀x:Int,bT (α:=List Int) FUEL (fun rec5 (i5:(List Int×Nat))=>bif (decide ((↑i5.2:Int)<(↑s.length:Int))) then(bd (bd (bA s (↑i5.2:Int)) fun(z7:(Int))=>bif (z7 !=x) then(gd (aS i5.1 [z7]) (some (i5.1++[z7]))) else(some (i5.1))) fun(z6:(List Int))=>rec5 ((z6,(i5.2+1)))) else(some (i5.1))) ([],0)=some (s.filter fun d=>d !=x):=fun x=>by
    rw[fD (l:=s) (fun q y=>bif y !=x then q++[y] else q) (fun i q=>q.length≤i) (fun q=>some q) (by omega) (by simp) (fun i q hi hv=>by cases(s[i] !=x)<;>simp<;>omega)
     (fun rec i q hi hv=>by
      simp only[dQ hi,cond_true,aM hi,bd_s]
      rw[aB (by unfold aS;simp;omega)]
      cases(s[i] !=x)<;>rfl) (fun rec q _=>by simp only[dS,cond_false]),Dh]
    simp
   rw[hf]
   cases h1:(l[i].Kind==1) with
   |true=>
    rw[aMq h1,aB (by unfold aS;simp;omega)]
    cases iZ s l[i].Device<;>rfl
   |false=>
    rw[aMr h1]
    cases(l[i].Kind==2)<;>rfl) (fun rec s _=>by simp only[dS,cond_false])]
 rfl
theorem R6 (w:D.World)(d:Int):Cf w d=some (aK w d):=by
 unfold Cf aK
 show bd (bif decide (0≤d) then _ else _) _=_
 cases decide (0≤d)<;>rfl
theorem aJh (w:D.World)(d:Int)(h:WOk w):Sc w d=some (gF w d):=by
 unfold Sc gF
 rw[aL1 h]
 have hl:=iT w.aAE.Log
 have h3:=h.2.2.1
 cases hd:aK w d with
 |false=>rfl
 |true=>simp only[cond_true,uR hd,bd_s,aB h3,aB (show(aH w.aAE.Log).length≤1099511627776 by omega),Bool.true_and]
theorem aJi (w:D.World)(d:Int)(h:WOk w):Sj w d=some (gF w d):=by
 unfold Sj gF
 have hl:=iT w.aAE.Log
 have h3:=h.2.2.1
 cases hd:aK w d with
 |false=>rfl
 |true=>simp only[cond_true,uR hd,bd_s,aB h3,aB (show(aH w.aAE.Log).length≤1099511627776 by omega),Bool.true_and]
end
end Go.VK
