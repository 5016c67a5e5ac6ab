import Derived.Test.YtaaefkcjgkpckaaGreatDoorXoM
/- Printed by wip/tools: models, walks, proofs. -/
set_option linter.unusedVariables false
set_option linter.unusedSimpArgs false
set_option maxRecDepth 100000
set_option maxHeartbeats 4000000
namespace Go.VK
open Go.RowKit Go.Proofs
noncomputable section
open EV (dL)
theorem aRa (a b c:Int):aBk a b c=some (bR a b c):=by
 unfold aBk bR
 show bd (bif decide (b≤a) then some (decide (a≤c)) else some false) _=_
 cases decide (b≤a)<;>rfl
theorem aGs (a b c:Int):La a b c=some (bR a b c):=by
 unfold La bR
 cases decide (b≤a)<;>rfl
theorem aTh (p q:Int):aGm p q=some (kN p q):=by
 unfold aGm
 by_cases h:1≤q∧q≤1000000000000
 ·simp[bR,h.1,h.2,aG (show q≠0 by omega),bFk h]
 ·rw[aYw h]
  rcases(show q<1∨q>1000000000000 by omega) with h|h
  ·simp[bR,show ¬1≤q by omega]
  ·simp[bR,show ¬q≤1000000000000 by omega]
theorem aTi (p q:Int):aGr p q=some (kN p q):=by
 unfold aGr
 simp only[bd_bb]
 by_cases h:1≤q∧q≤1000000000000
 ·rw[aG (by omega)]
  by_cases ht:p.tmod q<0
  ·simp[h,ht,show ¬q<1 by omega,show ¬q>1000000000000 by omega,bFi h ht]
   rw[IntKind.wrap_i64];have:=Cr (p:=p) (q:=q) h.1;omega
  ·simp[h,ht,show ¬q<1 by omega,show ¬q>1000000000000 by omega,bFj h ht]
 ·rw[aYw h]
  rcases(show q<1∨q>1000000000000 by omega) with h|h<;>simp[h]
theorem aGt:((2147483647:Int)≠0)=True:=by simp
theorem aRb (l:List Int)(h:l.length≤1099511627776):aBl l=some (sW l):=by
 unfold aBl
 rw[gY (l:=l) hstep (fun _ _=>True) (fun s=>some s) (by omega) trivial (fun _ _ _ _=>trivial) (fun rec i s hi _=>by
  simp only[dZ hi,cond_true,aR hi,bd_s,aGt,gd_T];rfl) (fun rec s _=>by simp only[eD,cond_false])]
 rfl
theorem aRc (l:List Int)(h:l.length≤1099511627776):aBm l=some (sW l):=by
 unfold aBm
 rw[gY (l:=l) hstep (fun _ _=>True) (fun s=>some s) (by omega) trivial (fun _ _ _ _=>trivial) (fun rec i s hi _=>by
  simp only[dZ hi,cond_true,aR hi,bd_s,aGt,gd_T];rfl) (fun rec s _=>by simp only[eD,cond_false])]
 rfl
theorem Q4 (k:Int)(l:List Int)(h:l.length≤34359738368):Ae k l=some (bH k l):=by
 unfold Ae
 rw[aG (by simp[aX];omega),aG (by simp[aX];omega),aG (by simp;omega)]
 simp[bH]
theorem Rl {α:Type}{r:List (List α)}{i:Nat}(hi:i<r.length):(r.take (i+1)).flatten=(r.take i).flatten++r[i]:=by
 rw[List.take_add_one,List.getElem?_eq_getElem hi,List.flatten_append]
 simp only[Option.toList_some,List.flatten_cons,List.flatten_nil,List.append_nil]
theorem aJl (a:List Int)(r:List (List Int))(h:tH a r):Rh a r=some (oL a r):=by
 unfold Rh
 have hs:∀i,(r.take i).flatten.length≤r.flatten.length:=fun i=>by
  conv=>rhs;rw[←List.take_append_drop i r,List.flatten_append,List.length_append]
  omega
 rw[aG (by simp[aX];omega),gY (l:=r) (fun s x=>s++x) (fun i s=>s=a++(r.take i).flatten) (fun s=>some s) (by omega) (by simp)
  (fun i s hi hv=>by rw[hv,Rl hi,List.append_assoc])
  (fun rec i s hi hv=>by
   have e:=Rl hi
   have h1:=hs (i+1)
   rw[e,List.length_append] at h1
   simp only[dZ hi,cond_true,aR hi,bd_s]
   rw[aG (by unfold aX;rw[hv,List.length_append];omega)]) (fun rec s _=>by simp only[eD,cond_false])]
 have:r.foldl (fun s x=>s++x) ([]++a)=a++r.flatten:=by rw[List.nil_append,N8 (f:=fun x:List Int=>x)];simp
 rw[this];rfl
theorem Q5 (k:Int)(l:List Int)(h:l.length≤34359738368):Ba k l=some (bH k l):=by
 unfold Ba
 rw[aG (by unfold tH;simp;omega),bd_s,aG (by simp[oL];omega)]
 simp[bH,oL]
theorem aTj (a b:Int):aGn a b=some (aNp a b):=by simp[aGn,aNp]
theorem aN9 (n:Int):Yx n=some (iH n):=by simp[Yx,iH]
theorem Q6 (k:Int)(l:List Int)(h:l.length≤34359738300):Af k l=some (bA k l):=by
 unfold Af
 rw[aG (by simp[aX];omega),aG (by simp;omega),bd_s,aPx (kL _ _).1];rfl
theorem Q7 (k:Int)(l:List Int)(h:l.length≤34359738300):Bh k l=some (bA k l):=by
 unfold Bh
 rw[aG (by simp[tH];omega),bd_s,aG (by simp[oL];omega)]
 simp[bA,oL]
theorem Yz (n:Int):Yv n=some (bE n):=rfl
theorem Za (n:Int):Yw n=some (bE n):=rfl
theorem Q8 (n:Int):Ai n=some (dI n):=by unfold Ai dI;cases bE n<;>rfl
theorem Q9 (s:D.aAH):Ah s=some (gM s):=by unfold Ah;rw[aG (by simp)];rfl
theorem Pf (s:D.aAH):Oz s=some (aN s):=rfl
theorem aJm (l:List Int)(x:Int)(h:l.length≤1099511627776):Qw l x=some (gP l x):=by
 unfold Qw
 rw[mZ (l:=l) (fun e=>e==x) (.inl true) (.inr ()) (by omega) (fun rec i hi=>by simp only[dZ hi,cond_true,aR hi,bd_s]) (fun rec=>by simp only[eD,cond_false])]
 unfold gP;cases l.any _<;>rfl
theorem aTk (l:List Int)(x:Int)(h:l.length≤1099511627776):aGq l x=some (gP l x):=by
 unfold aGq
 rw[mZ (l:=l) (fun e=>e==x) (.inl true) (.inr ()) (by omega) (fun rec i hi=>by simp only[dZ hi,cond_true,aR hi,bd_s]) (fun rec=>by simp only[eD,cond_false])]
 unfold gP;cases l.any _<;>rfl
theorem aOa (s:List Int)(x:Int):gP s x=s.contains x:=by
 unfold gP
 rw[List.contains_eq_any_beq];congr 1;funext e;exact Bool.beq_comm
theorem aMh {s:List Int}{e:D.aAA}(h:(e.Kind==1)=true):gZ s e=bif !gP s e.Device then s++[e.Device] else s:=by
 unfold gZ;rw[h,aOa];cases s.contains e.Device<;>rfl
theorem aMi {s:List Int}{e:D.aAA}(h:(e.Kind==1)=false):gZ s e=bif e.Kind==2 then s.filter (fun d=>d !=e.Device) else s:=by
 unfold gZ;rw[h];rfl
theorem R3 (l:List D.aAA)(h:l.length≤34359738368):Ak l=some (aB l):=by
 unfold Ak
 rw[gY (l:=l) gZ (fun i s=>s.length≤i) (fun s=>some s) (by omega) (by simp) (fun i s hi hv=>by have:=aA9 s l[i];omega)
  (fun rec i s hi hv=>by
   simp only[dZ hi,cond_true,aR hi,bd_s]
   rw[aG (by omega)]
   have hf:∀x:Int,dL (α:=List Int) FUEL (fun rec8 (i8:(List Int×Nat))=>bif (decide ((↑i8.2:Int)<(↑s.length:Int))) then(bd (bd (bT s (↑i8.2:Int)) fun(z10:(Int))=>bif (z10 !=x) then(bd (bT s (↑i8.2:Int)) fun(z11:(Int))=>gd (aX i8.1 [z11]) (some (i8.1++[z11]))) else(some (i8.1))) fun(z9:(List Int))=>rec8 ((z9,(i8.2+1)))) else(some (i8.1))) ([],0)=some (s.filter fun d=>d !=x):=fun x=>by
    rw[gY (l:=s) (fun q y=>bif y !=x then q++[y] else q) (fun i q=>q.length≤i) (fun q=>some q) (by omega) (by simp) (fun i q hi hv=>by cases(s[i] !=x)<;>simp<;>omega)
     (fun rec i q hi hv=>by
      simp only[dZ hi,cond_true,aR hi,bd_s]
      rw[aG (by unfold aX;simp;omega)]
      cases(s[i] !=x)<;>rfl) (fun rec q _=>by simp only[eD,cond_false]),Cs]
    simp
   rw[hf]
   cases h1:(l[i].Kind==1) with
   |true=>
    have h2:(l[i].Kind==2)=false:=by simp at h1 ⊢;omega
    rw[aMh h1,h2]
    rw[aG (by unfold aX;simp;omega)]
    cases gP s l[i].Device<;>rfl
   |false=>
    rw[aMi h1,aG (by unfold aX;simp;omega)]
    cases(l[i].Kind==2)<;>rfl) (fun rec s _=>by simp only[eD,cond_false])]
 rfl
theorem R4 (l:List D.aAA)(h:l.length≤34359738368):Ay l=some (aB l):=by
 unfold Ay
 rw[gY (l:=l) gZ (fun i s=>s.length≤i) (fun s=>some s) (by omega) (by simp) (fun i s hi hv=>by have:=aA9 s l[i];omega)
  (fun rec i s hi hv=>by
   simp only[dZ hi,cond_true,aR hi,bd_s]
   rw[aG (by omega)]
   have hf:∀x:Int,dL (α:=List Int) FUEL (fun rec5 (i5:(List Int×Nat))=>bif (decide ((↑i5.2:Int)<(↑s.length:Int))) then(bd (bd (bT s (↑i5.2:Int)) fun(z7:(Int))=>bif (z7 !=x) then(gd (aX i5.1 [z7]) (some (i5.1++[z7]))) else(some (i5.1))) fun(z6:(List Int))=>rec5 ((z6,(i5.2+1)))) else(some (i5.1))) ([],0)=some (s.filter fun d=>d !=x):=fun x=>by
    rw[gY (l:=s) (fun q y=>bif y !=x then q++[y] else q) (fun i q=>q.length≤i) (fun q=>some q) (by omega) (by simp) (fun i q hi hv=>by cases(s[i] !=x)<;>simp<;>omega)
     (fun rec i q hi hv=>by
      simp only[dZ hi,cond_true,aR hi,bd_s]
      rw[aG (by unfold aX;simp;omega)]
      cases(s[i] !=x)<;>rfl) (fun rec q _=>by simp only[eD,cond_false]),Cs]
    simp
   rw[hf]
   cases h1:(l[i].Kind==1) with
   |true=>
    rw[aMh h1,aG (by unfold aX;simp;omega)]
    cases gP s l[i].Device<;>rfl
   |false=>
    rw[aMi h1]
    cases(l[i].Kind==2)<;>rfl) (fun rec s _=>by simp only[eD,cond_false])]
 rfl
theorem R5 (w:D.World)(d:Int):Bi w d=some (aQ w d):=by
 unfold Bi aQ
 show bd (bif decide (0≤d) then _ else _) _=_
 cases decide (0≤d)<;>rfl
theorem aJn (w:D.World)(d:Int)(h:WOk w):Rk w d=some (cB w d):=by
 unfold Rk cB
 rw[aLq h]
 have hl:=iJ w.aAB.Log
 have h3:=h.2.2.1
 cases hd:aQ w d with
 |false=>rfl
 |true=>simp only[cond_true,Ya hd,bd_s,aG h3,aG (show(aB w.aAB.Log).length≤1099511627776 by omega),Bool.true_and]
end
end Go.VK
