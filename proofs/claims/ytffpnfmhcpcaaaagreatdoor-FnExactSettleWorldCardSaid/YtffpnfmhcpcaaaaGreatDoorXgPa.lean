import Derived.Test.YtffpnfmhcpcaaaaGreatDoorXgM
/-
  Printed by wip/tools (own work of this part): models of functions, walks over the value kit, and proofs.
-/
set_option linter.unusedVariables false
set_option linter.unusedSimpArgs false
set_option maxRecDepth 100000
set_option maxHeartbeats 4000000
namespace Go.VK
open Go.RowKit Go.Proofs
noncomputable section
open EV (bW)
theorem aTp (a b c:Int):aDg a b c=some (dD a b c):=by
 unfold aDg dD
 show bd (bif decide (b≤a) then some (decide (a≤c)) else some false) _=_
 cases decide (b≤a)<;>rfl
theorem aI4 (a b c:Int):Kv a b c=some (dD a b c):=by
 unfold Kv dD
 cases decide (b≤a)<;>rfl
theorem aVa (p q:Int):aIe p q=some (oF p q):=by
 unfold aIe
 by_cases h:1≤q∧q≤1000000000000
 ·simp[dD,h.1,h.2,aH (show q≠0 by omega),bCc h]
 ·rw[aYo h]
  rcases(show q<1∨q>1000000000000 by omega) with h|h
  ·simp[dD,show ¬1≤q by omega]
  ·simp[dD,show ¬q≤1000000000000 by omega]
theorem aVb (p q:Int):aIh p q=some (oF p q):=by
 unfold aIh
 simp only[bd_bb]
 by_cases h:1≤q∧q≤1000000000000
 ·rw[aH (by omega)]
  by_cases ht:p.tmod q<0
  ·simp[h,ht,show ¬q<1 by omega,show ¬q>1000000000000 by omega,bCa h ht]
   rw[IntKind.wrap_i64];have:=Aw (p:=p) (q:=q) h.1;omega
  ·simp[h,ht,show ¬q<1 by omega,show ¬q>1000000000000 by omega,bCb h ht]
 ·rw[aYo h]
  rcases(show q<1∨q>1000000000000 by omega) with h|h<;>simp[h]
theorem aI5:((2147483647:Int)≠0)=True:=by simp
theorem aTq (l:List Int)(h:l.length≤1099511627776):aDh l=some (xL l):=by
 unfold aDh
 rw[fH (l:=l) hstep (fun _ _=>True) (fun s=>some s) (by omega) trivial (fun _ _ _ _=>trivial) (fun rec i s hi _=>by
  simp only[bD hi,cond_true,aG hi,bd_s,aI5,gd_T];rfl) (fun rec s _=>by simp only[bE,cond_false])]
 rfl
theorem aTr (l:List Int)(h:l.length≤1099511627776):aDi l=some (xL l):=by
 unfold aDi
 rw[fH (l:=l) hstep (fun _ _=>True) (fun s=>some s) (by omega) trivial (fun _ _ _ _=>trivial) (fun rec i s hi _=>by
  simp only[bD hi,cond_true,aG hi,bd_s,aI5,gd_T];rfl) (fun rec s _=>by simp only[bE,cond_false])]
 rfl
theorem Y8 (k:Int)(l:List Int)(h:l.length≤34359738368):yI k l=some (eF k l):=by
 unfold yI
 rw[aH (by simp[bO];omega),aH (by simp[bO];omega),aH (by simp;omega)]
 simp[eF]
theorem Tn {α:Type}{r:List (List α)}{i:Nat}(hi:i<r.length):(r.take (i+1)).flatten=(r.take i).flatten++r[i]:=by
 rw[List.take_add_one,List.getElem?_eq_getElem hi,List.flatten_append]
 simp only[Option.toList_some,List.flatten_cons,List.flatten_nil,List.append_nil]
theorem aNc (a:List Int)(r:List (List Int))(h:sH a r):Sy a r=some (lI a r):=by
 unfold Sy
 have hs:∀i,(r.take i).flatten.length≤r.flatten.length:=fun i=>by
  conv=>rhs;rw[←List.take_append_drop i r,List.flatten_append,List.length_append]
  omega
 rw[aH (by simp[bO];omega),fH (l:=r) (fun s x=>s++x) (fun i s=>s=a++(r.take i).flatten) (fun s=>some s) (by omega) (by simp)
  (fun i s hi hv=>by rw[hv,Tn hi,List.append_assoc])
  (fun rec i s hi hv=>by
   have e:=Tn hi
   have h1:=hs (i+1)
   rw[e,List.length_append] at h1
   simp only[bD hi,cond_true,aG hi,bd_s]
   rw[aH (by unfold bO;rw[hv,List.length_append];omega)]) (fun rec s _=>by simp only[bE,cond_false])]
 have:r.foldl (fun s x=>s++x) ([]++a)=a++r.flatten:=by rw[List.nil_append,R8 (f:=fun x:List Int=>x)];simp
 rw[this];rfl
theorem Y9 (k:Int)(l:List Int)(h:l.length≤34359738368):yY k l=some (eF k l):=by
 unfold yY
 rw[aH (by unfold sH;simp;omega),bd_s,aH (by simp[lI];omega)]
 simp[eF,lI]
theorem aVc (a b:Int):aIf a b=some (aX2 a b):=by simp[aIf,aX2]
theorem aRk (n:Int):d9 n=some (Ub n):=by simp[d9,Ub]
theorem Z0 (k:Int)(l:List Int)(h:l.length≤34359738300):yK k l=some (gD k l):=by
 unfold yK
 rw[aH (by simp[bO];omega),aH (by simp;omega),bd_s,aZz (rC _ _).1];rfl
theorem Z4 (k:Int)(l:List Int)(h:l.length≤34359738300):zB k l=some (gD k l):=by
 unfold zB
 rw[aH (by simp[sH];omega),bd_s,aH (by simp[lI];omega)]
 simp[gD,lI]
theorem x9 (n:Int):Zy n=some (eG n):=rfl
theorem y5 (n:Int):Zz n=some (eG n):=rfl
theorem Z5 (n:Int):yF n=some (fZ n):=by unfold yF fZ;cases eG n<;>rfl
theorem Z6 (n:Int):zC n=some (fZ n):=by unfold zC fZ;cases eG n<;>rfl
theorem Z7 (s:D.KeyStore):yL s=some (nW s):=by unfold yL;rw[aH (by simp)];rfl
theorem Pn (s:D.KeyStore):Ot s=some (jS s):=rfl
theorem Po (s:D.KeyStore):qH s=some (jS s):=by unfold qH;rw[aH (by simp)];rfl
theorem aNd (l:List Int)(x:Int)(h:l.length≤1099511627776):Sm l x=some (iE l x):=by
 unfold Sm
 rw[nV (l:=l) (fun e=>e==x) (.inl true) (.inr ()) (by omega) (fun rec i hi=>by simp only[bD hi,cond_true,aG hi,bd_s]) (fun rec=>by simp only[bE,cond_false])]
 unfold iE;cases l.any _<;>rfl
theorem aVd (l:List Int)(x:Int)(h:l.length≤1099511627776):aIg l x=some (iE l x):=by
 unfold aIg
 rw[nV (l:=l) (fun e=>e==x) (.inl true) (.inr ()) (by omega) (fun rec i hi=>by simp only[bD hi,cond_true,aG hi,bd_s]) (fun rec=>by simp only[bE,cond_false])]
 unfold iE;cases l.any _<;>rfl
theorem aRl (s:List Int)(x:Int):iE s x=s.contains x:=by
 unfold iE
 rw[List.contains_eq_any_beq];congr 1;funext e;exact Bool.beq_comm
theorem aP0 {s:List Int}{e:D.LogEntry}(h:(e.Kind==1)=true):jT s e=bif !iE s e.Device then s++[e.Device] else s:=by
 unfold jT;rw[h,aRl];cases s.contains e.Device<;>rfl
theorem aP1 {s:List Int}{e:D.LogEntry}(h:(e.Kind==1)=false):jT s e=bif e.Kind==2 then s.filter (fun d=>d !=e.Device) else s:=by
 unfold jT;rw[h];rfl
theorem Z8 (l:List D.LogEntry)(h:l.length≤34359738368):yG l=some (aW l):=by
 unfold yG
 rw[fH (l:=l) jT (fun i s=>s.length≤i) (fun s=>some s) (by omega) (by simp) (fun i s hi hv=>by have:=aDc s l[i];omega)
  (fun rec i s hi hv=>by
   simp only[bD hi,cond_true,aG hi,bd_s]
   rw[aH (by omega)]
   have hf:∀x:Int,bW (α:=List Int) FUEL (fun rec8 (i8:(List Int×Nat))=>bif (decide ((↑i8.snd:Int)<(↑s.length:Int))) then(bd (bd (aT s (↑i8.snd:Int)) fun(z10:(Int))=>bif (z10 !=x) then(bd (aT s (↑i8.snd:Int)) fun(z11:(Int))=>gd (bO i8.fst [z11]) (some (i8.fst++[z11]))) else(some (i8.fst))) fun(z9:(List Int))=>rec8 ((z9,(i8.snd+1)))) else(some (i8.fst))) ([],0)=some (s.filter fun d=>d !=x):=fun x=>by
    rw[fH (l:=s) (fun q y=>bif y !=x then q++[y] else q) (fun i q=>q.length≤i) (fun q=>some q) (by omega) (by simp) (fun i q hi hv=>by cases(s[i] !=x)<;>simp<;>omega)
     (fun rec i q hi hv=>by
      simp only[bD hi,cond_true,aG hi,bd_s]
      rw[aH (by unfold bO;simp;omega)]
      cases(s[i] !=x)<;>rfl) (fun rec q _=>by simp only[bE,cond_false]),Ba]
    simp
   rw[hf]
   cases h1:(l[i].Kind==1) with
   |true=>
    have h2:(l[i].Kind==2)=false:=by simp at h1 ⊢;omega
    rw[aP0 h1,h2]
    rw[aH (by unfold bO;simp;omega)]
    cases iE s l[i].Device<;>rfl
   |false=>
    rw[aP1 h1,aH (by unfold bO;simp;omega)]
    cases(l[i].Kind==2)<;>rfl) (fun rec s _=>by simp only[bE,cond_false])]
 rfl
theorem Z9 (l:List D.LogEntry)(h:l.length≤34359738368):yU l=some (aW l):=by
 unfold yU
 rw[fH (l:=l) jT (fun i s=>s.length≤i) (fun s=>some s) (by omega) (by simp) (fun i s hi hv=>by have:=aDc s l[i];omega)
  (fun rec i s hi hv=>by
   simp only[bD hi,cond_true,aG hi,bd_s]
   rw[aH (by omega)]
   have hf:∀x:Int,bW (α:=List Int) FUEL (fun rec5 (i5:(List Int×Nat))=>bif (decide ((↑i5.snd:Int)<(↑s.length:Int))) then(bd (bd (aT s (↑i5.snd:Int)) fun(z7:(Int))=>bif (z7 !=x) then(gd (bO i5.fst [z7]) (some (i5.fst++[z7]))) else(some (i5.fst))) fun(z6:(List Int))=>rec5 ((z6,(i5.snd+1)))) else(some (i5.fst))) ([],0)=some (s.filter fun d=>d !=x):=fun x=>by
    rw[fH (l:=s) (fun q y=>bif y !=x then q++[y] else q) (fun i q=>q.length≤i) (fun q=>some q) (by omega) (by simp) (fun i q hi hv=>by cases(s[i] !=x)<;>simp<;>omega)
     (fun rec i q hi hv=>by
      simp only[bD hi,cond_true,aG hi,bd_s]
      rw[aH (by unfold bO;simp;omega)]
      cases(s[i] !=x)<;>rfl) (fun rec q _=>by simp only[bE,cond_false]),Ba]
    simp
   rw[hf]
   cases h1:(l[i].Kind==1) with
   |true=>
    rw[aP0 h1,aH (by unfold bO;simp;omega)]
    cases iE s l[i].Device<;>rfl
   |false=>
    rw[aP1 h1]
    cases(l[i].Kind==2)<;>rfl) (fun rec s _=>by simp only[bE,cond_false])]
 rfl
theorem aAa (w:D.World)(d:Int):zA w d=some (dO w d):=by
 unfold zA dO
 show bd (bif decide (0≤d) then _ else _) _=_
 cases decide (0≤d)<;>rfl
theorem aNe (w:D.World)(d:Int)(h:WOk w):Ti w d=some (kP w d):=by
 unfold Ti kP
 rw[aPq h]
 have hl:=jB w.Cloud.Log
 have h3:=h.2.2.1
 cases hd:dO w d with
 |false=>rfl
 |true=>simp only[cond_true,Oj hd,bd_s,aH h3,aH (show(aW w.Cloud.Log).length≤1099511627776 by omega),Bool.true_and]
theorem aNf (w:D.World)(d:Int)(h:WOk w):Tj w d=some (kP w d):=by
 unfold Tj kP
 have hl:=jB w.Cloud.Log
 have h3:=h.2.2.1
 cases hd:dO w d with
 |false=>rfl
 |true=>simp only[cond_true,Oj hd,bd_s,aH h3,aH (show(aW w.Cloud.Log).length≤1099511627776 by omega),Bool.true_and]
end
end Go.VK
