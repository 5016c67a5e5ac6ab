import Derived.Test.YtajiimgjfnnjlaaGreatDoorXkM
/- Printed by wip/tools: models, walks, proofs. -/
set_option linter.unusedVariables false
set_option linter.unusedSimpArgs false
set_option maxRecDepth 100000
set_option maxHeartbeats 4000000
namespace Go.VK
open Go.RowKit Go.Proofs
noncomputable section
open EV (bK)
theorem aL3 (a b c:Int):K9 a b c=some (bI a b c):=by
 unfold K9 bI
 show bd (bif decide (b≤a) then some (decide (a≤c)) else some false) _=_
 cases decide (b≤a)<;>rfl
theorem aCz (a b c:Int):Ey a b c=some (bI a b c):=by
 unfold Ey bI
 cases decide (b≤a)<;>rfl
theorem aNl (p q:Int):aCa p q=some (Ai p q):=by
 unfold aCa
 by_cases h:1≤q∧q≤1000000000000
 ·simp[bI,h.1,h.2,aC (show q≠0 by omega),aUs h]
 ·rw[aQs h]
  rcases(show q<1∨q>1000000000000 by omega) with h|h
  ·simp[bI,show ¬1≤q by omega]
  ·simp[bI,show ¬q≤1000000000000 by omega]
theorem aNm (p q:Int):aCd p q=some (Ai p q):=by
 unfold aCd
 simp only[bd_bb]
 by_cases h:1≤q∧q≤1000000000000
 ·rw[aC (by omega)]
  by_cases ht:p.tmod q<0
  ·simp[h,ht,show ¬q<1 by omega,show ¬q>1000000000000 by omega,aUq h ht]
   rw[IntKind.wrap_i64];have:=wW (p:=p) (q:=q) h.1;omega
  ·simp[h,ht,show ¬q<1 by omega,show ¬q>1000000000000 by omega,aUr h ht]
 ·rw[aQs h]
  rcases(show q<1∨q>1000000000000 by omega) with h|h<;>simp[h]
theorem aC0:((2147483647:Int)≠0)=True:=by simp
theorem aL4 (l:List Int)(h:l.length≤1099511627776):L6 l=some (uE l):=by
 unfold L6
 rw[gL (l:=l) hstep (fun _ _=>True) (fun s=>some s) (by omega) trivial (fun _ _ _ _=>trivial) (fun rec i s hi _=>by
  simp only[bB hi,cond_true,aD hi,bd_s,aC0,gd_T];rfl) (fun rec s _=>by simp only[bC,cond_false])]
 rfl
theorem aL5 (l:List Int)(h:l.length≤1099511627776):L8 l=some (uE l):=by
 unfold L8
 rw[gL (l:=l) hstep (fun _ _=>True) (fun s=>some s) (by omega) trivial (fun _ _ _ _=>trivial) (fun rec i s hi _=>by
  simp only[bB hi,cond_true,aD hi,bd_s,aC0,gd_T];rfl) (fun rec s _=>by simp only[bC,cond_false])]
 rfl
theorem Yz (k:Int)(l:List Int)(h:l.length≤34359738368):vF k l=some (eD k l):=by
 unfold vF
 rw[aC (by simp[aU];omega),aC (by simp[aU];omega),aC (by simp;omega)]
 simp[eD]
theorem Oa {α:Type}{r:List (List α)}{i:Nat}(hi:i<r.length):(r.take (i+1)).flatten=(r.take i).flatten++r[i]:=by
 rw[List.take_add_one,List.getElem?_eq_getElem hi,List.flatten_append]
 simp only[Option.toList_some,List.flatten_cons,List.flatten_nil,List.append_nil]
theorem aGe (a:List Int)(r:List (List Int))(h:nH a r):Ns a r=some (jK a r):=by
 unfold Ns
 have hs:∀i,(r.take i).flatten.length≤r.flatten.length:=fun i=>by
  conv=>rhs;rw[←List.take_append_drop i r,List.flatten_append,List.length_append]
  omega
 rw[aC (by simp[aU];omega),gL (l:=r) (fun s x=>s++x) (fun i s=>s=a++(r.take i).flatten) (fun s=>some s) (by omega) (by simp)
  (fun i s hi hv=>by rw[hv,Oa hi,List.append_assoc])
  (fun rec i s hi hv=>by
   have e:=Oa hi
   have h1:=hs (i+1)
   rw[e,List.length_append] at h1
   simp only[bB hi,cond_true,aD hi,bd_s]
   rw[aC (by unfold aU;rw[hv,List.length_append];omega)]) (fun rec s _=>by simp only[bC,cond_false])]
 have:r.foldl (fun s x=>s++x) ([]++a)=a++r.flatten:=by rw[List.nil_append,Xz (f:=fun x:List Int=>x)];simp
 rw[this];rfl
theorem Za (k:Int)(l:List Int)(h:l.length≤34359738368):vK k l=some (eD k l):=by
 unfold vK
 rw[aC (by unfold nH;simp;omega),bd_s,aC (by simp[jK];omega)]
 simp[eD,jK]
theorem aNn (a b:Int):aCb a b=some (aNh a b):=by simp[aCb,aNh]
theorem aJ4 (n:Int):Ug n=some (xM n):=by simp[Ug,xM]
theorem Zb (k:Int)(l:List Int)(h:l.length≤34359738300):vH k l=some (sN k l):=by
 unfold vH
 rw[aC (by simp[aU];omega),aC (by simp;omega),bd_s,aLw (Tw _ _).1];rfl
theorem Zc (k:Int)(l:List Int)(h:l.length≤34359738300):vS k l=some (sN k l):=by
 unfold vS
 rw[aC (by simp[nH];omega),bd_s,aC (by simp[jK];omega)]
 simp[sN,jK]
theorem Ut (n:Int):Ue n=some (gY n):=rfl
theorem Uu (n:Int):Uf n=some (gY n):=rfl
theorem Zd (n:Int):vC n=some (Je n):=by unfold vC Je;cases gY n<;>rfl
theorem aGf (l:List Int)(x:Int)(h:l.length≤1099511627776):Nn l x=some (gZ l x):=by
 unfold Nn
 rw[gK (l:=l) (fun e=>e==x) (.inl true) (.inr ()) (by omega) (fun rec i hi=>by simp only[bB hi,cond_true,aD hi,bd_s]) (fun rec=>by simp only[bC,cond_false])]
 unfold gZ;cases l.any _<;>rfl
theorem aNo (l:List Int)(x:Int)(h:l.length≤1099511627776):aCc l x=some (gZ l x):=by
 unfold aCc
 rw[gK (l:=l) (fun e=>e==x) (.inl true) (.inr ()) (by omega) (fun rec i hi=>by simp only[bB hi,cond_true,aD hi,bd_s]) (fun rec=>by simp only[bC,cond_false])]
 unfold gZ;cases l.any _<;>rfl
theorem aJ5 (s:List Int)(x:Int):gZ s x=s.contains x:=by
 unfold gZ
 rw[List.contains_eq_any_beq];congr 1;funext e;exact Bool.beq_comm
theorem aIw {s:List Int}{e:D.aAE}(h:(e.Kind==1)=true):gM s e=bif !gZ s e.Device then s++[e.Device] else s:=by
 unfold gM;rw[h,aJ5];cases s.contains e.Device<;>rfl
theorem aIx {s:List Int}{e:D.aAE}(h:(e.Kind==1)=false):gM s e=bif e.Kind==2 then s.filter (fun d=>d !=e.Device) else s:=by
 unfold gM;rw[h];rfl
theorem Ze (l:List D.aAE)(h:l.length≤34359738368):vD l=some (aN l):=by
 unfold vD
 rw[gL (l:=l) gM (fun i s=>s.length≤i) (fun s=>some s) (by omega) (by simp) (fun i s hi hv=>by have:=K6 s l[i];omega)
  (fun rec i s hi hv=>by
   simp only[bB hi,cond_true,aD hi,bd_s]
   rw[aC (by omega)]
   have hf:∀x:Int,bK (α:=List Int) FUEL (fun rec8 (i8:(List Int×Nat))=>bif (decide ((↑i8.2:Int)<(↑s.length:Int))) then(bd (bd (aW s (↑i8.2:Int)) fun(z10:(Int))=>bif (z10 !=x) then(bd (aW s (↑i8.2:Int)) fun(z11:(Int))=>gd (aU i8.1 [z11]) (some (i8.1++[z11]))) else(some (i8.1))) fun(z9:(List Int))=>rec8 ((z9,(i8.2+1)))) else(some (i8.1))) ([],0)=some (s.filter fun d=>d !=x):=fun x=>by
    rw[gL (l:=s) (fun q y=>bif y !=x then q++[y] else q) (fun i q=>q.length≤i) (fun q=>some q) (by omega) (by simp) (fun i q hi hv=>by cases(s[i] !=x)<;>simp<;>omega)
     (fun rec i q hi hv=>by
      simp only[bB hi,cond_true,aD hi,bd_s]
      rw[aC (by unfold aU;simp;omega)]
      cases(s[i] !=x)<;>rfl) (fun rec q _=>by simp only[bC,cond_false]),wY]
    simp
   rw[hf]
   cases h1:(l[i].Kind==1) with
   |true=>
    have h2:(l[i].Kind==2)=false:=by simp at h1 ⊢;omega
    rw[aIw h1,h2]
    rw[aC (by unfold aU;simp;omega)]
    cases gZ s l[i].Device<;>rfl
   |false=>
    rw[aIx h1,aC (by unfold aU;simp;omega)]
    cases(l[i].Kind==2)<;>rfl) (fun rec s _=>by simp only[bC,cond_false])]
 rfl
theorem Zg (l:List D.aAE)(h:l.length≤34359738368):vI l=some (aN l):=by
 unfold vI
 rw[gL (l:=l) gM (fun i s=>s.length≤i) (fun s=>some s) (by omega) (by simp) (fun i s hi hv=>by have:=K6 s l[i];omega)
  (fun rec i s hi hv=>by
   simp only[bB hi,cond_true,aD hi,bd_s]
   rw[aC (by omega)]
   have hf:∀x:Int,bK (α:=List Int) FUEL (fun rec5 (i5:(List Int×Nat))=>bif (decide ((↑i5.2:Int)<(↑s.length:Int))) then(bd (bd (aW s (↑i5.2:Int)) fun(z7:(Int))=>bif (z7 !=x) then(gd (aU i5.1 [z7]) (some (i5.1++[z7]))) else(some (i5.1))) fun(z6:(List Int))=>rec5 ((z6,(i5.2+1)))) else(some (i5.1))) ([],0)=some (s.filter fun d=>d !=x):=fun x=>by
    rw[gL (l:=s) (fun q y=>bif y !=x then q++[y] else q) (fun i q=>q.length≤i) (fun q=>some q) (by omega) (by simp) (fun i q hi hv=>by cases(s[i] !=x)<;>simp<;>omega)
     (fun rec i q hi hv=>by
      simp only[bB hi,cond_true,aD hi,bd_s]
      rw[aC (by unfold aU;simp;omega)]
      cases(s[i] !=x)<;>rfl) (fun rec q _=>by simp only[bC,cond_false]),wY]
    simp
   rw[hf]
   cases h1:(l[i].Kind==1) with
   |true=>
    rw[aIw h1,aC (by unfold aU;simp;omega)]
    cases gZ s l[i].Device<;>rfl
   |false=>
    rw[aIx h1]
    cases(l[i].Kind==2)<;>rfl) (fun rec s _=>by simp only[bC,cond_false])]
 rfl
theorem Zh (w:D.World)(d:Int):vM w d=some (fP w d):=by
 unfold vM fP
 show bd (bif decide (0≤d) then _ else _) _=_
 cases decide (0≤d)<;>rfl
end
end Go.VK
