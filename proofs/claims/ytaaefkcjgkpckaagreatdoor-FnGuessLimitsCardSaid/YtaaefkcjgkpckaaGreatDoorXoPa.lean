import Derived.Test.YtaaefkcjgkpckaaGreatDoorXoM
/- Printed by wip/tools: models, walks, proofs. -/
set_option linter.unusedVariables false
set_option linter.unusedSimpArgs false
set_option maxRecDepth 100000
set_option maxHeartbeats 4000000
namespace Go.VK
open Go.RowKit Go.Proofs
noncomputable section
open EV (bM)
theorem aRo (a b c:Int):aCk a b c=some (aW a b c):=by
 unfold aCk aW
 show bd (bif decide (b≤a) then some (decide (a≤c)) else some false) _=_
 cases decide (b≤a)<;>rfl
theorem aHe (a b c:Int):Jz a b c=some (aW a b c):=by
 unfold Jz aW
 cases decide (b≤a)<;>rfl
theorem aTr (p q:Int):aG8 p q=some (aZ p q):=by
 unfold aG8
 by_cases h:1≤q∧q≤1000000000000
 ·simp[aW,h.1,h.2,aA (show q≠0 by omega),bFz h]
 ·rw[aYx h]
  rcases(show q<1∨q>1000000000000 by omega) with h|h
  ·simp[aW,show ¬1≤q by omega]
  ·simp[aW,show ¬q≤1000000000000 by omega]
theorem aTs (p q:Int):aHd p q=some (aZ p q):=by
 unfold aHd
 simp only[bd_bb]
 by_cases h:1≤q∧q≤1000000000000
 ·rw[aA (by omega)]
  by_cases ht:p.tmod q<0
  ·simp[h,ht,show ¬q<1 by omega,show ¬q>1000000000000 by omega,bFx h ht]
   rw[IntKind.wrap_i64];have:=kP (p:=p) (q:=q) h.1;omega
  ·simp[h,ht,show ¬q<1 by omega,show ¬q>1000000000000 by omega,bFy h ht]
 ·rw[aYx h]
  rcases(show q<1∨q>1000000000000 by omega) with h|h<;>simp[h]
theorem aHf:((2147483647:Int)≠0)=True:=by simp
theorem aRp (l:List Int)(h:l.length≤1099511627776):aCl l=some (rT l):=by
 unfold aCl
 rw[fI (l:=l) hstep (fun _ _=>True) (fun s=>some s) (by omega) trivial (fun _ _ _ _=>trivial) (fun rec i s hi _=>by
  simp only[bU hi,cond_true,aH hi,bd_s,aHf,gd_T];rfl) (fun rec s _=>by simp only[bX,cond_false])]
 rfl
theorem aRq (l:List Int)(h:l.length≤1099511627776):aCm l=some (rT l):=by
 unfold aCm
 rw[fI (l:=l) hstep (fun _ _=>True) (fun s=>some s) (by omega) trivial (fun _ _ _ _=>trivial) (fun rec i s hi _=>by
  simp only[bU hi,cond_true,aH hi,bd_s,aHf,gd_T];rfl) (fun rec s _=>by simp only[bX,cond_false])]
 rfl
theorem U7 (k:Int)(l:List Int)(h:l.length≤34359738368):zT k l=some (aX k l):=by
 unfold zT
 rw[aA (by simp[aO];omega),aA (by simp[aO];omega),aA (by simp;omega)]
 simp[aX]
theorem Rb {α:Type}{r:List (List α)}{i:Nat}(hi:i<r.length):(r.take (i+1)).flatten=(r.take i).flatten++r[i]:=by
 rw[List.take_add_one,List.getElem?_eq_getElem hi,List.flatten_append]
 simp only[Option.toList_some,List.flatten_cons,List.flatten_nil,List.append_nil]
theorem aJ7 (a:List Int)(r:List (List Int))(h:Ik a r):Qy a r=some (zC a r):=by
 unfold Qy
 have hs:∀i,(r.take i).flatten.length≤r.flatten.length:=fun i=>by
  conv=>rhs;rw[←List.take_append_drop i r,List.flatten_append,List.length_append]
  omega
 rw[aA (by simp[aO];omega),fI (l:=r) (fun s x=>s++x) (fun i s=>s=a++(r.take i).flatten) (fun s=>some s) (by omega) (by simp)
  (fun i s hi hv=>by rw[hv,Rb hi,List.append_assoc])
  (fun rec i s hi hv=>by
   have e:=Rb hi
   have h1:=hs (i+1)
   rw[e,List.length_append] at h1
   simp only[bU hi,cond_true,aH hi,bd_s]
   rw[aA (by unfold aO;rw[hv,List.length_append];omega)]) (fun rec s _=>by simp only[bX,cond_false])]
 have:r.foldl (fun s x=>s++x) ([]++a)=a++r.flatten:=by rw[List.nil_append,R3 (f:=fun x:List Int=>x)];simp
 rw[this];rfl
theorem U8 (k:Int)(l:List Int)(h:l.length≤34359738368):Al k l=some (aX k l):=by
 unfold Al
 rw[aA (by unfold Ik;simp;omega),bd_s,aA (by simp[zC];omega)]
 simp[aX,zC]
theorem aTt (a b:Int):aG9 a b=some (Rx a b):=by simp[aG9,Rx]
theorem aOx (n:Int):Yr n=some (gG n):=by simp[Yr,gG]
theorem U9 (k:Int)(l:List Int)(h:l.length≤34359738300):zU k l=some (aK k l):=by
 unfold zU
 rw[aA (by simp[aO];omega),aA (by simp;omega),bd_s,aQj (jR _ _).1];rfl
theorem V3 (k:Int)(l:List Int)(h:l.length≤34359738300):Aw k l=some (aK k l):=by
 unfold Aw
 rw[aA (by simp[Ik];omega),bd_s,aA (by simp[zC];omega)]
 simp[aK,zC]
theorem Yt (n:Int):Yp n=some (bJ n):=rfl
theorem Yu (n:Int):Yq n=some (bJ n):=rfl
theorem V4 (n:Int):zX n=some (fC n):=by unfold zX fC;cases bJ n<;>rfl
theorem V5 (s:D.aAI):zW s=some (gW s):=by unfold zW;rw[aA (by simp)];rfl
theorem Nv (s:D.aAI):Ns s=some (bN s):=rfl
theorem aJ8 (l:List Int)(x:Int)(h:l.length≤1099511627776):Qp l x=some (fV l x):=by
 unfold Qp
 rw[lD (l:=l) (fun e=>e==x) (.inl true) (.inr ()) (by omega) (fun rec i hi=>by simp only[bU hi,cond_true,aH hi,bd_s]) (fun rec=>by simp only[bX,cond_false])]
 unfold fV;cases l.any _<;>rfl
theorem aTu (l:List Int)(x:Int)(h:l.length≤1099511627776):aHc l x=some (fV l x):=by
 unfold aHc
 rw[lD (l:=l) (fun e=>e==x) (.inl true) (.inr ()) (by omega) (fun rec i hi=>by simp only[bU hi,cond_true,aH hi,bd_s]) (fun rec=>by simp only[bX,cond_false])]
 unfold fV;cases l.any _<;>rfl
theorem aOy (s:List Int)(x:Int):fV s x=s.contains x:=by
 unfold fV
 rw[List.contains_eq_any_beq];congr 1;funext e;exact Bool.beq_comm
theorem aM1 {s:List Int}{e:D.aAB}(h:(e.Kind==1)=true):gX s e=bif !fV s e.Device then s++[e.Device] else s:=by
 unfold gX;rw[h,aOy];cases s.contains e.Device<;>rfl
theorem aM2 {s:List Int}{e:D.aAB}(h:(e.Kind==1)=false):gX s e=bif e.Kind==2 then s.filter (fun d=>d !=e.Device) else s:=by
 unfold gX;rw[h];rfl
theorem V6 (l:List D.aAB)(h:l.length≤34359738368):zZ l=some (aB l):=by
 unfold zZ
 rw[fI (l:=l) gX (fun i s=>s.length≤i) (fun s=>some s) (by omega) (by simp) (fun i s hi hv=>by have:=aB7 s l[i];omega)
  (fun rec i s hi hv=>by
   simp only[bU hi,cond_true,aH hi,bd_s]
   rw[aA (by omega)]
   have hf:∀x:Int,bM (α:=List Int) FUEL (fun rec8 (i8:(List Int×Nat))=>bif (decide ((↑i8.2:Int)<(↑s.length:Int))) then(bd (bd (bA s (↑i8.2:Int)) fun(z10:(Int))=>bif (z10 !=x) then(bd (bA s (↑i8.2:Int)) fun(z11:(Int))=>gd (aO i8.1 [z11]) (some (i8.1++[z11]))) else(some (i8.1))) fun(z9:(List Int))=>rec8 ((z9,(i8.2+1)))) else(some (i8.1))) ([],0)=some (s.filter fun d=>d !=x):=fun x=>by
    rw[fI (l:=s) (fun q y=>bif y !=x then q++[y] else q) (fun i q=>q.length≤i) (fun q=>some q) (by omega) (by simp) (fun i q hi hv=>by cases(s[i] !=x)<;>simp<;>omega)
     (fun rec i q hi hv=>by
      simp only[bU hi,cond_true,aH hi,bd_s]
      rw[aA (by unfold aO;simp;omega)]
      cases(s[i] !=x)<;>rfl) (fun rec q _=>by simp only[bX,cond_false]),Bv]
    simp
   rw[hf]
   cases h1:(l[i].Kind==1) with
   |true=>
    have h2:(l[i].Kind==2)=false:=by simp at h1 ⊢;omega
    rw[aM1 h1,h2]
    rw[aA (by unfold aO;simp;omega)]
    cases fV s l[i].Device<;>rfl
   |false=>
    rw[aM2 h1,aA (by unfold aO;simp;omega)]
    cases(l[i].Kind==2)<;>rfl) (fun rec s _=>by simp only[bX,cond_false])]
 rfl
theorem V7 (l:List D.aAB)(h:l.length≤34359738368):Aj l=some (aB l):=by
 unfold Aj
 rw[fI (l:=l) gX (fun i s=>s.length≤i) (fun s=>some s) (by omega) (by simp) (fun i s hi hv=>by have:=aB7 s l[i];omega)
  (fun rec i s hi hv=>by
   simp only[bU hi,cond_true,aH hi,bd_s]
   rw[aA (by omega)]
   have hf:∀x:Int,bM (α:=List Int) FUEL (fun rec5 (i5:(List Int×Nat))=>bif (decide ((↑i5.2:Int)<(↑s.length:Int))) then(bd (bd (bA s (↑i5.2:Int)) fun(z7:(Int))=>bif (z7 !=x) then(gd (aO i5.1 [z7]) (some (i5.1++[z7]))) else(some (i5.1))) fun(z6:(List Int))=>rec5 ((z6,(i5.2+1)))) else(some (i5.1))) ([],0)=some (s.filter fun d=>d !=x):=fun x=>by
    rw[fI (l:=s) (fun q y=>bif y !=x then q++[y] else q) (fun i q=>q.length≤i) (fun q=>some q) (by omega) (by simp) (fun i q hi hv=>by cases(s[i] !=x)<;>simp<;>omega)
     (fun rec i q hi hv=>by
      simp only[bU hi,cond_true,aH hi,bd_s]
      rw[aA (by unfold aO;simp;omega)]
      cases(s[i] !=x)<;>rfl) (fun rec q _=>by simp only[bX,cond_false]),Bv]
    simp
   rw[hf]
   cases h1:(l[i].Kind==1) with
   |true=>
    rw[aM1 h1,aA (by unfold aO;simp;omega)]
    cases fV s l[i].Device<;>rfl
   |false=>
    rw[aM2 h1]
    cases(l[i].Kind==2)<;>rfl) (fun rec s _=>by simp only[bX,cond_false])]
 rfl
end
end Go.VK
