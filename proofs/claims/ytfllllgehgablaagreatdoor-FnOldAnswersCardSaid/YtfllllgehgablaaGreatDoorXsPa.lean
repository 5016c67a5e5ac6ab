import Derived.Test.YtfllllgehgablaaGreatDoorXsM
/- Printed by wip/tools: models, walks, proofs. -/
set_option linter.all false
set_option maxRecDepth 100000
set_option maxHeartbeats 4000000
namespace Go.VK
open Go.RowKit Go.Proofs
noncomputable section
open EV (bU)
def aVb (a b c:Int):aEb a b c=some (bI a b c):=by
 unfold aEb bI
 show bd (bif decide (b<=a) then some (decide (a<=c)) else some false) _=_
 cases decide (b<=a)<;>rfl
def aJc (a b c:Int):Nq a b c=some (bI a b c):=by
 unfold Nq bI
 cases decide (b<=a)<;>rfl
def aXs (p q:Int):aI6 p q=some (gK p q):=by
 unfold aI6
 by_cases h:1<=q/\q<=1000000000000
 ·simp[bI,h.1,h.2,aB (show q≠0 by omega),bKx h]
 ·rw[bDc h]
  rcases(show q<1\/q>1000000000000 by omega) with h|h
  ·simp[bI,show ¬1<=q by omega]
  ·simp[bI,show ¬q<=1000000000000 by omega]
def aXt (p q:Int):aJb p q=some (gK p q):=by
 unfold aJb
 simp only[bd_bb]
 by_cases h:1<=q/\q<=1000000000000
 ·rw[aB (by omega)]
  by_cases ht:p.tmod q<0
  ·simp[h,ht,show ¬q<1 by omega,show ¬q>1000000000000 by omega,bKv h ht]
   rw[IntKind.wrap_i64];have:=Ey (p:=p) (q:=q) h.1;omega
  ·simp[h,ht,show ¬q<1 by omega,show ¬q>1000000000000 by omega,bKw h ht]
 ·rw[bDc h]
  rcases(show q<1\/q>1000000000000 by omega) with h|h<;>simp[h]
def aJd:((2147483647:Int)≠0)=True:=by simp
def aVc (l:List Int)(h:l.length<=1099511627776):aEc l=some (tY l):=by
 unfold aEc
 rw[fV (l:=l) hstep (λ_ _=>True) (λs=>some s) (by omega) trivial (λ_ _ _ _=>trivial) (λrec i s hi _=>by
  simp only[dL hi,ae,aM hi,bd_s,aJd,gd_T];rfl) (λrec s _=>by simp only[dP,ab])]
 rfl
def aVd (l:List Int)(h:l.length<=1099511627776):aEd l=some (tY l):=by
 unfold aEd
 rw[fV (l:=l) hstep (λ_ _=>True) (λs=>some s) (by omega) trivial (λ_ _ _ _=>trivial) (λrec i s hi _=>by
  simp only[dL hi,ae,aM hi,bd_s,aJd,gd_T];rfl) (λrec s _=>by simp only[dP,ab])]
 rfl
def aBc (k:Int)(l:List Int)(h:l.length<=34359738368):Cr k l=some (bJ k l):=by
 unfold Cr
 rw[aB (by simp[aW];omega),aB (by simp[aW];omega),aB (by simp;omega)]
 simp[bJ]
def Ux {α:Type}{r:List (List α)}{i:Nat}(hi:i<r.length):(r.take (i+1)).flatten=(r.take i).flatten++r[i]:=by
 rw[fg,ac hi,ey]
 simp only[eW,cR,fY,cW]
def aMq (a:List Int)(r:List (List Int))(h:wG a r):Ur a r=some (oQ a r):=by
 unfold Ur
 have hs:∀i,(r.take i).flatten.length<=r.flatten.length:=λi=>by
  conv=>rhs;rw[<-cF i r,ey,aw]
  omega
 rw[aB (by simp[aW];omega),fV (l:=r) (λs x=>s++x) (λi s=>s=a++(r.take i).flatten) (λs=>some s) (by omega) (by simp)
  (λi s hi hv=>by rw[hv,Ux hi,ce])
  (λrec i s hi hv=>by
   have e:=Ux hi
   have h1:=hs (i+1)
   rw[e,aw] at h1
   simp only[dL hi,ae,aM hi,bd_s]
   rw[aB (by unfold aW;rw[hv,aw];omega)]) (λrec s _=>by simp only[dP,ab])]
 have:r.foldl (λs x=>s++x) ([]++a)=a++r.flatten:=by rw[bn,aAx (f:=λx:List Int=>x)];simp
 rw[this];rfl
def aBd (k:Int)(l:List Int)(h:l.length<=34359738368):Dw k l=some (bJ k l):=by
 unfold Dw
 rw[aB (by unfold wG;simp;omega),bd_s,aB (by simp[oQ];omega)]
 simp[bJ,oQ]
def aXu (a b:Int):aI7 a b=some (aRf a b):=by simp[aI7,aRf]
def aR5 (n:Int):K6 n=some (iI n):=by simp[K6,iI]
def aBe (k:Int)(l:List Int)(h:l.length<=34359738300):Cs k l=some (aT k l):=by
 unfold Cs
 rw[aB (by simp[aW];omega),aB (by simp;omega),bd_s,aT3 (kF _ _).1];rfl
def aBf (k:Int)(l:List Int)(h:l.length<=34359738300):Dz k l=some (aT k l):=by
 unfold Dz
 rw[aB (by simp[wG];omega),bd_s,aB (by simp[oQ];omega)]
 simp[aT,oQ]
def K7 (n:Int):J9 n=some (bG n):=rfl
def K8 (n:Int):K5 n=some (bG n):=rfl
def aBg (n:Int):Cu n=some (cB n):=by unfold Cu cB;cases bG n<;>rfl
def aBh (n:Int):Ea n=some (cB n):=by unfold Ea cB;cases bG n<;>rfl
def aBi (s:D.aAI):Ct s=some (fP s):=by unfold Ct;rw[aB (by simp)];rfl
def Qz (s:D.aAI):Qv s=some (aY s):=rfl
def Ra (s:D.aAI):uO s=some (aY s):=by unfold uO;rw[aB (by simp)];rfl
def aMr (l:List Int)(x:Int)(h:l.length<=1099511627776):Uf l x=some (gM l x):=by
 unfold Uf
 rw[mJ (l:=l) (λe=>e==x) (.inl true) (.inr ()) (by omega) (λrec i hi=>by simp only[dL hi,ae,aM hi,bd_s]) (λrec=>by simp only[dP,ab])]
 unfold gM;cases l.any _<;>rfl
def aXv (l:List Int)(x:Int)(h:l.length<=1099511627776):aJa l x=some (gM l x):=by
 unfold aJa
 rw[mJ (l:=l) (λe=>e==x) (.inl true) (.inr ()) (by omega) (λrec i hi=>by simp only[dL hi,ae,aM hi,bd_s]) (λrec=>by simp only[dP,ab])]
 unfold gM;cases l.any _<;>rfl
def aR6 (s:List Int)(x:Int):gM s x=s.contains x:=by
 unfold gM
 rw[List.contains_eq_any_beq];congr 1;funext e;exact Bool.beq_comm
def aP8 {s:List Int}{e:D.aAC}(h:(e.Kind==1)=true):iQ s e=bif !gM s e.Device then s++[e.Device] else s:=by
 unfold iQ;rw[h,aR6];cases s.contains e.Device<;>rfl
def aP9 {s:List Int}{e:D.aAC}(h:(e.Kind==1)=false):iQ s e=bif e.Kind==2 then s.filter (λd=>d !=e.Device) else s:=by
 unfold iQ;rw[h];rfl
def aBj (l:List D.aAC)(h:l.length<=34359738368):Cx l=some (aD l):=by
 unfold Cx
 rw[fV (l:=l) iQ (λi s=>s.length<=i) (λs=>some s) (by omega) (by simp) (λi s hi hv=>by have:=aD1 s l[i];omega)
  (λrec i s hi hv=>by
   simp only[dL hi,ae,aM hi,bd_s]
   rw[aB (by omega)]
   have hf:∀x:Int,bU (α:=List Int) FUEL (λrec8 (i8:(List Int×Nat))=>bif (decide ((↑i8.2:Int)<(↑s.length:Int))) then(bd (bd (bA s (↑i8.2:Int)) λ(z10:(Int))=>bif (z10 !=x) then(bd (bA s (↑i8.2:Int)) λ(z11:(Int))=>gd (aW i8.1 [z11]) (some (i8.1++[z11]))) else(some (i8.1))) λ(z9:(List Int))=>rec8 ((z9,(i8.2+1)))) else(some (i8.1))) ([],0)=some (s.filter λd=>d !=x):=λx=>by
    rw[fV (l:=s) (λq y=>bif y !=x then q++[y] else q) (λi q=>q.length<=i) (λq=>some q) (by omega) (by simp) (λi q hi hv=>by cases(s[i] !=x)<;>simp<;>omega)
     (λrec i q hi hv=>by
      simp only[dL hi,ae,aM hi,bd_s]
      rw[aB (by unfold aW;simp;omega)]
      cases(s[i] !=x)<;>rfl) (λrec q _=>by simp only[dP,ab]),Ez]
    simp
   rw[hf]
   cases h1:(l[i].Kind==1) with
   |true=>
    have h2:(l[i].Kind==2)=false:=by simp at h1 ⊢;omega
    rw[aP8 h1,h2]
    rw[aB (by unfold aW;simp;omega)]
    cases gM s l[i].Device<;>rfl
   |false=>
    rw[aP9 h1,aB (by unfold aW;simp;omega)]
    cases(l[i].Kind==2)<;>rfl) (λrec s _=>by simp only[dP,ab])]
 rfl
def aBk (l:List D.aAC)(h:l.length<=34359738368):Dt l=some (aD l):=by
 unfold Dt
 rw[fV (l:=l) iQ (λi s=>s.length<=i) (λs=>some s) (by omega) (by simp) (λi s hi hv=>by have:=aD1 s l[i];omega)
  (λrec i s hi hv=>by
   simp only[dL hi,ae,aM hi,bd_s]
   rw[aB (by omega)]
   have hf:∀x:Int,bU (α:=List Int) FUEL (λrec5 (i5:(List Int×Nat))=>bif (decide ((↑i5.2:Int)<(↑s.length:Int))) then(bd (bd (bA s (↑i5.2:Int)) λ(z7:(Int))=>bif (z7 !=x) then(gd (aW i5.1 [z7]) (some (i5.1++[z7]))) else(some (i5.1))) λ(z6:(List Int))=>rec5 ((z6,(i5.2+1)))) else(some (i5.1))) ([],0)=some (s.filter λd=>d !=x):=λx=>by
    rw[fV (l:=s) (λq y=>bif y !=x then q++[y] else q) (λi q=>q.length<=i) (λq=>some q) (by omega) (by simp) (λi q hi hv=>by cases(s[i] !=x)<;>simp<;>omega)
     (λrec i q hi hv=>by
      simp only[dL hi,ae,aM hi,bd_s]
      rw[aB (by unfold aW;simp;omega)]
      cases(s[i] !=x)<;>rfl) (λrec q _=>by simp only[dP,ab]),Ez]
    simp
   rw[hf]
   cases h1:(l[i].Kind==1) with
   |true=>
    rw[aP8 h1,aB (by unfold aW;simp;omega)]
    cases gM s l[i].Device<;>rfl
   |false=>
    rw[aP9 h1]
    cases(l[i].Kind==2)<;>rfl) (λrec s _=>by simp only[dP,ab])]
 rfl
def aBl (w:D.World)(d:Int):Dy w d=some (aN w d):=by
 unfold Dy aN
 show bd (bif decide (0<=d) then _ else _) _=_
 cases decide (0<=d)<;>rfl
def aMs (w:D.World)(d:Int)(h:WOk w):Uq w d=some (kG w d):=by
 unfold Uq kG
 rw[aPa h]
 have hl:=iD w.aAB.Log
 have h3:=h.2.2.1
 cases hd:aN w d with
 |false=>rfl
 |true=>simp only[ae,vE hd,bd_s,aB h3,aB (show(aD w.aAB.Log).length<=1099511627776 by omega),da]
end
end Go.VK
