import Derived.Test.YtlnjelnfjgjanaaGreatDoorXqM
/- Printed by wip/tools: models, walks, proofs. -/
set_option linter.all false
set_option maxRecDepth 100000
set_option maxHeartbeats 4000000
namespace Go.VK
open Go.RowKit Go.Proofs
noncomputable section
open EV (cB)
def aT1 (a b c:Int):aDy a b c=some (bH a b c):=by
 unfold aDy bH
 show bd (bif decide (b<=a) then some (decide (a<=c)) else some false) _=_
 cases decide (b<=a)<;>rfl
def aIr (a b c:Int):Nn a b c=some (bH a b c):=by
 unfold Nn bH
 cases decide (b<=a)<;>rfl
def aWi (p q:Int):aIl p q=some (gJ p q):=by
 unfold aIl
 by_cases h:1<=q/\q<=1000000000000
 ·simp[bH,h.1,h.2,aB (show q≠0 by omega),bI6 h]
 ·rw[bBy h]
  rcases(show q<1\/q>1000000000000 by omega) with h|h
  ·simp[bH,show ¬1<=q by omega]
  ·simp[bH,show ¬q<=1000000000000 by omega]
def aWj (p q:Int):aIq p q=some (gJ p q):=by
 unfold aIq
 simp only[bd_bb]
 by_cases h:1<=q/\q<=1000000000000
 ·rw[aB (by omega)]
  by_cases ht:p.tmod q<0
  ·simp[h,ht,show ¬q<1 by omega,show ¬q>1000000000000 by omega,bI4 h ht]
   rw[IntKind.wrap_i64];have:=En (p:=p) (q:=q) h.1;omega
  ·simp[h,ht,show ¬q<1 by omega,show ¬q>1000000000000 by omega,bI5 h ht]
 ·rw[bBy h]
  rcases(show q<1\/q>1000000000000 by omega) with h|h<;>simp[h]
def aIs:((2147483647:Int)≠0)=True:=by simp
def aT2 (l:List Int)(h:l.length<=1099511627776):aDz l=some (uE l):=by
 unfold aDz
 rw[eT (l:=l) hstep (λ_ _=>True) (λs=>some s) (by omega) trivial (λ_ _ _ _=>trivial) (λrec i s hi _=>by
  simp only[dB hi,ac,aN hi,bd_s,aIs,gd_T];rfl) (λrec s _=>by simp only[dF,ab])]
 rfl
def aT3 (l:List Int)(h:l.length<=1099511627776):aD0 l=some (uE l):=by
 unfold aD0
 rw[eT (l:=l) hstep (λ_ _=>True) (λs=>some s) (by omega) trivial (λ_ _ _ _=>trivial) (λrec i s hi _=>by
  simp only[dB hi,ac,aN hi,bd_s,aIs,gd_T];rfl) (λrec s _=>by simp only[dF,ab])]
 rfl
def aA2 (k:Int)(l:List Int)(h:l.length<=34359738368):Bv k l=some (bE k l):=by
 unfold Bv
 rw[aB (by simp[aS];omega),aB (by simp[aS];omega),aB (by simp;omega)]
 simp[bE]
def Vh {α:Type}{r:List (List α)}{i:Nat}(hi:i<r.length):(r.take (i+1)).flatten=(r.take i).flatten++r[i]:=by
 rw[fx,ae hi,d8]
 simp only[fv,cM,fX,cP]
def aL5 (a:List Int)(r:List (List Int))(h:nX a r):Uy a r=some (kI a r):=by
 unfold Uy
 have hs:∀i,(r.take i).flatten.length<=r.flatten.length:=λi=>by
  conv=>rhs;rw[<-cL i r,d8,av]
  omega
 rw[aB (by simp[aS];omega),eT (l:=r) (λs x=>s++x) (λi s=>s=a++(r.take i).flatten) (λs=>some s) (by omega) (by simp)
  (λi s hi hv=>by rw[hv,Vh hi,ck])
  (λrec i s hi hv=>by
   have e:=Vh hi
   have h1:=hs (i+1)
   rw[e,av] at h1
   simp only[dB hi,ac,aN hi,bd_s]
   rw[aB (by unfold aS;rw[hv,av];omega)]) (λrec s _=>by simp only[dF,ab])]
 have:r.foldl (λs x=>s++x) ([]++a)=a++r.flatten:=by rw[bm,aAp (f:=λx:List Int=>x)];simp
 rw[this];rfl
def aA3 (k:Int)(l:List Int)(h:l.length<=34359738368):Cr k l=some (bE k l):=by
 unfold Cr
 rw[aB (by unfold nX;simp;omega),bd_s,aB (by simp[kI];omega)]
 simp[bE,kI]
def aWk (a b:Int):aIm a b=some (aQg a b):=by simp[aIm,aQg]
def aQ2 (n:Int):J2 n=some (gX n):=by simp[J2,gX]
def aA4 (k:Int)(l:List Int)(h:l.length<=34359738300):Bw k l=some (aW k l):=by
 unfold Bw
 rw[aB (by simp[aS];omega),aB (by simp;omega),bd_s,aSu (kE _ _).1];rfl
def aA5 (k:Int)(l:List Int)(h:l.length<=34359738300):Da k l=some (aW k l):=by
 unfold Da
 rw[aB (by simp[nX];omega),bd_s,aB (by simp[kI];omega)]
 simp[aW,kI]
def J4 (n:Int):I8 n=some (bG n):=rfl
def J5 (n:Int):I9 n=some (bG n):=rfl
def aA6 (n:Int):Cb n=some (bU n):=by unfold Cb bU;cases bG n<;>rfl
def aA7 (n:Int):Db n=some (bU n):=by unfold Db bU;cases bG n<;>rfl
def aA8 (s:D.aAH):Ca s=some (fF s):=by unfold Ca;rw[aB (by simp)];rfl
def Rf (s:D.aAH):Qy s=some (bJ s):=rfl
def Rh (s:D.aAH):uU s=some (bJ s):=by unfold uU;rw[aB (by simp)];rfl
def aL6 (l:List Int)(x:Int)(h:l.length<=1099511627776):Um l x=some (gH l x):=by
 unfold Um
 rw[kX (l:=l) (λe=>e==x) (.inl true) (.inr ()) (by omega) (λrec i hi=>by simp only[dB hi,ac,aN hi,bd_s]) (λrec=>by simp only[dF,ab])]
 unfold gH;cases l.any _<;>rfl
def aWl (l:List Int)(x:Int)(h:l.length<=1099511627776):aIp l x=some (gH l x):=by
 unfold aIp
 rw[kX (l:=l) (λe=>e==x) (.inl true) (.inr ()) (by omega) (λrec i hi=>by simp only[dB hi,ac,aN hi,bd_s]) (λrec=>by simp only[dF,ab])]
 unfold gH;cases l.any _<;>rfl
def aQ3 (s:List Int)(x:Int):gH s x=s.contains x:=by
 unfold gH
 rw[List.contains_eq_any_beq];congr 1;funext e;exact Bool.beq_comm
def aPa {s:List Int}{e:D.aAD}(h:(e.Kind==1)=true):iN s e=bif !gH s e.Device then s++[e.Device] else s:=by
 unfold iN;rw[h,aQ3];cases s.contains e.Device<;>rfl
def aPb {s:List Int}{e:D.aAD}(h:(e.Kind==1)=false):iN s e=bif e.Kind==2 then s.filter (λd=>d !=e.Device) else s:=by
 unfold iN;rw[h];rfl
def aA9 (l:List D.aAD)(h:l.length<=34359738368):Ce l=some (aD l):=by
 unfold Ce
 rw[eT (l:=l) iN (λi s=>s.length<=i) (λs=>some s) (by omega) (by simp) (λi s hi hv=>by have:=aDl s l[i];omega)
  (λrec i s hi hv=>by
   simp only[dB hi,ac,aN hi,bd_s]
   rw[aB (by omega)]
   have hf:∀x:Int,cB (α:=List Int) FUEL (λrec8 (i8:(List Int×Nat))=>bif (decide ((↑i8.2:Int)<(↑s.length:Int))) then(bd (bd (bD s (↑i8.2:Int)) λ(z10:(Int))=>bif (z10 !=x) then(bd (bD s (↑i8.2:Int)) λ(z11:(Int))=>gd (aS i8.1 [z11]) (some (i8.1++[z11]))) else(some (i8.1))) λ(z9:(List Int))=>rec8 ((z9,(i8.2+1)))) else(some (i8.1))) ([],0)=some (s.filter λd=>d !=x):=λx=>by
    rw[eT (l:=s) (λq y=>bif y !=x then q++[y] else q) (λi q=>q.length<=i) (λq=>some q) (by omega) (by simp) (λi q hi hv=>by cases(s[i] !=x)<;>simp<;>omega)
     (λrec i q hi hv=>by
      simp only[dB hi,ac,aN hi,bd_s]
      rw[aB (by unfold aS;simp;omega)]
      cases(s[i] !=x)<;>rfl) (λrec q _=>by simp only[dF,ab]),Ep]
    simp
   rw[hf]
   cases h1:(l[i].Kind==1) with
   |true=>
    have h2:(l[i].Kind==2)=false:=by simp at h1 ⊢;omega
    rw[aPa h1,h2]
    rw[aB (by unfold aS;simp;omega)]
    cases gH s l[i].Device<;>rfl
   |false=>
    rw[aPb h1,aB (by unfold aS;simp;omega)]
    cases(l[i].Kind==2)<;>rfl) (λrec s _=>by simp only[dF,ab])]
 rfl
def aBa (l:List D.aAD)(h:l.length<=34359738368):Co l=some (aD l):=by
 unfold Co
 rw[eT (l:=l) iN (λi s=>s.length<=i) (λs=>some s) (by omega) (by simp) (λi s hi hv=>by have:=aDl s l[i];omega)
  (λrec i s hi hv=>by
   simp only[dB hi,ac,aN hi,bd_s]
   rw[aB (by omega)]
   have hf:∀x:Int,cB (α:=List Int) FUEL (λrec5 (i5:(List Int×Nat))=>bif (decide ((↑i5.2:Int)<(↑s.length:Int))) then(bd (bd (bD s (↑i5.2:Int)) λ(z7:(Int))=>bif (z7 !=x) then(gd (aS i5.1 [z7]) (some (i5.1++[z7]))) else(some (i5.1))) λ(z6:(List Int))=>rec5 ((z6,(i5.2+1)))) else(some (i5.1))) ([],0)=some (s.filter λd=>d !=x):=λx=>by
    rw[eT (l:=s) (λq y=>bif y !=x then q++[y] else q) (λi q=>q.length<=i) (λq=>some q) (by omega) (by simp) (λi q hi hv=>by cases(s[i] !=x)<;>simp<;>omega)
     (λrec i q hi hv=>by
      simp only[dB hi,ac,aN hi,bd_s]
      rw[aB (by unfold aS;simp;omega)]
      cases(s[i] !=x)<;>rfl) (λrec q _=>by simp only[dF,ab]),Ep]
    simp
   rw[hf]
   cases h1:(l[i].Kind==1) with
   |true=>
    rw[aPa h1,aB (by unfold aS;simp;omega)]
    cases gH s l[i].Device<;>rfl
   |false=>
    rw[aPb h1]
    cases(l[i].Kind==2)<;>rfl) (λrec s _=>by simp only[dF,ab])]
 rfl
def aBb (w:D.World)(d:Int):Cz w d=some (aL w d):=by
 unfold Cz aL
 show bd (bif decide (0<=d) then _ else _) _=_
 cases decide (0<=d)<;>rfl
def bFi (w:D.World)(d:Int)(h:WOk w):Vg w d=some (cZ w d):=by
 unfold Vg cZ
 rw[aOh h]
 have hl:=gD w.aAE.Log
 have h3:=h.2.2.1
 cases hd:aL w d with
 |false=>rfl
 |true=>simp only[ac,rV hd,bd_s,aB h3,aB (show(aD w.aAE.Log).length<=1099511627776 by omega),cA]
def aL7 (w:D.World)(d:Int)(h:WOk w):Uz w d=some (cZ w d):=by
 unfold Uz cZ
 have hl:=gD w.aAE.Log
 have h3:=h.2.2.1
 cases hd:aL w d with
 |false=>rfl
 |true=>simp only[ac,rV hd,bd_s,aB h3,aB (show(aD w.aAE.Log).length<=1099511627776 by omega),cA]
end
end Go.VK
