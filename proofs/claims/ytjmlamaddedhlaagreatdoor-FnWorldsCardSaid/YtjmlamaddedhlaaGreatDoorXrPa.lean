import Derived.Test.YtjmlamaddedhlaaGreatDoorXrM
/- Printed by wip/tools: models, walks, proofs. -/
set_option linter.all false
set_option maxRecDepth 100000
set_option maxHeartbeats 4000000
namespace Go.VK
open Go.RowKit Go.Proofs
noncomputable section
open EV (bO)
def aR5 (a b c:Int):aCt a b c=some (bE a b c):=by
 unfold aCt bE
 show bd (bif decide (b<=a) then some (decide (a<=c)) else some false) _=_
 cases decide (b<=a)<;>rfl
def aHo (a b c:Int):Ik a b c=some (bE a b c):=by
 unfold Ik bE
 cases decide (b<=a)<;>rfl
def aT7 (p q:Int):aHk p q=some (dW p q):=by
 unfold aHk
 by_cases h:1<=q/\q<=1000000000000
 ·simp[bE,h.1,h.2,aA (show q≠0 by omega),bGg h]
 ·rw[aYw h]
  rcases(show q<1\/q>1000000000000 by omega) with h|h
  ·simp[bE,show ¬1<=q by omega]
  ·simp[bE,show ¬q<=1000000000000 by omega]
def aT8 (p q:Int):aHh p q=some (dW p q):=by
 unfold aHh
 simp only[bd_bb]
 by_cases h:1<=q/\q<=1000000000000
 ·rw[aA (by omega)]
  by_cases ht:p.tmod q<0
  ·simp[h,ht,show ¬q<1 by omega,show ¬q>1000000000000 by omega,bGe h ht]
   rw[IntKind.wrap_i64];have:=Bf (p:=p) (q:=q) h.1;omega
  ·simp[h,ht,show ¬q<1 by omega,show ¬q>1000000000000 by omega,bGf h ht]
 ·rw[aYw h]
  rcases(show q<1\/q>1000000000000 by omega) with h|h<;>simp[h]
def aHp:((2147483647:Int)≠0)=True:=by simp
def aR6 (l:List Int)(h:l.length<=1099511627776):aCu l=some (qI l):=by
 unfold aCu
 rw[dP (l:=l) hstep (λ_ _=>True) (λs=>some s) (by omega) trivial (λ_ _ _ _=>trivial) (λrec i s hi _=>by
  simp only[bY hi,ae,aK hi,bd_s,aHp,gd_T];rfl) (λrec s _=>by simp only[cB,ac])]
 rfl
def aR7 (l:List Int)(h:l.length<=1099511627776):aCs l=some (qI l):=by
 unfold aCs
 rw[dP (l:=l) hstep (λ_ _=>True) (λs=>some s) (by omega) trivial (λ_ _ _ _=>trivial) (λrec i s hi _=>by
  simp only[bY hi,ae,aK hi,bd_s,aHp,gd_T];rfl) (λrec s _=>by simp only[cB,ac])]
 rfl
def U6 (k:Int)(l:List Int)(h:l.length<=34359738368):zU k l=some (aX k l):=by
 unfold zU
 rw[aA (by simp[aS];omega),aA (by simp[aS];omega),aA (by simp;omega)]
 simp[aX]
def Qh {α:Type}{r:List (List α)}{i:Nat}(hi:i<r.length):(r.take (i+1)).flatten=(r.take i).flatten++r[i]:=by
 rw[fp,ab hi,dr]
 simp only[fm,cD,fL,cI]
def aKt (a:List Int)(r:List (List Int))(h:sU a r):Pt a r=some (mK a r):=by
 unfold Pt
 have hs:∀i,(r.take i).flatten.length<=r.flatten.length:=λi=>by
  conv=>rhs;rw[<-cy i r,dr,aw]
  omega
 rw[aA (by simp[aS];omega),dP (l:=r) (λs x=>s++x) (λi s=>s=a++(r.take i).flatten) (λs=>some s) (by omega) (by simp)
  (λi s hi hv=>by rw[hv,Qh hi,ca])
  (λrec i s hi hv=>by
   have e:=Qh hi
   have h1:=hs (i+1)
   rw[e,aw] at h1
   simp only[bY hi,ae,aK hi,bd_s]
   rw[aA (by unfold aS;rw[hv,aw];omega)]) (λrec s _=>by simp only[cB,ac])]
 have:r.foldl (λs x=>s++x) ([]++a)=a++r.flatten:=by rw[bh,Q8 (f:=λx:List Int=>x)];simp
 rw[this];rfl
def U7 (k:Int)(l:List Int)(h:l.length<=34359738368):zB k l=some (aX k l):=by
 unfold zB
 rw[aA (by unfold sU;simp;omega),bd_s,aA (by simp[mK];omega)]
 simp[aX,mK]
def aT9 (a b:Int):aHl a b=some (aOq a b):=by simp[aHl,aOq]
def aPb (n:Int):Yv n=some (fI n):=by simp[Yv,fI]
def U8 (k:Int)(l:List Int)(h:l.length<=34359738300):zW k l=some (aO k l):=by
 unfold zW
 rw[aA (by simp[aS];omega),aA (by simp;omega),bd_s,aQ2 (jK _ _).1];rfl
def U9 (k:Int)(l:List Int)(h:l.length<=34359738300):zC k l=some (aO k l):=by
 unfold zC
 rw[aA (by simp[sU];omega),bd_s,aA (by simp[mK];omega)]
 simp[aO,mK]
def Yx (n:Int):Yw n=some (bB n):=rfl
def Yy (n:Int):Yu n=some (bB n):=rfl
def V3 (n:Int):zY n=some (bP n):=by unfold zY bP;cases bB n<;>rfl
def V4 (n:Int):zD n=some (bP n):=by unfold zD bP;cases bB n<;>rfl
def V5 (s:D.aAH):zX s=some (eX s):=by unfold zX;rw[aA (by simp)];rfl
def Mi (s:D.aAH):Mf s=some (bC s):=rfl
def Mj (s:D.aAH):qQ s=some (bC s):=by unfold qQ;rw[aA (by simp)];rfl
def aKu (l:List Int)(x:Int)(h:l.length<=1099511627776):Pz l x=some (fM l x):=by
 unfold Pz
 rw[jV (l:=l) (λe=>e==x) (.inl true) (.inr ()) (by omega) (λrec i hi=>by simp only[bY hi,ae,aK hi,bd_s]) (λrec=>by simp only[cB,ac])]
 unfold fM;cases l.any _<;>rfl
def aUa (l:List Int)(x:Int)(h:l.length<=1099511627776):aHi l x=some (fM l x):=by
 unfold aHi
 rw[jV (l:=l) (λe=>e==x) (.inl true) (.inr ()) (by omega) (λrec i hi=>by simp only[bY hi,ae,aK hi,bd_s]) (λrec=>by simp only[cB,ac])]
 unfold fM;cases l.any _<;>rfl
def aPc (s:List Int)(x:Int):fM s x=s.contains x:=by
 unfold fM
 rw[List.contains_eq_any_beq];congr 1;funext e;exact Bool.beq_comm
def aNm {s:List Int}{e:D.aAB}(h:(e.Kind==1)=true):gN s e=bif !fM s e.Device then s++[e.Device] else s:=by
 unfold gN;rw[h,aPc];cases s.contains e.Device<;>rfl
def aNn {s:List Int}{e:D.aAB}(h:(e.Kind==1)=false):gN s e=bif e.Kind==2 then s.filter (λd=>d !=e.Device) else s:=by
 unfold gN;rw[h];rfl
def V6 (l:List D.aAB)(h:l.length<=34359738368):Aa l=some (aB l):=by
 unfold Aa
 rw[dP (l:=l) gN (λi s=>s.length<=i) (λs=>some s) (by omega) (by simp) (λi s hi hv=>by have:=aCi s l[i];omega)
  (λrec i s hi hv=>by
   simp only[bY hi,ae,aK hi,bd_s]
   rw[aA (by omega)]
   have hf:∀x:Int,bO (α:=List Int) FUEL (λrec8 (i8:(List Int×Nat))=>bif (decide ((↑i8.2:Int)<(↑s.length:Int))) then(bd (bd (aZ s (↑i8.2:Int)) λ(z10:(Int))=>bif (z10 !=x) then(bd (aZ s (↑i8.2:Int)) λ(z11:(Int))=>gd (aS i8.1 [z11]) (some (i8.1++[z11]))) else(some (i8.1))) λ(z9:(List Int))=>rec8 ((z9,(i8.2+1)))) else(some (i8.1))) ([],0)=some (s.filter λd=>d !=x):=λx=>by
    rw[dP (l:=s) (λq y=>bif y !=x then q++[y] else q) (λi q=>q.length<=i) (λq=>some q) (by omega) (by simp) (λi q hi hv=>by cases(s[i] !=x)<;>simp<;>omega)
     (λrec i q hi hv=>by
      simp only[bY hi,ae,aK hi,bd_s]
      rw[aA (by unfold aS;simp;omega)]
      cases(s[i] !=x)<;>rfl) (λrec q _=>by simp only[cB,ac]),Bh]
    simp
   rw[hf]
   cases h1:(l[i].Kind==1) with
   |true=>
    have h2:(l[i].Kind==2)=false:=by simp at h1 ⊢;omega
    rw[aNm h1,h2]
    rw[aA (by unfold aS;simp;omega)]
    cases fM s l[i].Device<;>rfl
   |false=>
    rw[aNn h1,aA (by unfold aS;simp;omega)]
    cases(l[i].Kind==2)<;>rfl) (λrec s _=>by simp only[cB,ac])]
 rfl
def V7 (l:List D.aAB)(h:l.length<=34359738368):zF l=some (aB l):=by
 unfold zF
 rw[dP (l:=l) gN (λi s=>s.length<=i) (λs=>some s) (by omega) (by simp) (λi s hi hv=>by have:=aCi s l[i];omega)
  (λrec i s hi hv=>by
   simp only[bY hi,ae,aK hi,bd_s]
   rw[aA (by omega)]
   have hf:∀x:Int,bO (α:=List Int) FUEL (λrec5 (i5:(List Int×Nat))=>bif (decide ((↑i5.2:Int)<(↑s.length:Int))) then(bd (bd (aZ s (↑i5.2:Int)) λ(z7:(Int))=>bif (z7 !=x) then(gd (aS i5.1 [z7]) (some (i5.1++[z7]))) else(some (i5.1))) λ(z6:(List Int))=>rec5 ((z6,(i5.2+1)))) else(some (i5.1))) ([],0)=some (s.filter λd=>d !=x):=λx=>by
    rw[dP (l:=s) (λq y=>bif y !=x then q++[y] else q) (λi q=>q.length<=i) (λq=>some q) (by omega) (by simp) (λi q hi hv=>by cases(s[i] !=x)<;>simp<;>omega)
     (λrec i q hi hv=>by
      simp only[bY hi,ae,aK hi,bd_s]
      rw[aA (by unfold aS;simp;omega)]
      cases(s[i] !=x)<;>rfl) (λrec q _=>by simp only[cB,ac]),Bh]
    simp
   rw[hf]
   cases h1:(l[i].Kind==1) with
   |true=>
    rw[aNm h1,aA (by unfold aS;simp;omega)]
    cases fM s l[i].Device<;>rfl
   |false=>
    rw[aNn h1]
    cases(l[i].Kind==2)<;>rfl) (λrec s _=>by simp only[cB,ac])]
 rfl
def V8 (w:D.World)(d:Int):Ao w d=some (iA w d):=by
 unfold Ao iA
 show bd (bif decide (0<=d) then _ else _) _=_
 cases decide (0<=d)<;>rfl
def aKv (w:D.World)(d:Int)(h:WOk w):Qg w d=some (jX w d):=by
 unfold Qg jX
 have hl:=eD w.aAI.Log
 have h3:=h.2.2.1
 cases hd:iA w d with
 |false=>rfl
 |true=>simp only[ae,bDl hd,bd_s,aA h3,aA (show(aB w.aAI.Log).length<=1099511627776 by omega),dc]
end
end Go.VK
