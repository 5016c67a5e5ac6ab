import Derived.Test.YtjmlamaddedhlaaGreatDoorXrPm
import Derived.Test.YtjmlamaddedhlaaGreatDoorXrM
/- Printed by wip/tools: models, walks, proofs. -/
set_option linter.all false
set_option maxRecDepth 100000
set_option maxHeartbeats 4000000
namespace Go.VK
open Go.RowKit Go.Proofs
noncomputable section
open EV (bO)
def aH9 (l:List D.aAB)(h:l.length<=34359738368):Jd l=some (aJ l):=by
 unfold Jd
 rw[dP (l:=l) (λn e=>bif e.Kind==2 then IntKind.i64.wrap (n+1) else n) (λ_ _=>True) (λs=>some s) (by omega) trivial (λ_ _ _ _=>trivial) (λrec i s hi _=>by
  simp only[bY hi,ae,aK hi,bd_s,iK]) (λrec s _=>by simp only[cB,ac])]
 rfl
def aIa (l:List D.aAB)(h:l.length<=34359738368):Ip l=some (aJ l):=by
 unfold Ip
 rw[dP (l:=l) (λn e=>bif e.Kind==2 then IntKind.i64.wrap (n+1) else n) (λ_ _=>True) (λs=>some s) (by omega) trivial (λ_ _ _ _=>trivial) (λrec i s hi _=>by
  simp only[bY hi,ae,aK hi,bd_s,iK]) (λrec s _=>by simp only[cB,ac])]
 rfl
def aK2 (p e:Int):Pv p e=some (dU p e):=by unfold Pv;rw[aA (by simp)];rfl
def aK3 (p e:Int):Qa p e=some (dU p e):=by unfold Qa;rw[aA (by simp)];rfl
def aK4 (k:Int)(b:D.Box)(h:b.Data.length<=34359738200):Qb k b=some (Ex k b):=by
 unfold Qb Ex
 rw[aA (by omega),bd_s,aA (by simp[aS,qD];omega),aA (by simp[qD];omega)];rfl
def aK5 (k:Int)(b:D.Box)(h:b.Data.length<=34359738200):Pw k b=some (Ex k b):=by
 unfold Pw Ex
 rw[aA (by omega),bd_s,aA (by simp[sU,qD];omega),bd_s,aA (by simp[qD,mK];omega)]
 simp[mK]
def Y3 {α β:Type}{y:Nat->α->β}:∀{l:List α} {j i:Nat} (hi:i<l.length),Eu (λi x=>[y i x]) j (l.take (i+1))=Eu (λi x=>[y i x]) j (l.take i)++[y (j+i) l[i]]
 |x::xs,j,0,_=>by simp[Eu]
 |x::xs,j,i+1,hi=>by
  have:=Y3 (y:=y) (l:=xs) (j:=j+1) (i:=i) (by simpa using hi)
  simp only[gR,Eu,eK,this,cz,bh]
  rw[show j+1+i=j+(i+1) by omega]
def aWd {k:Int}{b:List Int}(hl:b.length<=34359738368){F:(List Int×Nat->Option (List Int))->List Int×Nat->Option (List Int)}
  (hF:∀rec i s (hi:i<b.length),s.length<=34359738368->F rec (s,i)=rec (s++[aGr k i b[i]],i+1)) (hE:∀rec s,F rec (s,b.length)=some s):bO FUEL F ([],0)=some (Hl k b):=by
 refine aGo (λi s=>i<=b.length/\s=(Eu (λi z=>[aGr k i z]) 0 (b.take i),i)) b.length _ (by omega) ⟨by omega,by simp[Eu]⟩ (λi s rec hi hv=> ?_) (λs rec hv=> ?_)
 ·obtain⟨_,rfl⟩:=hv
  refine .inl ⟨_,⟨hi,rfl⟩,?_⟩
  rw[hF rec i _ hi (by rw[mM,ci];omega),Y3 hi,bu]
 ·obtain⟨_,rfl⟩:=hv
  rw[hE,fe];rfl
def aIb (k:Int)(b:List Int)(h:b.length<=34359738368):Jq k b=some (Hl k b):=by
 unfold Jq
 rw[aWd (k:=k) h (λrec i s hi hs=>by
  have e:=bAm k i b[i]
  have h4:((256:Int)≠0)=True:=by simp
  simp only[bY hi,ae,aK hi,bd_s,aA (show([(i:Int)]:List Int).length<=34359738368 by simp),h4,gd_T,e,fB hs]) (λrec s=>by simp only[cB,ac])]
 rfl
def aIc (k:Int)(b:List Int)(h:b.length<=34359738368):Iu k b=some (Hl k b):=by
 unfold Iu
 rw[aWd (k:=k) h (λrec i s hi hs=>by
  have e:=bAl k i b[i]
  simp only[bY hi,ae,aK hi,bd_s,aA (show([(i:Int)]:List Int).length<=34359738368 by simp),e,fB hs]) (λrec s=>by simp only[cB,ac])]
 rfl
def aId (p:Int)(b:D.Box):Jr p b=some (dK p b):=by
 unfold Jr dK
 by_cases hl:b.Data.length<=200
 ·simp only[aA (show b.Data.length<=34359738200 by omega),aA (show b.Data.length<=34359738368 by omega),bd_s,show decide ((b.Data.length:Int)>200)=false from aq (by omega)]
  cases bB p<;>cases(b.To !=bP p)<;>cases bB b.Ephemeral<;>cases(b.MAC !=Ex (dU p b.Ephemeral) b)<;>rfl
 ·rw[show decide ((b.Data.length:Int)>200)=true from ap (by omega)]
  cases bB p<;>cases(b.To !=bP p)<;>cases bB b.Ephemeral<;>rfl
def Zh {bs:List D.Box}{p:Int}(hl:bs.length<=34359738368){F:(Nat->Option ((List Int×Bool)⊕PUnit))->Nat->Option ((List Int×Bool)⊕PUnit)}
  (hF:∀rec i (hi:i<bs.length),F rec i=bif (dK p bs[i]).2 then some (.inl ((dK p bs[i]).1,true)) else rec (i+1)) (hE:∀rec,F rec bs.length=some (.inr ())):nx (bO FUEL F 0) (λ_=>some (([]:List Int),false))=some (dX bs p):=by
 have go:∀(k i n:Nat),i+k=bs.length->k<n->nx (bO n F i) (λ_=>some (([]:List Int),false))=some (dX (bs.drop i) p):=by
  intro k
  induction k with
  |zero=>
   intro i n hk hn
   obtain⟨n,rfl⟩:∃m,n=m+1:=⟨n-1,by omega⟩
   have:i=bs.length:=by omega
   subst this
   rw[iT,hE,di];rfl
  |succ k ih=>
   intro i n hk hn
   obtain⟨n,rfl⟩:∃m,n=m+1:=⟨n-1,by omega⟩
   have hi:i<bs.length:=by omega
   rw[iT,hF _ i hi,cj hi,dX]
   cases(dK p bs[i]).2 with
   |true=>rfl
   |false=>exact ih (i+1) n (by omega) (by omega)
 exact go bs.length 0 FUEL (by omega) (by have:=fP;omega)
def aIe (bs:List D.Box)(p:Int)(h:bs.length<=34359738368):Js bs p=some (dX bs p):=by
 unfold Js
 exact Zh h (λrec i hi=>by simp only[bY hi,ae,aK hi,bd_s]) (λrec=>by simp only[cB,ac])
def aIf (p:Int)(b:D.Box):Iw p b=some (dK p b):=by
 unfold Iw dK
 by_cases hl:b.Data.length<=200
 ·simp only[aA (show b.Data.length<=34359738200 by omega),aA (show b.Data.length<=34359738368 by omega),bd_s,show decide ((b.Data.length:Int)>200)=false from aq (by omega)]
  cases bB p<;>cases(b.To !=bP p)<;>cases bB b.Ephemeral<;>cases(b.MAC !=Ex (dU p b.Ephemeral) b)<;>rfl
 ·rw[show decide ((b.Data.length:Int)>200)=true from ap (by omega)]
  cases bB p<;>cases(b.To !=bP p)<;>cases bB b.Ephemeral<;>rfl
def aIg (bs:List D.Box)(p:Int)(h:bs.length<=34359738368):Iy bs p=some (dX bs p):=by
 unfold Iy
 exact Zh h (λrec i hi=>by simp only[bY hi,ae,aK hi,bd_s]) (λrec=>by simp only[cB,ac])
def aSa {c:D.aAI}{b:Int}(hz:c.sz<=34359738368)(h0:0<=b/\b<(c.History.length:Int)):aZ c.History (IntKind.i64.wrap (IntKind.i64.wrap ((c.History.length:Int)-1)-b))=some (c.History.getD (c.History.length-1-b.toNat) default)/\(c.History.getD (c.History.length-1-b.toNat) default).sz<=34359738368:=by
 simp only[D.aAI.sz] at hz
 have h1:=aOv (f:=D.aAA.sz) (l:=c.History) (i:=c.History.length-1-b.toNat) (by omega)
 refine⟨?_,by omega⟩
 rw[aH (n:=(c.History.length:Int)-1) (by omega) (by omega),aH (by omega) (by omega),Yi (by omega) (by omega)]
 congr 2;omega
def Sr (c:D.aAI)(b:Int)(hz:c.sz<=34359738368):uS c b=some (lC c b):=by
 unfold uS lC
 rw[bDq (by simp only[D.aAI.sz] at hz;omega)]
 cases e:(decide (b<0)||decide (b>=(c.History.length:Int))) with
 |true=>rfl
 |false=>
  obtain⟨h1,h2⟩:=aSa hz (aTk e)
  rw[ac,ac,h1,bd_s,aA h2,bd_s]
end
end Go.VK
