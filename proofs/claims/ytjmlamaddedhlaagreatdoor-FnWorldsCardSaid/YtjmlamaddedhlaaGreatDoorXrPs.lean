import Derived.Test.YtjmlamaddedhlaaGreatDoorXrPq
import Derived.Test.YtjmlamaddedhlaaGreatDoorXrM
/- Printed by wip/tools: models, walks, proofs. -/
set_option linter.all false
set_option maxRecDepth 100000
set_option maxHeartbeats 4000000
namespace Go.VK
open Go.RowKit Go.Proofs
noncomputable section
open EV (bO)
def aWf {k:Int}{b:List Int}(hl:b.length<=34359738368){F:(List Int×Nat->Option (List Int))->List Int×Nat->Option (List Int)}
  (hF:∀rec i s (hi:i<b.length),s.length<=34359738368->F rec (s,i)=rec (s++[aRi k i b[i]],i+1)) (hE:∀rec s,F rec (s,b.length)=some s):EV.bO FUEL F ([],0)=some (iW k b):=by
 refine aGo (λi s=>i<=b.length/\s=(Eu (λi z=>[aRi k i z]) 0 (b.take i),i)) b.length _ (by omega) ⟨by omega,by simp[Eu]⟩ (λi s rec hi hv=> ?_) (λs rec hv=> ?_)
 ·obtain⟨_,rfl⟩:=hv
  refine .inl ⟨_,⟨hi,rfl⟩,?_⟩
  rw[hF rec i _ hi (by rw[mM,ci];omega),Y3 hi,bu]
 ·obtain⟨_,rfl⟩:=hv
  rw[hE,fe];rfl
def aIi (k:Int)(b:List Int)(h:aQ b):Iq k b=some (iW k b):=by
 unfold Iq
 rw[aWf (k:=k) h.1 (λrec i s hi hs=>by
  have e:=bAx (k:=k) i (pQ h hi)
  have h4:((256:Int)≠0)=True:=by simp
  simp only[bY hi,ae,aK hi,bd_s,aA (show([(i:Int)]:List Int).length<=34359738368 by simp),h4,gd_T,e,fB hs]) (λrec s=>by simp only[cB,ac])]
 rfl
def aIj (k:Int)(b:List Int)(h:aQ b):Je k b=some (iW k b):=by
 unfold Je
 rw[aWf (k:=k) h.1 (λrec i s hi hs=>by
  have e:=bAy (k:=k) i (pQ h hi)
  have h4:((256:Int)≠0)=True:=by simp
  simp only[bY hi,ae,aK hi,bd_s,aA (show([(i:Int)]:List Int).length<=34359738368 by simp),h4,gd_T,e,fB hs]) (λrec s=>by simp only[cB,ac])]
 rfl
def Jw (b:List Int)(n:Int)(h:b.length<=34359738300):pU b n=some (mQ b n):=by
 unfold pU mQ enc1
 have e:(decide (n<0)||decide (n>1000000000000))= !bE n 0 1000000000000:=by
  unfold bE;rw[eu];simp<;>omega
 rw[aA (show b.length<=34359738368 by omega),bd_s,yX,bd_s,e]
 cases hr:bE n 0 1000000000000 with
 |false=>simp
 |true=>
  rw[bl,ac,ae]
  exact aWe (gX hr) h (λrec n s h0 h1 h2=>by
   have h4:((128:Int)≠0)=True:=by simp
   have e1:decide (n>=128)=decide (n>127):=cu.2 (by omega)
   have e2:IntKind.u8.wrap (IntKind.i64.wrap (n.tmod 128+128))=n%128+128:=by rw[cb h0,aH (by omega) (by omega),aGy (by omega) (by omega)]
   have e3:IntKind.i64.wrap (n.tdiv 128)=n/128:=by rw[gh h0,aH (by omega) (by omega)]
   simp only[h4,gd_T,e1,e2,e3,fB (s:=s) h2])
def Zt (l:List Int)(h:l.length<=5000000000):wJ l=some (eU l):=by
 unfold wJ
 rw[dP (l:=l) mQ (λi s=>s.length<=6*i) (λs=>some s) (by omega) (by simp) (λi s hi hv=>by have:=Hw l[i];simp only[mQ,aw];omega) (λrec i s hi hv=>by
  simp only[bY hi,ae,aK hi,bd_s,aA (show s.length<=34359738300 by omega)]) (λrec s _=>by simp only[cB,ac]),Y6]
 rfl
def Mx (b:D.aAC)(h:b.sz<=34359738368):qV b=some (jZ b):=by
 unfold qV jZ
 rw[aA h,bd_s]
 cases hb:aI b with
 |false=>rfl
 |true=>
  have hl:=kL hb
  have hv:(lK b).length=1+4*b.Entries.length:=by simp[lK,oJ];omega
  rw[bl,ac,ae,dP (l:=b.Entries) (λs e=>s++aKq e) (λi s=>s.length<=1+4*i) (λs=>some s) (by omega) (by simp) (λi s hi hv=>by simp only[aKq,aw,az,ce];omega) (λrec i s hi hv=>by
   have e:∀x y z w:Int,gd (aS s [x,y,z,w]) (rec (s++[x,y,z,w],i+1))=rec (s++[x,y,z,w],i+1):=λ_ _ _ _=>aA (by unfold aS;simp only[az,ce];omega)
   simp only[bY hi,ae,aK hi,bd_s,Rw,iK,e];rfl) (λrec s _=>by simp only[cB,ac]),Sy,bd_s]
  rw[aA (show([(b.Entries.length:Int)]++gJ b.Entries).length<=5000000000 by show(lK b).length<=_;omega),bd_s]
  rfl
def bB2 (k:Int)(b:D.aAC):(iW k (jZ b)).length<=34359738200:=by have:=aNc b;rw[Ia];omega
def Zu (k e v:Int)(b:D.aAC)(h:b.sz<=34359738368):wQ k e v b=some (mR k e v b):=by
 unfold wQ mR kZ iU
 simp only[aA h,bd_s,aA (show[(223:Int),e,v].length<=34359738300 by simp),aA (Yl b),aA (bB2 (aO k [223,e,v]) b)]
 cases bB k<;>cases bE e 0 1000000<;>cases bE v 0 1000000<;>cases aI b<;>rfl
def Zv (k e v:Int)(b:D.aAC)(h:b.sz<=34359738368):xG k e v b=some (mR k e v b):=by
 unfold xG mR kZ
 simp only[aA h,bd_s,aA (Yl b),aA (bB2 (iU k e v) b)]
 cases bB k<;>cases bE e 0 1000000<;>cases bE v 0 1000000<;>cases aI b<;>rfl
def Y7 (a b:D.aAA):zP a b=some (oK a b):=by
 unfold zP oK
 cases decide (a.Epoch>b.Epoch)<;>cases(a.Epoch==b.Epoch)<;>rfl
def Y8 (a b:D.aAA):Ah a b=some (oK a b):=by
 unfold Ah oK
 cases decide (a.Epoch>b.Epoch)<;>cases(a.Epoch==b.Epoch)<;>rfl
def aWg {d:D.Device}(h:d.sz<=34359738368):d.aAC.sz<=34359738368:=by simp only[D.Device.sz,D.aAC.sz] at*;omega
def Sz (d:D.Device)(h:d.sz<=34359738368):uC d=some (gQ d):=by
 unfold uC gQ
 simp only[aA h,aA (aWg h),bd_s]
 cases(mR d.Key d.Epoch (IntKind.i64.wrap (d.Version+1)) d.aAC).2<;>rfl
def Ta (d:D.Device)(h:d.sz<=34359738368):uR d=some (gQ d):=by
 unfold uR gQ
 simp only[aA h,aA (aWg h),bd_s]
 cases(mR d.Key d.Epoch (IntKind.i64.wrap (d.Version+1)) d.aAC).2<;>rfl
def aNq (c:D.aAI)(s:D.aAA)(h:c.sz<=34359738300/\s.sz<=34359738300):(bd (gd (c.sz<=34359738368) (some c)) λz0=>bd (gd (c.Log.length<=34359738368) (some (aJ c.Log))) λz1=>bd (bif (s.Epoch !=z1) then some true else(bif decide ((c.History.length:Int)>0) then(bd (aZ c.History (IntKind.i64.wrap ((c.History.length:Int)-1))) λz3=>bd (some (oK s z3)) λz4=>bif !z4 then some true else some (decide ((c.History.length:Int)>=60))) else some (decide ((c.History.length:Int)>=60)))) λz2=>bif z2 then some (z0,false) else bd (gd (s.sz<=34359738368) (some s)) λz3=>gd (aS z0.History [z3]) (some (D.aAI.mk z0.Log z0.Boxes (z0.History++[z3]),true)))=some (dO c s):=by
 obtain⟨h1,h2⟩:=h
 have hz:=h1
 simp only[D.aAI.sz] at hz
 unfold dO
 simp only[aA (show c.sz<=34359738368 by omega),aA (show c.Log.length<=34359738368 by omega),aA (show s.sz<=34359738368 by omega),bd_s,fB (show c.History.length<=34359738368 by omega)]
 by_cases h0:0<c.History.length
 ·have e2:aZ c.History (IntKind.i64.wrap ((c.History.length:Int)-1))=some (c.History.getD (c.History.length-1) default):=by
   rw[aH (by omega) (by omega),Yi (by omega) (by omega)];congr 2;omega
  rw[ap (show(c.History.length:Int)>0 by omega),e2]
  generalize c.History.getD (c.History.length-1) default=x
  simp only[bd_s,ae,dc]
  cases(s.Epoch !=aJ c.Log)<;>cases oK s x<;>cases decide ((c.History.length:Int)>=60)<;>rfl
 ·rw[aq (show ¬(c.History.length:Int)>0 by omega)]
  cases(s.Epoch !=aJ c.Log)<;>cases decide ((c.History.length:Int)>=60)<;>rfl
def Na (c:D.aAI)(s:D.aAA)(h:c.sz<=34359738300/\s.sz<=34359738300):Md c s=some (dO c s):=aNq c s h
def Nb (c:D.aAI)(s:D.aAA)(h:c.sz<=34359738300/\s.sz<=34359738300):Mg c s=some (dO c s):=aNq c s h
end
end Go.VK
