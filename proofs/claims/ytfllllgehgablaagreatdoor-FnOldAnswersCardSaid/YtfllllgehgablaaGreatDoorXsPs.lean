import Derived.Test.YtfllllgehgablaaGreatDoorXsPq
import Derived.Test.YtfllllgehgablaaGreatDoorXsM
/- Printed by wip/tools: models, walks, proofs. -/
set_option linter.all false
set_option maxRecDepth 100000
set_option maxHeartbeats 4000000
namespace Go.VK
open Go.RowKit Go.Proofs
noncomputable section
open EV (bU)
def bIt {k:Int}{b:List Int}(hl:b.length<=34359738368){F:(List Int×Nat->Option (List Int))->List Int×Nat->Option (List Int)}
  (hF:∀rec i s (hi:i<b.length),s.length<=34359738368->F rec (s,i)=rec (s++[aRo k i b[i]],i+1)) (hE:∀rec s,F rec (s,b.length)=some s):EV.bU FUEL F ([],0)=some (jV k b):=by
 refine aMg (λi s=>i<=b.length/\s=(Iu (λi z=>[aRo k i z]) 0 (b.take i),i)) b.length _ (by omega) ⟨by omega,by simp[Iu]⟩ (λi s rec hi hv=> ?_) (λs rec hv=> ?_)
 ·obtain⟨_,rfl⟩:=hv
  refine .inl ⟨_,⟨hi,rfl⟩,?_⟩
  rw[hF rec i _ hi (by rw[oU,bz];omega),aBw hi,ca]
 ·obtain⟨_,rfl⟩:=hv
  rw[hE,eS];rfl
def aKd (k:Int)(b:List Int)(h:aQ b):Mj k b=some (jV k b):=by
 unfold Mj
 rw[bIt (k:=k) h.1 (λrec i s hi hs=>by
  have e:=bE9 (k:=k) i (yY h hi)
  have h4:((256:Int)≠0)=True:=by simp
  simp only[dL hi,ae,aM hi,bd_s,aB (show([(i:Int)]:List Int).length<=34359738368 by simp),h4,gd_T,e,fF hs]) (λrec s=>by simp only[dP,ab])]
 rfl
def bMl (k:Int)(b:D.aAF):(jV k (oC b)).length<=34359738200:=by have:=Cj b;rw[wK];omega
def O4 (k e v:Int)(b:D.aAF)(h:b.sz<=34359738368):zM k e v b=some (lG k e v b):=by
 unfold zM lG oD
 simp only[aB h,bd_s,aB (aIh b),aB (bMl (jU k e v) b)]
 cases bG k<;>cases bI e 0 1000000<;>cases bI v 0 1000000<;>cases aP b<;>rfl
def aB0 (a b:D.aAA):De a b=some (nK a b):=by
 unfold De nK
 cases decide (a.Epoch>b.Epoch)<;>cases(a.Epoch==b.Epoch)<;>rfl
def bIu {d:D.Device}(h:d.sz<=34359738368):d.aAF.sz<=34359738368:=by simp only[D.Device.sz,D.aAF.sz] at*;omega
def Xa (d:D.Device)(h:d.sz<=34359738368):xB d=some (dD d):=by
 unfold xB dD
 simp only[aB h,aB (bIu h),bd_s]
 cases(lG d.Key d.Epoch (IntKind.i64.wrap (d.Version+1)) d.aAF).2<;>rfl
def bCm (c:D.aAB)(s:D.aAA)(h:c.sz<=34359738300/\s.sz<=34359738300):(bd (gd (c.sz<=34359738368) (some c)) λz0=>bd (gd (c.Log.length<=34359738368) (some (aJ c.Log))) λz1=>bd (bif (s.Epoch !=z1) then some true else(bif decide ((c.History.length:Int)>0) then(bd (bA c.History (IntKind.i64.wrap ((c.History.length:Int)-1))) λz3=>bd (some (nK s z3)) λz4=>bif !z4 then some true else some (decide ((c.History.length:Int)>=60))) else some (decide ((c.History.length:Int)>=60)))) λz2=>bif z2 then some (z0,false) else bd (gd (s.sz<=34359738368) (some s)) λz3=>gd (aW z0.History [z3]) (some (D.aAB.mk z0.Log z0.Boxes (z0.History++[z3]),true)))=some (cK c s):=by
 obtain⟨h1,h2⟩:=h
 have hz:=h1
 simp only[D.aAB.sz] at hz
 unfold cK
 simp only[aB (show c.sz<=34359738368 by omega),aB (show c.Log.length<=34359738368 by omega),aB (show s.sz<=34359738368 by omega),bd_s,fF (show c.History.length<=34359738368 by omega)]
 by_cases h0:0<c.History.length
 ·have e2:bA c.History (IntKind.i64.wrap ((c.History.length:Int)-1))=some (c.History.getD (c.History.length-1) default):=by
   rw[aI (by omega) (by omega),sK (by omega) (by omega)];congr 2;omega
  rw[ao (show(c.History.length:Int)>0 by omega),e2]
  generalize c.History.getD (c.History.length-1) default=x
  simp only[bd_s,ae,da]
  cases(s.Epoch !=aJ c.Log)<;>cases nK s x<;>cases decide ((c.History.length:Int)>=60)<;>rfl
 ·rw[au (show ¬(c.History.length:Int)>0 by omega)]
  cases(s.Epoch !=aJ c.Log)<;>cases decide ((c.History.length:Int)>=60)<;>rfl
def Rl (c:D.aAB)(s:D.aAA)(h:c.sz<=34359738300/\s.sz<=34359738300):Qw c s=some (cK c s):=bCm c s h
def bIv {w:D.World}{d:Int}(hz:w.sz<=10000000000)(h:((aH w d 0).2==0)=true):(aN (aH w d 0).1 d=true/\(aO (aH w d 0).1 d).sz<=34359738368)/\((aH w d 0).1.aAB.sz<=34359738300/\(dD (aO (aH w d 0).1 d)).2.1.sz<=34359738300):=by
 obtain⟨⟨k1,k2⟩,k3,k4,k5⟩:=jP h
 have hd:aN (aH w d 0).1 d=true:=by simp only[aN] at*;rw[k4];exact k2
 have h1:=(aBz hd).2.2.1
 have h2:=Oc (aH w d 0).1
 have h3:=(vQ (aO (aH w d 0).1 d)).2
 have h4:w.aAB.Log.length<=w.sz:=by simp only[D.World.sz,D.aAB.sz];omega
 exact⟨⟨hd,by omega⟩,by omega,by simp only[D.aAA.sz];omega⟩
def O5 (w:D.World)(d:Int)(hz:w.sz<=10000000000):zW w d=some (fG w d):=by
 unfold zW fG
 have hw:w.sz<=34359738368:=by omega
 simp only[aB (show w.sz<=34359738100 by omega),aB hw,bd_s,bne]
 cases hs:((aH w d 0).2==0) with
 |false=>rfl
 |true=>
  obtain⟨⟨k1,k2⟩,k3⟩:=bIv hz hs
  generalize(aH w d 0).1=x at*
  simp only[bf,ab,vE k1,bd_s,aB k2,aB k3,zA]
  unfold Ud
  cases(dD (aO x d)).2.2<;>cases(cK x.aAB (dD (aO x d)).2.1).2<;>rfl
end
end Go.VK
