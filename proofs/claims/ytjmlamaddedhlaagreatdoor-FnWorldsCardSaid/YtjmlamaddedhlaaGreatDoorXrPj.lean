import Derived.Test.YtjmlamaddedhlaaGreatDoorXrPg
import Derived.Test.YtjmlamaddedhlaaGreatDoorXrM
/- Printed by wip/tools: models, walks, proofs. -/
set_option linter.all false
set_option maxRecDepth 100000
set_option maxHeartbeats 4000000
namespace Go.VK
open Go.RowKit Go.Proofs
noncomputable section
open EV (bO)
def aPe (a:Int):aPa a=some (dW a 1019):=rfl
def bH3:((1019:Int)≠0)=True:=by simp
def aK1 (c:Int)(l:List Int)(x:Int)(h:0<=x/\x<=1000/\l.length<=34359738368):Qf c l x=some (qO c l x):=by
 obtain⟨h1,h2,h3⟩:=h
 have hr:=Rf ⟨h1,h2⟩ l
 have hm:=lN (p:=c) (q:=1019) (by omega)
 unfold Qf qO
 rw[aRb (l:=l) (aCl x) some (by omega) (λrec s i hi=>by
  simp only[show decide ((i:Int)>=0)=true from ap (by omega),ae,aK hi,bd_s,bH3,gd_T,aH (show-9223372036854775808<=(i:Int)-1 by omega) (by omega)];rfl) (λrec s=>rfl) (aH (by omega) (by omega))]
 simp only[bd_s,bH3,gd_T]
 rw[aH (by omega) (by omega),cb (by omega)]
def Zg (c:Int)(l:List Int)(x:Int)(h:0<=x/\x<=1000/\l.length<=34359738368):wW c l x=some (qO c l x):=by
 obtain⟨h1,h2,h3⟩:=h
 have hr:=Rf ⟨h1,h2⟩ l
 have hm:=lN (p:=c) (q:=1019) (by omega)
 unfold wW qO
 rw[aRb (l:=l) (aCl x) some (by omega) (λrec s i hi=>by
  simp only[show decide ((i:Int)>=0)=true from ap (by omega),ae,aK hi,bd_s,bH3,gd_T,aH (show-9223372036854775808<=(i:Int)-1 by omega) (by omega)];rfl) (λrec s=>rfl) (aH (by omega) (by omega))]
 simp only[bd_s]
 rw[aH (by omega) (by omega),dW,cr (by omega)]
end
end Go.VK
