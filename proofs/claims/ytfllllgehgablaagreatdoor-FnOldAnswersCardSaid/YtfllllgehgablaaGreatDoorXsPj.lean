import Derived.Test.YtfllllgehgablaaGreatDoorXsPg
import Derived.Test.YtfllllgehgablaaGreatDoorXsM
/- Printed by wip/tools: models, walks, proofs. -/
set_option linter.all false
set_option maxRecDepth 100000
set_option maxHeartbeats 4000000
namespace Go.VK
open Go.RowKit Go.Proofs
noncomputable section
open EV (bU)
def aR8 (a:Int):aR4 a=some (gK a 1019):=rfl
def bN0:((1019:Int)≠0)=True:=by simp
def aMy (c:Int)(l:List Int)(x:Int)(h:0<=x/\x<=1000/\l.length<=34359738368):Ul c l x=some (Uc c l x):=by
 obtain⟨h1,h2,h3⟩:=h
 have hr:=aId ⟨h1,h2⟩ l
 have hm:=vV (p:=c) (q:=1019) (by omega)
 unfold Ul Uc
 rw[bE5 (l:=l) (aIc x) some (by omega) (λrec s i hi=>by
  simp only[show decide ((i:Int)>=0)=true from ao (by omega),ae,aM hi,bd_s,bN0,gd_T,aI (show-9223372036854775808<=(i:Int)-1 by omega) (by omega)];rfl) (λrec s=>rfl) (aI (by omega) (by omega))]
 simp only[bd_s,bN0,gd_T]
 rw[aI (by omega) (by omega),cp (by omega)]
end
end Go.VK
