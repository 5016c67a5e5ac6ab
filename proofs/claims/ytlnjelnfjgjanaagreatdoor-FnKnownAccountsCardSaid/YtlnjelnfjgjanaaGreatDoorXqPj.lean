import Derived.Test.YtlnjelnfjgjanaaGreatDoorXqPg
import Derived.Test.YtlnjelnfjgjanaaGreatDoorXqM
/- Printed by wip/tools: models, walks, proofs. -/
set_option linter.all false
set_option maxRecDepth 100000
set_option maxHeartbeats 4000000
namespace Go.VK
open Go.RowKit Go.Proofs
noncomputable section
open EV (cB)
def aQ5 (a:Int):aQ1 a=some (gJ a 1019):=rfl
def bMj:((1019:Int)≠0)=True:=by simp
def aMd (c:Int)(l:List Int)(x:Int)(h:0<=x/\x<=1000/\l.length<=34359738368):Uv c l x=some (Li c l x):=by
 obtain⟨h1,h2,h3⟩:=h
 have hr:=aHn ⟨h1,h2⟩ l
 have hm:=vZ (p:=c) (q:=1019) (by omega)
 unfold Uv Li
 rw[bDr (l:=l) (aHm x) some (by omega) (λrec s i hi=>by
  simp only[show decide ((i:Int)>=0)=true from ao (by omega),ac,aN hi,bd_s,bMj,gd_T,aJ (show-9223372036854775808<=(i:Int)-1 by omega) (by omega)];rfl) (λrec s=>rfl) (aJ (by omega) (by omega))]
 simp only[bd_s,bMj,gd_T]
 rw[aJ (by omega) (by omega),co (by omega)]
end
end Go.VK
