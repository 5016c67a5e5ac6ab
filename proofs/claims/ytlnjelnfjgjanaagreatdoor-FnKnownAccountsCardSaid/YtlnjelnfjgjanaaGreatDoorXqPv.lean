import Derived.Test.YtlnjelnfjgjanaaGreatDoorXqPu
import Derived.Test.YtlnjelnfjgjanaaGreatDoorXqM
/- Printed by wip/tools: models, walks, proofs. -/
set_option linter.all false
set_option maxRecDepth 100000
set_option maxHeartbeats 4000000
namespace Go.VK
open Go.RowKit Go.Proofs
noncomputable section
open EV (cB)
def aE0 (s e:Int):Gu s e=some (bI s e):=by unfold Gu;rw[aB (by simp)];rfl
def O3 (d:D.Device)(l:List D.aAD)(k:Int)(h:d.sz<=34359738368/\l.length<=34359738368):zH d l k=some (rF d l k):=by
 unfold zH rF
 simp only[aB h.1,aB h.2,bd_s]
 cases bL l<;>cases dG l d.Log<;>cases decide (aF l<d.Epoch)<;>cases bG k<;>rfl
def aRk (s:D.Account)(i:Int)(h:s.Credentials.length<=34359738368):qR s i=some (bC s i):=by
 unfold qR
 exact sI (l:=s.Credentials) (λa=>a.Handle==i) (by omega) (λrec j hj=>by simp only[dB hj,ac,aN hj,bd_s]) (λrec=>by simp only[dF,ab])
def Jd (s:D.Account)(i:Int)(h:s.Credentials.length<=34359738368):qP s i=some (bC s i):=by
 unfold qP
 exact sI (l:=s.Credentials) (λa=>a.Handle==i) (by omega) (λrec j hj=>by simp only[dB hj,ac,aN hj,bd_s]) (λrec=>by simp only[dF,ab])
end
end Go.VK
