import Derived.Test.YtjmlamaddedhlaaGreatDoorXrPv
import Derived.Test.YtjmlamaddedhlaaGreatDoorXrM
/- Printed by wip/tools: models, walks, proofs. -/
set_option linter.all false
set_option maxRecDepth 100000
set_option maxHeartbeats 4000000
namespace Go.VK
open Go.RowKit Go.Proofs
noncomputable section
open EV (bO)
def rH {α β:Type}{x:Option α}{f:α->Option β}{a:α}{r:Option β}(h:x=some a)(h2:f a=r):bd x f=r:=by rw[h];exact h2
def bB3 {α β:Type}{x:Option (α⊕β)}{f:β->Option α}{b:β}{r:Option α}(h:x=some (.inr b))(h2:f b=r):nx x f=r:=by rw[h];exact h2
def bB4 {τ:Type}(n:Nat){F:(Nat->Option τ)->Nat->Option τ}{b:τ}(hn:n<=18446744073709551616)(hF:∀rec i,i<n->F rec i=rec (i+1))(hE:∀rec,F rec n=some b):bO FUEL F 0=some b:=by
 have:=jV (l:=List.replicate n ()) (λ_=>false) b b (by simpa using hn) (F:=F) (λrec i hi=>by rw[hF rec i (by simpa using hi)];rfl) (λrec=>by simpa using hE rec)
 rw[this];cases(List.replicate n ()).any λ_=>false<;>rfl
end
end Go.VK
