import Derived.Test.YtaaefkcjgkpckaaGreatDoorXoPg
import Derived.Test.YtaaefkcjgkpckaaGreatDoorXoM
/- Printed by wip/tools: models, walks, proofs. -/
set_option linter.unusedVariables false
set_option linter.unusedSimpArgs false
set_option maxRecDepth 100000
set_option maxHeartbeats 4000000
namespace Go.VK
open Go.RowKit Go.Proofs
noncomputable section
open EV (dL)
theorem aOc (a:Int):aN8 a=some (kN a 1019):=rfl
theorem bIg:((1019:Int)≠0)=True:=by simp
theorem aJt (c:Int)(l:List Int)(x:Int)(h:0≤x∧x≤1000∧l.length≤34359738368):Rc c l x=some (Yf c l x):=by
 obtain⟨h1,h2,h3⟩:=h
 have hr:=aFg ⟨h1,h2⟩ l
 have hm:=vD (p:=c) (q:=1019) (by omega)
 unfold Rc Yf
 rw[bAr (l:=l) (aFf x) some (by omega) (fun rec s i hi=>by
  simp only[show decide ((i:Int)≥0)=true from decide_eq_true (by omega),cond_true,aR hi,bd_s,bIg,gd_T,aK (show-9223372036854775808≤(i:Int)-1 by omega) (by omega)];rfl) (fun rec s=>rfl) (aK (by omega) (by omega))]
 simp only[bd_s,bIg,gd_T]
 rw[aK (by omega) (by omega),Int.tmod_eq_emod_of_nonneg (by omega)]
end
end Go.VK
