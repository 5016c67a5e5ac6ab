import Derived.Test.YtefkjglmpmakcaaGreatDoorXlPi
import Derived.Test.YtefkjglmpmakcaaGreatDoorXlQ
/- Printed by wip/tools: models, walks, proofs. -/
set_option linter.unusedVariables false
set_option linter.unusedSimpArgs false
set_option maxRecDepth 100000
set_option maxHeartbeats 4000000
namespace Go.VK
open Go.RowKit Go.Proofs
noncomputable section
open EV (bS)
theorem aTp (a:Int):aTe a=some (iJ a 1019):=rfl
theorem bHj:((1019:Int)≠0)=True:=by simp
theorem aPs (c:Int)(l:List Int)(x:Int)(h:0≤x∧x≤1000∧l.length≤34359738368):Tw c l x=some (xH c l x):=by
 obtain⟨h1,h2,h3⟩:=h
 have hr:=Vj ⟨h1,h2⟩ l
 have hm:=pX (p:=c) (q:=1019) (by omega)
 unfold Tw xH
 rw[aVr (l:=l) (aF3 x) some (by omega) (fun rec s i hi=>by
  simp only[show decide ((i:Int)≥0)=true from decide_eq_true (by omega),cond_true,aF hi,bd_s,bHj,gd_T,aK (show-9223372036854775808≤(i:Int)-1 by omega) (by omega)];rfl) (fun rec s=>rfl) (aK (by omega) (by omega))]
 simp only[bd_s,bHj,gd_T]
 rw[aK (by omega) (by omega),Int.tmod_eq_emod_of_nonneg (by omega)]
theorem N9 (c:Int)(l:List Int)(x:Int)(h:0≤x∧x≤1000∧l.length≤34359738368):yN c l x=some (xH c l x):=by
 obtain⟨h1,h2,h3⟩:=h
 have hr:=Vj ⟨h1,h2⟩ l
 have hm:=pX (p:=c) (q:=1019) (by omega)
 unfold yN xH
 rw[aVr (l:=l) (aF3 x) some (by omega) (fun rec s i hi=>by
  simp only[show decide ((i:Int)≥0)=true from decide_eq_true (by omega),cond_true,aF hi,bd_s,bHj,gd_T,aK (show-9223372036854775808≤(i:Int)-1 by omega) (by omega)];rfl) (fun rec s=>rfl) (aK (by omega) (by omega))]
 simp only[bd_s]
 rw[aK (by omega) (by omega),iJ,if_pos (by omega)]
end
end Go.VK
