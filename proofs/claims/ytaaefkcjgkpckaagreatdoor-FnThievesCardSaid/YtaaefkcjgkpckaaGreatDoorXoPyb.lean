import Derived.Test.YtaaefkcjgkpckaaGreatDoorXoPx
import Derived.Test.YtaaefkcjgkpckaaGreatDoorXoM
/- Printed by wip/tools: models, walks, proofs. -/
set_option linter.unusedVariables false
set_option linter.unusedSimpArgs false
set_option maxRecDepth 100000
set_option maxHeartbeats 4000000
namespace Go.VK
open Go.RowKit Go.Proofs
noncomputable section
open EV (dL)
theorem Um (w:D.World)(d:Int)(h:w.sz≤34359738368):wN w d=some (gU w d):=by
 unfold wN gU
 simp only[aG h,bd_s]
 cases hw:bK w with
 |false=>unfold bU;rw[hw];rfl
 |true=>
  cases hd:aQ w d with
  |false=>unfold bU;rw[hw,hd];rfl
  |true=>
   have ht:bU w d 0=true:=by
    obtain⟨_,_,h3,_⟩:=Lx hw
    unfold bU
    rw[hw,hd]
    unfold iE
    rw[decide_eq_true (show(0:Int)≤0 by decide),decide_eq_true (show(0:Int)<(w.Sites.length:Int) by omega)];rfl
   simp only[Bool.not_true,cond_false,aMq ht,bd_s,ht,Bool.true_and]
   cases bM w d<;>rfl
theorem o8 (w:D.World)(d j:Int)(hz:w.sz≤34359738200):yX w d j=some (nK w d j):=by
 have hz1:w.sz≤34359738368:=by omega
 unfold yX nK
 simp only[aG hz1,bd_s]
 rw[show(bM w d==true)=bM w d by cases bM w d<;>rfl]
 cases hq:bU w d j&&bM w d with
 |false=>rfl
 |true=>
  rw[Bool.and_eq_true] at hq
  simp only[Bool.not_true,cond_false,cond_true]
  exact(yZ (aG (show kT (nU j)∧w.sz≤34359738200 from⟨bA0 (Zz hq.1).2.2.2.1,hz⟩)) rfl)
end
end Go.VK
