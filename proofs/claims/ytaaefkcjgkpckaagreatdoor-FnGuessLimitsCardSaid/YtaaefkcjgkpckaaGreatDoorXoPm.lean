import Derived.Test.YtaaefkcjgkpckaaGreatDoorXoPl
import Derived.Test.YtaaefkcjgkpckaaGreatDoorXoQ
/- Printed by wip/tools: models, walks, proofs. -/
set_option linter.unusedVariables false
set_option linter.unusedSimpArgs false
set_option maxRecDepth 100000
set_option maxHeartbeats 4000000
namespace Go.VK
open Go.RowKit Go.Proofs
noncomputable section
open EV (bM)
theorem Te (b:D.aAE)(s h:Int)(hz:b.sz≤34359738360):uX b s h=some (aQw b s h):=by
 unfold uX aQw
 simp only[aA hz,aA (show b.sz≤34359738368 by omega),bd_s]
 cases aP b with
 |false=>rfl
 |true=>
  by_cases hf:aI b s h<0
  ·rw[decide_eq_true hf];rfl
  ·obtain⟨h1,h2,h3,h4⟩:=aV1 (b:=b) (s:=s) (h:=h) (decide_eq_true (by omega))
   rw[decide_eq_false hf,h1]
   simp only[bd_s]
   rw[show(⟨s,h,IntKind.i64.wrap ((b.Entries.getD (aI b s h).toNat default).Version+1),true⟩:D.Entry)=bG2 b s h from rfl]
   cases(b.Entries.getD (aI b s h).toNat default).Deleted<;>cases((b.Entries.getD (aI b s h).toNat default).Version==1000000)<;>rfl
theorem Oe (d:D.Device)(n:ByteArray)(h:Int)(rm:Bool)(hz:d.sz≤34359738360∧n.size≤34359738300):rZ d n h rm=some (gZ d n h rm):=by
 obtain⟨h1,h2⟩:=hz
 have hb:d.aAE.sz≤34359738360:=by simp only[D.Device.sz,D.aAE.sz] at*;omega
 unfold rZ gZ wL
 simp only[aA (show d.sz≤34359738368 by omega),aA h2,aA hb,bd_s]
 cases rm with
 |true=>
  simp only[cond_true,bd_s]
  cases(aQw d.aAE (bT n) h).2<;>rfl
 |false=>
  simp only[cond_false,bd_s]
  cases(aQv d.aAE (bT n) h).2<;>rfl
end
end Go.VK
