import Derived.Test.YtaaefkcjgkpckaaGreatDoorXoPl
import Derived.Test.YtaaefkcjgkpckaaGreatDoorXoM
/- Printed by wip/tools: models, walks, proofs. -/
set_option linter.unusedVariables false
set_option linter.unusedSimpArgs false
set_option maxRecDepth 100000
set_option maxHeartbeats 4000000
namespace Go.VK
open Go.RowKit Go.Proofs
noncomputable section
open EV (dL)
theorem WOk.of' {w:D.World}(h:w.sz≤34359738368):WOk w:=by
 simp only[D.World.sz] at h
 unfold WOk
 omega
theorem aCn (w:D.World)(d:Int)(h:w.sz≤34359738368):Ga w d=some (bK w&&aQ w d):=by
 unfold Ga
 rw[aG h,bd_s,aLq (WOk.of' h),bGi,bd_s]
theorem Tw (b:D.aAE)(s h:Int)(hz:b.sz≤34359738360):wB b s h=some (aJg b s h):=by
 unfold wB aJg
 simp only[aG hz,aG (show b.sz≤34359738368 by omega),bd_s]
 cases aP b with
 |false=>rfl
 |true=>
  by_cases hf:aJ b s h<0
  ·rw[decide_eq_true hf];rfl
  ·obtain⟨h1,h2,h3,h4⟩:=aVs (b:=b) (s:=s) (h:=h) (decide_eq_true (by omega))
   rw[decide_eq_false hf,h1]
   simp only[bd_s]
   rw[show(⟨s,h,IntKind.i64.wrap ((b.Entries.getD (aJ b s h).toNat default).Version+1),true⟩:D.Entry)=aW6 b s h from rfl]
   cases(b.Entries.getD (aJ b s h).toNat default).Deleted<;>cases((b.Entries.getD (aJ b s h).toNat default).Version==1000000)<;>rfl
theorem Pj (d:D.Device)(n:ByteArray)(h:Int)(rm:Bool)(hz:d.sz≤34359738360∧n.size≤34359738300):tN d n h rm=some (fB d n h rm):=by
 obtain⟨h1,h2⟩:=hz
 have hb:d.aAE.sz≤34359738360:=by simp only[D.Device.sz,D.aAE.sz] at*;omega
 unfold tN fB uP
 simp only[aG (show d.sz≤34359738368 by omega),aG h2,aG hb,bd_s]
 cases rm with
 |true=>
  simp only[cond_true,bd_s]
  cases(aJg d.aAE (bB n) h).2<;>rfl
 |false=>
  simp only[cond_false,bd_s]
  cases(aJf d.aAE (bB n) h).2<;>rfl
end
end Go.VK
