import Derived.Test.YtlnjelnfjgjanaaGreatXpPl
import Derived.Test.YtlnjelnfjgjanaaGreatXpM
/- Printed by wip/tools: models, walks, proofs. -/
set_option linter.unusedVariables false
set_option linter.unusedSimpArgs false
set_option maxRecDepth 100000
set_option maxHeartbeats 4000000
namespace Go.VK
open Go.RowKit Go.Proofs
noncomputable section
open EV (bT)
theorem WOk.of' {w:D.World}(h:w.sz≤34359738368):WOk w:=by
 simp only[D.World.sz] at h
 unfold WOk
 omega
theorem aCj (w:D.World)(d:Int)(h:w.sz≤34359738368):Fx w d=some (aN w&&aK w d):=by
 unfold Fx
 rw[aB h,bd_s,aL1 (WOk.of' h),aNu,bd_s]
theorem Ug (b:D.aAG)(s h:Int)(hz:b.sz≤34359738360):wH b s h=some (aP3 b s h):=by
 unfold wH aP3
 simp only[aB hz,aB (show b.sz≤34359738368 by omega),bd_s]
 cases aT b with
 |false=>rfl
 |true=>
  by_cases hf:aL b s h<0
  ·rw[decide_eq_true hf];rfl
  ·obtain⟨h1,h2,h3,h4⟩:=aVa (b:=b) (s:=s) (h:=h) (decide_eq_true (by omega))
   rw[decide_eq_false hf,h1]
   simp only[bd_s]
   rw[show(⟨s,h,IntKind.i64.wrap ((b.Entries.getD (aL b s h).toNat default).Version+1),true⟩:D.Entry)=bGs b s h from rfl]
   cases(b.Entries.getD (aL b s h).toNat default).Deleted<;>cases((b.Entries.getD (aL b s h).toNat default).Version==1000000)<;>rfl
theorem Pf (d:D.Device)(n:ByteArray)(h:Int)(rm:Bool)(hz:d.sz≤34359738360∧n.size≤34359738300):tV d n h rm=some (bX d n h rm):=by
 obtain⟨h1,h2⟩:=hz
 have hb:d.aAG.sz≤34359738360:=by simp only[D.Device.sz,D.aAG.sz] at*;omega
 unfold tV bX rG
 simp only[aB (show d.sz≤34359738368 by omega),aB h2,aB hb,bd_s]
 cases rm with
 |true=>
  simp only[cond_true,bd_s]
  cases(aP3 d.aAG (bU n) h).2<;>rfl
 |false=>
  simp only[cond_false,bd_s]
  cases(aP2 d.aAG (bU n) h).2<;>rfl
theorem aXt {w:D.World}{d:Int}(h:aK w d=true):0≤d∧d.toNat<w.Devices.length∧(aO w d).sz≤w.sz∧aO w d=w.Devices.getD d.toNat default:=by
 simp only[aK,Bool.and_eq_true,decide_eq_true_eq] at h
 have hi:d.toNat<w.Devices.length:=by omega
 have:=xO (f:=D.Device.sz) hi
 refine⟨h.1,hi,?_,rfl⟩
 show(w.Devices.getD d.toNat default).sz≤_
 simp only[D.World.sz];omega
theorem aXu {d:D.Device}{n:ByteArray}{h:Int}{rm:Bool}(e:(bX d n h rm).2=false):bX d n h rm=(d,false):=by
 unfold bX at e ⊢
 cases q:(rG d n h rm).2 with
 |true=>rw[q] at e;cases e
 |false=>rfl
theorem Yz (w:D.World)(d:Int)(n:ByteArray)(h:Int)(rm:Bool)(hz:w.sz≤34359738300∧n.size≤34359738300):yS w d n h rm=some (xP w d n h rm):=by
 obtain⟨h1,h2⟩:=hz
 unfold yS xP
 rw[aB (show w.sz≤34359738368 by omega),bd_s,aB (show w.sz≤34359738368 by omega),bd_s]
 cases hc:(aN w&&aK w d) with
 |false=>rfl
 |true=>
  have hd:=(Bool.and_eq_true_iff.1 hc).2
  obtain⟨k1,k2,k3,k4⟩:=aXt hd
  rw[Bool.not_true,cond_false,cond_true,uR hd,bd_s,aB ⟨by omega,h2⟩,bd_s,bd_s]
  cases e:(bX (aO w d) n h rm).2 with
  |true=>rfl
  |false=>rw[aXu e,cond_false,k4,aFf k2]
end
end Go.VK
