import Derived.Test.YtlnjelnfjgjanaaGreatDoorXqPl
import Derived.Test.YtlnjelnfjgjanaaGreatDoorXqM
/- Printed by wip/tools: models, walks, proofs. -/
set_option linter.all false
set_option maxRecDepth 100000
set_option maxHeartbeats 4000000
namespace Go.VK
open Go.RowKit Go.Proofs
noncomputable section
open EV (cB)
def WOk.of' {w:D.World}(h:w.sz<=34359738368):WOk w:=by
 simp only[D.World.sz] at h
 unfold WOk
 omega
def aEy (w:D.World)(d:Int)(h:w.sz<=34359738368):Hm w d=some (aU w&&aL w d):=by
 unfold Hm
 rw[aB h,bd_s,aOh (WOk.of' h),bJ5,bd_s]
def Xc (b:D.aAC)(s h:Int)(hz:b.sz<=34359738360):wZ b s h=some (aLz b s h):=by
 unfold wZ aLz
 simp only[aB hz,aB (show b.sz<=34359738368 by omega),bd_s]
 cases aM b with
 |false=>rfl
 |true=>
  by_cases hf:aG b s h<0
  ·rw[ao hf];rfl
  ·obtain⟨h1,h2,h3,h4⟩:=aQ6 (b:=b) (s:=s) (h:=h) (ao (by omega))
   rw[ap hf,h1]
   simp only[bd_s]
   rw[show(⟨s,h,IntKind.i64.wrap ((b.Entries.getD (aG b s h).toNat default).Version+1),true⟩:D.Entry)=bAc b s h from rfl]
   cases(b.Entries.getD (aG b s h).toNat default).Deleted<;>cases((b.Entries.getD (aG b s h).toNat default).Version==1000000)<;>rfl
def Rm (d:D.Device)(n:ByteArray)(h:Int)(rm:Bool)(hz:d.sz<=34359738360/\n.size<=34359738300):uO d n h rm=some (dC d n h rm):=by
 obtain⟨h1,h2⟩:=hz
 have hb:d.aAC.sz<=34359738360:=by simp only[D.Device.sz,D.aAC.sz] at*;omega
 unfold uO dC gY
 simp only[aB (show d.sz<=34359738368 by omega),aB h2,aB hb,bd_s]
 cases rm with
 |true=>
  simp only[ac,bd_s]
  cases(aLz d.aAC (aR n) h).2<;>rfl
 |false=>
  simp only[ab,bd_s]
  cases(aLy d.aAC (aR n) h).2<;>rfl
def aPf {w:D.World}{d:Int}(h:aL w d=true):0<=d/\d.toNat<w.Devices.length/\(aK w d).sz<=w.sz/\aK w d=w.Devices.getD d.toNat default:=by
 simp only[aL,aa,cb] at h
 have hi:d.toNat<w.Devices.length:=by omega
 have:=Fu (f:=D.Device.sz) hi
 refine⟨h.1,hi,?_,rfl⟩
 show(w.Devices.getD d.toNat default).sz<=_
 simp only[D.World.sz];omega
def bBc {d:D.Device}{n:ByteArray}{h:Int}{rm:Bool}(e:(dC d n h rm).2=false):dC d n h rm=(d,false):=by
 unfold dC at e ⊢
 cases q:(gY d n h rm).2 with
 |true=>rw[q] at e;cases e
 |false=>rfl
def K6 (w:D.World)(d:Int)(n:ByteArray)(h:Int)(rm:Bool)(hz:w.sz<=34359738300/\n.size<=34359738300):zO w d n h rm=some (eX w d n h rm):=by
 obtain⟨h1,h2⟩:=hz
 unfold zO eX
 rw[aB (show w.sz<=34359738368 by omega),bd_s,aB (show w.sz<=34359738368 by omega),bd_s]
 cases hc:(aU w&&aL w d) with
 |false=>rfl
 |true=>
  have hd:=(im.1 hc).2
  obtain⟨k1,k2,k3,k4⟩:=aPf hd
  rw[ay,ab,ac,rV hd,bd_s,aB ⟨by omega,h2⟩,bd_s,bd_s]
  cases e:(dC (aK w d) n h rm).2 with
  |true=>rfl
  |false=>rw[bBc e,ab,k4,aS2 k2]
end
end Go.VK
