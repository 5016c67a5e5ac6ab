import Derived.Test.YtfllllgehgablaaGreatDoorXsPl
import Derived.Test.YtfllllgehgablaaGreatDoorXsM
/- Printed by wip/tools: models, walks, proofs. -/
set_option linter.all false
set_option maxRecDepth 100000
set_option maxHeartbeats 4000000
namespace Go.VK
open Go.RowKit Go.Proofs
noncomputable section
open EV (bU)
def WOk.of' {w:D.World}(h:w.sz<=34359738368):WOk w:=by
 simp only[D.World.sz] at h
 unfold WOk
 omega
def aFd (w:D.World)(d:Int)(h:w.sz<=34359738368):Ie w d=some (aV w&&aN w d):=by
 unfold Ie
 rw[aB h,bd_s,aPa (WOk.of' h),bLz,bd_s]
def Wu (b:D.aAF)(s h:Int)(hz:b.sz<=34359738360):xA b s h=some (aMj b s h):=by
 unfold xA aMj
 simp only[aB hz,aB (show b.sz<=34359738368 by omega),bd_s]
 cases aP b with
 |false=>rfl
 |true=>
  by_cases hf:aK b s h<0
  ·rw[ao hf];rfl
  ·obtain⟨h1,h2,h3,h4⟩:=aZ3 (b:=b) (s:=s) (h:=h) (ao (by omega))
   rw[au hf,h1]
   simp only[bd_s]
   rw[show(⟨s,h,IntKind.i64.wrap ((b.Entries.getD (aK b s h).toNat default).Version+1),true⟩:D.Entry)=bBi b s h from rfl]
   cases(b.Entries.getD (aK b s h).toNat default).Deleted<;>cases((b.Entries.getD (aK b s h).toNat default).Version==1000000)<;>rfl
def Rh (d:D.Device)(n:ByteArray)(h:Int)(rm:Bool)(hz:d.sz<=34359738360/\n.size<=34359738300):uF d n h rm=some (cO d n h rm):=by
 obtain⟨h1,h2⟩:=hz
 have hb:d.aAF.sz<=34359738360:=by simp only[D.Device.sz,D.aAF.sz] at*;omega
 unfold uF cO oV
 simp only[aB (show d.sz<=34359738368 by omega),aB h2,aB hb,bd_s]
 cases rm with
 |true=>
  simp only[ae,bd_s]
  cases(aMj d.aAF (bT n) h).2<;>rfl
 |false=>
  simp only[ab,bd_s]
  cases(aMi d.aAF (bT n) h).2<;>rfl
def bCk {w:D.World}{d:Int}(h:aN w d=true):0<=d/\d.toNat<w.Devices.length/\(aO w d).sz<=w.sz/\aO w d=w.Devices.getD d.toNat default:=by
 simp only[aN,aa,bp] at h
 have hi:d.toNat<w.Devices.length:=by omega
 have:=Gc (f:=D.Device.sz) hi
 refine⟨h.1,hi,?_,rfl⟩
 show(w.Devices.getD d.toNat default).sz<=_
 simp only[D.World.sz];omega
def bCl {d:D.Device}{n:ByteArray}{h:Int}{rm:Bool}(e:(cO d n h rm).2=false):cO d n h rm=(d,false):=by
 unfold cO at e ⊢
 cases q:(oV d n h rm).2 with
 |true=>rw[q] at e;cases e
 |false=>rfl
def M4 (w:D.World)(d:Int)(n:ByteArray)(h:Int)(rm:Bool)(hz:w.sz<=34359738300/\n.size<=34359738300):zU w d n h rm=some (oW w d n h rm):=by
 obtain⟨h1,h2⟩:=hz
 unfold zU oW
 rw[aB (show w.sz<=34359738368 by omega),bd_s,aB (show w.sz<=34359738368 by omega),bd_s]
 cases hc:(aV w&&aN w d) with
 |false=>rfl
 |true=>
  have hd:=(ie.1 hc).2
  obtain⟨k1,k2,k3,k4⟩:=bCk hd
  rw[bf,ab,ae,vE hd,bd_s,aB ⟨by omega,h2⟩,bd_s,bd_s]
  cases e:(cO (aO w d) n h rm).2 with
  |true=>rfl
  |false=>rw[bCl e,ab,k4,aUa k2]
end
end Go.VK
