import Derived.Test.YtlnjelnfjgjanaaGreatXpPg
import Derived.Test.YtlnjelnfjgjanaaGreatXpM
/- Printed by wip/tools: models, walks, proofs. -/
set_option linter.unusedVariables false
set_option linter.unusedSimpArgs false
set_option maxRecDepth 100000
set_option maxHeartbeats 4000000
namespace Go.VK
open Go.RowKit Go.Proofs
noncomputable section
open EV (bT)
theorem bD1 (h:D.aAA)(b:Int)(hz:h.Saved.length≤34359738368)(h0:0≤b∧b<(h.Saved.length:Int)):bA h.Saved (IntKind.i64.wrap (IntKind.i64.wrap ((h.Saved.length:Int)-1)-b))=some (h.Saved.getD (h.Saved.length-1-b.toNat) default):=by
 rw[aG (n:=(h.Saved.length:Int)-1) (by omega) (by omega),aG (by omega) (by omega),oC (by omega) (by omega)]
 congr 2;omega
theorem Pd (h:D.aAA)(b:Int)(hz:h.sz≤34359738368):uH h b=some (fF h b):=by
 have hq:=hz
 simp only[D.aAA.sz] at hq
 unfold uH fF
 rw[aB hz,bd_s,Xy hq]
 cases e:(decide (b<0)||decide (b≥(h.Saved.length:Int))) with
 |true=>rfl
 |false=>rw[bD1 h b hq (Iq e)];rfl
theorem bD2 {h:D.aAA}{b:Int}(e:(fF h b).2=false):fF h b=(h,false):=by
 unfold fF at e ⊢
 cases q:(decide (b<0)||decide (b≥(h.Saved.length:Int))) with
 |true=>rfl
 |false=>rw[q] at e;cases e
theorem Kr (w:D.World)(i b:Int)(h:w.sz≤34359738368):sQ w i b=some (eZ w i b):=by
 have hz:=h
 simp only[D.World.sz] at hz
 unfold sQ eZ
 rw[aB h,bd_s,aB h,bd_s,Xy (by omega),Ap,bd_s]
 cases e:(!aN w||(decide (i<0)||decide (i≥(w.Hosts.length:Int)))) with
 |true=>rfl
 |false=>
  have e2:=Iq (Bool.or_eq_false_iff.1 e).2
  have hi:i.toNat<w.Hosts.length:=by omega
  have hs:=mR (f:=D.aAA.sz) hi
  have hg:w.Hosts.getD i.toNat default=w.Hosts[i.toNat]:=by simp[List.getD,List.getElem?_eq_getElem hi]
  rw[cond_false,cond_false,oC e2.1 e2.2,bd_s,hg,aB (by omega),bd_s,bd_s]
  cases hr:(fF w.Hosts[i.toNat] b).2 with
  |true=>rfl
  |false=>
   rw[bD2 hr,cond_false,←hg,aFf hi]
end
end Go.VK
