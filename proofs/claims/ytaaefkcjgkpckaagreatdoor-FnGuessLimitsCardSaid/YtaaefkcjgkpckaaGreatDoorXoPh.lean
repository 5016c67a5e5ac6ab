import Derived.Test.YtaaefkcjgkpckaaGreatDoorXoPg
import Derived.Test.YtaaefkcjgkpckaaGreatDoorXoQ
/- Printed by wip/tools: models, walks, proofs. -/
set_option linter.unusedVariables false
set_option linter.unusedSimpArgs false
set_option maxRecDepth 100000
set_option maxHeartbeats 4000000
namespace Go.VK
open Go.RowKit Go.Proofs
noncomputable section
open EV (bM)
theorem bD5 (h:D.aAA)(b:Int)(hz:h.Saved.length≤34359738368)(h0:0≤b∧b<(h.Saved.length:Int)):bA h.Saved (IntKind.i64.wrap (IntKind.i64.wrap ((h.Saved.length:Int)-1)-b))=some (h.Saved.getD (h.Saved.length-1-b.toNat) default):=by
 rw[aG (n:=(h.Saved.length:Int)-1) (by omega) (by omega),aG (by omega) (by omega),zJ (by omega) (by omega)]
 congr 2;omega
theorem Oc (h:D.aAA)(b:Int)(hz:h.sz≤34359738368):sQ h b=some (fT h b):=by
 have hq:=hz
 simp only[D.aAA.sz] at hq
 unfold sQ fT
 rw[aA hz,bd_s,rW,bd_s]
 cases e:(decide (b<0)||decide (b≥(h.Saved.length:Int))) with
 |true=>rfl
 |false=>rw[bD5 h b hq (Cs e)];rfl
theorem Kk (w:D.World)(i b:Int)(h:w.sz≤34359738368):rD w i b=some (dM w i b):=by
 have hz:=h
 simp only[D.World.sz] at hz
 unfold rD dM
 rw[aA h,bd_s,aA h,bd_s,rW,rW,bd_s]
 cases e:(!bK w||(decide (i<0)||decide (i≥(w.Hosts.length:Int)))) with
 |true=>rfl
 |false=>
  have e2:=Cs (Bool.or_eq_false_iff.1 e).2
  have hi:i.toNat<w.Hosts.length:=by omega
  have hs:=gF (f:=D.aAA.sz) hi
  have hg:w.Hosts.getD i.toNat default=w.Hosts[i.toNat]:=by simp[List.getD,List.getElem?_eq_getElem hi]
  rw[cond_false,cond_false,zJ e2.1 e2.2,bd_s,hg,aA (by omega),bd_s,bd_s]
  cases hr:(fT w.Hosts[i.toNat] b).2<;>rfl
end
end Go.VK
