import Derived.Test.YtaaefkcjgkpckaaGreatDoorXoPd
import Derived.Test.YtaaefkcjgkpckaaGreatDoorXoQ
/- Printed by wip/tools: models, walks, proofs. -/
set_option linter.unusedVariables false
set_option linter.unusedSimpArgs false
set_option maxRecDepth 100000
set_option maxHeartbeats 4000000
namespace Go.VK
open Go.RowKit Go.Proofs
noncomputable section
open EV (bM)
theorem aHi (l:List D.aAB)(h:l.length≤34359738368):Je l=some l:=by
 unfold Je;rw[kS h];rfl
theorem aHj (l:List D.aAB)(h:l.length≤34359738368):Kb l=some l:=by
 unfold Kb;rw[kS h];rfl
theorem V9 (l:List Int)(h:l.length≤34359738368):Ap l=some l:=by
 unfold Ap;rw[kS h];rfl
theorem aHk (d:D.Device)(h:d.sz≤34359738368):Jp d=some d:=by
 simp only[D.Device.sz] at h
 unfold Jp
 simp only[aA (show d.Log.length≤34359738368 by omega),aA (show d.aAE.sz≤34359738368 by simp only[D.aAE.sz];omega),bd_s]
theorem Yw (d:D.Device)(h:d.sz≤34359738368):xM d=some d:=by
 simp only[D.Device.sz] at h
 unfold xM
 simp only[aA (show d.Log.length≤34359738368 by omega),aA (show d.aAE.sz≤34359738368 by simp only[D.aAE.sz];omega),bd_s]
theorem aHl (e:D.aAD)(h:e.sz≤34359738368):Ji e=some e:=by
 simp only[D.aAD.sz] at h
 unfold Ji
 rw[Xy (l:=e.Boxes) (by omega) (fun rec i s hi hs=>by
  have hz:=gF (f:=D.Box.sz) hi
  simp only[D.Box.sz] at hz h
  simp only[bU hi,cond_true,aH hi,bd_s,kS (show e.Boxes[i].Data.length≤34359738368 by omega),eZ hs,List.nil_append]) (fun rec s=>by simp only[bX,cond_false])]
 rfl
theorem W9 (l:List D.Box)(h:lW D.Box.sz l≤34359738368):Aq l=some l:=by
 unfold Aq
 unfold lW at h
 rw[bAq (l:=l) (by omega) (fun rec i s hi hs=>by
  have hz:=gF (f:=D.Box.sz) hi
  simp only[D.Box.sz] at hz h
  simp only[bU hi,cond_true,aH hi,bd_s,aA (show l[i].Data.length≤34359738368 by omega),eZ hs]) (fun rec s=>by simp only[bX,cond_false])]
 rfl
theorem Fq (e:D.aAD)(h:e.sz≤34359738368):oO e=some e:=by
 unfold oO
 simp only[aA (show lW D.Box.sz e.Boxes≤34359738368 from h),bd_s]
theorem aHm (e:D.aAC)(h:e.sz≤34359738368):Jr e=some e:=by
 unfold Jr;rw[kS h];rfl
theorem Yx (e:D.aAC)(h:e.sz≤34359738368):xK e=some e:=by
 unfold xK;simp only[aA (show e.Data.length≤34359738368 from h),bd_s]
theorem aHn (c:D.aAH)(h:c.sz≤34359738368):Js c=some c:=by
 simp only[D.aAH.sz] at h
 unfold Js
 rw[Xy (l:=c.History) (by omega) (fun rec i s hi hs=>by
  have hz:=gF (f:=D.aAC.sz) hi
  simp only[bU hi,cond_true,aH hi,bd_s,aA (show c.History[i].sz≤34359738368 by omega),eZ hs]) (fun rec s=>by simp only[bX,cond_false])]
 simp only[aA (show c.Log.length≤34359738368 by omega),aA (show c.Boxes.sz≤34359738368 by simp only[D.aAD.sz];omega),bd_s]
theorem X3 (c:D.aAH)(h:c.sz≤34359738368):Ar c=some c:=by
 simp only[D.aAH.sz] at h
 unfold Ar
 rw[Xy (l:=c.History) (by omega) (fun rec i s hi hs=>by
  have hz:=gF (f:=D.aAC.sz) hi
  simp only[bU hi,cond_true,aH hi,bd_s,aA (show c.History[i].sz≤34359738368 by omega),eZ hs]) (fun rec s=>by simp only[bX,cond_false])]
 simp only[aA (show c.Log.length≤34359738368 by omega),aA (show c.Boxes.sz≤34359738368 by simp only[D.aAD.sz];omega),bd_s]
theorem aHo (e:D.aAG)(h:e.sz≤34359738368):Jl e=some e:=by
 unfold Jl;rw[kS h];rfl
theorem Sm (e:D.aAG)(h:e.sz≤34359738368):vK e=some e:=by
 unfold vK;rw[kS h];rfl
theorem aHp (e:D.aAF)(h:e.sz≤34359738368):Jm e=some e:=by
 unfold Jm;rw[kS h];rfl
theorem aC9 (e:D.aAF)(h:e.sz≤34359738368):Et e=some e:=by
 unfold Et;rw[kS h];rfl
theorem aHq (s:D.Site)(h:s.sz≤34359738368):Jn s=some s:=by
 simp only[D.Site.sz] at h
 unfold Jn
 rw[Xy (l:=s.Accounts) (by omega) (fun rec i q hi hs=>by
  have hz:=gF (f:=D.aAG.sz) hi
  simp only[bU hi,cond_true,aH hi,bd_s,aA (show s.Accounts[i].sz≤34359738368 by omega),eZ hs]) (fun rec q=>by simp only[bX,cond_false])]
 simp only[aA (show s.Book.sz≤34359738368 by simp only[D.aAF.sz];omega),bd_s,kS (show s.Logins.length≤34359738368 by omega),List.nil_append]
theorem aDa (s:D.Site)(h:s.sz≤34359738368):Eu s=some s:=by
 simp only[D.Site.sz] at h
 unfold Eu
 rw[Xy (l:=s.Accounts) (by omega) (fun rec i q hi hs=>by
  have hz:=gF (f:=D.aAG.sz) hi
  simp only[bU hi,cond_true,aH hi,bd_s,aA (show s.Accounts[i].sz≤34359738368 by omega),eZ hs]) (fun rec q=>by simp only[bX,cond_false])]
 simp only[aA (show s.Book.sz≤34359738368 by simp only[D.aAF.sz];omega),bd_s,aA (show Ik s.Logins [] by unfold Ik;simp;omega)]
 simp[zC]
theorem aHr (e:D.aAA)(h:e.sz≤34359738368):Kg e=some e:=by
 unfold Kg;rw[kS h];rfl
theorem aDb (e:D.aAA)(h:e.sz≤34359738368):Er e=some e:=by
 unfold Er;rw[kS h];rfl
theorem aDc (l:List D.aAA)(h:lW D.aAA.sz l≤34359738368):Ey l=some l:=by
 unfold Ey
 unfold lW at h
 rw[bAq (l:=l) (by omega) (fun rec i s hi hs=>by
  have hz:=gF (f:=D.aAA.sz) hi
  simp only[bU hi,cond_true,aH hi,bd_s,aA (show l[i].sz≤34359738368 by omega),eZ hs]) (fun rec s=>by simp only[bX,cond_false])]
 rfl
theorem X4 (l:List D.aAA)(h:lW D.aAA.sz l≤34359738368):Au l=some l:=by
 unfold Au
 unfold lW at h
 rw[bAq (l:=l) (by omega) (fun rec i s hi hs=>by
  have hz:=gF (f:=D.aAA.sz) hi
  simp only[bU hi,cond_true,aH hi,bd_s,aA (show l[i].sz≤34359738368 by omega),eZ hs]) (fun rec s=>by simp only[bX,cond_false])]
 rfl
theorem aHs (e:D.aAJ)(h:e.sz≤34359738368):Kh e=some e:=by
 unfold Kh;rw[kS h];rfl
theorem aDd (e:D.aAJ)(h:e.sz≤34359738368):Es e=some e:=by
 unfold Es;rw[kS h];rfl
theorem aHt (w:D.World)(h:w.sz≤34359738368):Ki w=some w:=by
 simp only[D.World.sz] at h
 unfold Ki
 rw[Xy (l:=w.Devices) (by omega) (fun rec i q hi hs=>by
  have hz:=gF (f:=D.Device.sz) hi
  simp only[bU hi,cond_true,aH hi,bd_s,aA (show w.Devices[i].sz≤34359738368 by omega),eZ hs]) (fun rec q=>by simp only[bX,cond_false]),
  Xy (l:=w.Sites) (by omega) (fun rec i q hi hs=>by
  have hz:=gF (f:=D.Site.sz) hi
  simp only[bU hi,cond_true,aH hi,bd_s,aA (show w.Sites[i].sz≤34359738368 by omega),eZ hs]) (fun rec q=>by simp only[bX,cond_false])]
 simp only[bd_s,kS (show w.Stolen.length≤34359738368 by omega),aA (show w.aAH.sz≤34359738368 by simp only[D.aAH.sz];omega),aA (show lW D.aAA.sz w.Hosts≤34359738368 by unfold lW;omega),aA (show w.Mail.sz≤34359738368 by simp only[D.aAJ.sz];omega),List.nil_append]
theorem X5 (w:D.World)(h:w.sz≤34359738368):Av w=some w:=by
 simp only[D.World.sz] at h
 unfold Av
 rw[Xy (l:=w.Devices) (by omega) (fun rec i q hi hs=>by
  have hz:=gF (f:=D.Device.sz) hi
  simp only[bU hi,cond_true,aH hi,bd_s,aA (show w.Devices[i].sz≤34359738368 by omega),eZ hs]) (fun rec q=>by simp only[bX,cond_false]),
  Xy (l:=w.Sites) (by omega) (fun rec i q hi hs=>by
  have hz:=gF (f:=D.Site.sz) hi
  simp only[bU hi,cond_true,aH hi,bd_s,aA (show w.Sites[i].sz≤34359738368 by omega),eZ hs]) (fun rec q=>by simp only[bX,cond_false])]
 simp only[bd_s,kS (show w.Stolen.length≤34359738368 by omega),aA (show w.aAH.sz≤34359738368 by simp only[D.aAH.sz];omega),aA (show lW D.aAA.sz w.Hosts≤34359738368 by unfold lW;omega),aA (show w.Mail.sz≤34359738368 by simp only[D.aAJ.sz];omega),List.nil_append]
end
end Go.VK
