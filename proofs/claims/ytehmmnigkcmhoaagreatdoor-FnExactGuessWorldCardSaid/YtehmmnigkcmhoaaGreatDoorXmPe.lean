import Derived.Test.YtehmmnigkcmhoaaGreatDoorXmPd
import Derived.Test.YtehmmnigkcmhoaaGreatDoorXmQ
/- Printed by wip/tools: models, walks, proofs. -/
set_option linter.unusedVariables false
set_option linter.unusedSimpArgs false
set_option maxRecDepth 100000
set_option maxHeartbeats 4000000
namespace Go.VK
open Go.RowKit Go.Proofs
noncomputable section
open EV (cB)
theorem aHu (l:List D.aAD)(h:l.length≤34359738368):Iz l=some l:=by
 unfold Iz;rw[jY h];rfl
theorem aHv (l:List D.aAD)(h:l.length≤34359738368):Jq l=some l:=by
 unfold Jq;rw[jY h];rfl
theorem P8 (l:List Int)(h:l.length≤34359738368):yC l=some l:=by
 unfold yC;rw[jY h];rfl
theorem aHw (d:D.Device)(h:d.sz≤34359738368):Jb d=some d:=by
 simp only[D.Device.sz] at h
 unfold Jb
 simp only[aG (show d.Log.length≤34359738368 by omega),aG (show d.aAH.sz≤34359738368 by simp only[D.aAH.sz];omega),bd_s]
theorem Yc (d:D.Device)(h:d.sz≤34359738368):vM d=some d:=by
 simp only[D.Device.sz] at h
 unfold vM
 simp only[aG (show d.Log.length≤34359738368 by omega),aG (show d.aAH.sz≤34359738368 by simp only[D.aAH.sz];omega),bd_s]
theorem aHx (e:D.aAF)(h:e.sz≤34359738368):Jc e=some e:=by
 simp only[D.aAF.sz] at h
 unfold Jc
 rw[Xe (l:=e.Boxes) (by omega) (fun rec i s hi hs=>by
  have hz:=dA (f:=D.Box.sz) hi
  simp only[D.Box.sz] at hz h
  simp only[bG hi,cond_true,aD hi,bd_s,jY (show e.Boxes[i].Data.length≤34359738368 by omega),lJ hs,List.nil_append]) (fun rec s=>by simp only[bH,cond_false])]
 rfl
theorem P9 (l:List D.Box)(h:uH D.Box.sz l≤34359738368):yD l=some l:=by
 unfold yD
 unfold uH at h
 rw[aX0 (l:=l) (by omega) (fun rec i s hi hs=>by
  have hz:=dA (f:=D.Box.sz) hi
  simp only[D.Box.sz] at hz h
  simp only[bG hi,cond_true,aD hi,bd_s,aG (show l[i].Data.length≤34359738368 by omega),lJ hs]) (fun rec s=>by simp only[bH,cond_false])]
 rfl
theorem Fa (e:D.aAF)(h:e.sz≤34359738368):mX e=some e:=by
 unfold mX
 simp only[aG (show uH D.Box.sz e.Boxes≤34359738368 from h),bd_s]
theorem aHy (e:D.aAB)(h:e.sz≤34359738368):Jd e=some e:=by
 unfold Jd;rw[jY h];rfl
theorem Yd (e:D.aAB)(h:e.sz≤34359738368):vK e=some e:=by
 unfold vK;simp only[aG (show e.Data.length≤34359738368 from h),bd_s]
theorem aHz (c:D.aAJ)(h:c.sz≤34359738368):Je c=some c:=by
 simp only[D.aAJ.sz] at h
 unfold Je
 rw[Xe (l:=c.History) (by omega) (fun rec i s hi hs=>by
  have hz:=dA (f:=D.aAB.sz) hi
  simp only[bG hi,cond_true,aD hi,bd_s,aG (show c.History[i].sz≤34359738368 by omega),lJ hs]) (fun rec s=>by simp only[bH,cond_false])]
 simp only[aG (show c.Log.length≤34359738368 by omega),aG (show c.Boxes.sz≤34359738368 by simp only[D.aAF.sz];omega),bd_s]
theorem Q0 (c:D.aAJ)(h:c.sz≤34359738368):yE c=some c:=by
 simp only[D.aAJ.sz] at h
 unfold yE
 rw[Xe (l:=c.History) (by omega) (fun rec i s hi hs=>by
  have hz:=dA (f:=D.aAB.sz) hi
  simp only[bG hi,cond_true,aD hi,bd_s,aG (show c.History[i].sz≤34359738368 by omega),lJ hs]) (fun rec s=>by simp only[bH,cond_false])]
 simp only[aG (show c.Log.length≤34359738368 by omega),aG (show c.Boxes.sz≤34359738368 by simp only[D.aAF.sz];omega),bd_s]
theorem aH0 (e:D.aAE)(h:e.sz≤34359738368):Jf e=some e:=by
 unfold Jf;rw[jY h];rfl
theorem Sw (e:D.aAE)(h:e.sz≤34359738368):sW e=some e:=by
 unfold sW;rw[jY h];rfl
theorem aH1 (e:D.aAC)(h:e.sz≤34359738368):Jg e=some e:=by
 unfold Jg;rw[jY h];rfl
theorem aC7 (e:D.aAC)(h:e.sz≤34359738368):Dt e=some e:=by
 unfold Dt;rw[jY h];rfl
theorem aH2 (s:D.Site)(h:s.sz≤34359738368):Jh s=some s:=by
 simp only[D.Site.sz] at h
 unfold Jh
 rw[Xe (l:=s.Accounts) (by omega) (fun rec i q hi hs=>by
  have hz:=dA (f:=D.aAE.sz) hi
  simp only[bG hi,cond_true,aD hi,bd_s,aG (show s.Accounts[i].sz≤34359738368 by omega),lJ hs]) (fun rec q=>by simp only[bH,cond_false])]
 simp only[aG (show s.Book.sz≤34359738368 by simp only[D.aAC.sz];omega),bd_s,jY (show s.Logins.length≤34359738368 by omega),List.nil_append]
theorem aC8 (s:D.Site)(h:s.sz≤34359738368):Du s=some s:=by
 simp only[D.Site.sz] at h
 unfold Du
 rw[Xe (l:=s.Accounts) (by omega) (fun rec i q hi hs=>by
  have hz:=dA (f:=D.aAE.sz) hi
  simp only[bG hi,cond_true,aD hi,bd_s,aG (show s.Accounts[i].sz≤34359738368 by omega),lJ hs]) (fun rec q=>by simp only[bH,cond_false])]
 simp only[aG (show s.Book.sz≤34359738368 by simp only[D.aAC.sz];omega),bd_s,aG (show Ia s.Logins [] by unfold Ia;simp;omega)]
 simp[xC]
theorem aH3 (e:D.aAA)(h:e.sz≤34359738368):Ji e=some e:=by
 unfold Ji;rw[jY h];rfl
theorem aC9 (e:D.aAA)(h:e.sz≤34359738368):Dp e=some e:=by
 unfold Dp;rw[jY h];rfl
theorem aDa (l:List D.aAA)(h:uH D.aAA.sz l≤34359738368):Di l=some l:=by
 unfold Di
 unfold uH at h
 rw[aX0 (l:=l) (by omega) (fun rec i s hi hs=>by
  have hz:=dA (f:=D.aAA.sz) hi
  simp only[bG hi,cond_true,aD hi,bd_s,aG (show l[i].sz≤34359738368 by omega),lJ hs]) (fun rec s=>by simp only[bH,cond_false])]
 rfl
theorem Q3 (l:List D.aAA)(h:uH D.aAA.sz l≤34359738368):yF l=some l:=by
 unfold yF
 unfold uH at h
 rw[aX0 (l:=l) (by omega) (fun rec i s hi hs=>by
  have hz:=dA (f:=D.aAA.sz) hi
  simp only[bG hi,cond_true,aD hi,bd_s,aG (show l[i].sz≤34359738368 by omega),lJ hs]) (fun rec s=>by simp only[bH,cond_false])]
 rfl
theorem aH4 (e:D.aAI)(h:e.sz≤34359738368):Jj e=some e:=by
 unfold Jj;rw[jY h];rfl
theorem aDb (e:D.aAI)(h:e.sz≤34359738368):Dq e=some e:=by
 unfold Dq;rw[jY h];rfl
theorem aH5 (w:D.World)(h:w.sz≤34359738368):Jk w=some w:=by
 simp only[D.World.sz] at h
 unfold Jk
 rw[Xe (l:=w.Devices) (by omega) (fun rec i q hi hs=>by
  have hz:=dA (f:=D.Device.sz) hi
  simp only[bG hi,cond_true,aD hi,bd_s,aG (show w.Devices[i].sz≤34359738368 by omega),lJ hs]) (fun rec q=>by simp only[bH,cond_false]),
  Xe (l:=w.Sites) (by omega) (fun rec i q hi hs=>by
  have hz:=dA (f:=D.Site.sz) hi
  simp only[bG hi,cond_true,aD hi,bd_s,aG (show w.Sites[i].sz≤34359738368 by omega),lJ hs]) (fun rec q=>by simp only[bH,cond_false])]
 simp only[bd_s,jY (show w.Stolen.length≤34359738368 by omega),aG (show w.aAJ.sz≤34359738368 by simp only[D.aAJ.sz];omega),aG (show uH D.aAA.sz w.Hosts≤34359738368 by unfold uH;omega),aG (show w.Mail.sz≤34359738368 by simp only[D.aAI.sz];omega),List.nil_append]
theorem Q4 (w:D.World)(h:w.sz≤34359738368):yG w=some w:=by
 simp only[D.World.sz] at h
 unfold yG
 rw[Xe (l:=w.Devices) (by omega) (fun rec i q hi hs=>by
  have hz:=dA (f:=D.Device.sz) hi
  simp only[bG hi,cond_true,aD hi,bd_s,aG (show w.Devices[i].sz≤34359738368 by omega),lJ hs]) (fun rec q=>by simp only[bH,cond_false]),
  Xe (l:=w.Sites) (by omega) (fun rec i q hi hs=>by
  have hz:=dA (f:=D.Site.sz) hi
  simp only[bG hi,cond_true,aD hi,bd_s,aG (show w.Sites[i].sz≤34359738368 by omega),lJ hs]) (fun rec q=>by simp only[bH,cond_false])]
 simp only[bd_s,jY (show w.Stolen.length≤34359738368 by omega),aG (show w.aAJ.sz≤34359738368 by simp only[D.aAJ.sz];omega),aG (show uH D.aAA.sz w.Hosts≤34359738368 by unfold uH;omega),aG (show w.Mail.sz≤34359738368 by simp only[D.aAI.sz];omega),List.nil_append]
end
end Go.VK
