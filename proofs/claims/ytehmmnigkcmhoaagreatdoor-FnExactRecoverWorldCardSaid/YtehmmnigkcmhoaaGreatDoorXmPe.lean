import Derived.Test.YtehmmnigkcmhoaaGreatDoorXmPd
import Derived.Test.YtehmmnigkcmhoaaGreatDoorXmQ
/- Printed by wip/tools: models, walks, proofs. -/
set_option linter.unusedVariables false
set_option linter.unusedSimpArgs false
set_option maxRecDepth 100000
set_option maxHeartbeats 4000000
namespace Go.VK
open Go.RowKit Go.Proofs
noncomputable section
open EV (cB)
theorem aHl (l:List D.aAD)(h:l.length≤34359738368):Iw l=some l:=by
 unfold Iw;rw[kC h];rfl
theorem aHm (l:List D.aAD)(h:l.length≤34359738368):Jo l=some l:=by
 unfold Jo;rw[kC h];rfl
theorem O7 (l:List Int)(h:l.length≤34359738368):xY l=some l:=by
 unfold xY;rw[kC h];rfl
theorem aHn (d:D.Device)(h:d.sz≤34359738368):Iz d=some d:=by
 simp only[D.Device.sz] at h
 unfold Iz
 simp only[aG (show d.Log.length≤34359738368 by omega),aG (show d.aAH.sz≤34359738368 by simp only[D.aAH.sz];omega),bd_s]
theorem Ya (d:D.Device)(h:d.sz≤34359738368):vO d=some d:=by
 simp only[D.Device.sz] at h
 unfold vO
 simp only[aG (show d.Log.length≤34359738368 by omega),aG (show d.aAH.sz≤34359738368 by simp only[D.aAH.sz];omega),bd_s]
theorem aHo (e:D.aAF)(h:e.sz≤34359738368):Ja e=some e:=by
 simp only[D.aAF.sz] at h
 unfold Ja
 rw[Xd (l:=e.Boxes) (by omega) (fun rec i s hi hs=>by
  have hz:=dA (f:=D.Box.sz) hi
  simp only[D.Box.sz] at hz h
  simp only[bH hi,cond_true,aD hi,bd_s,kC (show e.Boxes[i].Data.length≤34359738368 by omega),lJ hs,List.nil_append]) (fun rec s=>by simp only[bI,cond_false])]
 rfl
theorem O8 (l:List D.Box)(h:uL D.Box.sz l≤34359738368):xZ l=some l:=by
 unfold xZ
 unfold uL at h
 rw[aXq (l:=l) (by omega) (fun rec i s hi hs=>by
  have hz:=dA (f:=D.Box.sz) hi
  simp only[D.Box.sz] at hz h
  simp only[bH hi,cond_true,aD hi,bd_s,aG (show l[i].Data.length≤34359738368 by omega),lJ hs]) (fun rec s=>by simp only[bI,cond_false])]
 rfl
theorem Ey (e:D.aAF)(h:e.sz≤34359738368):mX e=some e:=by
 unfold mX
 simp only[aG (show uL D.Box.sz e.Boxes≤34359738368 from h),bd_s]
theorem aHp (e:D.aAB)(h:e.sz≤34359738368):Jb e=some e:=by
 unfold Jb;rw[kC h];rfl
theorem Yc (e:D.aAB)(h:e.sz≤34359738368):vM e=some e:=by
 unfold vM;simp only[aG (show e.Data.length≤34359738368 from h),bd_s]
theorem aHq (c:D.aAJ)(h:c.sz≤34359738368):Jc c=some c:=by
 simp only[D.aAJ.sz] at h
 unfold Jc
 rw[Xd (l:=c.History) (by omega) (fun rec i s hi hs=>by
  have hz:=dA (f:=D.aAB.sz) hi
  simp only[bH hi,cond_true,aD hi,bd_s,aG (show c.History[i].sz≤34359738368 by omega),lJ hs]) (fun rec s=>by simp only[bI,cond_false])]
 simp only[aG (show c.Log.length≤34359738368 by omega),aG (show c.Boxes.sz≤34359738368 by simp only[D.aAF.sz];omega),bd_s]
theorem O9 (c:D.aAJ)(h:c.sz≤34359738368):yA c=some c:=by
 simp only[D.aAJ.sz] at h
 unfold yA
 rw[Xd (l:=c.History) (by omega) (fun rec i s hi hs=>by
  have hz:=dA (f:=D.aAB.sz) hi
  simp only[bH hi,cond_true,aD hi,bd_s,aG (show c.History[i].sz≤34359738368 by omega),lJ hs]) (fun rec s=>by simp only[bI,cond_false])]
 simp only[aG (show c.Log.length≤34359738368 by omega),aG (show c.Boxes.sz≤34359738368 by simp only[D.aAF.sz];omega),bd_s]
theorem aHr (e:D.aAE)(h:e.sz≤34359738368):Jd e=some e:=by
 unfold Jd;rw[kC h];rfl
theorem Sw (e:D.aAE)(h:e.sz≤34359738368):sW e=some e:=by
 unfold sW;rw[kC h];rfl
theorem aHs (e:D.aAC)(h:e.sz≤34359738368):Je e=some e:=by
 unfold Je;rw[kC h];rfl
theorem aC0 (e:D.aAC)(h:e.sz≤34359738368):Dl e=some e:=by
 unfold Dl;rw[kC h];rfl
theorem aHt (s:D.Site)(h:s.sz≤34359738368):Jf s=some s:=by
 simp only[D.Site.sz] at h
 unfold Jf
 rw[Xd (l:=s.Accounts) (by omega) (fun rec i q hi hs=>by
  have hz:=dA (f:=D.aAE.sz) hi
  simp only[bH hi,cond_true,aD hi,bd_s,aG (show s.Accounts[i].sz≤34359738368 by omega),lJ hs]) (fun rec q=>by simp only[bI,cond_false])]
 simp only[aG (show s.Book.sz≤34359738368 by simp only[D.aAC.sz];omega),bd_s,kC (show s.Logins.length≤34359738368 by omega),List.nil_append]
theorem aC1 (s:D.Site)(h:s.sz≤34359738368):Dm s=some s:=by
 simp only[D.Site.sz] at h
 unfold Dm
 rw[Xd (l:=s.Accounts) (by omega) (fun rec i q hi hs=>by
  have hz:=dA (f:=D.aAE.sz) hi
  simp only[bH hi,cond_true,aD hi,bd_s,aG (show s.Accounts[i].sz≤34359738368 by omega),lJ hs]) (fun rec q=>by simp only[bI,cond_false])]
 simp only[aG (show s.Book.sz≤34359738368 by simp only[D.aAC.sz];omega),bd_s,aG (show Hy s.Logins [] by unfold Hy;simp;omega)]
 simp[wY]
theorem aHu (e:D.aAA)(h:e.sz≤34359738368):Jg e=some e:=by
 unfold Jg;rw[kC h];rfl
theorem aC2 (e:D.aAA)(h:e.sz≤34359738368):Dj e=some e:=by
 unfold Dj;rw[kC h];rfl
theorem aC3 (l:List D.aAA)(h:uL D.aAA.sz l≤34359738368):Dc l=some l:=by
 unfold Dc
 unfold uL at h
 rw[aXq (l:=l) (by omega) (fun rec i s hi hs=>by
  have hz:=dA (f:=D.aAA.sz) hi
  simp only[bH hi,cond_true,aD hi,bd_s,aG (show l[i].sz≤34359738368 by omega),lJ hs]) (fun rec s=>by simp only[bI,cond_false])]
 rfl
theorem P5 (l:List D.aAA)(h:uL D.aAA.sz l≤34359738368):yB l=some l:=by
 unfold yB
 unfold uL at h
 rw[aXq (l:=l) (by omega) (fun rec i s hi hs=>by
  have hz:=dA (f:=D.aAA.sz) hi
  simp only[bH hi,cond_true,aD hi,bd_s,aG (show l[i].sz≤34359738368 by omega),lJ hs]) (fun rec s=>by simp only[bI,cond_false])]
 rfl
theorem aHv (e:D.aAI)(h:e.sz≤34359738368):Jh e=some e:=by
 unfold Jh;rw[kC h];rfl
theorem aC4 (e:D.aAI)(h:e.sz≤34359738368):Dk e=some e:=by
 unfold Dk;rw[kC h];rfl
theorem aHw (w:D.World)(h:w.sz≤34359738368):Ji w=some w:=by
 simp only[D.World.sz] at h
 unfold Ji
 rw[Xd (l:=w.Devices) (by omega) (fun rec i q hi hs=>by
  have hz:=dA (f:=D.Device.sz) hi
  simp only[bH hi,cond_true,aD hi,bd_s,aG (show w.Devices[i].sz≤34359738368 by omega),lJ hs]) (fun rec q=>by simp only[bI,cond_false]),
  Xd (l:=w.Sites) (by omega) (fun rec i q hi hs=>by
  have hz:=dA (f:=D.Site.sz) hi
  simp only[bH hi,cond_true,aD hi,bd_s,aG (show w.Sites[i].sz≤34359738368 by omega),lJ hs]) (fun rec q=>by simp only[bI,cond_false])]
 simp only[bd_s,kC (show w.Stolen.length≤34359738368 by omega),aG (show w.aAJ.sz≤34359738368 by simp only[D.aAJ.sz];omega),aG (show uL D.aAA.sz w.Hosts≤34359738368 by unfold uL;omega),aG (show w.Mail.sz≤34359738368 by simp only[D.aAI.sz];omega),List.nil_append]
theorem P6 (w:D.World)(h:w.sz≤34359738368):yC w=some w:=by
 simp only[D.World.sz] at h
 unfold yC
 rw[Xd (l:=w.Devices) (by omega) (fun rec i q hi hs=>by
  have hz:=dA (f:=D.Device.sz) hi
  simp only[bH hi,cond_true,aD hi,bd_s,aG (show w.Devices[i].sz≤34359738368 by omega),lJ hs]) (fun rec q=>by simp only[bI,cond_false]),
  Xd (l:=w.Sites) (by omega) (fun rec i q hi hs=>by
  have hz:=dA (f:=D.Site.sz) hi
  simp only[bH hi,cond_true,aD hi,bd_s,aG (show w.Sites[i].sz≤34359738368 by omega),lJ hs]) (fun rec q=>by simp only[bI,cond_false])]
 simp only[bd_s,kC (show w.Stolen.length≤34359738368 by omega),aG (show w.aAJ.sz≤34359738368 by simp only[D.aAJ.sz];omega),aG (show uL D.aAA.sz w.Hosts≤34359738368 by unfold uL;omega),aG (show w.Mail.sz≤34359738368 by simp only[D.aAI.sz];omega),List.nil_append]
end
end Go.VK
