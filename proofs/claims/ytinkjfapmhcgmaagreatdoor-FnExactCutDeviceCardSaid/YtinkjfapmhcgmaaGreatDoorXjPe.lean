import Derived.Test.YtinkjfapmhcgmaaGreatDoorXjPd
import Derived.Test.YtinkjfapmhcgmaaGreatDoorXjQ
/- Printed by wip/tools: models, walks, proofs. -/
set_option linter.unusedVariables false
set_option linter.unusedSimpArgs false
set_option maxRecDepth 100000
set_option maxHeartbeats 4000000
namespace Go.VK
open Go.RowKit Go.Proofs
noncomputable section
open EV (bU)
theorem aO2 (l:List D.aAB)(h:l.length≤34359738368):Pb l=some l:=by
 unfold Pb;rw[lI h];rfl
theorem aO3 (l:List D.aAB)(h:l.length≤34359738368):Qf l=some l:=by
 unfold Qf;rw[lI h];rfl
theorem aEt (l:List Int)(h:l.length≤34359738368):Co l=some l:=by
 unfold Co;rw[lI h];rfl
theorem aO4 (d:D.Device)(h:d.sz≤34359738368):Pe d=some d:=by
 simp only[D.Device.sz] at h
 unfold Pe
 simp only[aC (show d.Log.length≤34359738368 by omega),aC (show d.aAD.sz≤34359738368 by simp only[D.aAD.sz];omega),bd_s]
theorem aAb (d:D.Device)(h:d.sz≤34359738368):yX d=some d:=by
 simp only[D.Device.sz] at h
 unfold yX
 simp only[aC (show d.Log.length≤34359738368 by omega),aC (show d.aAD.sz≤34359738368 by simp only[D.aAD.sz];omega),bd_s]
theorem aO5 (e:D.aAE)(h:e.sz≤34359738368):Pf e=some e:=by
 simp only[D.aAE.sz] at h
 unfold Pf
 rw[X3 (l:=e.Boxes) (by omega) (fun rec i s hi hs=>by
  have hz:=dM (f:=D.Box.sz) hi
  simp only[D.Box.sz] at hz h
  simp only[bE hi,cond_true,aF hi,bd_s,lI (show e.Boxes[i].Data.length≤34359738368 by omega),fF hs,List.nil_append]) (fun rec s=>by simp only[bF,cond_false])]
 rfl
theorem aEu (l:List D.Box)(h:szL D.Box.sz l≤34359738368):Cq l=some l:=by
 unfold Cq
 unfold szL at h
 rw[bG7 (l:=l) (by omega) (fun rec i s hi hs=>by
  have hz:=dM (f:=D.Box.sz) hi
  simp only[D.Box.sz] at hz h
  simp only[bE hi,cond_true,aF hi,bd_s,aC (show l[i].Data.length≤34359738368 by omega),fF hs]) (fun rec s=>by simp only[bF,cond_false])]
 rfl
theorem Kv (e:D.aAE)(h:e.sz≤34359738368):pW e=some e:=by
 unfold pW
 simp only[aC (show szL D.Box.sz e.Boxes≤34359738368 from h),bd_s]
theorem aO6 (e:D.aAA)(h:e.sz≤34359738368):Pg e=some e:=by
 unfold Pg;rw[lI h];rfl
theorem aAc (e:D.aAA)(h:e.sz≤34359738368):yT e=some e:=by
 unfold yT;simp only[aC (show e.Data.length≤34359738368 from h),bd_s]
theorem aO7 (c:D.aAH)(h:c.sz≤34359738368):Ph c=some c:=by
 simp only[D.aAH.sz] at h
 unfold Ph
 rw[X3 (l:=c.History) (by omega) (fun rec i s hi hs=>by
  have hz:=dM (f:=D.aAA.sz) hi
  simp only[bE hi,cond_true,aF hi,bd_s,aC (show c.History[i].sz≤34359738368 by omega),fF hs]) (fun rec s=>by simp only[bF,cond_false])]
 simp only[aC (show c.Log.length≤34359738368 by omega),aC (show c.Boxes.sz≤34359738368 by simp only[D.aAE.sz];omega),bd_s]
theorem aEv (c:D.aAH)(h:c.sz≤34359738368):Cr c=some c:=by
 simp only[D.aAH.sz] at h
 unfold Cr
 rw[X3 (l:=c.History) (by omega) (fun rec i s hi hs=>by
  have hz:=dM (f:=D.aAA.sz) hi
  simp only[bE hi,cond_true,aF hi,bd_s,aC (show c.History[i].sz≤34359738368 by omega),fF hs]) (fun rec s=>by simp only[bF,cond_false])]
 simp only[aC (show c.Log.length≤34359738368 by omega),aC (show c.Boxes.sz≤34359738368 by simp only[D.aAE.sz];omega),bd_s]
theorem aO8 (e:D.aAG)(h:e.sz≤34359738368):Pi e=some e:=by
 unfold Pi;rw[lI h];rfl
theorem C9 (e:D.aAG)(h:e.sz≤34359738368):wK e=some e:=by
 unfold wK;rw[lI h];rfl
theorem aO9 (e:D.aAF)(h:e.sz≤34359738368):Pj e=some e:=by
 unfold Pj;rw[lI h];rfl
theorem aJu (e:D.aAF)(h:e.sz≤34359738368):Jl e=some e:=by
 unfold Jl;rw[lI h];rfl
theorem aPa (s:D.Site)(h:s.sz≤34359738368):Pk s=some s:=by
 simp only[D.Site.sz] at h
 unfold Pk
 rw[X3 (l:=s.Accounts) (by omega) (fun rec i q hi hs=>by
  have hz:=dM (f:=D.aAG.sz) hi
  simp only[bE hi,cond_true,aF hi,bd_s,aC (show s.Accounts[i].sz≤34359738368 by omega),fF hs]) (fun rec q=>by simp only[bF,cond_false])]
 simp only[aC (show s.Book.sz≤34359738368 by simp only[D.aAF.sz];omega),bd_s,lI (show s.Logins.length≤34359738368 by omega),List.nil_append]
theorem aJv (s:D.Site)(h:s.sz≤34359738368):Jm s=some s:=by
 simp only[D.Site.sz] at h
 unfold Jm
 rw[X3 (l:=s.Accounts) (by omega) (fun rec i q hi hs=>by
  have hz:=dM (f:=D.aAG.sz) hi
  simp only[bE hi,cond_true,aF hi,bd_s,aC (show s.Accounts[i].sz≤34359738368 by omega),fF hs]) (fun rec q=>by simp only[bF,cond_false])]
 simp only[aC (show s.Book.sz≤34359738368 by simp only[D.aAF.sz];omega),bd_s,aC (show vN s.Logins [] by unfold vN;simp;omega)]
 simp[nQ]
theorem aPb (e:D.aAC)(h:e.sz≤34359738368):Pm e=some e:=by
 unfold Pm;rw[lI h];rfl
theorem aJw (e:D.aAC)(h:e.sz≤34359738368):Jj e=some e:=by
 unfold Jj;rw[lI h];rfl
theorem aJx (l:List D.aAC)(h:szL D.aAC.sz l≤34359738368):Iz l=some l:=by
 unfold Iz
 unfold szL at h
 rw[bG7 (l:=l) (by omega) (fun rec i s hi hs=>by
  have hz:=dM (f:=D.aAC.sz) hi
  simp only[bE hi,cond_true,aF hi,bd_s,aC (show l[i].sz≤34359738368 by omega),fF hs]) (fun rec s=>by simp only[bF,cond_false])]
 rfl
theorem aEw (l:List D.aAC)(h:szL D.aAC.sz l≤34359738368):Cs l=some l:=by
 unfold Cs
 unfold szL at h
 rw[bG7 (l:=l) (by omega) (fun rec i s hi hs=>by
  have hz:=dM (f:=D.aAC.sz) hi
  simp only[bE hi,cond_true,aF hi,bd_s,aC (show l[i].sz≤34359738368 by omega),fF hs]) (fun rec s=>by simp only[bF,cond_false])]
 rfl
theorem aPc (e:D.aAK)(h:e.sz≤34359738368):Pn e=some e:=by
 unfold Pn;rw[lI h];rfl
theorem aJy (e:D.aAK)(h:e.sz≤34359738368):Jk e=some e:=by
 unfold Jk;rw[lI h];rfl
theorem aPd (w:D.World)(h:w.sz≤34359738368):Po w=some w:=by
 simp only[D.World.sz] at h
 unfold Po
 rw[X3 (l:=w.Devices) (by omega) (fun rec i q hi hs=>by
  have hz:=dM (f:=D.Device.sz) hi
  simp only[bE hi,cond_true,aF hi,bd_s,aC (show w.Devices[i].sz≤34359738368 by omega),fF hs]) (fun rec q=>by simp only[bF,cond_false]),
  X3 (l:=w.Sites) (by omega) (fun rec i q hi hs=>by
  have hz:=dM (f:=D.Site.sz) hi
  simp only[bE hi,cond_true,aF hi,bd_s,aC (show w.Sites[i].sz≤34359738368 by omega),fF hs]) (fun rec q=>by simp only[bF,cond_false])]
 simp only[bd_s,lI (show w.Stolen.length≤34359738368 by omega),aC (show w.aAH.sz≤34359738368 by simp only[D.aAH.sz];omega),aC (show szL D.aAC.sz w.Hosts≤34359738368 by unfold szL;omega),aC (show w.Mail.sz≤34359738368 by simp only[D.aAK.sz];omega),List.nil_append]
theorem aEx (w:D.World)(h:w.sz≤34359738368):Ct w=some w:=by
 simp only[D.World.sz] at h
 unfold Ct
 rw[X3 (l:=w.Devices) (by omega) (fun rec i q hi hs=>by
  have hz:=dM (f:=D.Device.sz) hi
  simp only[bE hi,cond_true,aF hi,bd_s,aC (show w.Devices[i].sz≤34359738368 by omega),fF hs]) (fun rec q=>by simp only[bF,cond_false]),
  X3 (l:=w.Sites) (by omega) (fun rec i q hi hs=>by
  have hz:=dM (f:=D.Site.sz) hi
  simp only[bE hi,cond_true,aF hi,bd_s,aC (show w.Sites[i].sz≤34359738368 by omega),fF hs]) (fun rec q=>by simp only[bF,cond_false])]
 simp only[bd_s,lI (show w.Stolen.length≤34359738368 by omega),aC (show w.aAH.sz≤34359738368 by simp only[D.aAH.sz];omega),aC (show szL D.aAC.sz w.Hosts≤34359738368 by unfold szL;omega),aC (show w.Mail.sz≤34359738368 by simp only[D.aAK.sz];omega),List.nil_append]
end
end Go.VK
