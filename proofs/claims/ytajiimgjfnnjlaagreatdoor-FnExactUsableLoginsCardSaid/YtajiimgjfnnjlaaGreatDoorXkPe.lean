import Derived.Test.YtajiimgjfnnjlaaGreatDoorXkPd
import Derived.Test.YtajiimgjfnnjlaaGreatDoorXkQ
/- Printed by wip/tools: models, walks, proofs. -/
set_option linter.unusedVariables false
set_option linter.unusedSimpArgs false
set_option maxRecDepth 100000
set_option maxHeartbeats 4000000
namespace Go.VK
open Go.RowKit Go.Proofs
noncomputable section
open EV (bK)
theorem aC3 (l:List D.aAE)(h:l.length≤34359738368):Ei l=some l:=by
 unfold Ei;rw[iB h];rfl
theorem aC4 (l:List D.aAE)(h:l.length≤34359738368):Fb l=some l:=by
 unfold Fb;rw[iB h];rfl
theorem Zi (l:List Int)(h:l.length≤34359738368):vN l=some l:=by
 unfold vN;rw[iB h];rfl
theorem aC5 (d:D.Device)(h:d.sz≤34359738368):Em d=some d:=by
 simp only[D.Device.sz] at h
 unfold Em
 simp only[aC (show d.Log.length≤34359738368 by omega),aC (show d.aAN.sz≤34359738368 by simp only[D.aAN.sz];omega),bd_s]
theorem Uw (d:D.Device)(h:d.sz≤34359738368):tN d=some d:=by
 simp only[D.Device.sz] at h
 unfold tN
 simp only[aC (show d.Log.length≤34359738368 by omega),aC (show d.aAN.sz≤34359738368 by simp only[D.aAN.sz];omega),bd_s]
theorem aC6 (e:D.aAF)(h:e.sz≤34359738368):En e=some e:=by
 simp only[D.aAF.sz] at h
 unfold En
 rw[Ty (l:=e.Boxes) (by omega) (fun rec i s hi hs=>by
  have hz:=bL (f:=D.Box.sz) hi
  simp only[D.Box.sz] at hz h
  simp only[bB hi,cond_true,aD hi,bd_s,iB (show e.Boxes[i].Data.length≤34359738368 by omega),iA hs,List.nil_append]) (fun rec s=>by simp only[bC,cond_false])]
 rfl
theorem Zj (l:List D.Box)(h:szL D.Box.sz l≤34359738368):vO l=some l:=by
 unfold vO
 unfold szL at h
 rw[aSd (l:=l) (by omega) (fun rec i s hi hs=>by
  have hz:=bL (f:=D.Box.sz) hi
  simp only[D.Box.sz] at hz h
  simp only[bB hi,cond_true,aD hi,bd_s,aC (show l[i].Data.length≤34359738368 by omega),iA hs]) (fun rec s=>by simp only[bC,cond_false])]
 rfl
theorem Ap (e:D.aAF)(h:e.sz≤34359738368):kQ e=some e:=by
 unfold kQ
 simp only[aC (show szL D.Box.sz e.Boxes≤34359738368 from h),bd_s]
theorem aC7 (e:D.aAB)(h:e.sz≤34359738368):Eo e=some e:=by
 unfold Eo;rw[iB h];rfl
theorem Ux (e:D.aAB)(h:e.sz≤34359738368):tK e=some e:=by
 unfold tK;simp only[aC (show e.Data.length≤34359738368 from h),bd_s]
theorem aC8 (c:D.aAO)(h:c.sz≤34359738368):Ep c=some c:=by
 simp only[D.aAO.sz] at h
 unfold Ep
 rw[Ty (l:=c.History) (by omega) (fun rec i s hi hs=>by
  have hz:=bL (f:=D.aAB.sz) hi
  simp only[bB hi,cond_true,aD hi,bd_s,aC (show c.History[i].sz≤34359738368 by omega),iA hs]) (fun rec s=>by simp only[bC,cond_false])]
 simp only[aC (show c.Log.length≤34359738368 by omega),aC (show c.Boxes.sz≤34359738368 by simp only[D.aAF.sz];omega),bd_s]
theorem Zk (c:D.aAO)(h:c.sz≤34359738368):vP c=some c:=by
 simp only[D.aAO.sz] at h
 unfold vP
 rw[Ty (l:=c.History) (by omega) (fun rec i s hi hs=>by
  have hz:=bL (f:=D.aAB.sz) hi
  simp only[bB hi,cond_true,aD hi,bd_s,aC (show c.History[i].sz≤34359738368 by omega),iA hs]) (fun rec s=>by simp only[bC,cond_false])]
 simp only[aC (show c.Log.length≤34359738368 by omega),aC (show c.Boxes.sz≤34359738368 by simp only[D.aAF.sz];omega),bd_s]
theorem aC9 (e:D.aAD)(h:e.sz≤34359738368):Er e=some e:=by
 unfold Er;rw[iB h];rfl
theorem Ph (e:D.aAD)(h:e.sz≤34359738368):qX e=some e:=by
 unfold qX;rw[iB h];rfl
theorem aDa (e:D.aAA)(h:e.sz≤34359738368):Es e=some e:=by
 unfold Es;rw[iB h];rfl
theorem R3 (e:D.aAA)(h:e.sz≤34359738368):zP e=some e:=by
 unfold zP;rw[iB h];rfl
theorem aDb (s:D.Site)(h:s.sz≤34359738368):Et s=some s:=by
 simp only[D.Site.sz] at h
 unfold Et
 rw[Ty (l:=s.Accounts) (by omega) (fun rec i q hi hs=>by
  have hz:=bL (f:=D.aAD.sz) hi
  simp only[bB hi,cond_true,aD hi,bd_s,aC (show s.Accounts[i].sz≤34359738368 by omega),iA hs]) (fun rec q=>by simp only[bC,cond_false])]
 simp only[aC (show s.Book.sz≤34359738368 by simp only[D.aAA.sz];omega),bd_s,iB (show s.Logins.length≤34359738368 by omega),List.nil_append]
theorem R4 (s:D.Site)(h:s.sz≤34359738368):zQ s=some s:=by
 simp only[D.Site.sz] at h
 unfold zQ
 rw[Ty (l:=s.Accounts) (by omega) (fun rec i q hi hs=>by
  have hz:=bL (f:=D.aAD.sz) hi
  simp only[bB hi,cond_true,aD hi,bd_s,aC (show s.Accounts[i].sz≤34359738368 by omega),iA hs]) (fun rec q=>by simp only[bC,cond_false])]
 simp only[aC (show s.Book.sz≤34359738368 by simp only[D.aAA.sz];omega),bd_s,aC (show nH s.Logins [] by unfold nH;simp;omega)]
 simp[jK]
theorem aDc (e:D.aAC)(h:e.sz≤34359738368):Eu e=some e:=by
 unfold Eu;rw[iB h];rfl
theorem R5 (e:D.aAC)(h:e.sz≤34359738368):zN e=some e:=by
 unfold zN;rw[iB h];rfl
theorem R6 (l:List D.aAC)(h:szL D.aAC.sz l≤34359738368):zI l=some l:=by
 unfold zI
 unfold szL at h
 rw[aSd (l:=l) (by omega) (fun rec i s hi hs=>by
  have hz:=bL (f:=D.aAC.sz) hi
  simp only[bB hi,cond_true,aD hi,bd_s,aC (show l[i].sz≤34359738368 by omega),iA hs]) (fun rec s=>by simp only[bC,cond_false])]
 rfl
theorem Zl (l:List D.aAC)(h:szL D.aAC.sz l≤34359738368):vQ l=some l:=by
 unfold vQ
 unfold szL at h
 rw[aSd (l:=l) (by omega) (fun rec i s hi hs=>by
  have hz:=bL (f:=D.aAC.sz) hi
  simp only[bB hi,cond_true,aD hi,bd_s,aC (show l[i].sz≤34359738368 by omega),iA hs]) (fun rec s=>by simp only[bC,cond_false])]
 rfl
theorem aDd (e:D.aAI)(h:e.sz≤34359738368):Ew e=some e:=by
 unfold Ew;rw[iB h];rfl
theorem R7 (e:D.aAI)(h:e.sz≤34359738368):zO e=some e:=by
 unfold zO;rw[iB h];rfl
theorem aDe (w:D.World)(h:w.sz≤34359738368):Ex w=some w:=by
 simp only[D.World.sz] at h
 unfold Ex
 rw[Ty (l:=w.Devices) (by omega) (fun rec i q hi hs=>by
  have hz:=bL (f:=D.Device.sz) hi
  simp only[bB hi,cond_true,aD hi,bd_s,aC (show w.Devices[i].sz≤34359738368 by omega),iA hs]) (fun rec q=>by simp only[bC,cond_false]),
  Ty (l:=w.Sites) (by omega) (fun rec i q hi hs=>by
  have hz:=bL (f:=D.Site.sz) hi
  simp only[bB hi,cond_true,aD hi,bd_s,aC (show w.Sites[i].sz≤34359738368 by omega),iA hs]) (fun rec q=>by simp only[bC,cond_false])]
 simp only[bd_s,iB (show w.Stolen.length≤34359738368 by omega),aC (show w.aAO.sz≤34359738368 by simp only[D.aAO.sz];omega),aC (show szL D.aAC.sz w.Hosts≤34359738368 by unfold szL;omega),aC (show w.Mail.sz≤34359738368 by simp only[D.aAI.sz];omega),List.nil_append]
theorem Zm (w:D.World)(h:w.sz≤34359738368):vR w=some w:=by
 simp only[D.World.sz] at h
 unfold vR
 rw[Ty (l:=w.Devices) (by omega) (fun rec i q hi hs=>by
  have hz:=bL (f:=D.Device.sz) hi
  simp only[bB hi,cond_true,aD hi,bd_s,aC (show w.Devices[i].sz≤34359738368 by omega),iA hs]) (fun rec q=>by simp only[bC,cond_false]),
  Ty (l:=w.Sites) (by omega) (fun rec i q hi hs=>by
  have hz:=bL (f:=D.Site.sz) hi
  simp only[bB hi,cond_true,aD hi,bd_s,aC (show w.Sites[i].sz≤34359738368 by omega),iA hs]) (fun rec q=>by simp only[bC,cond_false])]
 simp only[bd_s,iB (show w.Stolen.length≤34359738368 by omega),aC (show w.aAO.sz≤34359738368 by simp only[D.aAO.sz];omega),aC (show szL D.aAC.sz w.Hosts≤34359738368 by unfold szL;omega),aC (show w.Mail.sz≤34359738368 by simp only[D.aAI.sz];omega),List.nil_append]
end
end Go.VK
