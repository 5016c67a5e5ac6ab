import Derived.Test.YtefkjglmpmakcaaGreatDoorXlPd
import Derived.Test.YtefkjglmpmakcaaGreatDoorXlQ
/- Printed by wip/tools: models, walks, proofs. -/
set_option linter.unusedVariables false
set_option linter.unusedSimpArgs false
set_option maxRecDepth 100000
set_option maxHeartbeats 4000000
namespace Go.VK
open Go.RowKit Go.Proofs
noncomputable section
open EV (bS)
theorem aMa (l:List D.aAB)(h:l.length≤34359738368):Lh l=some l:=by
 unfold Lh;rw[nO h];rfl
theorem aMb (l:List D.aAB)(h:l.length≤34359738368):Ml l=some l:=by
 unfold Ml;rw[nO h];rfl
theorem aCj (l:List Int)(h:l.length≤34359738368):Bi l=some l:=by
 unfold Bi;rw[nO h];rfl
theorem aMc (d:D.Device)(h:d.sz≤34359738368):Lx d=some d:=by
 simp only[D.Device.sz] at h
 unfold Lx
 simp only[aB (show d.Log.length≤34359738368 by omega),aB (show d.aAC.sz≤34359738368 by simp only[D.aAC.sz];omega),bd_s]
theorem M7 (d:D.Device)(h:d.sz≤34359738368):yF d=some d:=by
 simp only[D.Device.sz] at h
 unfold yF
 simp only[aB (show d.Log.length≤34359738368 by omega),aB (show d.aAC.sz≤34359738368 by simp only[D.aAC.sz];omega),bd_s]
theorem aMd (e:D.aAD)(h:e.sz≤34359738368):Lm e=some e:=by
 simp only[D.aAD.sz] at h
 unfold Lm
 rw[aK5 (l:=e.Boxes) (by omega) (fun rec i s hi hs=>by
  have hz:=fO (f:=D.Box.sz) hi
  simp only[D.Box.sz] at hz h
  simp only[bJ hi,cond_true,aF hi,bd_s,nO (show e.Boxes[i].Data.length≤34359738368 by omega),gM hs,List.nil_append]) (fun rec s=>by simp only[bM,cond_false])]
 rfl
theorem aCk (l:List D.Box)(h:szL D.Box.sz l≤34359738368):Bn l=some l:=by
 unfold Bn
 unfold szL at h
 rw[bFc (l:=l) (by omega) (fun rec i s hi hs=>by
  have hz:=fO (f:=D.Box.sz) hi
  simp only[D.Box.sz] at hz h
  simp only[bJ hi,cond_true,aF hi,bd_s,aB (show l[i].Data.length≤34359738368 by omega),gM hs]) (fun rec s=>by simp only[bM,cond_false])]
 rfl
theorem Ip (e:D.aAD)(h:e.sz≤34359738368):pE e=some e:=by
 unfold pE
 simp only[aB (show szL D.Box.sz e.Boxes≤34359738368 from h),bd_s]
theorem aMe (e:D.aAA)(h:e.sz≤34359738368):Mc e=some e:=by
 unfold Mc;rw[nO h];rfl
theorem M8 (e:D.aAA)(h:e.sz≤34359738368):yJ e=some e:=by
 unfold yJ;simp only[aB (show e.Data.length≤34359738368 from h),bd_s]
theorem aMf (c:D.aAJ)(h:c.sz≤34359738368):Md c=some c:=by
 simp only[D.aAJ.sz] at h
 unfold Md
 rw[aK5 (l:=c.History) (by omega) (fun rec i s hi hs=>by
  have hz:=fO (f:=D.aAA.sz) hi
  simp only[bJ hi,cond_true,aF hi,bd_s,aB (show c.History[i].sz≤34359738368 by omega),gM hs]) (fun rec s=>by simp only[bM,cond_false])]
 simp only[aB (show c.Log.length≤34359738368 by omega),aB (show c.Boxes.sz≤34359738368 by simp only[D.aAD.sz];omega),bd_s]
theorem aCl (c:D.aAJ)(h:c.sz≤34359738368):Bq c=some c:=by
 simp only[D.aAJ.sz] at h
 unfold Bq
 rw[aK5 (l:=c.History) (by omega) (fun rec i s hi hs=>by
  have hz:=fO (f:=D.aAA.sz) hi
  simp only[bJ hi,cond_true,aF hi,bd_s,aB (show c.History[i].sz≤34359738368 by omega),gM hs]) (fun rec s=>by simp only[bM,cond_false])]
 simp only[aB (show c.Log.length≤34359738368 by omega),aB (show c.Boxes.sz≤34359738368 by simp only[D.aAD.sz];omega),bd_s]
theorem aMg (e:D.aAF)(h:e.sz≤34359738368):Ls e=some e:=by
 unfold Ls;rw[nO h];rfl
theorem Wj (e:D.aAF)(h:e.sz≤34359738368):vO e=some e:=by
 unfold vO;rw[nO h];rfl
theorem aMh (e:D.aAG)(h:e.sz≤34359738368):Lt e=some e:=by
 unfold Lt;rw[nO h];rfl
theorem aHc (e:D.aAG)(h:e.sz≤34359738368):Gt e=some e:=by
 unfold Gt;rw[nO h];rfl
theorem aMi (s:D.Site)(h:s.sz≤34359738368):Lu s=some s:=by
 simp only[D.Site.sz] at h
 unfold Lu
 rw[aK5 (l:=s.Accounts) (by omega) (fun rec i q hi hs=>by
  have hz:=fO (f:=D.aAF.sz) hi
  simp only[bJ hi,cond_true,aF hi,bd_s,aB (show s.Accounts[i].sz≤34359738368 by omega),gM hs]) (fun rec q=>by simp only[bM,cond_false])]
 simp only[aB (show s.Book.sz≤34359738368 by simp only[D.aAG.sz];omega),bd_s,nO (show s.Logins.length≤34359738368 by omega),List.nil_append]
theorem aHd (s:D.Site)(h:s.sz≤34359738368):Gu s=some s:=by
 simp only[D.Site.sz] at h
 unfold Gu
 rw[aK5 (l:=s.Accounts) (by omega) (fun rec i q hi hs=>by
  have hz:=fO (f:=D.aAF.sz) hi
  simp only[bJ hi,cond_true,aF hi,bd_s,aB (show s.Accounts[i].sz≤34359738368 by omega),gM hs]) (fun rec q=>by simp only[bM,cond_false])]
 simp only[aB (show s.Book.sz≤34359738368 by simp only[D.aAG.sz];omega),bd_s,aB (show uP s.Logins [] by unfold uP;simp;omega)]
 simp[nJ]
theorem aHe (e:D.aAE)(h:e.sz≤34359738368):Gz e=some e:=by
 unfold Gz;rw[nO h];rfl
theorem aCm (l:List D.aAE)(h:szL D.aAE.sz l≤34359738368):Bw l=some l:=by
 unfold Bw
 unfold szL at h
 rw[bFc (l:=l) (by omega) (fun rec i s hi hs=>by
  have hz:=fO (f:=D.aAE.sz) hi
  simp only[bJ hi,cond_true,aF hi,bd_s,aB (show l[i].sz≤34359738368 by omega),gM hs]) (fun rec s=>by simp only[bM,cond_false])]
 rfl
theorem aHf (e:D.aAO)(h:e.sz≤34359738368):Ha e=some e:=by
 unfold Ha;rw[nO h];rfl
theorem aCn (w:D.World)(h:w.sz≤34359738368):Ca w=some w:=by
 simp only[D.World.sz] at h
 unfold Ca
 rw[aK5 (l:=w.Devices) (by omega) (fun rec i q hi hs=>by
  have hz:=fO (f:=D.Device.sz) hi
  simp only[bJ hi,cond_true,aF hi,bd_s,aB (show w.Devices[i].sz≤34359738368 by omega),gM hs]) (fun rec q=>by simp only[bM,cond_false]),
  aK5 (l:=w.Sites) (by omega) (fun rec i q hi hs=>by
  have hz:=fO (f:=D.Site.sz) hi
  simp only[bJ hi,cond_true,aF hi,bd_s,aB (show w.Sites[i].sz≤34359738368 by omega),gM hs]) (fun rec q=>by simp only[bM,cond_false])]
 simp only[bd_s,nO (show w.Stolen.length≤34359738368 by omega),aB (show w.aAJ.sz≤34359738368 by simp only[D.aAJ.sz];omega),aB (show szL D.aAE.sz w.Hosts≤34359738368 by unfold szL;omega),aB (show w.Mail.sz≤34359738368 by simp only[D.aAO.sz];omega),List.nil_append]
end
end Go.VK
