import Derived.Test.YtlnjelnfjgjanaaGreatXpPd
import Derived.Test.YtlnjelnfjgjanaaGreatXpM
/- Printed by wip/tools: models, walks, proofs. -/
set_option linter.unusedVariables false
set_option linter.unusedSimpArgs false
set_option maxRecDepth 100000
set_option maxHeartbeats 4000000
namespace Go.VK
open Go.RowKit Go.Proofs
noncomputable section
open EV (bT)
theorem aGq (l:List D.aAC)(h:l.length≤34359738368):Jm l=some l:=by
 unfold Jm;rw[zQ h];rfl
theorem aGr (d:D.Device)(h:d.sz≤34359738368):Jy d=some d:=by
 simp only[D.Device.sz] at h
 unfold Jy
 simp only[aB (show d.Log.length≤34359738368 by omega),aB (show d.aAG.sz≤34359738368 by simp only[D.aAG.sz];omega),bd_s]
theorem aGs (e:D.aAH)(h:e.sz≤34359738368):Jq e=some e:=by
 simp only[D.aAH.sz] at h
 unfold Jq
 rw[aPx (l:=e.Boxes) (by omega) (fun rec i s hi hs=>by
  have hz:=mR (f:=D.Box.sz) hi
  simp only[D.Box.sz] at hz h
  simp only[dQ hi,cond_true,aM hi,bd_s,zQ (show e.Boxes[i].Data.length≤34359738368 by omega),gT hs,List.nil_append]) (fun rec s=>by simp only[dS,cond_false])]
 rfl
theorem aGt (e:D.aAD)(h:e.sz≤34359738368):Ka e=some e:=by
 unfold Ka;rw[zQ h];rfl
theorem aGu (c:D.aAE)(h:c.sz≤34359738368):Kb c=some c:=by
 simp only[D.aAE.sz] at h
 unfold Kb
 rw[aPx (l:=c.History) (by omega) (fun rec i s hi hs=>by
  have hz:=mR (f:=D.aAD.sz) hi
  simp only[dQ hi,cond_true,aM hi,bd_s,aB (show c.History[i].sz≤34359738368 by omega),gT hs]) (fun rec s=>by simp only[dS,cond_false])]
 simp only[aB (show c.Log.length≤34359738368 by omega),aB (show c.Boxes.sz≤34359738368 by simp only[D.aAH.sz];omega),bd_s]
theorem aGv (e:D.aAF)(h:e.sz≤34359738368):Jt e=some e:=by
 unfold Jt;rw[zQ h];rfl
theorem aGw (e:D.aAB)(h:e.sz≤34359738368):Ju e=some e:=by
 unfold Ju;rw[zQ h];rfl
theorem aGx (s:D.Site)(h:s.sz≤34359738368):Jv s=some s:=by
 simp only[D.Site.sz] at h
 unfold Jv
 rw[aPx (l:=s.Accounts) (by omega) (fun rec i q hi hs=>by
  have hz:=mR (f:=D.aAF.sz) hi
  simp only[dQ hi,cond_true,aM hi,bd_s,aB (show s.Accounts[i].sz≤34359738368 by omega),gT hs]) (fun rec q=>by simp only[dS,cond_false])]
 simp only[aB (show s.Book.sz≤34359738368 by simp only[D.aAB.sz];omega),bd_s,zQ (show s.Logins.length≤34359738368 by omega),List.nil_append]
theorem aGy (e:D.aAA)(h:e.sz≤34359738368):Kj e=some e:=by
 unfold Kj;rw[zQ h];rfl
theorem aCe (l:List D.aAA)(h:Nv D.aAA.sz l≤34359738368):Fs l=some l:=by
 unfold Fs
 unfold Nv at h
 rw[bH8 (l:=l) (by omega) (fun rec i s hi hs=>by
  have hz:=mR (f:=D.aAA.sz) hi
  simp only[dQ hi,cond_true,aM hi,bd_s,aB (show l[i].sz≤34359738368 by omega),gT hs]) (fun rec s=>by simp only[dS,cond_false])]
 rfl
theorem aGz (e:D.aAP)(h:e.sz≤34359738368):Kk e=some e:=by
 unfold Kk;rw[zQ h];rfl
theorem aG0 (w:D.World)(h:w.sz≤34359738368):Kl w=some w:=by
 simp only[D.World.sz] at h
 unfold Kl
 rw[aPx (l:=w.Devices) (by omega) (fun rec i q hi hs=>by
  have hz:=mR (f:=D.Device.sz) hi
  simp only[dQ hi,cond_true,aM hi,bd_s,aB (show w.Devices[i].sz≤34359738368 by omega),gT hs]) (fun rec q=>by simp only[dS,cond_false]),
  aPx (l:=w.Sites) (by omega) (fun rec i q hi hs=>by
  have hz:=mR (f:=D.Site.sz) hi
  simp only[dQ hi,cond_true,aM hi,bd_s,aB (show w.Sites[i].sz≤34359738368 by omega),gT hs]) (fun rec q=>by simp only[dS,cond_false])]
 simp only[bd_s,zQ (show w.Stolen.length≤34359738368 by omega),aB (show w.aAE.sz≤34359738368 by simp only[D.aAE.sz];omega),aB (show Nv D.aAA.sz w.Hosts≤34359738368 by unfold Nv;omega),aB (show w.Mail.sz≤34359738368 by simp only[D.aAP.sz];omega),List.nil_append]
end
end Go.VK
