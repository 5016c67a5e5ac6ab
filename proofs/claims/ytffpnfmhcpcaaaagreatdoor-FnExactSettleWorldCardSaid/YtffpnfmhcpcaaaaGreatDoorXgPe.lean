import Derived.Test.YtffpnfmhcpcaaaaGreatDoorXgPd
import Derived.Test.YtffpnfmhcpcaaaaGreatDoorXgQ
/-
  Printed by wip/tools (own work of this part): models of functions, walks over the value kit, and proofs.
-/
set_option linter.unusedVariables false
set_option linter.unusedSimpArgs false
set_option maxRecDepth 100000
set_option maxHeartbeats 4000000
namespace Go.VK
open Go.RowKit Go.Proofs
noncomputable section
open EV (bW)
theorem aI8 (l:List D.LogEntry)(h:l.length≤34359738368):Jr l=some l:=by
 unfold Jr;rw[jP h];rfl
theorem aI9 (l:List D.LogEntry)(h:l.length≤34359738368):Ku l=some l:=by
 unfold Ku;rw[jP h];rfl
theorem aAd (l:List Int)(h:l.length≤34359738368):yP l=some l:=by
 unfold yP;rw[jP h];rfl
theorem aJa (d:D.Device)(h:d.sz≤34359738368):Jt d=some d:=by
 simp only[D.Device.sz] at h
 unfold Jt
 simp only[aH (show d.Log.length≤34359738368 by omega),aH (show d.Bundle.sz≤34359738368 by simp only[D.Bundle.sz];omega),bd_s]
theorem A7 (d:D.Device)(h:d.sz≤34359738368):wH d=some d:=by
 simp only[D.Device.sz] at h
 unfold wH
 simp only[aH (show d.Log.length≤34359738368 by omega),aH (show d.Bundle.sz≤34359738368 by simp only[D.Bundle.sz];omega),bd_s]
theorem aJb (e:D.EpochBoxes)(h:e.sz≤34359738368):Ju e=some e:=by
 simp only[D.EpochBoxes.sz] at h
 unfold Ju
 rw[Zr (l:=e.Boxes) (by omega) (fun rec i s hi hs=>by
  have hz:=dF (f:=D.Box.sz) hi
  simp only[D.Box.sz] at hz h
  simp only[bD hi,cond_true,aG hi,bd_s,jP (show e.Boxes[i].Data.length≤34359738368 by omega),fM hs,List.nil_append]) (fun rec s=>by simp only[bE,cond_false])]
 rfl
theorem aAe (l:List D.Box)(h:szL D.Box.sz l≤34359738368):yQ l=some l:=by
 unfold yQ
 unfold szL at h
 rw[aZ5 (l:=l) (by omega) (fun rec i s hi hs=>by
  have hz:=dF (f:=D.Box.sz) hi
  simp only[D.Box.sz] at hz h
  simp only[bD hi,cond_true,aG hi,bd_s,aH (show l[i].Data.length≤34359738368 by omega),fM hs]) (fun rec s=>by simp only[bE,cond_false])]
 rfl
theorem Gg (e:D.EpochBoxes)(h:e.sz≤34359738368):mW e=some e:=by
 unfold mW
 simp only[aH (show szL D.Box.sz e.Boxes≤34359738368 from h),bd_s]
theorem aJc (e:D.SealedBundle)(h:e.sz≤34359738368):Jv e=some e:=by
 unfold Jv;rw[jP h];rfl
theorem A8 (e:D.SealedBundle)(h:e.sz≤34359738368):wF e=some e:=by
 unfold wF;simp only[aH (show e.Data.length≤34359738368 from h),bd_s]
theorem aJd (c:D.Cloud)(h:c.sz≤34359738368):Jw c=some c:=by
 simp only[D.Cloud.sz] at h
 unfold Jw
 rw[Zr (l:=c.History) (by omega) (fun rec i s hi hs=>by
  have hz:=dF (f:=D.SealedBundle.sz) hi
  simp only[bD hi,cond_true,aG hi,bd_s,aH (show c.History[i].sz≤34359738368 by omega),fM hs]) (fun rec s=>by simp only[bE,cond_false])]
 simp only[aH (show c.Log.length≤34359738368 by omega),aH (show c.Boxes.sz≤34359738368 by simp only[D.EpochBoxes.sz];omega),bd_s]
theorem aAf (c:D.Cloud)(h:c.sz≤34359738368):yR c=some c:=by
 simp only[D.Cloud.sz] at h
 unfold yR
 rw[Zr (l:=c.History) (by omega) (fun rec i s hi hs=>by
  have hz:=dF (f:=D.SealedBundle.sz) hi
  simp only[bD hi,cond_true,aG hi,bd_s,aH (show c.History[i].sz≤34359738368 by omega),fM hs]) (fun rec s=>by simp only[bE,cond_false])]
 simp only[aH (show c.Log.length≤34359738368 by omega),aH (show c.Boxes.sz≤34359738368 by simp only[D.EpochBoxes.sz];omega),bd_s]
theorem aJe (e:D.Account)(h:e.sz≤34359738368):Jy e=some e:=by
 unfold Jy;rw[jP h];rfl
theorem Ve (e:D.Account)(h:e.sz≤34359738368):tF e=some e:=by
 unfold tF;rw[jP h];rfl
theorem aJf (e:D.ChallengeBook)(h:e.sz≤34359738368):Jz e=some e:=by
 unfold Jz;rw[jP h];rfl
theorem aEn (e:D.ChallengeBook)(h:e.sz≤34359738368):Et e=some e:=by
 unfold Et;rw[jP h];rfl
theorem aJg (s:D.Site)(h:s.sz≤34359738368):Ka s=some s:=by
 simp only[D.Site.sz] at h
 unfold Ka
 rw[Zr (l:=s.Accounts) (by omega) (fun rec i q hi hs=>by
  have hz:=dF (f:=D.Account.sz) hi
  simp only[bD hi,cond_true,aG hi,bd_s,aH (show s.Accounts[i].sz≤34359738368 by omega),fM hs]) (fun rec q=>by simp only[bE,cond_false])]
 simp only[aH (show s.Book.sz≤34359738368 by simp only[D.ChallengeBook.sz];omega),bd_s,jP (show s.Logins.length≤34359738368 by omega),List.nil_append]
theorem aEo (s:D.Site)(h:s.sz≤34359738368):Eu s=some s:=by
 simp only[D.Site.sz] at h
 unfold Eu
 rw[Zr (l:=s.Accounts) (by omega) (fun rec i q hi hs=>by
  have hz:=dF (f:=D.Account.sz) hi
  simp only[bD hi,cond_true,aG hi,bd_s,aH (show s.Accounts[i].sz≤34359738368 by omega),fM hs]) (fun rec q=>by simp only[bE,cond_false])]
 simp only[aH (show s.Book.sz≤34359738368 by simp only[D.ChallengeBook.sz];omega),bd_s,aH (show sH s.Logins [] by unfold sH;simp;omega)]
 simp[lI]
theorem aJh (e:D.KeeperHost)(h:e.sz≤34359738368):Kb e=some e:=by
 unfold Kb;rw[jP h];rfl
theorem aEp (e:D.KeeperHost)(h:e.sz≤34359738368):Er e=some e:=by
 unfold Er;rw[jP h];rfl
theorem aEq (l:List D.KeeperHost)(h:szL D.KeeperHost.sz l≤34359738368):Ei l=some l:=by
 unfold Ei
 unfold szL at h
 rw[aZ5 (l:=l) (by omega) (fun rec i s hi hs=>by
  have hz:=dF (f:=D.KeeperHost.sz) hi
  simp only[bD hi,cond_true,aG hi,bd_s,aH (show l[i].sz≤34359738368 by omega),fM hs]) (fun rec s=>by simp only[bE,cond_false])]
 rfl
theorem aAg (l:List D.KeeperHost)(h:szL D.KeeperHost.sz l≤34359738368):yS l=some l:=by
 unfold yS
 unfold szL at h
 rw[aZ5 (l:=l) (by omega) (fun rec i s hi hs=>by
  have hz:=dF (f:=D.KeeperHost.sz) hi
  simp only[bD hi,cond_true,aG hi,bd_s,aH (show l[i].sz≤34359738368 by omega),fM hs]) (fun rec s=>by simp only[bE,cond_false])]
 rfl
theorem aJi (e:D.Mailbox)(h:e.sz≤34359738368):Kc e=some e:=by
 unfold Kc;rw[jP h];rfl
theorem aEr (e:D.Mailbox)(h:e.sz≤34359738368):Es e=some e:=by
 unfold Es;rw[jP h];rfl
theorem aJj (w:D.World)(h:w.sz≤34359738368):Ke w=some w:=by
 simp only[D.World.sz] at h
 unfold Ke
 rw[Zr (l:=w.Devices) (by omega) (fun rec i q hi hs=>by
  have hz:=dF (f:=D.Device.sz) hi
  simp only[bD hi,cond_true,aG hi,bd_s,aH (show w.Devices[i].sz≤34359738368 by omega),fM hs]) (fun rec q=>by simp only[bE,cond_false]),
  Zr (l:=w.Sites) (by omega) (fun rec i q hi hs=>by
  have hz:=dF (f:=D.Site.sz) hi
  simp only[bD hi,cond_true,aG hi,bd_s,aH (show w.Sites[i].sz≤34359738368 by omega),fM hs]) (fun rec q=>by simp only[bE,cond_false])]
 simp only[bd_s,jP (show w.Stolen.length≤34359738368 by omega),aH (show w.Cloud.sz≤34359738368 by simp only[D.Cloud.sz];omega),aH (show szL D.KeeperHost.sz w.Hosts≤34359738368 by unfold szL;omega),aH (show w.Mail.sz≤34359738368 by simp only[D.Mailbox.sz];omega),List.nil_append]
theorem aAh (w:D.World)(h:w.sz≤34359738368):yT w=some w:=by
 simp only[D.World.sz] at h
 unfold yT
 rw[Zr (l:=w.Devices) (by omega) (fun rec i q hi hs=>by
  have hz:=dF (f:=D.Device.sz) hi
  simp only[bD hi,cond_true,aG hi,bd_s,aH (show w.Devices[i].sz≤34359738368 by omega),fM hs]) (fun rec q=>by simp only[bE,cond_false]),
  Zr (l:=w.Sites) (by omega) (fun rec i q hi hs=>by
  have hz:=dF (f:=D.Site.sz) hi
  simp only[bD hi,cond_true,aG hi,bd_s,aH (show w.Sites[i].sz≤34359738368 by omega),fM hs]) (fun rec q=>by simp only[bE,cond_false])]
 simp only[bd_s,jP (show w.Stolen.length≤34359738368 by omega),aH (show w.Cloud.sz≤34359738368 by simp only[D.Cloud.sz];omega),aH (show szL D.KeeperHost.sz w.Hosts≤34359738368 by unfold szL;omega),aH (show w.Mail.sz≤34359738368 by simp only[D.Mailbox.sz];omega),List.nil_append]
end
end Go.VK
