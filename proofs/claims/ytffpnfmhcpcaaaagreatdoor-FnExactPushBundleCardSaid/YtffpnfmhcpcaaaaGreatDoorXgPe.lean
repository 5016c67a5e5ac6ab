import Derived.Test.YtffpnfmhcpcaaaaGreatDoorXgPd
import Derived.Test.YtffpnfmhcpcaaaaGreatDoorXgQ
/-
  Printed by wip/tools (own work of this part): models of functions, walks over the value kit, and proofs.
-/
set_option linter.unusedVariables false
set_option linter.unusedSimpArgs false
set_option maxRecDepth 100000
set_option maxHeartbeats 4000000
namespace Go.VK
open Go.RowKit Go.Proofs
noncomputable section
open EV (itr)
theorem t_spec_l19Copy (l:List D.LogEntry)(h:l.length≤34359738368):m_spec_l19Copy l=some l:=by
 unfold m_spec_l19Copy;rw[gd_ap0 h];rfl
theorem t_impl_copyLog (l:List D.LogEntry)(h:l.length≤34359738368):m_impl_copyLog l=some l:=by
 unfold m_impl_copyLog;rw[gd_ap0 h];rfl
theorem t_impl_copyBytes (l:List Int)(h:l.length≤34359738368):m_impl_copyBytes l=some l:=by
 unfold m_impl_copyBytes;rw[gd_ap0 h];rfl
theorem t_spec_l23Copy (d:D.Device)(h:d.sz≤34359738368):m_spec_l23Copy d=some d:=by
 simp only[D.Device.sz] at h
 unfold m_spec_l23Copy
 simp only[gd_t (show d.Log.length≤34359738368 by omega),gd_t (show d.Bundle.sz≤34359738368 by simp only[D.Bundle.sz];omega),bd_s]
theorem t_impl_copyDevice (d:D.Device)(h:d.sz≤34359738368):m_impl_copyDevice d=some d:=by
 simp only[D.Device.sz] at h
 unfold m_impl_copyDevice
 simp only[gd_t (show d.Log.length≤34359738368 by omega),gd_t (show d.Bundle.sz≤34359738368 by simp only[D.Bundle.sz];omega),bd_s]
theorem t_spec_l20Copy (e:D.EpochBoxes)(h:e.sz≤34359738368):m_spec_l20Copy e=some e:=by
 simp only[D.EpochBoxes.sz] at h
 unfold m_spec_l20Copy
 rw[copyL (l:=e.Boxes) (by omega) (fun rec i s hi hs=>by
  have hz:=le_sumI (f:=D.Box.sz) hi
  simp only[D.Box.sz] at hz h
  simp only[lt_i hi,cond_true,atq_nat hi,bd_s,gd_ap0 (show e.Boxes[i].Data.length≤34359738368 by omega),gd_ap1 hs,List.nil_append]) (fun rec s=>by simp only[ge_i,cond_false])]
 rfl
theorem t_impl_copyBoxes (l:List D.Box)(h:szL D.Box.sz l≤34359738368):m_impl_copyBoxes l=some l:=by
 unfold m_impl_copyBoxes
 unfold szL at h
 rw[copyR (l:=l) (by omega) (fun rec i s hi hs=>by
  have hz:=le_sumI (f:=D.Box.sz) hi
  simp only[D.Box.sz] at hz h
  simp only[lt_i hi,cond_true,atq_nat hi,bd_s,gd_t (show l[i].Data.length≤34359738368 by omega),gd_ap1 hs]) (fun rec s=>by simp only[ge_i,cond_false])]
 rfl
theorem t_impl_copyEpochBoxes (e:D.EpochBoxes)(h:e.sz≤34359738368):m_impl_copyEpochBoxes e=some e:=by
 unfold m_impl_copyEpochBoxes
 simp only[gd_t (show szL D.Box.sz e.Boxes≤34359738368 from h),bd_s]
theorem t_spec_l18Copy (e:D.SealedBundle)(h:e.sz≤34359738368):m_spec_l18Copy e=some e:=by
 unfold m_spec_l18Copy;rw[gd_ap0 h];rfl
theorem t_impl_copySealed (e:D.SealedBundle)(h:e.sz≤34359738368):m_impl_copySealed e=some e:=by
 unfold m_impl_copySealed;simp only[gd_t (show e.Data.length≤34359738368 from h),bd_s]
theorem t_spec_l22Copy (c:D.Cloud)(h:c.sz≤34359738368):m_spec_l22Copy c=some c:=by
 simp only[D.Cloud.sz] at h
 unfold m_spec_l22Copy
 rw[copyL (l:=c.History) (by omega) (fun rec i s hi hs=>by
  have hz:=le_sumI (f:=D.SealedBundle.sz) hi
  simp only[lt_i hi,cond_true,atq_nat hi,bd_s,gd_t (show c.History[i].sz≤34359738368 by omega),gd_ap1 hs]) (fun rec s=>by simp only[ge_i,cond_false])]
 simp only[gd_t (show c.Log.length≤34359738368 by omega),gd_t (show c.Boxes.sz≤34359738368 by simp only[D.EpochBoxes.sz];omega),bd_s]
theorem t_impl_copyCloud (c:D.Cloud)(h:c.sz≤34359738368):m_impl_copyCloud c=some c:=by
 simp only[D.Cloud.sz] at h
 unfold m_impl_copyCloud
 rw[copyL (l:=c.History) (by omega) (fun rec i s hi hs=>by
  have hz:=le_sumI (f:=D.SealedBundle.sz) hi
  simp only[lt_i hi,cond_true,atq_nat hi,bd_s,gd_t (show c.History[i].sz≤34359738368 by omega),gd_ap1 hs]) (fun rec s=>by simp only[ge_i,cond_false])]
 simp only[gd_t (show c.Log.length≤34359738368 by omega),gd_t (show c.Boxes.sz≤34359738368 by simp only[D.EpochBoxes.sz];omega),bd_s]
theorem t_spec_l14Copy (e:D.Account)(h:e.sz≤34359738368):m_spec_l14Copy e=some e:=by
 unfold m_spec_l14Copy;rw[gd_ap0 h];rfl
theorem t_impl_copyAccount (e:D.Account)(h:e.sz≤34359738368):m_impl_copyAccount e=some e:=by
 unfold m_impl_copyAccount;rw[gd_ap0 h];rfl
theorem t_spec_l12Copy (e:D.ChallengeBook)(h:e.sz≤34359738368):m_spec_l12Copy e=some e:=by
 unfold m_spec_l12Copy;rw[gd_ap0 h];rfl
theorem t_impl_copyBook (e:D.ChallengeBook)(h:e.sz≤34359738368):m_impl_copyBook e=some e:=by
 unfold m_impl_copyBook;rw[gd_ap0 h];rfl
theorem t_spec_l15Copy (s:D.Site)(h:s.sz≤34359738368):m_spec_l15Copy s=some s:=by
 simp only[D.Site.sz] at h
 unfold m_spec_l15Copy
 rw[copyL (l:=s.Accounts) (by omega) (fun rec i q hi hs=>by
  have hz:=le_sumI (f:=D.Account.sz) hi
  simp only[lt_i hi,cond_true,atq_nat hi,bd_s,gd_t (show s.Accounts[i].sz≤34359738368 by omega),gd_ap1 hs]) (fun rec q=>by simp only[ge_i,cond_false])]
 simp only[gd_t (show s.Book.sz≤34359738368 by simp only[D.ChallengeBook.sz];omega),bd_s,gd_ap0 (show s.Logins.length≤34359738368 by omega),List.nil_append]
theorem t_impl_copySite (s:D.Site)(h:s.sz≤34359738368):m_impl_copySite s=some s:=by
 simp only[D.Site.sz] at h
 unfold m_impl_copySite
 rw[copyL (l:=s.Accounts) (by omega) (fun rec i q hi hs=>by
  have hz:=le_sumI (f:=D.Account.sz) hi
  simp only[lt_i hi,cond_true,atq_nat hi,bd_s,gd_t (show s.Accounts[i].sz≤34359738368 by omega),gd_ap1 hs]) (fun rec q=>by simp only[ge_i,cond_false])]
 simp only[gd_t (show s.Book.sz≤34359738368 by simp only[D.ChallengeBook.sz];omega),bd_s,gd_t (show joinP s.Logins [] by unfold joinP;simp;omega)]
 simp[joinF]
theorem t_spec_l24Copy (e:D.KeeperHost)(h:e.sz≤34359738368):m_spec_l24Copy e=some e:=by
 unfold m_spec_l24Copy;rw[gd_ap0 h];rfl
theorem t_impl_copyHost (e:D.KeeperHost)(h:e.sz≤34359738368):m_impl_copyHost e=some e:=by
 unfold m_impl_copyHost;rw[gd_ap0 h];rfl
theorem t_spec_l25Hosts (l:List D.KeeperHost)(h:szL D.KeeperHost.sz l≤34359738368):m_spec_l25Hosts l=some l:=by
 unfold m_spec_l25Hosts
 unfold szL at h
 rw[copyR (l:=l) (by omega) (fun rec i s hi hs=>by
  have hz:=le_sumI (f:=D.KeeperHost.sz) hi
  simp only[lt_i hi,cond_true,atq_nat hi,bd_s,gd_t (show l[i].sz≤34359738368 by omega),gd_ap1 hs]) (fun rec s=>by simp only[ge_i,cond_false])]
 rfl
theorem t_impl_copyHosts (l:List D.KeeperHost)(h:szL D.KeeperHost.sz l≤34359738368):m_impl_copyHosts l=some l:=by
 unfold m_impl_copyHosts
 unfold szL at h
 rw[copyR (l:=l) (by omega) (fun rec i s hi hs=>by
  have hz:=le_sumI (f:=D.KeeperHost.sz) hi
  simp only[lt_i hi,cond_true,atq_nat hi,bd_s,gd_t (show l[i].sz≤34359738368 by omega),gd_ap1 hs]) (fun rec s=>by simp only[ge_i,cond_false])]
 rfl
theorem t_spec_l31Copy (e:D.Mailbox)(h:e.sz≤34359738368):m_spec_l31Copy e=some e:=by
 unfold m_spec_l31Copy;rw[gd_ap0 h];rfl
theorem t_impl_copyMail (e:D.Mailbox)(h:e.sz≤34359738368):m_impl_copyMail e=some e:=by
 unfold m_impl_copyMail;rw[gd_ap0 h];rfl
theorem t_spec_l32Copy (w:D.World)(h:w.sz≤34359738368):m_spec_l32Copy w=some w:=by
 simp only[D.World.sz] at h
 unfold m_spec_l32Copy
 rw[copyL (l:=w.Devices) (by omega) (fun rec i q hi hs=>by
  have hz:=le_sumI (f:=D.Device.sz) hi
  simp only[lt_i hi,cond_true,atq_nat hi,bd_s,gd_t (show w.Devices[i].sz≤34359738368 by omega),gd_ap1 hs]) (fun rec q=>by simp only[ge_i,cond_false]),
  copyL (l:=w.Sites) (by omega) (fun rec i q hi hs=>by
  have hz:=le_sumI (f:=D.Site.sz) hi
  simp only[lt_i hi,cond_true,atq_nat hi,bd_s,gd_t (show w.Sites[i].sz≤34359738368 by omega),gd_ap1 hs]) (fun rec q=>by simp only[ge_i,cond_false])]
 simp only[bd_s,gd_ap0 (show w.Stolen.length≤34359738368 by omega),gd_t (show w.Cloud.sz≤34359738368 by simp only[D.Cloud.sz];omega),gd_t (show szL D.KeeperHost.sz w.Hosts≤34359738368 by unfold szL;omega),gd_t (show w.Mail.sz≤34359738368 by simp only[D.Mailbox.sz];omega),List.nil_append]
theorem t_impl_copyWorld (w:D.World)(h:w.sz≤34359738368):m_impl_copyWorld w=some w:=by
 simp only[D.World.sz] at h
 unfold m_impl_copyWorld
 rw[copyL (l:=w.Devices) (by omega) (fun rec i q hi hs=>by
  have hz:=le_sumI (f:=D.Device.sz) hi
  simp only[lt_i hi,cond_true,atq_nat hi,bd_s,gd_t (show w.Devices[i].sz≤34359738368 by omega),gd_ap1 hs]) (fun rec q=>by simp only[ge_i,cond_false]),
  copyL (l:=w.Sites) (by omega) (fun rec i q hi hs=>by
  have hz:=le_sumI (f:=D.Site.sz) hi
  simp only[lt_i hi,cond_true,atq_nat hi,bd_s,gd_t (show w.Sites[i].sz≤34359738368 by omega),gd_ap1 hs]) (fun rec q=>by simp only[ge_i,cond_false])]
 simp only[bd_s,gd_ap0 (show w.Stolen.length≤34359738368 by omega),gd_t (show w.Cloud.sz≤34359738368 by simp only[D.Cloud.sz];omega),gd_t (show szL D.KeeperHost.sz w.Hosts≤34359738368 by unfold szL;omega),gd_t (show w.Mail.sz≤34359738368 by simp only[D.Mailbox.sz];omega),List.nil_append]
end
end Go.VK
