import Derived.Test.YtffpnfmhcpcaaaaGreatDoorXgM
/-
  Printed by wip/tools (own work of this part): models of functions, walks over the value kit, and proofs.
-/
set_option linter.unusedVariables false
set_option linter.unusedSimpArgs false
set_option maxRecDepth 100000
set_option maxHeartbeats 4000000
namespace Go.VK
open Go.RowKit Go.Proofs
noncomputable section
open EV (itr)
theorem t_laws_szLogEntryS (a0:List D.LogEntry)(a1:Int)(h:SzP (okL (fun _:D.LogEntry=>True)) a0 a1):m_laws_szLogEntryS a0 a1=some (szI (a0.length) a1):=by
 obtain⟨h1,h3⟩:=h
 unfold m_laws_szLogEntryS
 exact szFlat h1.1 h3
theorem t_laws_szEntryS (a0:List D.Entry)(a1:Int)(h:SzP (okL (fun _:D.Entry=>True)) a0 a1):m_laws_szEntryS a0 a1=some (szI (a0.length) a1):=by
 obtain⟨h1,h3⟩:=h
 unfold m_laws_szEntryS
 exact szFlat h1.1 h3
theorem t_laws_szBundle (a0:D.Bundle)(a1:Int)(h:SzP D.Bundle.ok a0 a1):m_laws_szBundle a0 a1=some (szI (a0.sz) a1):=by
 obtain⟨h1,h3⟩:=h
 unfold m_laws_szBundle
 have e:a0.sz=(a0.Entries.length):=by simp only[D.Bundle.sz]<;>omega
 rw[e]
 rw[gd_t (show SzP (okL (fun _:D.Entry=>True)) (a0.Entries) _ from⟨h1,h3⟩),bd_s]
 exact szEnd h3
theorem t_laws_szDevice (a0:D.Device)(a1:Int)(h:SzP D.Device.ok a0 a1):m_laws_szDevice a0 a1=some (szI (a0.sz) a1):=by
 obtain⟨h1,h3⟩:=h
 unfold m_laws_szDevice
 have e:a0.sz=((a0.Log.length)+(a0.Bundle.sz)):=by simp only[D.Bundle.sz,D.Device.sz,D.KeyStore.sz]<;>omega
 rw[e]
 rw[gd_t (show SzP (okL (fun _:D.LogEntry=>True)) (a0.Log) _ from⟨h1.1,h3⟩),bd_s]
 refine szGo h3 (fun p1=> ?_)
 revert p1
 generalize szI (a0.Log.length) a1=l1
 intro p1
 rw[gd_t (show SzP D.Bundle.ok (a0.Bundle) _ from⟨h1.2,p1⟩),bd_s]
 exact szEnd p1
theorem t_laws_szDeviceS (a0:List D.Device)(a1:Int)(h:SzP (okL D.Device.ok) a0 a1):m_laws_szDeviceS a0 a1=some (szI (a0.length+(a0.map D.Device.sz).sum) a1):=by
 unfold m_laws_szDeviceS
 exact szList h (fun rec i left hi hp=>by simp only[lt_i hi,cond_true,atq_nat hi,bd_s,gd_t hp]) (fun rec left=>by simp only[ge_i,cond_false])
theorem t_laws_szBoolS (a0:List Bool)(a1:Int)(h:SzP (okL (fun _:Bool=>True)) a0 a1):m_laws_szBoolS a0 a1=some (szI (a0.length) a1):=by
 obtain⟨h1,h3⟩:=h
 unfold m_laws_szBoolS
 exact szFlat h1.1 h3
theorem t_laws_szByteS (a0:List Int)(a1:Int)(h:SzP (okL (fun _:Int=>True)) a0 a1):m_laws_szByteS a0 a1=some (szI (a0.length) a1):=by
 obtain⟨h1,h3⟩:=h
 unfold m_laws_szByteS
 exact szFlat h1.1 h3
theorem t_laws_szBox (a0:D.Box)(a1:Int)(h:SzP D.Box.ok a0 a1):m_laws_szBox a0 a1=some (szI (a0.sz) a1):=by
 obtain⟨h1,h3⟩:=h
 unfold m_laws_szBox
 have e:a0.sz=(a0.Data.length):=by simp only[D.Box.sz]<;>omega
 rw[e]
 rw[gd_t (show SzP (okL (fun _:Int=>True)) (a0.Data) _ from⟨h1,h3⟩),bd_s]
 exact szEnd h3
theorem t_laws_szBoxS (a0:List D.Box)(a1:Int)(h:SzP (okL D.Box.ok) a0 a1):m_laws_szBoxS a0 a1=some (szI (a0.length+(a0.map D.Box.sz).sum) a1):=by
 unfold m_laws_szBoxS
 exact szList h (fun rec i left hi hp=>by simp only[lt_i hi,cond_true,atq_nat hi,bd_s,gd_t hp]) (fun rec left=>by simp only[ge_i,cond_false])
theorem t_laws_szEpochBoxes (a0:D.EpochBoxes)(a1:Int)(h:SzP D.EpochBoxes.ok a0 a1):m_laws_szEpochBoxes a0 a1=some (szI (a0.sz) a1):=by
 obtain⟨h1,h3⟩:=h
 unfold m_laws_szEpochBoxes
 have e:a0.sz=(a0.Boxes.length+(a0.Boxes.map D.Box.sz).sum):=by simp only[D.EpochBoxes.sz]<;>omega
 rw[e]
 rw[gd_t (show SzP (okL D.Box.ok) (a0.Boxes) _ from⟨h1,h3⟩),bd_s]
 exact szEnd h3
theorem t_laws_szSealedBundle (a0:D.SealedBundle)(a1:Int)(h:SzP D.SealedBundle.ok a0 a1):m_laws_szSealedBundle a0 a1=some (szI (a0.sz) a1):=by
 obtain⟨h1,h3⟩:=h
 unfold m_laws_szSealedBundle
 have e:a0.sz=(a0.Data.length):=by simp only[D.SealedBundle.sz]<;>omega
 rw[e]
 rw[gd_t (show SzP (okL (fun _:Int=>True)) (a0.Data) _ from⟨h1,h3⟩),bd_s]
 exact szEnd h3
theorem t_laws_szSealedBundleS (a0:List D.SealedBundle)(a1:Int)(h:SzP (okL D.SealedBundle.ok) a0 a1):m_laws_szSealedBundleS a0 a1=some (szI (a0.length+(a0.map D.SealedBundle.sz).sum) a1):=by
 unfold m_laws_szSealedBundleS
 exact szList h (fun rec i left hi hp=>by simp only[lt_i hi,cond_true,atq_nat hi,bd_s,gd_t hp]) (fun rec left=>by simp only[ge_i,cond_false])
theorem t_laws_szCloud (a0:D.Cloud)(a1:Int)(h:SzP D.Cloud.ok a0 a1):m_laws_szCloud a0 a1=some (szI (a0.sz) a1):=by
 obtain⟨h1,h3⟩:=h
 unfold m_laws_szCloud
 have e:a0.sz=((a0.Log.length)+((a0.Boxes.sz)+(a0.History.length+(a0.History.map D.SealedBundle.sz).sum))):=by simp only[D.Cloud.sz,D.EpochBoxes.sz]<;>omega
 rw[e]
 rw[gd_t (show SzP (okL (fun _:D.LogEntry=>True)) (a0.Log) _ from⟨h1.1,h3⟩),bd_s]
 refine szGo h3 (fun p1=> ?_)
 revert p1
 generalize szI (a0.Log.length) a1=l1
 intro p1
 rw[gd_t (show SzP D.EpochBoxes.ok (a0.Boxes) _ from⟨h1.2.1,p1⟩),bd_s]
 refine szGo p1 (fun p2=> ?_)
 revert p2
 generalize szI (a0.Boxes.sz) l1=l2
 intro p2
 rw[gd_t (show SzP (okL D.SealedBundle.ok) (a0.History) _ from⟨h1.2.2,p2⟩),bd_s]
 exact szEnd p2
theorem t_laws_szCredentialS (a0:List D.Credential)(a1:Int)(h:SzP (okL (fun _:D.Credential=>True)) a0 a1):m_laws_szCredentialS a0 a1=some (szI (a0.length) a1):=by
 obtain⟨h1,h3⟩:=h
 unfold m_laws_szCredentialS
 exact szFlat h1.1 h3
theorem t_laws_szAccount (a0:D.Account)(a1:Int)(h:SzP D.Account.ok a0 a1):m_laws_szAccount a0 a1=some (szI (a0.sz) a1):=by
 obtain⟨h1,h3⟩:=h
 unfold m_laws_szAccount
 have e:a0.sz=(a0.Credentials.length):=by simp only[D.Account.sz]<;>omega
 rw[e]
 rw[gd_t (show SzP (okL (fun _:D.Credential=>True)) (a0.Credentials) _ from⟨h1,h3⟩),bd_s]
 exact szEnd h3
theorem t_laws_szAccountS (a0:List D.Account)(a1:Int)(h:SzP (okL D.Account.ok) a0 a1):m_laws_szAccountS a0 a1=some (szI (a0.length+(a0.map D.Account.sz).sum) a1):=by
 unfold m_laws_szAccountS
 exact szList h (fun rec i left hi hp=>by simp only[lt_i hi,cond_true,atq_nat hi,bd_s,gd_t hp]) (fun rec left=>by simp only[ge_i,cond_false])
theorem t_laws_szChallengeS (a0:List D.Challenge)(a1:Int)(h:SzP (okL (fun _:D.Challenge=>True)) a0 a1):m_laws_szChallengeS a0 a1=some (szI (a0.length) a1):=by
 obtain⟨h1,h3⟩:=h
 unfold m_laws_szChallengeS
 exact szFlat h1.1 h3
theorem t_laws_szChallengeBook (a0:D.ChallengeBook)(a1:Int)(h:SzP D.ChallengeBook.ok a0 a1):m_laws_szChallengeBook a0 a1=some (szI (a0.sz) a1):=by
 obtain⟨h1,h3⟩:=h
 unfold m_laws_szChallengeBook
 have e:a0.sz=(a0.Open.length):=by simp only[D.ChallengeBook.sz]<;>omega
 rw[e]
 rw[gd_t (show SzP (okL (fun _:D.Challenge=>True)) (a0.Open) _ from⟨h1,h3⟩),bd_s]
 exact szEnd h3
theorem t_laws_szIntS (a0:List Int)(a1:Int)(h:SzP (okL (fun _:Int=>True)) a0 a1):m_laws_szIntS a0 a1=some (szI (a0.length) a1):=by
 obtain⟨h1,h3⟩:=h
 unfold m_laws_szIntS
 exact szFlat h1.1 h3
theorem t_laws_szSite (a0:D.Site)(a1:Int)(h:SzP D.Site.ok a0 a1):m_laws_szSite a0 a1=some (szI (a0.sz) a1):=by
 obtain⟨h1,h3⟩:=h
 unfold m_laws_szSite
 have e:a0.sz=((a0.Name.size)+((a0.Accounts.length+(a0.Accounts.map D.Account.sz).sum)+((a0.Book.sz)+(a0.Logins.length)))):=by simp only[D.ChallengeBook.sz,D.Site.sz]<;>omega
 rw[e]
 have w0:IntKind.i64.wrap (a1-((a0.Name).size:Int))=a1-((a0.Name).size:Int):=by have:=h3.1;have:=h3.2;have:(a0.Name).size≤9223372036854775807:=h1.1;exact wrap64_id (by omega) (by omega)
 rw[w0]
 refine szStr h3 (fun p1=> ?_)
 revert p1
 generalize a1-((a0.Name).size:Int)=l1
 intro p1
 rw[gd_t (show SzP (okL D.Account.ok) (a0.Accounts) _ from⟨h1.2.1,p1⟩),bd_s]
 refine szGo p1 (fun p2=> ?_)
 revert p2
 generalize szI (a0.Accounts.length+(a0.Accounts.map D.Account.sz).sum) l1=l2
 intro p2
 rw[gd_t (show SzP D.ChallengeBook.ok (a0.Book) _ from⟨h1.2.2.1,p2⟩),bd_s]
 refine szGo p2 (fun p3=> ?_)
 revert p3
 generalize szI (a0.Book.sz) l2=l3
 intro p3
 rw[gd_t (show SzP (okL (fun _:Int=>True)) (a0.Logins) _ from⟨h1.2.2.2,p3⟩),bd_s]
 exact szEnd p3
theorem t_laws_szSiteS (a0:List D.Site)(a1:Int)(h:SzP (okL D.Site.ok) a0 a1):m_laws_szSiteS a0 a1=some (szI (a0.length+(a0.map D.Site.sz).sum) a1):=by
 unfold m_laws_szSiteS
 exact szList h (fun rec i left hi hp=>by simp only[lt_i hi,cond_true,atq_nat hi,bd_s,gd_t hp]) (fun rec left=>by simp only[ge_i,cond_false])
theorem t_laws_szKeeperS (a0:List D.Keeper)(a1:Int)(h:SzP (okL (fun _:D.Keeper=>True)) a0 a1):m_laws_szKeeperS a0 a1=some (szI (a0.length) a1):=by
 obtain⟨h1,h3⟩:=h
 unfold m_laws_szKeeperS
 exact szFlat h1.1 h3
theorem t_laws_szKeeperHost (a0:D.KeeperHost)(a1:Int)(h:SzP D.KeeperHost.ok a0 a1):m_laws_szKeeperHost a0 a1=some (szI (a0.sz) a1):=by
 obtain⟨h1,h3⟩:=h
 unfold m_laws_szKeeperHost
 have e:a0.sz=(a0.Saved.length):=by simp only[D.Keeper.sz,D.KeeperHost.sz,D.Share.sz]<;>omega
 rw[e]
 rw[gd_t (show SzP (okL (fun _:D.Keeper=>True)) (a0.Saved) _ from⟨h1,h3⟩),bd_s]
 exact szEnd h3
theorem t_laws_szKeeperHostS (a0:List D.KeeperHost)(a1:Int)(h:SzP (okL D.KeeperHost.ok) a0 a1):m_laws_szKeeperHostS a0 a1=some (szI (a0.length+(a0.map D.KeeperHost.sz).sum) a1):=by
 unfold m_laws_szKeeperHostS
 exact szList h (fun rec i left hi hp=>by simp only[lt_i hi,cond_true,atq_nat hi,bd_s,gd_t hp]) (fun rec left=>by simp only[ge_i,cond_false])
theorem t_laws_szNoticeS (a0:List D.Notice)(a1:Int)(h:SzP (okL (fun _:D.Notice=>True)) a0 a1):m_laws_szNoticeS a0 a1=some (szI (a0.length) a1):=by
 obtain⟨h1,h3⟩:=h
 unfold m_laws_szNoticeS
 exact szFlat h1.1 h3
theorem t_laws_szMailbox (a0:D.Mailbox)(a1:Int)(h:SzP D.Mailbox.ok a0 a1):m_laws_szMailbox a0 a1=some (szI (a0.sz) a1):=by
 obtain⟨h1,h3⟩:=h
 unfold m_laws_szMailbox
 have e:a0.sz=(a0.Notices.length):=by simp only[D.Mailbox.sz]<;>omega
 rw[e]
 rw[gd_t (show SzP (okL (fun _:D.Notice=>True)) (a0.Notices) _ from⟨h1,h3⟩),bd_s]
 exact szEnd h3
theorem t_laws_szWorld (a0:D.World)(a1:Int)(h:SzP D.World.ok a0 a1):m_laws_szWorld a0 a1=some (szI (a0.sz) a1):=by
 obtain⟨h1,h3⟩:=h
 unfold m_laws_szWorld
 have e:a0.sz=((a0.Devices.length+(a0.Devices.map D.Device.sz).sum)+((a0.Stolen.length)+((a0.Cloud.sz)+((a0.Sites.length+(a0.Sites.map D.Site.sz).sum)+((a0.Hosts.length+(a0.Hosts.map D.KeeperHost.sz).sum)+(a0.Mail.sz)))))):=by simp only[D.Cloud.sz,D.EpochBoxes.sz,D.Mailbox.sz,D.Vault.sz,D.World.sz]<;>omega
 rw[e]
 rw[gd_t (show SzP (okL D.Device.ok) (a0.Devices) _ from⟨h1.1,h3⟩),bd_s]
 refine szGo h3 (fun p1=> ?_)
 revert p1
 generalize szI (a0.Devices.length+(a0.Devices.map D.Device.sz).sum) a1=l1
 intro p1
 rw[gd_t (show SzP (okL (fun _:Bool=>True)) (a0.Stolen) _ from⟨h1.2.1,p1⟩),bd_s]
 refine szGo p1 (fun p2=> ?_)
 revert p2
 generalize szI (a0.Stolen.length) l1=l2
 intro p2
 rw[gd_t (show SzP D.Cloud.ok (a0.Cloud) _ from⟨h1.2.2.1,p2⟩),bd_s]
 refine szGo p2 (fun p3=> ?_)
 revert p3
 generalize szI (a0.Cloud.sz) l2=l3
 intro p3
 rw[gd_t (show SzP (okL D.Site.ok) (a0.Sites) _ from⟨h1.2.2.2.1,p3⟩),bd_s]
 refine szGo p3 (fun p4=> ?_)
 revert p4
 generalize szI (a0.Sites.length+(a0.Sites.map D.Site.sz).sum) l3=l4
 intro p4
 rw[gd_t (show SzP (okL D.KeeperHost.ok) (a0.Hosts) _ from⟨h1.2.2.2.2.1,p4⟩),bd_s]
 refine szGo p4 (fun p5=> ?_)
 revert p5
 generalize szI (a0.Hosts.length+(a0.Hosts.map D.KeeperHost.sz).sum) l4=l5
 intro p5
 rw[gd_t (show SzP D.Mailbox.ok (a0.Mail) _ from⟨h1.2.2.2.2.2,p5⟩),bd_s]
 exact szEnd p5
theorem t_laws_toKeyStore (a0:D.KeyStore):m_laws_toKeyStore a0=some (a0):=by
 unfold m_laws_toKeyStore
 rfl
theorem t_laws_toLogEntry (a0:D.LogEntry):m_laws_toLogEntry a0=some (a0):=by
 unfold m_laws_toLogEntry
 rfl
theorem t_laws_toLogEntryS (a0:List D.LogEntry)(h:a0.length≤1048576):m_laws_toLogEntryS a0=some (a0):=by
 unfold m_laws_toLogEntryS
 rw[gd_t (mkOk_n (by omega)),toLoopId toNat_i (by omega) (fun rec i out ho hi=>by
  simp only[lt_i hi,cond_true,atq_nat hi,atq_nat (show i<out.length by omega),bd_s,toNat_i]) (fun rec out=>by simp only[ge_i,cond_false])]
 rfl
theorem t_laws_toEntry (a0:D.Entry):m_laws_toEntry a0=some (a0):=by
 unfold m_laws_toEntry
 rfl
theorem t_laws_toEntryS (a0:List D.Entry)(h:a0.length≤1048576):m_laws_toEntryS a0=some (a0):=by
 unfold m_laws_toEntryS
 rw[gd_t (mkOk_n (by omega)),toLoopId toNat_i (by omega) (fun rec i out ho hi=>by
  simp only[lt_i hi,cond_true,atq_nat hi,atq_nat (show i<out.length by omega),bd_s,toNat_i]) (fun rec out=>by simp only[ge_i,cond_false])]
 rfl
theorem t_laws_toBundle (a0:D.Bundle)(h:a0.sz≤1048576):m_laws_toBundle a0=some (a0):=by
 unfold m_laws_toBundle
 simp only[D.Bundle.sz] at h
 try simp only[bd_s]
 rw[gd_t (by first|omega|(simp only[D.Bundle.sz];omega))]
 rfl
theorem t_laws_toDevice (a0:D.Device)(h:a0.sz≤1048576):m_laws_toDevice a0=some (a0):=by
 unfold m_laws_toDevice
 simp only[D.Bundle.sz,D.Device.sz,D.KeyStore.sz] at h
 try simp only[bd_s]
 rw[gd_t (by first|omega|(simp only[D.Bundle.sz,D.Device.sz,D.KeyStore.sz];omega))]
 try simp only[bd_s]
 rw[gd_t (by first|omega|(simp only[D.Bundle.sz,D.Device.sz,D.KeyStore.sz];omega))]
 rfl
theorem t_laws_toDeviceS (a0:List D.Device)(h:a0.length+(a0.map D.Device.sz).sum≤1048576):m_laws_toDeviceS a0=some (a0):=by
 unfold m_laws_toDeviceS
 rw[gd_t (mkOk_n (by omega)),toLoopId toNat_i (by omega) (fun rec i out ho hi=>by
  have hz:=le_sumI (f:=D.Device.sz) hi
  simp only[lt_i hi,cond_true,atq_nat hi,atq_nat (show i<out.length by omega),bd_s,toNat_i,gd_t (show a0[i].sz≤1048576 by omega)]) (fun rec out=>by simp only[ge_i,cond_false])]
 rfl
theorem t_laws_toBoolS (a0:List Bool)(h:a0.length≤1048576):m_laws_toBoolS a0=some (a0):=by
 unfold m_laws_toBoolS
 rw[gd_t (mkOk_n (by omega)),toLoopId toNat_i (by omega) (fun rec i out ho hi=>by
  simp only[lt_i hi,cond_true,atq_nat hi,atq_nat (show i<out.length by omega),bd_s,toNat_i]) (fun rec out=>by simp only[ge_i,cond_false])]
 rfl
theorem t_laws_toByteS (a0:List Int)(h:a0.length≤1048576):m_laws_toByteS a0=some (a0):=by
 unfold m_laws_toByteS
 rw[gd_t (mkOk_n (by omega)),toLoopId toNat_i (by omega) (fun rec i out ho hi=>by
  simp only[lt_i hi,cond_true,atq_nat hi,atq_nat (show i<out.length by omega),bd_s,toNat_i]) (fun rec out=>by simp only[ge_i,cond_false])]
 rfl
theorem t_laws_toBox (a0:D.Box)(h:a0.sz≤1048576):m_laws_toBox a0=some (a0):=by
 unfold m_laws_toBox
 simp only[D.Box.sz] at h
 try simp only[bd_s]
 rw[gd_t (by first|omega|(simp only[D.Box.sz];omega))]
 rfl
theorem t_laws_toBoxS (a0:List D.Box)(h:a0.length+(a0.map D.Box.sz).sum≤1048576):m_laws_toBoxS a0=some (a0):=by
 unfold m_laws_toBoxS
 rw[gd_t (mkOk_n (by omega)),toLoopId toNat_i (by omega) (fun rec i out ho hi=>by
  have hz:=le_sumI (f:=D.Box.sz) hi
  simp only[lt_i hi,cond_true,atq_nat hi,atq_nat (show i<out.length by omega),bd_s,toNat_i,gd_t (show a0[i].sz≤1048576 by omega)]) (fun rec out=>by simp only[ge_i,cond_false])]
 rfl
theorem t_laws_toEpochBoxes (a0:D.EpochBoxes)(h:a0.sz≤1048576):m_laws_toEpochBoxes a0=some (a0):=by
 unfold m_laws_toEpochBoxes
 simp only[D.EpochBoxes.sz] at h
 try simp only[bd_s]
 rw[gd_t (by first|omega|(simp only[D.EpochBoxes.sz];omega))]
 rfl
theorem t_laws_toSealedBundle (a0:D.SealedBundle)(h:a0.sz≤1048576):m_laws_toSealedBundle a0=some (a0):=by
 unfold m_laws_toSealedBundle
 simp only[D.SealedBundle.sz] at h
 try simp only[bd_s]
 rw[gd_t (by first|omega|(simp only[D.SealedBundle.sz];omega))]
 rfl
theorem t_laws_toSealedBundleS (a0:List D.SealedBundle)(h:a0.length+(a0.map D.SealedBundle.sz).sum≤1048576):m_laws_toSealedBundleS a0=some (a0):=by
 unfold m_laws_toSealedBundleS
 rw[gd_t (mkOk_n (by omega)),toLoopId toNat_i (by omega) (fun rec i out ho hi=>by
  have hz:=le_sumI (f:=D.SealedBundle.sz) hi
  simp only[lt_i hi,cond_true,atq_nat hi,atq_nat (show i<out.length by omega),bd_s,toNat_i,gd_t (show a0[i].sz≤1048576 by omega)]) (fun rec out=>by simp only[ge_i,cond_false])]
 rfl
theorem t_laws_toCloud (a0:D.Cloud)(h:a0.sz≤1048576):m_laws_toCloud a0=some (a0):=by
 unfold m_laws_toCloud
 simp only[D.Cloud.sz,D.EpochBoxes.sz] at h
 try simp only[bd_s]
 rw[gd_t (by first|omega|(simp only[D.Cloud.sz,D.EpochBoxes.sz];omega))]
 try simp only[bd_s]
 rw[gd_t (by first|omega|(simp only[D.Cloud.sz,D.EpochBoxes.sz];omega))]
 try simp only[bd_s]
 rw[gd_t (by first|omega|(simp only[D.Cloud.sz,D.EpochBoxes.sz];omega))]
 rfl
theorem t_laws_toCredential (a0:D.Credential):m_laws_toCredential a0=some (a0):=by
 unfold m_laws_toCredential
 rfl
theorem t_laws_toCredentialS (a0:List D.Credential)(h:a0.length≤1048576):m_laws_toCredentialS a0=some (a0):=by
 unfold m_laws_toCredentialS
 rw[gd_t (mkOk_n (by omega)),toLoopId toNat_i (by omega) (fun rec i out ho hi=>by
  simp only[lt_i hi,cond_true,atq_nat hi,atq_nat (show i<out.length by omega),bd_s,toNat_i]) (fun rec out=>by simp only[ge_i,cond_false])]
 rfl
theorem t_laws_toAccount (a0:D.Account)(h:a0.sz≤1048576):m_laws_toAccount a0=some (a0):=by
 unfold m_laws_toAccount
 simp only[D.Account.sz] at h
 try simp only[bd_s]
 rw[gd_t (by first|omega|(simp only[D.Account.sz];omega))]
 rfl
theorem t_laws_toAccountS (a0:List D.Account)(h:a0.length+(a0.map D.Account.sz).sum≤1048576):m_laws_toAccountS a0=some (a0):=by
 unfold m_laws_toAccountS
 rw[gd_t (mkOk_n (by omega)),toLoopId toNat_i (by omega) (fun rec i out ho hi=>by
  have hz:=le_sumI (f:=D.Account.sz) hi
  simp only[lt_i hi,cond_true,atq_nat hi,atq_nat (show i<out.length by omega),bd_s,toNat_i,gd_t (show a0[i].sz≤1048576 by omega)]) (fun rec out=>by simp only[ge_i,cond_false])]
 rfl
theorem t_laws_toChallenge (a0:D.Challenge):m_laws_toChallenge a0=some (a0):=by
 unfold m_laws_toChallenge
 rfl
theorem t_laws_toChallengeS (a0:List D.Challenge)(h:a0.length≤1048576):m_laws_toChallengeS a0=some (a0):=by
 unfold m_laws_toChallengeS
 rw[gd_t (mkOk_n (by omega)),toLoopId toNat_i (by omega) (fun rec i out ho hi=>by
  simp only[lt_i hi,cond_true,atq_nat hi,atq_nat (show i<out.length by omega),bd_s,toNat_i]) (fun rec out=>by simp only[ge_i,cond_false])]
 rfl
theorem t_laws_toChallengeBook (a0:D.ChallengeBook)(h:a0.sz≤1048576):m_laws_toChallengeBook a0=some (a0):=by
 unfold m_laws_toChallengeBook
 simp only[D.ChallengeBook.sz] at h
 try simp only[bd_s]
 rw[gd_t (by first|omega|(simp only[D.ChallengeBook.sz];omega))]
 rfl
theorem t_laws_toIntS (a0:List Int)(h:a0.length≤1048576):m_laws_toIntS a0=some (a0):=by
 unfold m_laws_toIntS
 rw[gd_t (mkOk_n (by omega)),toLoopId toNat_i (by omega) (fun rec i out ho hi=>by
  simp only[lt_i hi,cond_true,atq_nat hi,atq_nat (show i<out.length by omega),bd_s,toNat_i]) (fun rec out=>by simp only[ge_i,cond_false])]
 rfl
theorem t_laws_toSite (a0:D.Site)(h:a0.sz≤1048576):m_laws_toSite a0=some (a0):=by
 unfold m_laws_toSite
 simp only[D.ChallengeBook.sz,D.Site.sz] at h
 try simp only[bd_s]
 rw[gd_t (by first|omega|(simp only[D.ChallengeBook.sz,D.Site.sz];omega))]
 try simp only[bd_s]
 rw[gd_t (by first|omega|(simp only[D.ChallengeBook.sz,D.Site.sz];omega))]
 try simp only[bd_s]
 rw[gd_t (by first|omega|(simp only[D.ChallengeBook.sz,D.Site.sz];omega))]
 rfl
theorem t_laws_toSiteS (a0:List D.Site)(h:a0.length+(a0.map D.Site.sz).sum≤1048576):m_laws_toSiteS a0=some (a0):=by
 unfold m_laws_toSiteS
 rw[gd_t (mkOk_n (by omega)),toLoopId toNat_i (by omega) (fun rec i out ho hi=>by
  have hz:=le_sumI (f:=D.Site.sz) hi
  simp only[lt_i hi,cond_true,atq_nat hi,atq_nat (show i<out.length by omega),bd_s,toNat_i,gd_t (show a0[i].sz≤1048576 by omega)]) (fun rec out=>by simp only[ge_i,cond_false])]
 rfl
theorem t_laws_toVault (a0:D.Vault):m_laws_toVault a0=some (a0):=by
 unfold m_laws_toVault
 rfl
theorem t_laws_toShare (a0:D.Share):m_laws_toShare a0=some (a0):=by
 unfold m_laws_toShare
 rfl
theorem t_laws_toKeeper (a0:D.Keeper):m_laws_toKeeper a0=some (a0):=by
 unfold m_laws_toKeeper
 rfl
theorem t_laws_toKeeperS (a0:List D.Keeper)(h:a0.length≤1048576):m_laws_toKeeperS a0=some (a0):=by
 unfold m_laws_toKeeperS
 rw[gd_t (mkOk_n (by omega)),toLoopId toNat_i (by omega) (fun rec i out ho hi=>by
  simp only[lt_i hi,cond_true,atq_nat hi,atq_nat (show i<out.length by omega),bd_s,toNat_i]) (fun rec out=>by simp only[ge_i,cond_false])]
 rfl
theorem t_laws_toKeeperHost (a0:D.KeeperHost)(h:a0.sz≤1048576):m_laws_toKeeperHost a0=some (a0):=by
 unfold m_laws_toKeeperHost
 simp only[D.Keeper.sz,D.KeeperHost.sz,D.Share.sz] at h
 try simp only[bd_s]
 rw[gd_t (by first|omega|(simp only[D.Keeper.sz,D.KeeperHost.sz,D.Share.sz];omega))]
 rfl
theorem t_laws_toKeeperHostS (a0:List D.KeeperHost)(h:a0.length+(a0.map D.KeeperHost.sz).sum≤1048576):m_laws_toKeeperHostS a0=some (a0):=by
 unfold m_laws_toKeeperHostS
 rw[gd_t (mkOk_n (by omega)),toLoopId toNat_i (by omega) (fun rec i out ho hi=>by
  have hz:=le_sumI (f:=D.KeeperHost.sz) hi
  simp only[lt_i hi,cond_true,atq_nat hi,atq_nat (show i<out.length by omega),bd_s,toNat_i,gd_t (show a0[i].sz≤1048576 by omega)]) (fun rec out=>by simp only[ge_i,cond_false])]
 rfl
theorem t_laws_toNotice (a0:D.Notice):m_laws_toNotice a0=some (a0):=by
 unfold m_laws_toNotice
 rfl
theorem t_laws_toNoticeS (a0:List D.Notice)(h:a0.length≤1048576):m_laws_toNoticeS a0=some (a0):=by
 unfold m_laws_toNoticeS
 rw[gd_t (mkOk_n (by omega)),toLoopId toNat_i (by omega) (fun rec i out ho hi=>by
  simp only[lt_i hi,cond_true,atq_nat hi,atq_nat (show i<out.length by omega),bd_s,toNat_i]) (fun rec out=>by simp only[ge_i,cond_false])]
 rfl
theorem t_laws_toMailbox (a0:D.Mailbox)(h:a0.sz≤1048576):m_laws_toMailbox a0=some (a0):=by
 unfold m_laws_toMailbox
 simp only[D.Mailbox.sz] at h
 try simp only[bd_s]
 rw[gd_t (by first|omega|(simp only[D.Mailbox.sz];omega))]
 rfl
theorem t_laws_toWorld (a0:D.World)(h:a0.sz≤1048576):m_laws_toWorld a0=some (a0):=by
 unfold m_laws_toWorld
 simp only[D.Cloud.sz,D.EpochBoxes.sz,D.Mailbox.sz,D.Vault.sz,D.World.sz] at h
 try simp only[bd_s]
 rw[gd_t (by first|omega|(simp only[D.Cloud.sz,D.EpochBoxes.sz,D.Mailbox.sz,D.Vault.sz,D.World.sz];omega))]
 try simp only[bd_s]
 rw[gd_t (by first|omega|(simp only[D.Cloud.sz,D.EpochBoxes.sz,D.Mailbox.sz,D.Vault.sz,D.World.sz];omega))]
 try simp only[bd_s]
 rw[gd_t (by first|omega|(simp only[D.Cloud.sz,D.EpochBoxes.sz,D.Mailbox.sz,D.Vault.sz,D.World.sz];omega))]
 try simp only[bd_s]
 rw[gd_t (by first|omega|(simp only[D.Cloud.sz,D.EpochBoxes.sz,D.Mailbox.sz,D.Vault.sz,D.World.sz];omega))]
 try simp only[bd_s]
 rw[gd_t (by first|omega|(simp only[D.Cloud.sz,D.EpochBoxes.sz,D.Mailbox.sz,D.Vault.sz,D.World.sz];omega))]
 try simp only[bd_s]
 rw[gd_t (by first|omega|(simp only[D.Cloud.sz,D.EpochBoxes.sz,D.Mailbox.sz,D.Vault.sz,D.World.sz];omega))]
 rfl
theorem t_laws_eqKeyStore (a0:D.KeyStore)(a1:D.KeyStore)(h:EqZ (0) a0 a1):m_laws_eqKeyStore a0 a1=some (true):=by
 obtain⟨rfl,hz⟩:=h
 unfold m_laws_eqKeyStore
 simp only[beq_self_eq_true,bne_self_eq_false,Bool.not_true,Bool.not_false,cond_true,cond_false,bd_s,nx_r]
theorem t_laws_eqLogEntry (a0:D.LogEntry)(a1:D.LogEntry)(h:EqZ (0) a0 a1):m_laws_eqLogEntry a0 a1=some (true):=by
 obtain⟨rfl,hz⟩:=h
 unfold m_laws_eqLogEntry
 simp only[beq_self_eq_true,bne_self_eq_false,Bool.not_true,Bool.not_false,cond_true,cond_false,bd_s,nx_r]
theorem t_laws_eqLogEntryS (a0:List D.LogEntry)(a1:List D.LogEntry)(h:EqZ (a0.length) a0 a1):m_laws_eqLogEntryS a0 a1=some (true):=by
 obtain⟨rfl,hz⟩:=h
 unfold m_laws_eqLogEntryS
 rw[eqLoop (a:=a0) (by omega) (fun rec i hi=>by
  simp only[lt_i hi,atq_nat hi,gd_t (show EqZ (0) a0[i] a0[i] from⟨rfl,by omega⟩),beq_self_eq_true,bne_self_eq_false,Bool.not_true,Bool.not_false,cond_true,cond_false,bd_s,nx_r]) (fun rec=>by simp only[ge_i,cond_false])]
 simp only[beq_self_eq_true,bne_self_eq_false,Bool.not_true,Bool.not_false,cond_true,cond_false,bd_s,nx_r]
theorem t_laws_eqEntry (a0:D.Entry)(a1:D.Entry)(h:EqZ (0) a0 a1):m_laws_eqEntry a0 a1=some (true):=by
 obtain⟨rfl,hz⟩:=h
 unfold m_laws_eqEntry
 simp only[beq_self_eq_true,bne_self_eq_false,Bool.not_true,Bool.not_false,cond_true,cond_false,bd_s,nx_r]
theorem t_laws_eqEntryS (a0:List D.Entry)(a1:List D.Entry)(h:EqZ (a0.length) a0 a1):m_laws_eqEntryS a0 a1=some (true):=by
 obtain⟨rfl,hz⟩:=h
 unfold m_laws_eqEntryS
 rw[eqLoop (a:=a0) (by omega) (fun rec i hi=>by
  simp only[lt_i hi,atq_nat hi,gd_t (show EqZ (0) a0[i] a0[i] from⟨rfl,by omega⟩),beq_self_eq_true,bne_self_eq_false,Bool.not_true,Bool.not_false,cond_true,cond_false,bd_s,nx_r]) (fun rec=>by simp only[ge_i,cond_false])]
 simp only[beq_self_eq_true,bne_self_eq_false,Bool.not_true,Bool.not_false,cond_true,cond_false,bd_s,nx_r]
theorem t_laws_eqBundle (a0:D.Bundle)(a1:D.Bundle)(h:EqZ (a0.sz) a0 a1):m_laws_eqBundle a0 a1=some (true):=by
 obtain⟨rfl,hz⟩:=h
 unfold m_laws_eqBundle
 simp only[D.Bundle.sz] at hz
 simp only[beq_self_eq_true,bne_self_eq_false,Bool.not_true,Bool.not_false,cond_true,cond_false,bd_s,nx_r,gd_t (show EqZ (a0.Entries.length) a0.Entries a0.Entries from⟨rfl,by omega⟩)]
theorem t_laws_eqDevice (a0:D.Device)(a1:D.Device)(h:EqZ (a0.sz) a0 a1):m_laws_eqDevice a0 a1=some (true):=by
 obtain⟨rfl,hz⟩:=h
 unfold m_laws_eqDevice
 simp only[D.Bundle.sz,D.Device.sz,D.KeyStore.sz] at hz
 simp only[beq_self_eq_true,bne_self_eq_false,Bool.not_true,Bool.not_false,cond_true,cond_false,bd_s,nx_r,gd_t (show EqZ (0) a0.Store a0.Store from⟨rfl,by omega⟩),gd_t (show EqZ (a0.Log.length) a0.Log a0.Log from⟨rfl,by omega⟩),gd_t (show EqZ (a0.Bundle.sz) a0.Bundle a0.Bundle from⟨rfl,by simp only[D.Bundle.sz];omega⟩)]
theorem t_laws_eqDeviceS (a0:List D.Device)(a1:List D.Device)(h:EqZ (a0.length+(a0.map D.Device.sz).sum) a0 a1):m_laws_eqDeviceS a0 a1=some (true):=by
 obtain⟨rfl,hz⟩:=h
 unfold m_laws_eqDeviceS
 rw[eqLoop (a:=a0) (by omega) (fun rec i hi=>by
  have hs:=le_sumI (f:=D.Device.sz) hi
  simp only[lt_i hi,atq_nat hi,gd_t (show EqZ (a0[i].sz) a0[i] a0[i] from⟨rfl,by omega⟩),beq_self_eq_true,bne_self_eq_false,Bool.not_true,Bool.not_false,cond_true,cond_false,bd_s,nx_r]) (fun rec=>by simp only[ge_i,cond_false])]
 simp only[beq_self_eq_true,bne_self_eq_false,Bool.not_true,Bool.not_false,cond_true,cond_false,bd_s,nx_r]
theorem t_laws_eqBoolS (a0:List Bool)(a1:List Bool)(h:EqZ (a0.length) a0 a1):m_laws_eqBoolS a0 a1=some (true):=by
 obtain⟨rfl,hz⟩:=h
 unfold m_laws_eqBoolS
 rw[eqLoop (a:=a0) (by omega) (fun rec i hi=>by
  simp only[lt_i hi,atq_nat hi,beq_self_eq_true,bne_self_eq_false,Bool.not_true,Bool.not_false,cond_true,cond_false,bd_s,nx_r]) (fun rec=>by simp only[ge_i,cond_false])]
 simp only[beq_self_eq_true,bne_self_eq_false,Bool.not_true,Bool.not_false,cond_true,cond_false,bd_s,nx_r]
theorem t_laws_eqByteS (a0:List Int)(a1:List Int)(h:EqZ (a0.length) a0 a1):m_laws_eqByteS a0 a1=some (true):=by
 obtain⟨rfl,hz⟩:=h
 unfold m_laws_eqByteS
 rw[eqLoop (a:=a0) (by omega) (fun rec i hi=>by
  simp only[lt_i hi,atq_nat hi,beq_self_eq_true,bne_self_eq_false,Bool.not_true,Bool.not_false,cond_true,cond_false,bd_s,nx_r]) (fun rec=>by simp only[ge_i,cond_false])]
 simp only[beq_self_eq_true,bne_self_eq_false,Bool.not_true,Bool.not_false,cond_true,cond_false,bd_s,nx_r]
theorem t_laws_eqBox (a0:D.Box)(a1:D.Box)(h:EqZ (a0.sz) a0 a1):m_laws_eqBox a0 a1=some (true):=by
 obtain⟨rfl,hz⟩:=h
 unfold m_laws_eqBox
 simp only[D.Box.sz] at hz
 simp only[beq_self_eq_true,bne_self_eq_false,Bool.not_true,Bool.not_false,cond_true,cond_false,bd_s,nx_r,gd_t (show EqZ (a0.Data.length) a0.Data a0.Data from⟨rfl,by omega⟩)]
theorem t_laws_eqBoxS (a0:List D.Box)(a1:List D.Box)(h:EqZ (a0.length+(a0.map D.Box.sz).sum) a0 a1):m_laws_eqBoxS a0 a1=some (true):=by
 obtain⟨rfl,hz⟩:=h
 unfold m_laws_eqBoxS
 rw[eqLoop (a:=a0) (by omega) (fun rec i hi=>by
  have hs:=le_sumI (f:=D.Box.sz) hi
  simp only[lt_i hi,atq_nat hi,gd_t (show EqZ (a0[i].sz) a0[i] a0[i] from⟨rfl,by omega⟩),beq_self_eq_true,bne_self_eq_false,Bool.not_true,Bool.not_false,cond_true,cond_false,bd_s,nx_r]) (fun rec=>by simp only[ge_i,cond_false])]
 simp only[beq_self_eq_true,bne_self_eq_false,Bool.not_true,Bool.not_false,cond_true,cond_false,bd_s,nx_r]
theorem t_laws_eqEpochBoxes (a0:D.EpochBoxes)(a1:D.EpochBoxes)(h:EqZ (a0.sz) a0 a1):m_laws_eqEpochBoxes a0 a1=some (true):=by
 obtain⟨rfl,hz⟩:=h
 unfold m_laws_eqEpochBoxes
 simp only[D.EpochBoxes.sz] at hz
 simp only[beq_self_eq_true,bne_self_eq_false,Bool.not_true,Bool.not_false,cond_true,cond_false,bd_s,nx_r,gd_t (show EqZ (a0.Boxes.length+(a0.Boxes.map D.Box.sz).sum) a0.Boxes a0.Boxes from⟨rfl,by omega⟩)]
theorem t_laws_eqSealedBundle (a0:D.SealedBundle)(a1:D.SealedBundle)(h:EqZ (a0.sz) a0 a1):m_laws_eqSealedBundle a0 a1=some (true):=by
 obtain⟨rfl,hz⟩:=h
 unfold m_laws_eqSealedBundle
 simp only[D.SealedBundle.sz] at hz
 simp only[beq_self_eq_true,bne_self_eq_false,Bool.not_true,Bool.not_false,cond_true,cond_false,bd_s,nx_r,gd_t (show EqZ (a0.Data.length) a0.Data a0.Data from⟨rfl,by omega⟩)]
theorem t_laws_eqSealedBundleS (a0:List D.SealedBundle)(a1:List D.SealedBundle)(h:EqZ (a0.length+(a0.map D.SealedBundle.sz).sum) a0 a1):m_laws_eqSealedBundleS a0 a1=some (true):=by
 obtain⟨rfl,hz⟩:=h
 unfold m_laws_eqSealedBundleS
 rw[eqLoop (a:=a0) (by omega) (fun rec i hi=>by
  have hs:=le_sumI (f:=D.SealedBundle.sz) hi
  simp only[lt_i hi,atq_nat hi,gd_t (show EqZ (a0[i].sz) a0[i] a0[i] from⟨rfl,by omega⟩),beq_self_eq_true,bne_self_eq_false,Bool.not_true,Bool.not_false,cond_true,cond_false,bd_s,nx_r]) (fun rec=>by simp only[ge_i,cond_false])]
 simp only[beq_self_eq_true,bne_self_eq_false,Bool.not_true,Bool.not_false,cond_true,cond_false,bd_s,nx_r]
theorem t_laws_eqCloud (a0:D.Cloud)(a1:D.Cloud)(h:EqZ (a0.sz) a0 a1):m_laws_eqCloud a0 a1=some (true):=by
 obtain⟨rfl,hz⟩:=h
 unfold m_laws_eqCloud
 simp only[D.Cloud.sz,D.EpochBoxes.sz] at hz
 simp only[beq_self_eq_true,bne_self_eq_false,Bool.not_true,Bool.not_false,cond_true,cond_false,bd_s,nx_r,gd_t (show EqZ (a0.Log.length) a0.Log a0.Log from⟨rfl,by omega⟩),gd_t (show EqZ (a0.Boxes.sz) a0.Boxes a0.Boxes from⟨rfl,by simp only[D.EpochBoxes.sz];omega⟩),gd_t (show EqZ (a0.History.length+(a0.History.map D.SealedBundle.sz).sum) a0.History a0.History from⟨rfl,by omega⟩)]
theorem t_laws_eqCredential (a0:D.Credential)(a1:D.Credential)(h:EqZ (0) a0 a1):m_laws_eqCredential a0 a1=some (true):=by
 obtain⟨rfl,hz⟩:=h
 unfold m_laws_eqCredential
 simp only[beq_self_eq_true,bne_self_eq_false,Bool.not_true,Bool.not_false,cond_true,cond_false,bd_s,nx_r]
theorem t_laws_eqCredentialS (a0:List D.Credential)(a1:List D.Credential)(h:EqZ (a0.length) a0 a1):m_laws_eqCredentialS a0 a1=some (true):=by
 obtain⟨rfl,hz⟩:=h
 unfold m_laws_eqCredentialS
 rw[eqLoop (a:=a0) (by omega) (fun rec i hi=>by
  simp only[lt_i hi,atq_nat hi,gd_t (show EqZ (0) a0[i] a0[i] from⟨rfl,by omega⟩),beq_self_eq_true,bne_self_eq_false,Bool.not_true,Bool.not_false,cond_true,cond_false,bd_s,nx_r]) (fun rec=>by simp only[ge_i,cond_false])]
 simp only[beq_self_eq_true,bne_self_eq_false,Bool.not_true,Bool.not_false,cond_true,cond_false,bd_s,nx_r]
theorem t_laws_eqAccount (a0:D.Account)(a1:D.Account)(h:EqZ (a0.sz) a0 a1):m_laws_eqAccount a0 a1=some (true):=by
 obtain⟨rfl,hz⟩:=h
 unfold m_laws_eqAccount
 simp only[D.Account.sz] at hz
 simp only[beq_self_eq_true,bne_self_eq_false,Bool.not_true,Bool.not_false,cond_true,cond_false,bd_s,nx_r,gd_t (show EqZ (a0.Credentials.length) a0.Credentials a0.Credentials from⟨rfl,by omega⟩)]
theorem t_laws_eqAccountS (a0:List D.Account)(a1:List D.Account)(h:EqZ (a0.length+(a0.map D.Account.sz).sum) a0 a1):m_laws_eqAccountS a0 a1=some (true):=by
 obtain⟨rfl,hz⟩:=h
 unfold m_laws_eqAccountS
 rw[eqLoop (a:=a0) (by omega) (fun rec i hi=>by
  have hs:=le_sumI (f:=D.Account.sz) hi
  simp only[lt_i hi,atq_nat hi,gd_t (show EqZ (a0[i].sz) a0[i] a0[i] from⟨rfl,by omega⟩),beq_self_eq_true,bne_self_eq_false,Bool.not_true,Bool.not_false,cond_true,cond_false,bd_s,nx_r]) (fun rec=>by simp only[ge_i,cond_false])]
 simp only[beq_self_eq_true,bne_self_eq_false,Bool.not_true,Bool.not_false,cond_true,cond_false,bd_s,nx_r]
theorem t_laws_eqChallenge (a0:D.Challenge)(a1:D.Challenge)(h:EqZ (0) a0 a1):m_laws_eqChallenge a0 a1=some (true):=by
 obtain⟨rfl,hz⟩:=h
 unfold m_laws_eqChallenge
 simp only[beq_self_eq_true,bne_self_eq_false,Bool.not_true,Bool.not_false,cond_true,cond_false,bd_s,nx_r]
theorem t_laws_eqChallengeS (a0:List D.Challenge)(a1:List D.Challenge)(h:EqZ (a0.length) a0 a1):m_laws_eqChallengeS a0 a1=some (true):=by
 obtain⟨rfl,hz⟩:=h
 unfold m_laws_eqChallengeS
 rw[eqLoop (a:=a0) (by omega) (fun rec i hi=>by
  simp only[lt_i hi,atq_nat hi,gd_t (show EqZ (0) a0[i] a0[i] from⟨rfl,by omega⟩),beq_self_eq_true,bne_self_eq_false,Bool.not_true,Bool.not_false,cond_true,cond_false,bd_s,nx_r]) (fun rec=>by simp only[ge_i,cond_false])]
 simp only[beq_self_eq_true,bne_self_eq_false,Bool.not_true,Bool.not_false,cond_true,cond_false,bd_s,nx_r]
theorem t_laws_eqChallengeBook (a0:D.ChallengeBook)(a1:D.ChallengeBook)(h:EqZ (a0.sz) a0 a1):m_laws_eqChallengeBook a0 a1=some (true):=by
 obtain⟨rfl,hz⟩:=h
 unfold m_laws_eqChallengeBook
 simp only[D.ChallengeBook.sz] at hz
 simp only[beq_self_eq_true,bne_self_eq_false,Bool.not_true,Bool.not_false,cond_true,cond_false,bd_s,nx_r,gd_t (show EqZ (a0.Open.length) a0.Open a0.Open from⟨rfl,by omega⟩)]
theorem t_laws_eqIntS (a0:List Int)(a1:List Int)(h:EqZ (a0.length) a0 a1):m_laws_eqIntS a0 a1=some (true):=by
 obtain⟨rfl,hz⟩:=h
 unfold m_laws_eqIntS
 rw[eqLoop (a:=a0) (by omega) (fun rec i hi=>by
  simp only[lt_i hi,atq_nat hi,beq_self_eq_true,bne_self_eq_false,Bool.not_true,Bool.not_false,cond_true,cond_false,bd_s,nx_r]) (fun rec=>by simp only[ge_i,cond_false])]
 simp only[beq_self_eq_true,bne_self_eq_false,Bool.not_true,Bool.not_false,cond_true,cond_false,bd_s,nx_r]
theorem t_laws_eqSite (a0:D.Site)(a1:D.Site)(h:EqZ (a0.sz) a0 a1):m_laws_eqSite a0 a1=some (true):=by
 obtain⟨rfl,hz⟩:=h
 unfold m_laws_eqSite
 simp only[D.ChallengeBook.sz,D.Site.sz] at hz
 simp only[beq_self_eq_true,bne_self_eq_false,Bool.not_true,Bool.not_false,cond_true,cond_false,bd_s,nx_r,gd_t (show EqZ (a0.Accounts.length+(a0.Accounts.map D.Account.sz).sum) a0.Accounts a0.Accounts from⟨rfl,by omega⟩),gd_t (show EqZ (a0.Book.sz) a0.Book a0.Book from⟨rfl,by simp only[D.ChallengeBook.sz];omega⟩),gd_t (show EqZ (a0.Logins.length) a0.Logins a0.Logins from⟨rfl,by omega⟩)]
theorem t_laws_eqSiteS (a0:List D.Site)(a1:List D.Site)(h:EqZ (a0.length+(a0.map D.Site.sz).sum) a0 a1):m_laws_eqSiteS a0 a1=some (true):=by
 obtain⟨rfl,hz⟩:=h
 unfold m_laws_eqSiteS
 rw[eqLoop (a:=a0) (by omega) (fun rec i hi=>by
  have hs:=le_sumI (f:=D.Site.sz) hi
  simp only[lt_i hi,atq_nat hi,gd_t (show EqZ (a0[i].sz) a0[i] a0[i] from⟨rfl,by omega⟩),beq_self_eq_true,bne_self_eq_false,Bool.not_true,Bool.not_false,cond_true,cond_false,bd_s,nx_r]) (fun rec=>by simp only[ge_i,cond_false])]
 simp only[beq_self_eq_true,bne_self_eq_false,Bool.not_true,Bool.not_false,cond_true,cond_false,bd_s,nx_r]
theorem t_laws_eqVault (a0:D.Vault)(a1:D.Vault)(h:EqZ (0) a0 a1):m_laws_eqVault a0 a1=some (true):=by
 obtain⟨rfl,hz⟩:=h
 unfold m_laws_eqVault
 simp only[beq_self_eq_true,bne_self_eq_false,Bool.not_true,Bool.not_false,cond_true,cond_false,bd_s,nx_r]
theorem t_laws_eqShare (a0:D.Share)(a1:D.Share)(h:EqZ (0) a0 a1):m_laws_eqShare a0 a1=some (true):=by
 obtain⟨rfl,hz⟩:=h
 unfold m_laws_eqShare
 simp only[beq_self_eq_true,bne_self_eq_false,Bool.not_true,Bool.not_false,cond_true,cond_false,bd_s,nx_r]
theorem t_laws_eqKeeper (a0:D.Keeper)(a1:D.Keeper)(h:EqZ (0) a0 a1):m_laws_eqKeeper a0 a1=some (true):=by
 obtain⟨rfl,hz⟩:=h
 unfold m_laws_eqKeeper
 simp only[beq_self_eq_true,bne_self_eq_false,Bool.not_true,Bool.not_false,cond_true,cond_false,bd_s,nx_r,gd_t (show EqZ (0) a0.Share a0.Share from⟨rfl,by omega⟩)]
theorem t_laws_eqKeeperS (a0:List D.Keeper)(a1:List D.Keeper)(h:EqZ (a0.length) a0 a1):m_laws_eqKeeperS a0 a1=some (true):=by
 obtain⟨rfl,hz⟩:=h
 unfold m_laws_eqKeeperS
 rw[eqLoop (a:=a0) (by omega) (fun rec i hi=>by
  simp only[lt_i hi,atq_nat hi,gd_t (show EqZ (0) a0[i] a0[i] from⟨rfl,by omega⟩),beq_self_eq_true,bne_self_eq_false,Bool.not_true,Bool.not_false,cond_true,cond_false,bd_s,nx_r]) (fun rec=>by simp only[ge_i,cond_false])]
 simp only[beq_self_eq_true,bne_self_eq_false,Bool.not_true,Bool.not_false,cond_true,cond_false,bd_s,nx_r]
theorem t_laws_eqKeeperHost (a0:D.KeeperHost)(a1:D.KeeperHost)(h:EqZ (a0.sz) a0 a1):m_laws_eqKeeperHost a0 a1=some (true):=by
 obtain⟨rfl,hz⟩:=h
 unfold m_laws_eqKeeperHost
 simp only[D.Keeper.sz,D.KeeperHost.sz,D.Share.sz] at hz
 simp only[beq_self_eq_true,bne_self_eq_false,Bool.not_true,Bool.not_false,cond_true,cond_false,bd_s,nx_r,gd_t (show EqZ (0) a0.State a0.State from⟨rfl,by omega⟩),gd_t (show EqZ (a0.Saved.length) a0.Saved a0.Saved from⟨rfl,by omega⟩)]
theorem t_laws_eqKeeperHostS (a0:List D.KeeperHost)(a1:List D.KeeperHost)(h:EqZ (a0.length+(a0.map D.KeeperHost.sz).sum) a0 a1):m_laws_eqKeeperHostS a0 a1=some (true):=by
 obtain⟨rfl,hz⟩:=h
 unfold m_laws_eqKeeperHostS
 rw[eqLoop (a:=a0) (by omega) (fun rec i hi=>by
  have hs:=le_sumI (f:=D.KeeperHost.sz) hi
  simp only[lt_i hi,atq_nat hi,gd_t (show EqZ (a0[i].sz) a0[i] a0[i] from⟨rfl,by omega⟩),beq_self_eq_true,bne_self_eq_false,Bool.not_true,Bool.not_false,cond_true,cond_false,bd_s,nx_r]) (fun rec=>by simp only[ge_i,cond_false])]
 simp only[beq_self_eq_true,bne_self_eq_false,Bool.not_true,Bool.not_false,cond_true,cond_false,bd_s,nx_r]
theorem t_laws_eqNotice (a0:D.Notice)(a1:D.Notice)(h:EqZ (0) a0 a1):m_laws_eqNotice a0 a1=some (true):=by
 obtain⟨rfl,hz⟩:=h
 unfold m_laws_eqNotice
 simp only[beq_self_eq_true,bne_self_eq_false,Bool.not_true,Bool.not_false,cond_true,cond_false,bd_s,nx_r]
theorem t_laws_eqNoticeS (a0:List D.Notice)(a1:List D.Notice)(h:EqZ (a0.length) a0 a1):m_laws_eqNoticeS a0 a1=some (true):=by
 obtain⟨rfl,hz⟩:=h
 unfold m_laws_eqNoticeS
 rw[eqLoop (a:=a0) (by omega) (fun rec i hi=>by
  simp only[lt_i hi,atq_nat hi,gd_t (show EqZ (0) a0[i] a0[i] from⟨rfl,by omega⟩),beq_self_eq_true,bne_self_eq_false,Bool.not_true,Bool.not_false,cond_true,cond_false,bd_s,nx_r]) (fun rec=>by simp only[ge_i,cond_false])]
 simp only[beq_self_eq_true,bne_self_eq_false,Bool.not_true,Bool.not_false,cond_true,cond_false,bd_s,nx_r]
theorem t_laws_eqMailbox (a0:D.Mailbox)(a1:D.Mailbox)(h:EqZ (a0.sz) a0 a1):m_laws_eqMailbox a0 a1=some (true):=by
 obtain⟨rfl,hz⟩:=h
 unfold m_laws_eqMailbox
 simp only[D.Mailbox.sz] at hz
 simp only[beq_self_eq_true,bne_self_eq_false,Bool.not_true,Bool.not_false,cond_true,cond_false,bd_s,nx_r,gd_t (show EqZ (a0.Notices.length) a0.Notices a0.Notices from⟨rfl,by omega⟩)]
theorem t_laws_eqWorld (a0:D.World)(a1:D.World)(h:EqZ (a0.sz) a0 a1):m_laws_eqWorld a0 a1=some (true):=by
 obtain⟨rfl,hz⟩:=h
 unfold m_laws_eqWorld
 simp only[D.Cloud.sz,D.EpochBoxes.sz,D.Mailbox.sz,D.Vault.sz,D.World.sz] at hz
 simp only[beq_self_eq_true,bne_self_eq_false,Bool.not_true,Bool.not_false,cond_true,cond_false,bd_s,nx_r,gd_t (show EqZ (a0.Devices.length+(a0.Devices.map D.Device.sz).sum) a0.Devices a0.Devices from⟨rfl,by omega⟩),gd_t (show EqZ (a0.Stolen.length) a0.Stolen a0.Stolen from⟨rfl,by omega⟩),gd_t (show EqZ (a0.Cloud.sz) a0.Cloud a0.Cloud from⟨rfl,by simp only[D.Cloud.sz,D.EpochBoxes.sz];omega⟩),gd_t (show EqZ (a0.Sites.length+(a0.Sites.map D.Site.sz).sum) a0.Sites a0.Sites from⟨rfl,by omega⟩),gd_t (show EqZ (0) a0.Vault a0.Vault from⟨rfl,by omega⟩),gd_t (show EqZ (a0.Hosts.length+(a0.Hosts.map D.KeeperHost.sz).sum) a0.Hosts a0.Hosts from⟨rfl,by omega⟩),gd_t (show EqZ (a0.Mail.sz) a0.Mail a0.Mail from⟨rfl,by simp only[D.Mailbox.sz];omega⟩)]
theorem t_laws_markLogEntryS (a0:List D.LogEntry)(a1:Int)(h:MkP (a0.length) (cntL cn_LogEntry a0) a1):m_laws_markLogEntryS a0 a1=some (mkL mk_LogEntry a0 a1):=by
 obtain⟨hs,h0,h1⟩:=h
 unfold m_laws_markLogEntryS
 rw[markLoop mk_LogEntry_ok h0 h1 (by omega) (fun rec k i l hi hi0 hx hk0 hk1=>by
  unfold cn_LogEntry at hk1
  obtain⟨k0,q0⟩:∃z,z=IntKind.i64.wrap (k+1):=⟨_,rfl⟩
  have g0:k0=k+1:=q0.trans (wrap1 (by omega) (by omega))
  obtain⟨k1,q1⟩:∃z,z=IntKind.i64.wrap (k0+1):=⟨_,rfl⟩
  have g1:k1=k0+1:=q1.trans (wrap1 (by omega) (by omega))
  obtain⟨k2,q2⟩:∃z,z=IntKind.i64.wrap (k1+1):=⟨_,rfl⟩
  have g2:k2=k1+1:=q2.trans (wrap1 (by omega) (by omega))
  obtain⟨k3,q3⟩:∃z,z=IntKind.i64.wrap (k2+1):=⟨_,rfl⟩
  have g3:k3=k2+1:=q3.trans (wrap1 (by omega) (by omega))
  obtain⟨k4,q4⟩:∃z,z=IntKind.i64.wrap (k3+1):=⟨_,rfl⟩
  have g4:k4=k3+1:=q4.trans (wrap1 (by omega) (by omega))
  obtain⟨k5,q5⟩:∃z,z=IntKind.i64.wrap (k4+1):=⟨_,rfl⟩
  have g5:k5=k4+1:=q5.trans (wrap1 (by omega) (by omega))
  simp only[lt_i hi,cond_true,atq_nat hi,hx,atq_set hi,atq_nat (show i<(l.set i _).length by simpa using hi),List.set_set,List.getElem_set_self,bd_s,toNat_i,three_ne,gd_T,mk_LogEntry,←q0,←q1,←q2,←q3,←q4,←q5]) (fun rec k l=>by simp only[ge_i,cond_false])]
 rfl
theorem t_laws_markEntryS (a0:List D.Entry)(a1:Int)(h:MkP (a0.length) (cntL cn_Entry a0) a1):m_laws_markEntryS a0 a1=some (mkL mk_Entry a0 a1):=by
 obtain⟨hs,h0,h1⟩:=h
 unfold m_laws_markEntryS
 rw[markLoop mk_Entry_ok h0 h1 (by omega) (fun rec k i l hi hi0 hx hk0 hk1=>by
  unfold cn_Entry at hk1
  obtain⟨k0,q0⟩:∃z,z=IntKind.i64.wrap (k+1):=⟨_,rfl⟩
  have g0:k0=k+1:=q0.trans (wrap1 (by omega) (by omega))
  obtain⟨k1,q1⟩:∃z,z=IntKind.i64.wrap (k0+1):=⟨_,rfl⟩
  have g1:k1=k0+1:=q1.trans (wrap1 (by omega) (by omega))
  obtain⟨k2,q2⟩:∃z,z=IntKind.i64.wrap (k1+1):=⟨_,rfl⟩
  have g2:k2=k1+1:=q2.trans (wrap1 (by omega) (by omega))
  obtain⟨k3,q3⟩:∃z,z=IntKind.i64.wrap (k2+1):=⟨_,rfl⟩
  have g3:k3=k2+1:=q3.trans (wrap1 (by omega) (by omega))
  simp only[lt_i hi,cond_true,atq_nat hi,hx,atq_set hi,atq_nat (show i<(l.set i _).length by simpa using hi),List.set_set,List.getElem_set_self,bd_s,toNat_i,three_ne,gd_T,mk_Entry,←q0,←q1,←q2,←q3]) (fun rec k l=>by simp only[ge_i,cond_false])]
 rfl
theorem t_laws_markDeviceS (a0:List D.Device)(a1:Int)(h:MkP (a0.length+(a0.map D.Device.sz).sum) (cntL cn_Device a0) a1):m_laws_markDeviceS a0 a1=some (mkL mk_Device a0 a1):=by
 obtain⟨hs,h0,h1⟩:=h
 unfold m_laws_markDeviceS
 rw[markLoop mk_Device_ok h0 h1 (by omega) (fun rec k i l hi hi0 hx hk0 hk1=>by
  have hz:=le_sumI (f:=D.Device.sz) hi0
  simp only[D.Bundle.sz,D.Device.sz,D.KeyStore.sz] at hz
  unfold cn_Device at hk1
  obtain⟨k0,q0⟩:∃z,z=IntKind.i64.wrap (k+1):=⟨_,rfl⟩
  have g0:k0=k+1:=q0.trans (wrap1 (by omega) (by omega))
  obtain⟨k1,q1⟩:∃z,z=IntKind.i64.wrap (k0+1):=⟨_,rfl⟩
  have g1:k1=k0+1:=q1.trans (wrap1 (by omega) (by omega))
  obtain⟨k2,q2⟩:∃z,z=IntKind.i64.wrap (k1+1):=⟨_,rfl⟩
  have g2:k2=k1+1:=q2.trans (wrap1 (by omega) (by omega))
  obtain⟨k3,q3⟩:∃z,z=IntKind.i64.wrap (k2+1):=⟨_,rfl⟩
  have g3:k3=k2+1:=q3.trans (wrap1 (by omega) (by omega))
  have p4:MkP (a0[i].Log.length) (cntL cn_LogEntry a0[i].Log) k3:=⟨by omega,by omega,by omega⟩
  have f4:=mkL_ok mk_LogEntry_ok a0[i].Log k3 (by omega) (by omega)
  obtain⟨k4,q4⟩:∃z,z=(mkL mk_LogEntry a0[i].Log k3).2:=⟨_,rfl⟩
  have g4:k4=k3+cntL cn_LogEntry a0[i].Log:=q4.trans f4.1
  obtain⟨k5,q5⟩:∃z,z=IntKind.i64.wrap (k4+1):=⟨_,rfl⟩
  have g5:k5=k4+1:=q5.trans (wrap1 (by omega) (by omega))
  obtain⟨k6,q6⟩:∃z,z=IntKind.i64.wrap (k5+1):=⟨_,rfl⟩
  have g6:k6=k5+1:=q6.trans (wrap1 (by omega) (by omega))
  obtain⟨k7,q7⟩:∃z,z=IntKind.i64.wrap (k6+1):=⟨_,rfl⟩
  have g7:k7=k6+1:=q7.trans (wrap1 (by omega) (by omega))
  have p8:MkP (a0[i].Bundle.Entries.length) (cntL cn_Entry a0[i].Bundle.Entries) k7:=⟨by omega,by omega,by omega⟩
  have f8:=mkL_ok mk_Entry_ok a0[i].Bundle.Entries k7 (by omega) (by omega)
  obtain⟨k8,q8⟩:∃z,z=(mkL mk_Entry a0[i].Bundle.Entries k7).2:=⟨_,rfl⟩
  have g8:k8=k7+cntL cn_Entry a0[i].Bundle.Entries:=q8.trans f8.1
  simp only[lt_i hi,cond_true,atq_nat hi,hx,atq_set hi,atq_nat (show i<(l.set i _).length by simpa using hi),List.set_set,List.getElem_set_self,bd_s,toNat_i,three_ne,gd_T,mk_Device,←q0,←q1,←q2,←q3,←q4,←q5,←q6,←q7,←q8,gd_t p4,gd_t p8]) (fun rec k l=>by simp only[ge_i,cond_false])]
 rfl
theorem t_laws_markBoolS (a0:List Bool)(a1:Int)(h:MkP (a0.length) (cntL cn1 a0) a1):m_laws_markBoolS a0 a1=some (mkL mkB a0 a1):=by
 obtain⟨hs,h0,h1⟩:=h
 unfold m_laws_markBoolS
 rw[markLoop mkB_ok h0 h1 (by omega) (fun rec k i l hi hi0 hx hk0 hk1=>by
  simp only[lt_i hi,cond_true,atq_nat hi,bd_s,toNat_i,three_ne,gd_T,mkB]) (fun rec k l=>by simp only[ge_i,cond_false])]
 rfl
theorem t_laws_markByteS (a0:List Int)(a1:Int)(h:MkP (a0.length) (cntL cn1 a0) a1):m_laws_markByteS a0 a1=some (mkL mkU a0 a1):=by
 obtain⟨hs,h0,h1⟩:=h
 unfold m_laws_markByteS
 rw[markLoop mkU_ok h0 h1 (by omega) (fun rec k i l hi hi0 hx hk0 hk1=>by
  simp only[lt_i hi,cond_true,atq_nat hi,bd_s,toNat_i,three_ne,gd_T,mkU]) (fun rec k l=>by simp only[ge_i,cond_false])]
 rfl
theorem t_laws_markBoxS (a0:List D.Box)(a1:Int)(h:MkP (a0.length+(a0.map D.Box.sz).sum) (cntL cn_Box a0) a1):m_laws_markBoxS a0 a1=some (mkL mk_Box a0 a1):=by
 obtain⟨hs,h0,h1⟩:=h
 unfold m_laws_markBoxS
 rw[markLoop mk_Box_ok h0 h1 (by omega) (fun rec k i l hi hi0 hx hk0 hk1=>by
  have hz:=le_sumI (f:=D.Box.sz) hi0
  simp only[D.Box.sz] at hz
  unfold cn_Box at hk1
  obtain⟨k0,q0⟩:∃z,z=IntKind.i64.wrap (k+1):=⟨_,rfl⟩
  have g0:k0=k+1:=q0.trans (wrap1 (by omega) (by omega))
  obtain⟨k1,q1⟩:∃z,z=IntKind.i64.wrap (k0+1):=⟨_,rfl⟩
  have g1:k1=k0+1:=q1.trans (wrap1 (by omega) (by omega))
  have p2:MkP (a0[i].Data.length) (cntL cn1 a0[i].Data) k1:=⟨by omega,by omega,by omega⟩
  have f2:=mkL_ok mkU_ok a0[i].Data k1 (by omega) (by omega)
  obtain⟨k2,q2⟩:∃z,z=(mkL mkU a0[i].Data k1).2:=⟨_,rfl⟩
  have g2:k2=k1+cntL cn1 a0[i].Data:=q2.trans f2.1
  obtain⟨k3,q3⟩:∃z,z=IntKind.i64.wrap (k2+1):=⟨_,rfl⟩
  have g3:k3=k2+1:=q3.trans (wrap1 (by omega) (by omega))
  simp only[lt_i hi,cond_true,atq_nat hi,hx,atq_set hi,atq_nat (show i<(l.set i _).length by simpa using hi),List.set_set,List.getElem_set_self,bd_s,toNat_i,three_ne,gd_T,mk_Box,←q0,←q1,←q2,←q3,gd_t p2]) (fun rec k l=>by simp only[ge_i,cond_false])]
 rfl
theorem t_laws_markEpochBoxes (a0:D.EpochBoxes)(a1:Int)(h:MkP (a0.sz) (cv_EpochBoxes a0) a1):m_laws_markEpochBoxes a0 a1=some (mv_EpochBoxes a0 a1):=by
 obtain⟨hs,h0,h1⟩:=h
 unfold cv_EpochBoxes at h1
 simp only[D.EpochBoxes.sz] at hs
 unfold m_laws_markEpochBoxes mv_EpochBoxes
 rw[gd_t (show MkP _ _ _ from⟨by omega,by omega,by omega⟩)]
 have f0:=mkL_ok mk_Box_ok a0.Boxes a1 (by omega) (by omega)
 obtain⟨k0,q0⟩:∃z,z=(mkL mk_Box a0.Boxes a1).2:=⟨_,rfl⟩
 have g0:k0=a1+cntL cn_Box a0.Boxes:=q0.trans f0.1
 simp only[bd_s,←q0]
theorem t_laws_markSealedBundleS (a0:List D.SealedBundle)(a1:Int)(h:MkP (a0.length+(a0.map D.SealedBundle.sz).sum) (cntL cn_SealedBundle a0) a1):m_laws_markSealedBundleS a0 a1=some (mkL mk_SealedBundle a0 a1):=by
 obtain⟨hs,h0,h1⟩:=h
 unfold m_laws_markSealedBundleS
 rw[markLoop mk_SealedBundle_ok h0 h1 (by omega) (fun rec k i l hi hi0 hx hk0 hk1=>by
  have hz:=le_sumI (f:=D.SealedBundle.sz) hi0
  simp only[D.SealedBundle.sz] at hz
  unfold cn_SealedBundle at hk1
  obtain⟨k0,q0⟩:∃z,z=IntKind.i64.wrap (k+1):=⟨_,rfl⟩
  have g0:k0=k+1:=q0.trans (wrap1 (by omega) (by omega))
  obtain⟨k1,q1⟩:∃z,z=IntKind.i64.wrap (k0+1):=⟨_,rfl⟩
  have g1:k1=k0+1:=q1.trans (wrap1 (by omega) (by omega))
  have p2:MkP (a0[i].Data.length) (cntL cn1 a0[i].Data) k1:=⟨by omega,by omega,by omega⟩
  have f2:=mkL_ok mkU_ok a0[i].Data k1 (by omega) (by omega)
  obtain⟨k2,q2⟩:∃z,z=(mkL mkU a0[i].Data k1).2:=⟨_,rfl⟩
  have g2:k2=k1+cntL cn1 a0[i].Data:=q2.trans f2.1
  obtain⟨k3,q3⟩:∃z,z=IntKind.i64.wrap (k2+1):=⟨_,rfl⟩
  have g3:k3=k2+1:=q3.trans (wrap1 (by omega) (by omega))
  simp only[lt_i hi,cond_true,atq_nat hi,hx,atq_set hi,atq_nat (show i<(l.set i _).length by simpa using hi),List.set_set,List.getElem_set_self,bd_s,toNat_i,three_ne,gd_T,mk_SealedBundle,←q0,←q1,←q2,←q3,gd_t p2]) (fun rec k l=>by simp only[ge_i,cond_false])]
 rfl
theorem t_laws_markCloud (a0:D.Cloud)(a1:Int)(h:MkP (a0.sz) (cv_Cloud a0) a1):m_laws_markCloud a0 a1=some (mv_Cloud a0 a1):=by
 obtain⟨hs,h0,h1⟩:=h
 unfold cv_Cloud at h1
 simp only[D.Cloud.sz,D.EpochBoxes.sz] at hs
 unfold m_laws_markCloud mv_Cloud
 rw[gd_t (show MkP _ _ _ from⟨by omega,by omega,by omega⟩)]
 have f0:=mkL_ok mk_LogEntry_ok a0.Log a1 (by omega) (by omega)
 obtain⟨k0,q0⟩:∃z,z=(mkL mk_LogEntry a0.Log a1).2:=⟨_,rfl⟩
 have g0:k0=a1+cntL cn_LogEntry a0.Log:=q0.trans f0.1
 simp only[bd_s,←q0]
 rw[gd_t (show MkP _ _ _ from⟨by simp only[D.EpochBoxes.sz];omega,by omega,by unfold cv_EpochBoxes;omega⟩)]
 simp only[bd_s,mv_EpochBoxes]
 have f1:=mkL_ok mk_Box_ok a0.Boxes.Boxes k0 (by omega) (by omega)
 obtain⟨k1,q1⟩:∃z,z=(mkL mk_Box a0.Boxes.Boxes k0).2:=⟨_,rfl⟩
 have g1:k1=k0+cntL cn_Box a0.Boxes.Boxes:=q1.trans f1.1
 simp only[←q1]
 rw[gd_t (show MkP _ _ _ from⟨by omega,by omega,by omega⟩)]
 have f2:=mkL_ok mk_SealedBundle_ok a0.History k1 (by omega) (by omega)
 obtain⟨k2,q2⟩:∃z,z=(mkL mk_SealedBundle a0.History k1).2:=⟨_,rfl⟩
 have g2:k2=k1+cntL cn_SealedBundle a0.History:=q2.trans f2.1
 simp only[bd_s,←q2]
theorem t_laws_markCredentialS (a0:List D.Credential)(a1:Int)(h:MkP (a0.length) (cntL cn_Credential a0) a1):m_laws_markCredentialS a0 a1=some (mkL mk_Credential a0 a1):=by
 obtain⟨hs,h0,h1⟩:=h
 unfold m_laws_markCredentialS
 rw[markLoop mk_Credential_ok h0 h1 (by omega) (fun rec k i l hi hi0 hx hk0 hk1=>by
  unfold cn_Credential at hk1
  obtain⟨k0,q0⟩:∃z,z=IntKind.i64.wrap (k+1):=⟨_,rfl⟩
  have g0:k0=k+1:=q0.trans (wrap1 (by omega) (by omega))
  obtain⟨k1,q1⟩:∃z,z=IntKind.i64.wrap (k0+1):=⟨_,rfl⟩
  have g1:k1=k0+1:=q1.trans (wrap1 (by omega) (by omega))
  obtain⟨k2,q2⟩:∃z,z=IntKind.i64.wrap (k1+1):=⟨_,rfl⟩
  have g2:k2=k1+1:=q2.trans (wrap1 (by omega) (by omega))
  obtain⟨k3,q3⟩:∃z,z=IntKind.i64.wrap (k2+1):=⟨_,rfl⟩
  have g3:k3=k2+1:=q3.trans (wrap1 (by omega) (by omega))
  simp only[lt_i hi,cond_true,atq_nat hi,hx,atq_set hi,atq_nat (show i<(l.set i _).length by simpa using hi),List.set_set,List.getElem_set_self,bd_s,toNat_i,three_ne,gd_T,mk_Credential,←q0,←q1,←q2,←q3]) (fun rec k l=>by simp only[ge_i,cond_false])]
 rfl
theorem t_laws_markAccountS (a0:List D.Account)(a1:Int)(h:MkP (a0.length+(a0.map D.Account.sz).sum) (cntL cn_Account a0) a1):m_laws_markAccountS a0 a1=some (mkL mk_Account a0 a1):=by
 obtain⟨hs,h0,h1⟩:=h
 unfold m_laws_markAccountS
 rw[markLoop mk_Account_ok h0 h1 (by omega) (fun rec k i l hi hi0 hx hk0 hk1=>by
  have hz:=le_sumI (f:=D.Account.sz) hi0
  simp only[D.Account.sz] at hz
  unfold cn_Account at hk1
  obtain⟨k0,q0⟩:∃z,z=IntKind.i64.wrap (k+1):=⟨_,rfl⟩
  have g0:k0=k+1:=q0.trans (wrap1 (by omega) (by omega))
  obtain⟨k1,q1⟩:∃z,z=IntKind.i64.wrap (k0+1):=⟨_,rfl⟩
  have g1:k1=k0+1:=q1.trans (wrap1 (by omega) (by omega))
  have p2:MkP (a0[i].Credentials.length) (cntL cn_Credential a0[i].Credentials) k1:=⟨by omega,by omega,by omega⟩
  have f2:=mkL_ok mk_Credential_ok a0[i].Credentials k1 (by omega) (by omega)
  obtain⟨k2,q2⟩:∃z,z=(mkL mk_Credential a0[i].Credentials k1).2:=⟨_,rfl⟩
  have g2:k2=k1+cntL cn_Credential a0[i].Credentials:=q2.trans f2.1
  simp only[lt_i hi,cond_true,atq_nat hi,hx,atq_set hi,atq_nat (show i<(l.set i _).length by simpa using hi),List.set_set,List.getElem_set_self,bd_s,toNat_i,three_ne,gd_T,mk_Account,←q0,←q1,←q2,gd_t p2]) (fun rec k l=>by simp only[ge_i,cond_false])]
 rfl
theorem t_laws_markChallengeS (a0:List D.Challenge)(a1:Int)(h:MkP (a0.length) (cntL cn_Challenge a0) a1):m_laws_markChallengeS a0 a1=some (mkL mk_Challenge a0 a1):=by
 obtain⟨hs,h0,h1⟩:=h
 unfold m_laws_markChallengeS
 rw[markLoop mk_Challenge_ok h0 h1 (by omega) (fun rec k i l hi hi0 hx hk0 hk1=>by
  unfold cn_Challenge at hk1
  obtain⟨k0,q0⟩:∃z,z=IntKind.i64.wrap (k+1):=⟨_,rfl⟩
  have g0:k0=k+1:=q0.trans (wrap1 (by omega) (by omega))
  obtain⟨k1,q1⟩:∃z,z=IntKind.i64.wrap (k0+1):=⟨_,rfl⟩
  have g1:k1=k0+1:=q1.trans (wrap1 (by omega) (by omega))
  obtain⟨k2,q2⟩:∃z,z=IntKind.i64.wrap (k1+1):=⟨_,rfl⟩
  have g2:k2=k1+1:=q2.trans (wrap1 (by omega) (by omega))
  simp only[lt_i hi,cond_true,atq_nat hi,hx,atq_set hi,atq_nat (show i<(l.set i _).length by simpa using hi),List.set_set,List.getElem_set_self,bd_s,toNat_i,three_ne,gd_T,mk_Challenge,←q0,←q1,←q2]) (fun rec k l=>by simp only[ge_i,cond_false])]
 rfl
theorem t_laws_markIntS (a0:List Int)(a1:Int)(h:MkP (a0.length) (cntL cn1 a0) a1):m_laws_markIntS a0 a1=some (mkL mkI a0 a1):=by
 obtain⟨hs,h0,h1⟩:=h
 unfold m_laws_markIntS
 rw[markLoop mkI_ok h0 h1 (by omega) (fun rec k i l hi hi0 hx hk0 hk1=>by
  simp only[lt_i hi,cond_true,atq_nat hi,bd_s,toNat_i,three_ne,gd_T,mkI]) (fun rec k l=>by simp only[ge_i,cond_false])]
 rfl
theorem t_laws_markSiteS (a0:List D.Site)(a1:Int)(h:MkP (a0.length+(a0.map D.Site.sz).sum) (cntL cn_Site a0) a1):m_laws_markSiteS a0 a1=some (mkL mk_Site a0 a1):=by
 obtain⟨hs,h0,h1⟩:=h
 unfold m_laws_markSiteS
 rw[markLoop mk_Site_ok h0 h1 (by omega) (fun rec k i l hi hi0 hx hk0 hk1=>by
  have hz:=le_sumI (f:=D.Site.sz) hi0
  simp only[D.ChallengeBook.sz,D.Site.sz] at hz
  unfold cn_Site at hk1
  have t0:m_laws_markText k=some (markTextF k):=markText_ok (by omega) (by omega)
  obtain⟨k0,q0⟩:∃z,z=IntKind.i64.wrap (k+1):=⟨_,rfl⟩
  have g0:k0=k+1:=q0.trans (wrap1 (by omega) (by omega))
  have p1:MkP (a0[i].Accounts.length+(a0[i].Accounts.map D.Account.sz).sum) (cntL cn_Account a0[i].Accounts) k0:=⟨by omega,by omega,by omega⟩
  have f1:=mkL_ok mk_Account_ok a0[i].Accounts k0 (by omega) (by omega)
  obtain⟨k1,q1⟩:∃z,z=(mkL mk_Account a0[i].Accounts k0).2:=⟨_,rfl⟩
  have g1:k1=k0+cntL cn_Account a0[i].Accounts:=q1.trans f1.1
  obtain⟨k2,q2⟩:∃z,z=IntKind.i64.wrap (k1+1):=⟨_,rfl⟩
  have g2:k2=k1+1:=q2.trans (wrap1 (by omega) (by omega))
  obtain⟨k3,q3⟩:∃z,z=IntKind.i64.wrap (k2+1):=⟨_,rfl⟩
  have g3:k3=k2+1:=q3.trans (wrap1 (by omega) (by omega))
  have p4:MkP (a0[i].Book.Open.length) (cntL cn_Challenge a0[i].Book.Open) k3:=⟨by omega,by omega,by omega⟩
  have f4:=mkL_ok mk_Challenge_ok a0[i].Book.Open k3 (by omega) (by omega)
  obtain⟨k4,q4⟩:∃z,z=(mkL mk_Challenge a0[i].Book.Open k3).2:=⟨_,rfl⟩
  have g4:k4=k3+cntL cn_Challenge a0[i].Book.Open:=q4.trans f4.1
  have p5:MkP (a0[i].Logins.length) (cntL cn1 a0[i].Logins) k4:=⟨by omega,by omega,by omega⟩
  have f5:=mkL_ok mkI_ok a0[i].Logins k4 (by omega) (by omega)
  obtain⟨k5,q5⟩:∃z,z=(mkL mkI a0[i].Logins k4).2:=⟨_,rfl⟩
  have g5:k5=k4+cntL cn1 a0[i].Logins:=q5.trans f5.1
  simp only[lt_i hi,cond_true,atq_nat hi,hx,atq_set hi,atq_nat (show i<(l.set i _).length by simpa using hi),List.set_set,List.getElem_set_self,bd_s,toNat_i,three_ne,gd_T,mk_Site,←q0,←q1,←q2,←q3,←q4,←q5,t0,gd_t p1,gd_t p4,gd_t p5]) (fun rec k l=>by simp only[ge_i,cond_false])]
 rfl
theorem t_laws_markKeeperS (a0:List D.Keeper)(a1:Int)(h:MkP (a0.length) (cntL cn_Keeper a0) a1):m_laws_markKeeperS a0 a1=some (mkL mk_Keeper a0 a1):=by
 obtain⟨hs,h0,h1⟩:=h
 unfold m_laws_markKeeperS
 rw[markLoop mk_Keeper_ok h0 h1 (by omega) (fun rec k i l hi hi0 hx hk0 hk1=>by
  unfold cn_Keeper at hk1
  obtain⟨k0,q0⟩:∃z,z=IntKind.i64.wrap (k+1):=⟨_,rfl⟩
  have g0:k0=k+1:=q0.trans (wrap1 (by omega) (by omega))
  obtain⟨k1,q1⟩:∃z,z=IntKind.i64.wrap (k0+1):=⟨_,rfl⟩
  have g1:k1=k0+1:=q1.trans (wrap1 (by omega) (by omega))
  obtain⟨k2,q2⟩:∃z,z=IntKind.i64.wrap (k1+1):=⟨_,rfl⟩
  have g2:k2=k1+1:=q2.trans (wrap1 (by omega) (by omega))
  obtain⟨k3,q3⟩:∃z,z=IntKind.i64.wrap (k2+1):=⟨_,rfl⟩
  have g3:k3=k2+1:=q3.trans (wrap1 (by omega) (by omega))
  obtain⟨k4,q4⟩:∃z,z=IntKind.i64.wrap (k3+1):=⟨_,rfl⟩
  have g4:k4=k3+1:=q4.trans (wrap1 (by omega) (by omega))
  simp only[lt_i hi,cond_true,atq_nat hi,hx,atq_set hi,atq_nat (show i<(l.set i _).length by simpa using hi),List.set_set,List.getElem_set_self,bd_s,toNat_i,three_ne,gd_T,mk_Keeper,←q0,←q1,←q2,←q3,←q4]) (fun rec k l=>by simp only[ge_i,cond_false])]
 rfl
theorem t_laws_markKeeperHostS (a0:List D.KeeperHost)(a1:Int)(h:MkP (a0.length+(a0.map D.KeeperHost.sz).sum) (cntL cn_KeeperHost a0) a1):m_laws_markKeeperHostS a0 a1=some (mkL mk_KeeperHost a0 a1):=by
 obtain⟨hs,h0,h1⟩:=h
 unfold m_laws_markKeeperHostS
 rw[markLoop mk_KeeperHost_ok h0 h1 (by omega) (fun rec k i l hi hi0 hx hk0 hk1=>by
  have hz:=le_sumI (f:=D.KeeperHost.sz) hi0
  simp only[D.Keeper.sz,D.KeeperHost.sz,D.Share.sz] at hz
  unfold cn_KeeperHost at hk1
  obtain⟨k0,q0⟩:∃z,z=IntKind.i64.wrap (k+1):=⟨_,rfl⟩
  have g0:k0=k+1:=q0.trans (wrap1 (by omega) (by omega))
  obtain⟨k1,q1⟩:∃z,z=IntKind.i64.wrap (k0+1):=⟨_,rfl⟩
  have g1:k1=k0+1:=q1.trans (wrap1 (by omega) (by omega))
  obtain⟨k2,q2⟩:∃z,z=IntKind.i64.wrap (k1+1):=⟨_,rfl⟩
  have g2:k2=k1+1:=q2.trans (wrap1 (by omega) (by omega))
  obtain⟨k3,q3⟩:∃z,z=IntKind.i64.wrap (k2+1):=⟨_,rfl⟩
  have g3:k3=k2+1:=q3.trans (wrap1 (by omega) (by omega))
  obtain⟨k4,q4⟩:∃z,z=IntKind.i64.wrap (k3+1):=⟨_,rfl⟩
  have g4:k4=k3+1:=q4.trans (wrap1 (by omega) (by omega))
  have p5:MkP (a0[i].Saved.length) (cntL cn_Keeper a0[i].Saved) k4:=⟨by omega,by omega,by omega⟩
  have f5:=mkL_ok mk_Keeper_ok a0[i].Saved k4 (by omega) (by omega)
  obtain⟨k5,q5⟩:∃z,z=(mkL mk_Keeper a0[i].Saved k4).2:=⟨_,rfl⟩
  have g5:k5=k4+cntL cn_Keeper a0[i].Saved:=q5.trans f5.1
  obtain⟨k6,q6⟩:∃z,z=IntKind.i64.wrap (k5+1):=⟨_,rfl⟩
  have g6:k6=k5+1:=q6.trans (wrap1 (by omega) (by omega))
  simp only[lt_i hi,cond_true,atq_nat hi,hx,atq_set hi,atq_nat (show i<(l.set i _).length by simpa using hi),List.set_set,List.getElem_set_self,bd_s,toNat_i,three_ne,gd_T,mk_KeeperHost,←q0,←q1,←q2,←q3,←q4,←q5,←q6,gd_t p5]) (fun rec k l=>by simp only[ge_i,cond_false])]
 rfl
theorem t_laws_markNoticeS (a0:List D.Notice)(a1:Int)(h:MkP (a0.length) (cntL cn_Notice a0) a1):m_laws_markNoticeS a0 a1=some (mkL mk_Notice a0 a1):=by
 obtain⟨hs,h0,h1⟩:=h
 unfold m_laws_markNoticeS
 rw[markLoop mk_Notice_ok h0 h1 (by omega) (fun rec k i l hi hi0 hx hk0 hk1=>by
  unfold cn_Notice at hk1
  obtain⟨k0,q0⟩:∃z,z=IntKind.i64.wrap (k+1):=⟨_,rfl⟩
  have g0:k0=k+1:=q0.trans (wrap1 (by omega) (by omega))
  obtain⟨k1,q1⟩:∃z,z=IntKind.i64.wrap (k0+1):=⟨_,rfl⟩
  have g1:k1=k0+1:=q1.trans (wrap1 (by omega) (by omega))
  obtain⟨k2,q2⟩:∃z,z=IntKind.i64.wrap (k1+1):=⟨_,rfl⟩
  have g2:k2=k1+1:=q2.trans (wrap1 (by omega) (by omega))
  obtain⟨k3,q3⟩:∃z,z=IntKind.i64.wrap (k2+1):=⟨_,rfl⟩
  have g3:k3=k2+1:=q3.trans (wrap1 (by omega) (by omega))
  simp only[lt_i hi,cond_true,atq_nat hi,hx,atq_set hi,atq_nat (show i<(l.set i _).length by simpa using hi),List.set_set,List.getElem_set_self,bd_s,toNat_i,three_ne,gd_T,mk_Notice,←q0,←q1,←q2,←q3]) (fun rec k l=>by simp only[ge_i,cond_false])]
 rfl
theorem t_laws_markMailbox (a0:D.Mailbox)(a1:Int)(h:MkP (a0.sz) (cv_Mailbox a0) a1):m_laws_markMailbox a0 a1=some (mv_Mailbox a0 a1):=by
 obtain⟨hs,h0,h1⟩:=h
 unfold cv_Mailbox at h1
 simp only[D.Mailbox.sz] at hs
 unfold m_laws_markMailbox mv_Mailbox
 rw[gd_t (show MkP _ _ _ from⟨by omega,by omega,by omega⟩)]
 have f0:=mkL_ok mk_Notice_ok a0.Notices a1 (by omega) (by omega)
 obtain⟨k0,q0⟩:∃z,z=(mkL mk_Notice a0.Notices a1).2:=⟨_,rfl⟩
 have g0:k0=a1+cntL cn_Notice a0.Notices:=q0.trans f0.1
 simp only[bd_s,←q0]
theorem t_laws_markWorld (a0:D.World)(a1:Int)(h:MkP (a0.sz) (cv_World a0) a1):m_laws_markWorld a0 a1=some (mv_World a0 a1):=by
 obtain⟨hs,h0,h1⟩:=h
 unfold cv_World at h1
 simp only[D.Cloud.sz,D.EpochBoxes.sz,D.Mailbox.sz,D.Vault.sz,D.World.sz] at hs
 unfold m_laws_markWorld mv_World
 rw[gd_t (show MkP _ _ _ from⟨by omega,by omega,by omega⟩)]
 have f0:=mkL_ok mk_Device_ok a0.Devices a1 (by omega) (by omega)
 obtain⟨k0,q0⟩:∃z,z=(mkL mk_Device a0.Devices a1).2:=⟨_,rfl⟩
 have g0:k0=a1+cntL cn_Device a0.Devices:=q0.trans f0.1
 simp only[bd_s,←q0]
 rw[gd_t (show MkP _ _ _ from⟨by omega,by omega,by omega⟩)]
 have f1:=mkL_ok mkB_ok a0.Stolen k0 (by omega) (by omega)
 obtain⟨k1,q1⟩:∃z,z=(mkL mkB a0.Stolen k0).2:=⟨_,rfl⟩
 have g1:k1=k0+cntL cn1 a0.Stolen:=q1.trans f1.1
 simp only[bd_s,←q1]
 rw[gd_t (show MkP _ _ _ from⟨by simp only[D.Cloud.sz,D.EpochBoxes.sz];omega,by omega,by unfold cv_Cloud;omega⟩)]
 simp only[bd_s,mv_Cloud]
 have f2:=mkL_ok mk_LogEntry_ok a0.Cloud.Log k1 (by omega) (by omega)
 obtain⟨k2,q2⟩:∃z,z=(mkL mk_LogEntry a0.Cloud.Log k1).2:=⟨_,rfl⟩
 have g2:k2=k1+cntL cn_LogEntry a0.Cloud.Log:=q2.trans f2.1
 simp only[←q2]
 have f3:=mkL_ok mk_Box_ok a0.Cloud.Boxes.Boxes k2 (by omega) (by omega)
 obtain⟨k3,q3⟩:∃z,z=(mkL mk_Box a0.Cloud.Boxes.Boxes k2).2:=⟨_,rfl⟩
 have g3:k3=k2+cntL cn_Box a0.Cloud.Boxes.Boxes:=q3.trans f3.1
 simp only[←q3]
 have f4:=mkL_ok mk_SealedBundle_ok a0.Cloud.History k3 (by omega) (by omega)
 obtain⟨k4,q4⟩:∃z,z=(mkL mk_SealedBundle a0.Cloud.History k3).2:=⟨_,rfl⟩
 have g4:k4=k3+cntL cn_SealedBundle a0.Cloud.History:=q4.trans f4.1
 simp only[←q4]
 rw[gd_t (show MkP _ _ _ from⟨by omega,by omega,by omega⟩)]
 have f5:=mkL_ok mk_Site_ok a0.Sites k4 (by omega) (by omega)
 obtain⟨k5,q5⟩:∃z,z=(mkL mk_Site a0.Sites k4).2:=⟨_,rfl⟩
 have g5:k5=k4+cntL cn_Site a0.Sites:=q5.trans f5.1
 simp only[bd_s,←q5]
 rw[gd_t (show MkP _ _ _ from⟨by omega,by omega,by omega⟩)]
 have f6:=mkL_ok mk_KeeperHost_ok a0.Hosts k5 (by omega) (by omega)
 obtain⟨k6,q6⟩:∃z,z=(mkL mk_KeeperHost a0.Hosts k5).2:=⟨_,rfl⟩
 have g6:k6=k5+cntL cn_KeeperHost a0.Hosts:=q6.trans f6.1
 simp only[bd_s,←q6]
 rw[gd_t (show MkP _ _ _ from⟨by simp only[D.Mailbox.sz];omega,by omega,by unfold cv_Mailbox;omega⟩)]
 simp only[bd_s,mv_Mailbox]
theorem t_laws_heldLogEntryS (a0:List D.LogEntry)(a1:Int)(h:HeldP (mkL mk_LogEntry) (cntL cn_LogEntry) a0 a1):m_laws_heldLogEntryS a0 a1=some (a1+((cntL cn_LogEntry a0:Nat):Int)):=by
 have hlen:=cntL_ge cn_LogEntry_ge a0
 have h1:=h.1
 have h2:=h.2.1
 unfold m_laws_heldLogEntryS
 rw[heldLoop mk_LogEntry_ok h (by omega) (fun rec k i hi hP=>by
  clear h hlen h1 h2
  obtain⟨p1,p2,x,p3,p4⟩:=hP
  rw[←p4] at p2
  unfold cn_LogEntry at p2
  have b0:0≤k:=by omega
  have d0:k+1≤4611686018427387904:=by omega
  have b1:0≤k+1:=by omega
  have d1:k+1+1≤4611686018427387904:=by omega
  have b2:0≤k+1+1:=by omega
  have d2:k+1+1+1≤4611686018427387904:=by omega
  have b3:0≤k+1+1+1:=by omega
  have d3:k+1+1+1+1≤4611686018427387904:=by omega
  have b4:0≤k+1+1+1+1:=by omega
  have d4:k+1+1+1+1+1≤4611686018427387904:=by omega
  have b5:0≤k+1+1+1+1+1:=by omega
  have d5:k+1+1+1+1+1+1≤4611686018427387904:=by omega
  have nn:k+1+1+1+1+1+1=k+((cn_LogEntry x:Nat):Int):=by unfold cn_LogEntry;omega
  have e0:a0[i].Index=k:=by rw[p3];simp only[mk_LogEntry]
  have w0:IntKind.i64.wrap (k+1)=k+1:=wrap1 b0 d0
  have e1:a0[i].Kind=(k+1):=by rw[p3];simp only[mk_LogEntry,w0]
  have w1:IntKind.i64.wrap (k+1+1)=k+1+1:=wrap1 b1 d1
  have e2:a0[i].Device=(k+1+1):=by rw[p3];simp only[mk_LogEntry,w0,w1]
  have w2:IntKind.i64.wrap (k+1+1+1)=k+1+1+1:=wrap1 b2 d2
  have e3:a0[i].By=(k+1+1+1):=by rw[p3];simp only[mk_LogEntry,w0,w1,w2]
  have w3:IntKind.i64.wrap (k+1+1+1+1)=k+1+1+1+1:=wrap1 b3 d3
  have e4:a0[i].Previous=(k+1+1+1+1):=by rw[p3];simp only[mk_LogEntry,w0,w1,w2,w3]
  have w4:IntKind.i64.wrap (k+1+1+1+1+1)=k+1+1+1+1+1:=wrap1 b4 d4
  have e5:a0[i].Signature=(k+1+1+1+1+1):=by rw[p3];simp only[mk_LogEntry,w0,w1,w2,w3,w4]
  have w5:IntKind.i64.wrap (k+1+1+1+1+1+1)=k+1+1+1+1+1+1:=wrap1 b5 d5
  simp only[lt_i hi,cond_true,atq_nat hi,e0,w0,e1,w1,e2,w2,e3,w3,e4,w4,e5,w5,bne_self_eq_false,beq_self_eq_true,Bool.not_true,cond_false,bd_s,three_ne,gd_T]
  rw[←p4,←nn]) (fun rec k=>by simp only[ge_i,cond_false])]
 rfl
theorem t_laws_heldEntryS (a0:List D.Entry)(a1:Int)(h:HeldP (mkL mk_Entry) (cntL cn_Entry) a0 a1):m_laws_heldEntryS a0 a1=some (a1+((cntL cn_Entry a0:Nat):Int)):=by
 have hlen:=cntL_ge cn_Entry_ge a0
 have h1:=h.1
 have h2:=h.2.1
 unfold m_laws_heldEntryS
 rw[heldLoop mk_Entry_ok h (by omega) (fun rec k i hi hP=>by
  clear h hlen h1 h2
  obtain⟨p1,p2,x,p3,p4⟩:=hP
  rw[←p4] at p2
  unfold cn_Entry at p2
  have b0:0≤k:=by omega
  have d0:k+1≤4611686018427387904:=by omega
  have b1:0≤k+1:=by omega
  have d1:k+1+1≤4611686018427387904:=by omega
  have b2:0≤k+1+1:=by omega
  have d2:k+1+1+1≤4611686018427387904:=by omega
  have b3:0≤k+1+1+1:=by omega
  have d3:k+1+1+1+1≤4611686018427387904:=by omega
  have nn:k+1+1+1+1=k+((cn_Entry x:Nat):Int):=by unfold cn_Entry;omega
  have e0:a0[i].Site=k:=by rw[p3];simp only[mk_Entry]
  have w0:IntKind.i64.wrap (k+1)=k+1:=wrap1 b0 d0
  have e1:a0[i].Handle=(k+1):=by rw[p3];simp only[mk_Entry,w0]
  have w1:IntKind.i64.wrap (k+1+1)=k+1+1:=wrap1 b1 d1
  have e2:a0[i].Version=(k+1+1):=by rw[p3];simp only[mk_Entry,w0,w1]
  have w2:IntKind.i64.wrap (k+1+1+1)=k+1+1+1:=wrap1 b2 d2
  have e3:a0[i].Deleted=((k+1+1+1).tmod 3==0):=by rw[p3];simp only[mk_Entry,w0,w1,w2]
  have w3:IntKind.i64.wrap (k+1+1+1+1)=k+1+1+1+1:=wrap1 b3 d3
  simp only[lt_i hi,cond_true,atq_nat hi,e0,w0,e1,w1,e2,w2,e3,w3,bne_self_eq_false,beq_self_eq_true,Bool.not_true,cond_false,bd_s,three_ne,gd_T]
  rw[←p4,←nn]) (fun rec k=>by simp only[ge_i,cond_false])]
 rfl
theorem t_laws_heldDeviceS (a0:List D.Device)(a1:Int)(h:HeldP (mkL mk_Device) (cntL cn_Device) a0 a1):m_laws_heldDeviceS a0 a1=some (a1+((cntL cn_Device a0:Nat):Int)):=by
 have hlen:=cntL_ge cn_Device_ge a0
 have h1:=h.1
 have h2:=h.2.1
 unfold m_laws_heldDeviceS
 rw[heldLoop mk_Device_ok h (by omega) (fun rec k i hi hP=>by
  clear h hlen h1 h2
  obtain⟨p1,p2,x,p3,p4⟩:=hP
  rw[←p4] at p2
  unfold cn_Device at p2
  have b0:0≤k:=by omega
  have d0:k+1≤4611686018427387904:=by omega
  have b1:0≤k+1:=by omega
  have d1:k+1+1≤4611686018427387904:=by omega
  have b2:0≤k+1+1:=by omega
  have d2:k+1+1+1≤4611686018427387904:=by omega
  have b3:0≤k+1+1+1:=by omega
  have d3:k+1+1+1+1≤4611686018427387904:=by omega
  have b4:0≤k+1+1+1+1:=by omega
  have d4:k+1+1+1+1+((cntL cn_LogEntry x.Log:Nat):Int)≤4611686018427387904:=by omega
  have t4:decide (k+1+1+1+1+((cntL cn_LogEntry x.Log:Nat):Int)<0)=false:=decide_eq_false (by omega)
  have b5:0≤k+1+1+1+1+((cntL cn_LogEntry x.Log:Nat):Int):=by omega
  have d5:k+1+1+1+1+((cntL cn_LogEntry x.Log:Nat):Int)+1≤4611686018427387904:=by omega
  have b6:0≤k+1+1+1+1+((cntL cn_LogEntry x.Log:Nat):Int)+1:=by omega
  have d6:k+1+1+1+1+((cntL cn_LogEntry x.Log:Nat):Int)+1+1≤4611686018427387904:=by omega
  have b7:0≤k+1+1+1+1+((cntL cn_LogEntry x.Log:Nat):Int)+1+1:=by omega
  have d7:k+1+1+1+1+((cntL cn_LogEntry x.Log:Nat):Int)+1+1+1≤4611686018427387904:=by omega
  have b8:0≤k+1+1+1+1+((cntL cn_LogEntry x.Log:Nat):Int)+1+1+1:=by omega
  have d8:k+1+1+1+1+((cntL cn_LogEntry x.Log:Nat):Int)+1+1+1+((cntL cn_Entry x.Bundle.Entries:Nat):Int)≤4611686018427387904:=by omega
  have t8:decide (k+1+1+1+1+((cntL cn_LogEntry x.Log:Nat):Int)+1+1+1+((cntL cn_Entry x.Bundle.Entries:Nat):Int)<0)=false:=decide_eq_false (by omega)
  have nn:k+1+1+1+1+((cntL cn_LogEntry x.Log:Nat):Int)+1+1+1+((cntL cn_Entry x.Bundle.Entries:Nat):Int)=k+((cn_Device x:Nat):Int):=by unfold cn_Device;omega
  have e0:a0[i].Store.Vendor=k:=by rw[p3];simp only[mk_Device]
  have w0:IntKind.i64.wrap (k+1)=k+1:=wrap1 b0 d0
  have e1:a0[i].Store.Serial=(k+1):=by rw[p3];simp only[mk_Device,w0]
  have w1:IntKind.i64.wrap (k+1+1)=k+1+1:=wrap1 b1 d1
  have e2:a0[i].Store.Seed=(k+1+1):=by rw[p3];simp only[mk_Device,w0,w1]
  have w2:IntKind.i64.wrap (k+1+1+1)=k+1+1+1:=wrap1 b2 d2
  have e3:a0[i].Store.Counter=(k+1+1+1):=by rw[p3];simp only[mk_Device,w0,w1,w2]
  have w3:IntKind.i64.wrap (k+1+1+1+1)=k+1+1+1+1:=wrap1 b3 d3
  have f4:=mkL_ok mk_LogEntry_ok x.Log (k+1+1+1+1) b4 d4
  have e4:a0[i].Log=(mkL mk_LogEntry x.Log (k+1+1+1+1)).1:=by rw[p3];simp only[mk_Device,w0,w1,w2,w3]
  have m4:=f4.1
  have c4:cntL cn_LogEntry a0[i].Log=cntL cn_LogEntry x.Log:=by rw[e4];exact f4.2
  have h4:HeldP (mkL mk_LogEntry) (cntL cn_LogEntry) a0[i].Log (k+1+1+1+1):=heldP_of b4 d4 e4 c4
  have e5:a0[i].Key=(k+1+1+1+1+((cntL cn_LogEntry x.Log:Nat):Int)):=by rw[p3];simp only[mk_Device,w0,w1,w2,w3,m4]
  have w5:IntKind.i64.wrap (k+1+1+1+1+((cntL cn_LogEntry x.Log:Nat):Int)+1)=k+1+1+1+1+((cntL cn_LogEntry x.Log:Nat):Int)+1:=wrap1 b5 d5
  have e6:a0[i].Epoch=(k+1+1+1+1+((cntL cn_LogEntry x.Log:Nat):Int)+1):=by rw[p3];simp only[mk_Device,w0,w1,w2,w3,m4,w5]
  have w6:IntKind.i64.wrap (k+1+1+1+1+((cntL cn_LogEntry x.Log:Nat):Int)+1+1)=k+1+1+1+1+((cntL cn_LogEntry x.Log:Nat):Int)+1+1:=wrap1 b6 d6
  have e7:a0[i].Version=(k+1+1+1+1+((cntL cn_LogEntry x.Log:Nat):Int)+1+1):=by rw[p3];simp only[mk_Device,w0,w1,w2,w3,m4,w5,w6]
  have w7:IntKind.i64.wrap (k+1+1+1+1+((cntL cn_LogEntry x.Log:Nat):Int)+1+1+1)=k+1+1+1+1+((cntL cn_LogEntry x.Log:Nat):Int)+1+1+1:=wrap1 b7 d7
  have f8:=mkL_ok mk_Entry_ok x.Bundle.Entries (k+1+1+1+1+((cntL cn_LogEntry x.Log:Nat):Int)+1+1+1) b8 d8
  have e8:a0[i].Bundle.Entries=(mkL mk_Entry x.Bundle.Entries (k+1+1+1+1+((cntL cn_LogEntry x.Log:Nat):Int)+1+1+1)).1:=by rw[p3];simp only[mk_Device,w0,w1,w2,w3,m4,w5,w6,w7]
  have m8:=f8.1
  have c8:cntL cn_Entry a0[i].Bundle.Entries=cntL cn_Entry x.Bundle.Entries:=by rw[e8];exact f8.2
  have h8:HeldP (mkL mk_Entry) (cntL cn_Entry) a0[i].Bundle.Entries (k+1+1+1+1+((cntL cn_LogEntry x.Log:Nat):Int)+1+1+1):=heldP_of b8 d8 e8 c8
  simp only[lt_i hi,cond_true,atq_nat hi,e0,w0,e1,w1,e2,w2,e3,w3,gd_t h4,c4,t4,e5,w5,e6,w6,e7,w7,gd_t h8,c8,t8,bne_self_eq_false,beq_self_eq_true,Bool.not_true,cond_false,bd_s,three_ne,gd_T]
  rw[←p4,←nn]) (fun rec k=>by simp only[ge_i,cond_false])]
 rfl
theorem t_laws_heldBoolS (a0:List Bool)(a1:Int)(h:HeldP (mkL mkB) (cntL cn1) a0 a1):m_laws_heldBoolS a0 a1=some (a1+((cntL cn1 a0:Nat):Int)):=by
 have hlen:=cntL_ge (c:=cn1) (fun _=>Nat.le_refl _) a0
 have h1:=h.1
 have h2:=h.2.1
 unfold m_laws_heldBoolS
 rw[heldLoop mkB_ok h (by omega) (fun rec k i hi hP=>by
  obtain⟨p1,p2,x,p3,_⟩:=hP
  have p2:k+1≤4611686018427387904:=by simpa[cn1] using p2
  have e:a0[i]=(k.tmod 3==0):=p3
  simp only[lt_i hi,cond_true,atq_nat hi,e,bne_self_eq_false,beq_self_eq_true,Bool.not_true,cond_false,bd_s,wrap1 p1 p2,gd_t (show(3:Int)≠(0:Int) by omega)];rfl) (fun rec k=>by simp only[ge_i,cond_false])]
 rfl
theorem t_laws_heldByteS (a0:List Int)(a1:Int)(h:HeldP (mkL mkU) (cntL cn1) a0 a1):m_laws_heldByteS a0 a1=some (a1+((cntL cn1 a0:Nat):Int)):=by
 have hlen:=cntL_ge (c:=cn1) (fun _=>Nat.le_refl _) a0
 have h1:=h.1
 have h2:=h.2.1
 unfold m_laws_heldByteS
 rw[heldLoop mkU_ok h (by omega) (fun rec k i hi hP=>by
  obtain⟨p1,p2,x,p3,_⟩:=hP
  have p2:k+1≤4611686018427387904:=by simpa[cn1] using p2
  have e:a0[i]=IntKind.u8.wrap k:=p3
  simp only[lt_i hi,cond_true,atq_nat hi,e,bne_self_eq_false,beq_self_eq_true,Bool.not_true,cond_false,bd_s,wrap1 p1 p2,gd_t (show(3:Int)≠(0:Int) by omega)];rfl) (fun rec k=>by simp only[ge_i,cond_false])]
 rfl
theorem t_laws_heldBoxS (a0:List D.Box)(a1:Int)(h:HeldP (mkL mk_Box) (cntL cn_Box) a0 a1):m_laws_heldBoxS a0 a1=some (a1+((cntL cn_Box a0:Nat):Int)):=by
 have hlen:=cntL_ge cn_Box_ge a0
 have h1:=h.1
 have h2:=h.2.1
 unfold m_laws_heldBoxS
 rw[heldLoop mk_Box_ok h (by omega) (fun rec k i hi hP=>by
  clear h hlen h1 h2
  obtain⟨p1,p2,x,p3,p4⟩:=hP
  rw[←p4] at p2
  unfold cn_Box at p2
  have b0:0≤k:=by omega
  have d0:k+1≤4611686018427387904:=by omega
  have b1:0≤k+1:=by omega
  have d1:k+1+1≤4611686018427387904:=by omega
  have b2:0≤k+1+1:=by omega
  have d2:k+1+1+((cntL cn1 x.Data:Nat):Int)≤4611686018427387904:=by omega
  have t2:decide (k+1+1+((cntL cn1 x.Data:Nat):Int)<0)=false:=decide_eq_false (by omega)
  have b3:0≤k+1+1+((cntL cn1 x.Data:Nat):Int):=by omega
  have d3:k+1+1+((cntL cn1 x.Data:Nat):Int)+1≤4611686018427387904:=by omega
  have nn:k+1+1+((cntL cn1 x.Data:Nat):Int)+1=k+((cn_Box x:Nat):Int):=by unfold cn_Box;omega
  have e0:a0[i].To=k:=by rw[p3];simp only[mk_Box]
  have w0:IntKind.i64.wrap (k+1)=k+1:=wrap1 b0 d0
  have e1:a0[i].Ephemeral=(k+1):=by rw[p3];simp only[mk_Box,w0]
  have w1:IntKind.i64.wrap (k+1+1)=k+1+1:=wrap1 b1 d1
  have f2:=mkL_ok mkU_ok x.Data (k+1+1) b2 d2
  have e2:a0[i].Data=(mkL mkU x.Data (k+1+1)).1:=by rw[p3];simp only[mk_Box,w0,w1]
  have m2:=f2.1
  have c2:cntL cn1 a0[i].Data=cntL cn1 x.Data:=by rw[e2];exact f2.2
  have h2:HeldP (mkL mkU) (cntL cn1) a0[i].Data (k+1+1):=heldP_of b2 d2 e2 c2
  have e3:a0[i].MAC=(k+1+1+((cntL cn1 x.Data:Nat):Int)):=by rw[p3];simp only[mk_Box,w0,w1,m2]
  have w3:IntKind.i64.wrap (k+1+1+((cntL cn1 x.Data:Nat):Int)+1)=k+1+1+((cntL cn1 x.Data:Nat):Int)+1:=wrap1 b3 d3
  simp only[lt_i hi,cond_true,atq_nat hi,e0,w0,e1,w1,gd_t h2,c2,t2,e3,w3,bne_self_eq_false,beq_self_eq_true,Bool.not_true,cond_false,bd_s,three_ne,gd_T]
  rw[←p4,←nn]) (fun rec k=>by simp only[ge_i,cond_false])]
 rfl
theorem t_laws_heldEpochBoxes (a0:D.EpochBoxes)(k:Int)(h:HeldP mv_EpochBoxes cv_EpochBoxes a0 k):m_laws_heldEpochBoxes a0 k=some (k+((cv_EpochBoxes a0:Nat):Int)):=by
 obtain⟨p1,p2,x,p3,p4⟩:=h
 rw[←p4] at p2
 unfold cv_EpochBoxes at p2
 have b0:0≤k:=by omega
 have d0:k+(((cntL cn_Box) x.Boxes:Nat):Int)≤4611686018427387904:=by omega
 have t0:decide (k+(((cntL cn_Box) x.Boxes:Nat):Int)<0)=false:=decide_eq_false (by omega)
 have nn:k+(((cntL cn_Box) x.Boxes:Nat):Int)=k+((cv_EpochBoxes x:Nat):Int):=by simp only[cv_EpochBoxes]<;>omega
 have f0:=(mkL_ok mk_Box_ok) x.Boxes k b0 d0
 have e0:a0.Boxes=((mkL mk_Box) x.Boxes k).1:=by rw[p3];simp only[mv_EpochBoxes]
 have m0:=f0.1
 have c0:(cntL cn_Box) a0.Boxes=(cntL cn_Box) x.Boxes:=by rw[e0];exact f0.2
 have h0:HeldP (mkL mk_Box) (cntL cn_Box) a0.Boxes k:=heldP_of b0 d0 e0 c0
 unfold m_laws_heldEpochBoxes
 simp only[gd_t h0,c0,t0,cond_false,bd_s]
 rw[←p4,←nn]
theorem t_laws_heldSealedBundleS (a0:List D.SealedBundle)(a1:Int)(h:HeldP (mkL mk_SealedBundle) (cntL cn_SealedBundle) a0 a1):m_laws_heldSealedBundleS a0 a1=some (a1+((cntL cn_SealedBundle a0:Nat):Int)):=by
 have hlen:=cntL_ge cn_SealedBundle_ge a0
 have h1:=h.1
 have h2:=h.2.1
 unfold m_laws_heldSealedBundleS
 rw[heldLoop mk_SealedBundle_ok h (by omega) (fun rec k i hi hP=>by
  clear h hlen h1 h2
  obtain⟨p1,p2,x,p3,p4⟩:=hP
  rw[←p4] at p2
  unfold cn_SealedBundle at p2
  have b0:0≤k:=by omega
  have d0:k+1≤4611686018427387904:=by omega
  have b1:0≤k+1:=by omega
  have d1:k+1+1≤4611686018427387904:=by omega
  have b2:0≤k+1+1:=by omega
  have d2:k+1+1+((cntL cn1 x.Data:Nat):Int)≤4611686018427387904:=by omega
  have t2:decide (k+1+1+((cntL cn1 x.Data:Nat):Int)<0)=false:=decide_eq_false (by omega)
  have b3:0≤k+1+1+((cntL cn1 x.Data:Nat):Int):=by omega
  have d3:k+1+1+((cntL cn1 x.Data:Nat):Int)+1≤4611686018427387904:=by omega
  have nn:k+1+1+((cntL cn1 x.Data:Nat):Int)+1=k+((cn_SealedBundle x:Nat):Int):=by unfold cn_SealedBundle;omega
  have e0:a0[i].Epoch=k:=by rw[p3];simp only[mk_SealedBundle]
  have w0:IntKind.i64.wrap (k+1)=k+1:=wrap1 b0 d0
  have e1:a0[i].Version=(k+1):=by rw[p3];simp only[mk_SealedBundle,w0]
  have w1:IntKind.i64.wrap (k+1+1)=k+1+1:=wrap1 b1 d1
  have f2:=mkL_ok mkU_ok x.Data (k+1+1) b2 d2
  have e2:a0[i].Data=(mkL mkU x.Data (k+1+1)).1:=by rw[p3];simp only[mk_SealedBundle,w0,w1]
  have m2:=f2.1
  have c2:cntL cn1 a0[i].Data=cntL cn1 x.Data:=by rw[e2];exact f2.2
  have h2:HeldP (mkL mkU) (cntL cn1) a0[i].Data (k+1+1):=heldP_of b2 d2 e2 c2
  have e3:a0[i].MAC=(k+1+1+((cntL cn1 x.Data:Nat):Int)):=by rw[p3];simp only[mk_SealedBundle,w0,w1,m2]
  have w3:IntKind.i64.wrap (k+1+1+((cntL cn1 x.Data:Nat):Int)+1)=k+1+1+((cntL cn1 x.Data:Nat):Int)+1:=wrap1 b3 d3
  simp only[lt_i hi,cond_true,atq_nat hi,e0,w0,e1,w1,gd_t h2,c2,t2,e3,w3,bne_self_eq_false,beq_self_eq_true,Bool.not_true,cond_false,bd_s,three_ne,gd_T]
  rw[←p4,←nn]) (fun rec k=>by simp only[ge_i,cond_false])]
 rfl
theorem t_laws_heldCloud (a0:D.Cloud)(k:Int)(h:HeldP mv_Cloud cv_Cloud a0 k):m_laws_heldCloud a0 k=some (k+((cv_Cloud a0:Nat):Int)):=by
 obtain⟨p1,p2,x,p3,p4⟩:=h
 rw[←p4] at p2
 unfold cv_Cloud at p2
 have b0:0≤k:=by first|omega|(simp only[cv_EpochBoxes];omega)
 have d0:k+(((cntL cn_LogEntry) x.Log:Nat):Int)≤4611686018427387904:=by first|omega|(simp only[cv_EpochBoxes];omega)
 have t0:decide (k+(((cntL cn_LogEntry) x.Log:Nat):Int)<0)=false:=decide_eq_false (by first|omega|(simp only[cv_EpochBoxes];omega))
 have b1:0≤k+(((cntL cn_LogEntry) x.Log:Nat):Int):=by first|omega|(simp only[cv_EpochBoxes];omega)
 have d1:k+(((cntL cn_LogEntry) x.Log:Nat):Int)+((cv_EpochBoxes x.Boxes:Nat):Int)≤4611686018427387904:=by first|omega|(simp only[cv_EpochBoxes];omega)
 have t1:decide (k+(((cntL cn_LogEntry) x.Log:Nat):Int)+((cv_EpochBoxes x.Boxes:Nat):Int)<0)=false:=decide_eq_false (by first|omega|(simp only[cv_EpochBoxes];omega))
 have b2:0≤k+(((cntL cn_LogEntry) x.Log:Nat):Int)+((cv_EpochBoxes x.Boxes:Nat):Int):=by first|omega|(simp only[cv_EpochBoxes];omega)
 have d2:k+(((cntL cn_LogEntry) x.Log:Nat):Int)+((cv_EpochBoxes x.Boxes:Nat):Int)+(((cntL cn_SealedBundle) x.History:Nat):Int)≤4611686018427387904:=by first|omega|(simp only[cv_EpochBoxes];omega)
 have t2:decide (k+(((cntL cn_LogEntry) x.Log:Nat):Int)+((cv_EpochBoxes x.Boxes:Nat):Int)+(((cntL cn_SealedBundle) x.History:Nat):Int)<0)=false:=decide_eq_false (by first|omega|(simp only[cv_EpochBoxes];omega))
 have nn:k+(((cntL cn_LogEntry) x.Log:Nat):Int)+((cv_EpochBoxes x.Boxes:Nat):Int)+(((cntL cn_SealedBundle) x.History:Nat):Int)=k+((cv_Cloud x:Nat):Int):=by simp only[cv_Cloud,cv_EpochBoxes]<;>omega
 have f0:=(mkL_ok mk_LogEntry_ok) x.Log k b0 d0
 have e0:a0.Log=((mkL mk_LogEntry) x.Log k).1:=by rw[p3];simp only[mv_Cloud]
 have m0:=f0.1
 have c0:(cntL cn_LogEntry) a0.Log=(cntL cn_LogEntry) x.Log:=by rw[e0];exact f0.2
 have h0:HeldP (mkL mk_LogEntry) (cntL cn_LogEntry) a0.Log k:=heldP_of b0 d0 e0 c0
 have f1:=mv_EpochBoxes_ok x.Boxes (k+(((cntL cn_LogEntry) x.Log:Nat):Int)) b1 d1
 have e1:a0.Boxes=(mv_EpochBoxes x.Boxes (k+(((cntL cn_LogEntry) x.Log:Nat):Int))).1:=by rw[p3];simp only[mv_Cloud,mv_EpochBoxes,m0]
 have m1:=f1.1
 simp only[mv_EpochBoxes,m0] at m1
 have c1:cv_EpochBoxes a0.Boxes=cv_EpochBoxes x.Boxes:=by rw[e1];exact f1.2
 have h1:HeldP mv_EpochBoxes cv_EpochBoxes a0.Boxes (k+(((cntL cn_LogEntry) x.Log:Nat):Int)):=heldP_of b1 d1 e1 c1
 have f2:=(mkL_ok mk_SealedBundle_ok) x.History (k+(((cntL cn_LogEntry) x.Log:Nat):Int)+((cv_EpochBoxes x.Boxes:Nat):Int)) b2 d2
 have e2:a0.History=((mkL mk_SealedBundle) x.History (k+(((cntL cn_LogEntry) x.Log:Nat):Int)+((cv_EpochBoxes x.Boxes:Nat):Int))).1:=by rw[p3];simp only[mv_Cloud,m0,m1]
 have m2:=f2.1
 have c2:(cntL cn_SealedBundle) a0.History=(cntL cn_SealedBundle) x.History:=by rw[e2];exact f2.2
 have h2:HeldP (mkL mk_SealedBundle) (cntL cn_SealedBundle) a0.History (k+(((cntL cn_LogEntry) x.Log:Nat):Int)+((cv_EpochBoxes x.Boxes:Nat):Int)):=heldP_of b2 d2 e2 c2
 unfold m_laws_heldCloud
 simp only[gd_t h0,c0,t0,gd_t h1,c1,t1,gd_t h2,c2,t2,cond_false,bd_s]
 rw[←p4,←nn]
theorem t_laws_heldCredentialS (a0:List D.Credential)(a1:Int)(h:HeldP (mkL mk_Credential) (cntL cn_Credential) a0 a1):m_laws_heldCredentialS a0 a1=some (a1+((cntL cn_Credential a0:Nat):Int)):=by
 have hlen:=cntL_ge cn_Credential_ge a0
 have h1:=h.1
 have h2:=h.2.1
 unfold m_laws_heldCredentialS
 rw[heldLoop mk_Credential_ok h (by omega) (fun rec k i hi hP=>by
  clear h hlen h1 h2
  obtain⟨p1,p2,x,p3,p4⟩:=hP
  rw[←p4] at p2
  unfold cn_Credential at p2
  have b0:0≤k:=by omega
  have d0:k+1≤4611686018427387904:=by omega
  have b1:0≤k+1:=by omega
  have d1:k+1+1≤4611686018427387904:=by omega
  have b2:0≤k+1+1:=by omega
  have d2:k+1+1+1≤4611686018427387904:=by omega
  have b3:0≤k+1+1+1:=by omega
  have d3:k+1+1+1+1≤4611686018427387904:=by omega
  have nn:k+1+1+1+1=k+((cn_Credential x:Nat):Int):=by unfold cn_Credential;omega
  have e0:a0[i].Handle=k:=by rw[p3];simp only[mk_Credential]
  have w0:IntKind.i64.wrap (k+1)=k+1:=wrap1 b0 d0
  have e1:a0[i].Public=(k+1):=by rw[p3];simp only[mk_Credential,w0]
  have w1:IntKind.i64.wrap (k+1+1)=k+1+1:=wrap1 b1 d1
  have e2:a0[i].Counter=(k+1+1):=by rw[p3];simp only[mk_Credential,w0,w1]
  have w2:IntKind.i64.wrap (k+1+1+1)=k+1+1+1:=wrap1 b2 d2
  have e3:a0[i].Cut=((k+1+1+1).tmod 3==0):=by rw[p3];simp only[mk_Credential,w0,w1,w2]
  have w3:IntKind.i64.wrap (k+1+1+1+1)=k+1+1+1+1:=wrap1 b3 d3
  simp only[lt_i hi,cond_true,atq_nat hi,e0,w0,e1,w1,e2,w2,e3,w3,bne_self_eq_false,beq_self_eq_true,Bool.not_true,cond_false,bd_s,three_ne,gd_T]
  rw[←p4,←nn]) (fun rec k=>by simp only[ge_i,cond_false])]
 rfl
theorem t_laws_heldAccountS (a0:List D.Account)(a1:Int)(h:HeldP (mkL mk_Account) (cntL cn_Account) a0 a1):m_laws_heldAccountS a0 a1=some (a1+((cntL cn_Account a0:Nat):Int)):=by
 have hlen:=cntL_ge cn_Account_ge a0
 have h1:=h.1
 have h2:=h.2.1
 unfold m_laws_heldAccountS
 rw[heldLoop mk_Account_ok h (by omega) (fun rec k i hi hP=>by
  clear h hlen h1 h2
  obtain⟨p1,p2,x,p3,p4⟩:=hP
  rw[←p4] at p2
  unfold cn_Account at p2
  have b0:0≤k:=by omega
  have d0:k+1≤4611686018427387904:=by omega
  have b1:0≤k+1:=by omega
  have d1:k+1+1≤4611686018427387904:=by omega
  have b2:0≤k+1+1:=by omega
  have d2:k+1+1+((cntL cn_Credential x.Credentials:Nat):Int)≤4611686018427387904:=by omega
  have t2:decide (k+1+1+((cntL cn_Credential x.Credentials:Nat):Int)<0)=false:=decide_eq_false (by omega)
  have nn:k+1+1+((cntL cn_Credential x.Credentials:Nat):Int)=k+((cn_Account x:Nat):Int):=by unfold cn_Account;omega
  have e0:a0[i].Id=k:=by rw[p3];simp only[mk_Account]
  have w0:IntKind.i64.wrap (k+1)=k+1:=wrap1 b0 d0
  have e1:a0[i].Minimum=(k+1):=by rw[p3];simp only[mk_Account,w0]
  have w1:IntKind.i64.wrap (k+1+1)=k+1+1:=wrap1 b1 d1
  have f2:=mkL_ok mk_Credential_ok x.Credentials (k+1+1) b2 d2
  have e2:a0[i].Credentials=(mkL mk_Credential x.Credentials (k+1+1)).1:=by rw[p3];simp only[mk_Account,w0,w1]
  have m2:=f2.1
  have c2:cntL cn_Credential a0[i].Credentials=cntL cn_Credential x.Credentials:=by rw[e2];exact f2.2
  have h2:HeldP (mkL mk_Credential) (cntL cn_Credential) a0[i].Credentials (k+1+1):=heldP_of b2 d2 e2 c2
  simp only[lt_i hi,cond_true,atq_nat hi,e0,w0,e1,w1,gd_t h2,c2,t2,bne_self_eq_false,beq_self_eq_true,Bool.not_true,cond_false,bd_s,three_ne,gd_T]
  rw[←p4,←nn]) (fun rec k=>by simp only[ge_i,cond_false])]
 rfl
theorem t_laws_heldChallengeS (a0:List D.Challenge)(a1:Int)(h:HeldP (mkL mk_Challenge) (cntL cn_Challenge) a0 a1):m_laws_heldChallengeS a0 a1=some (a1+((cntL cn_Challenge a0:Nat):Int)):=by
 have hlen:=cntL_ge cn_Challenge_ge a0
 have h1:=h.1
 have h2:=h.2.1
 unfold m_laws_heldChallengeS
 rw[heldLoop mk_Challenge_ok h (by omega) (fun rec k i hi hP=>by
  clear h hlen h1 h2
  obtain⟨p1,p2,x,p3,p4⟩:=hP
  rw[←p4] at p2
  unfold cn_Challenge at p2
  have b0:0≤k:=by omega
  have d0:k+1≤4611686018427387904:=by omega
  have b1:0≤k+1:=by omega
  have d1:k+1+1≤4611686018427387904:=by omega
  have b2:0≤k+1+1:=by omega
  have d2:k+1+1+1≤4611686018427387904:=by omega
  have nn:k+1+1+1=k+((cn_Challenge x:Nat):Int):=by unfold cn_Challenge;omega
  have e0:a0[i].Id=k:=by rw[p3];simp only[mk_Challenge]
  have w0:IntKind.i64.wrap (k+1)=k+1:=wrap1 b0 d0
  have e1:a0[i].Account=(k+1):=by rw[p3];simp only[mk_Challenge,w0]
  have w1:IntKind.i64.wrap (k+1+1)=k+1+1:=wrap1 b1 d1
  have e2:a0[i].Until=(k+1+1):=by rw[p3];simp only[mk_Challenge,w0,w1]
  have w2:IntKind.i64.wrap (k+1+1+1)=k+1+1+1:=wrap1 b2 d2
  simp only[lt_i hi,cond_true,atq_nat hi,e0,w0,e1,w1,e2,w2,bne_self_eq_false,beq_self_eq_true,Bool.not_true,cond_false,bd_s,three_ne,gd_T]
  rw[←p4,←nn]) (fun rec k=>by simp only[ge_i,cond_false])]
 rfl
theorem t_laws_heldIntS (a0:List Int)(a1:Int)(h:HeldP (mkL mkI) (cntL cn1) a0 a1):m_laws_heldIntS a0 a1=some (a1+((cntL cn1 a0:Nat):Int)):=by
 have hlen:=cntL_ge (c:=cn1) (fun _=>Nat.le_refl _) a0
 have h1:=h.1
 have h2:=h.2.1
 unfold m_laws_heldIntS
 rw[heldLoop mkI_ok h (by omega) (fun rec k i hi hP=>by
  obtain⟨p1,p2,x,p3,_⟩:=hP
  have p2:k+1≤4611686018427387904:=by simpa[cn1] using p2
  have e:a0[i]=k:=p3
  simp only[lt_i hi,cond_true,atq_nat hi,e,bne_self_eq_false,beq_self_eq_true,Bool.not_true,cond_false,bd_s,wrap1 p1 p2,gd_t (show(3:Int)≠(0:Int) by omega)];rfl) (fun rec k=>by simp only[ge_i,cond_false])]
 rfl
theorem t_laws_heldSiteS (a0:List D.Site)(a1:Int)(h:HeldP (mkL mk_Site) (cntL cn_Site) a0 a1):m_laws_heldSiteS a0 a1=some (a1+((cntL cn_Site a0:Nat):Int)):=by
 have hlen:=cntL_ge cn_Site_ge a0
 have h1:=h.1
 have h2:=h.2.1
 unfold m_laws_heldSiteS
 rw[heldLoop mk_Site_ok h (by omega) (fun rec k i hi hP=>by
  clear h hlen h1 h2
  obtain⟨p1,p2,x,p3,p4⟩:=hP
  rw[←p4] at p2
  unfold cn_Site at p2
  have b0:0≤k:=by omega
  have d0:k+1≤4611686018427387904:=by omega
  have z0:k≤4611686018427387904:=by omega
  have b1:0≤k+1:=by omega
  have d1:k+1+((cntL cn_Account x.Accounts:Nat):Int)≤4611686018427387904:=by omega
  have t1:decide (k+1+((cntL cn_Account x.Accounts:Nat):Int)<0)=false:=decide_eq_false (by omega)
  have b2:0≤k+1+((cntL cn_Account x.Accounts:Nat):Int):=by omega
  have d2:k+1+((cntL cn_Account x.Accounts:Nat):Int)+1≤4611686018427387904:=by omega
  have b3:0≤k+1+((cntL cn_Account x.Accounts:Nat):Int)+1:=by omega
  have d3:k+1+((cntL cn_Account x.Accounts:Nat):Int)+1+1≤4611686018427387904:=by omega
  have b4:0≤k+1+((cntL cn_Account x.Accounts:Nat):Int)+1+1:=by omega
  have d4:k+1+((cntL cn_Account x.Accounts:Nat):Int)+1+1+((cntL cn_Challenge x.Book.Open:Nat):Int)≤4611686018427387904:=by omega
  have t4:decide (k+1+((cntL cn_Account x.Accounts:Nat):Int)+1+1+((cntL cn_Challenge x.Book.Open:Nat):Int)<0)=false:=decide_eq_false (by omega)
  have b5:0≤k+1+((cntL cn_Account x.Accounts:Nat):Int)+1+1+((cntL cn_Challenge x.Book.Open:Nat):Int):=by omega
  have d5:k+1+((cntL cn_Account x.Accounts:Nat):Int)+1+1+((cntL cn_Challenge x.Book.Open:Nat):Int)+((cntL cn1 x.Logins:Nat):Int)≤4611686018427387904:=by omega
  have t5:decide (k+1+((cntL cn_Account x.Accounts:Nat):Int)+1+1+((cntL cn_Challenge x.Book.Open:Nat):Int)+((cntL cn1 x.Logins:Nat):Int)<0)=false:=decide_eq_false (by omega)
  have nn:k+1+((cntL cn_Account x.Accounts:Nat):Int)+1+1+((cntL cn_Challenge x.Book.Open:Nat):Int)+((cntL cn1 x.Logins:Nat):Int)=k+((cn_Site x:Nat):Int):=by unfold cn_Site;omega
  have e0:a0[i].Name=(markTextF k):=by rw[p3];simp only[mk_Site]
  have s0:=markText_ok (k:=k) b0 z0
  have w0:IntKind.i64.wrap (k+1)=k+1:=wrap1 b0 d0
  have f1:=mkL_ok mk_Account_ok x.Accounts (k+1) b1 d1
  have e1:a0[i].Accounts=(mkL mk_Account x.Accounts (k+1)).1:=by rw[p3];simp only[mk_Site,w0]
  have m1:=f1.1
  have c1:cntL cn_Account a0[i].Accounts=cntL cn_Account x.Accounts:=by rw[e1];exact f1.2
  have h1:HeldP (mkL mk_Account) (cntL cn_Account) a0[i].Accounts (k+1):=heldP_of b1 d1 e1 c1
  have e2:a0[i].Book.Seed=(k+1+((cntL cn_Account x.Accounts:Nat):Int)):=by rw[p3];simp only[mk_Site,w0,m1]
  have w2:IntKind.i64.wrap (k+1+((cntL cn_Account x.Accounts:Nat):Int)+1)=k+1+((cntL cn_Account x.Accounts:Nat):Int)+1:=wrap1 b2 d2
  have e3:a0[i].Book.Next=(k+1+((cntL cn_Account x.Accounts:Nat):Int)+1):=by rw[p3];simp only[mk_Site,w0,m1,w2]
  have w3:IntKind.i64.wrap (k+1+((cntL cn_Account x.Accounts:Nat):Int)+1+1)=k+1+((cntL cn_Account x.Accounts:Nat):Int)+1+1:=wrap1 b3 d3
  have f4:=mkL_ok mk_Challenge_ok x.Book.Open (k+1+((cntL cn_Account x.Accounts:Nat):Int)+1+1) b4 d4
  have e4:a0[i].Book.Open=(mkL mk_Challenge x.Book.Open (k+1+((cntL cn_Account x.Accounts:Nat):Int)+1+1)).1:=by rw[p3];simp only[mk_Site,w0,m1,w2,w3]
  have m4:=f4.1
  have c4:cntL cn_Challenge a0[i].Book.Open=cntL cn_Challenge x.Book.Open:=by rw[e4];exact f4.2
  have h4:HeldP (mkL mk_Challenge) (cntL cn_Challenge) a0[i].Book.Open (k+1+((cntL cn_Account x.Accounts:Nat):Int)+1+1):=heldP_of b4 d4 e4 c4
  have f5:=mkL_ok mkI_ok x.Logins (k+1+((cntL cn_Account x.Accounts:Nat):Int)+1+1+((cntL cn_Challenge x.Book.Open:Nat):Int)) b5 d5
  have e5:a0[i].Logins=(mkL mkI x.Logins (k+1+((cntL cn_Account x.Accounts:Nat):Int)+1+1+((cntL cn_Challenge x.Book.Open:Nat):Int))).1:=by rw[p3];simp only[mk_Site,w0,m1,w2,w3,m4]
  have m5:=f5.1
  have c5:cntL cn1 a0[i].Logins=cntL cn1 x.Logins:=by rw[e5];exact f5.2
  have h5:HeldP (mkL mkI) (cntL cn1) a0[i].Logins (k+1+((cntL cn_Account x.Accounts:Nat):Int)+1+1+((cntL cn_Challenge x.Book.Open:Nat):Int)):=heldP_of b5 d5 e5 c5
  simp only[lt_i hi,cond_true,atq_nat hi,s0,e0,w0,gd_t h1,c1,t1,e2,w2,e3,w3,gd_t h4,c4,t4,gd_t h5,c5,t5,bne_self_eq_false,beq_self_eq_true,Bool.not_true,cond_false,bd_s,three_ne,gd_T]
  rw[←p4,←nn]) (fun rec k=>by simp only[ge_i,cond_false])]
 rfl
theorem t_laws_heldKeeperS (a0:List D.Keeper)(a1:Int)(h:HeldP (mkL mk_Keeper) (cntL cn_Keeper) a0 a1):m_laws_heldKeeperS a0 a1=some (a1+((cntL cn_Keeper a0:Nat):Int)):=by
 have hlen:=cntL_ge cn_Keeper_ge a0
 have h1:=h.1
 have h2:=h.2.1
 unfold m_laws_heldKeeperS
 rw[heldLoop mk_Keeper_ok h (by omega) (fun rec k i hi hP=>by
  clear h hlen h1 h2
  obtain⟨p1,p2,x,p3,p4⟩:=hP
  rw[←p4] at p2
  unfold cn_Keeper at p2
  have b0:0≤k:=by omega
  have d0:k+1≤4611686018427387904:=by omega
  have b1:0≤k+1:=by omega
  have d1:k+1+1≤4611686018427387904:=by omega
  have b2:0≤k+1+1:=by omega
  have d2:k+1+1+1≤4611686018427387904:=by omega
  have b3:0≤k+1+1+1:=by omega
  have d3:k+1+1+1+1≤4611686018427387904:=by omega
  have b4:0≤k+1+1+1+1:=by omega
  have d4:k+1+1+1+1+1≤4611686018427387904:=by omega
  have nn:k+1+1+1+1+1=k+((cn_Keeper x:Nat):Int):=by unfold cn_Keeper;omega
  have e0:a0[i].Share.Index=k:=by rw[p3];simp only[mk_Keeper]
  have w0:IntKind.i64.wrap (k+1)=k+1:=wrap1 b0 d0
  have e1:a0[i].Share.Value=(k+1):=by rw[p3];simp only[mk_Keeper,w0]
  have w1:IntKind.i64.wrap (k+1+1)=k+1+1:=wrap1 b1 d1
  have e2:a0[i].Epoch=(k+1+1):=by rw[p3];simp only[mk_Keeper,w0,w1]
  have w2:IntKind.i64.wrap (k+1+1+1)=k+1+1+1:=wrap1 b2 d2
  have e3:a0[i].Guesses=(k+1+1+1):=by rw[p3];simp only[mk_Keeper,w0,w1,w2]
  have w3:IntKind.i64.wrap (k+1+1+1+1)=k+1+1+1+1:=wrap1 b3 d3
  have e4:a0[i].Limit=(k+1+1+1+1):=by rw[p3];simp only[mk_Keeper,w0,w1,w2,w3]
  have w4:IntKind.i64.wrap (k+1+1+1+1+1)=k+1+1+1+1+1:=wrap1 b4 d4
  simp only[lt_i hi,cond_true,atq_nat hi,e0,w0,e1,w1,e2,w2,e3,w3,e4,w4,bne_self_eq_false,beq_self_eq_true,Bool.not_true,cond_false,bd_s,three_ne,gd_T]
  rw[←p4,←nn]) (fun rec k=>by simp only[ge_i,cond_false])]
 rfl
theorem t_laws_heldKeeperHostS (a0:List D.KeeperHost)(a1:Int)(h:HeldP (mkL mk_KeeperHost) (cntL cn_KeeperHost) a0 a1):m_laws_heldKeeperHostS a0 a1=some (a1+((cntL cn_KeeperHost a0:Nat):Int)):=by
 have hlen:=cntL_ge cn_KeeperHost_ge a0
 have h1:=h.1
 have h2:=h.2.1
 unfold m_laws_heldKeeperHostS
 rw[heldLoop mk_KeeperHost_ok h (by omega) (fun rec k i hi hP=>by
  clear h hlen h1 h2
  obtain⟨p1,p2,x,p3,p4⟩:=hP
  rw[←p4] at p2
  unfold cn_KeeperHost at p2
  have b0:0≤k:=by omega
  have d0:k+1≤4611686018427387904:=by omega
  have b1:0≤k+1:=by omega
  have d1:k+1+1≤4611686018427387904:=by omega
  have b2:0≤k+1+1:=by omega
  have d2:k+1+1+1≤4611686018427387904:=by omega
  have b3:0≤k+1+1+1:=by omega
  have d3:k+1+1+1+1≤4611686018427387904:=by omega
  have b4:0≤k+1+1+1+1:=by omega
  have d4:k+1+1+1+1+1≤4611686018427387904:=by omega
  have b5:0≤k+1+1+1+1+1:=by omega
  have d5:k+1+1+1+1+1+((cntL cn_Keeper x.Saved:Nat):Int)≤4611686018427387904:=by omega
  have t5:decide (k+1+1+1+1+1+((cntL cn_Keeper x.Saved:Nat):Int)<0)=false:=decide_eq_false (by omega)
  have b6:0≤k+1+1+1+1+1+((cntL cn_Keeper x.Saved:Nat):Int):=by omega
  have d6:k+1+1+1+1+1+((cntL cn_Keeper x.Saved:Nat):Int)+1≤4611686018427387904:=by omega
  have nn:k+1+1+1+1+1+((cntL cn_Keeper x.Saved:Nat):Int)+1=k+((cn_KeeperHost x:Nat):Int):=by unfold cn_KeeperHost;omega
  have e0:a0[i].State.Share.Index=k:=by rw[p3];simp only[mk_KeeperHost]
  have w0:IntKind.i64.wrap (k+1)=k+1:=wrap1 b0 d0
  have e1:a0[i].State.Share.Value=(k+1):=by rw[p3];simp only[mk_KeeperHost,w0]
  have w1:IntKind.i64.wrap (k+1+1)=k+1+1:=wrap1 b1 d1
  have e2:a0[i].State.Epoch=(k+1+1):=by rw[p3];simp only[mk_KeeperHost,w0,w1]
  have w2:IntKind.i64.wrap (k+1+1+1)=k+1+1+1:=wrap1 b2 d2
  have e3:a0[i].State.Guesses=(k+1+1+1):=by rw[p3];simp only[mk_KeeperHost,w0,w1,w2]
  have w3:IntKind.i64.wrap (k+1+1+1+1)=k+1+1+1+1:=wrap1 b3 d3
  have e4:a0[i].State.Limit=(k+1+1+1+1):=by rw[p3];simp only[mk_KeeperHost,w0,w1,w2,w3]
  have w4:IntKind.i64.wrap (k+1+1+1+1+1)=k+1+1+1+1+1:=wrap1 b4 d4
  have f5:=mkL_ok mk_Keeper_ok x.Saved (k+1+1+1+1+1) b5 d5
  have e5:a0[i].Saved=(mkL mk_Keeper x.Saved (k+1+1+1+1+1)).1:=by rw[p3];simp only[mk_KeeperHost,w0,w1,w2,w3,w4]
  have m5:=f5.1
  have c5:cntL cn_Keeper a0[i].Saved=cntL cn_Keeper x.Saved:=by rw[e5];exact f5.2
  have h5:HeldP (mkL mk_Keeper) (cntL cn_Keeper) a0[i].Saved (k+1+1+1+1+1):=heldP_of b5 d5 e5 c5
  have e6:a0[i].Monotonic=(k+1+1+1+1+1+((cntL cn_Keeper x.Saved:Nat):Int)):=by rw[p3];simp only[mk_KeeperHost,w0,w1,w2,w3,w4,m5]
  have w6:IntKind.i64.wrap (k+1+1+1+1+1+((cntL cn_Keeper x.Saved:Nat):Int)+1)=k+1+1+1+1+1+((cntL cn_Keeper x.Saved:Nat):Int)+1:=wrap1 b6 d6
  simp only[lt_i hi,cond_true,atq_nat hi,e0,w0,e1,w1,e2,w2,e3,w3,e4,w4,gd_t h5,c5,t5,e6,w6,bne_self_eq_false,beq_self_eq_true,Bool.not_true,cond_false,bd_s,three_ne,gd_T]
  rw[←p4,←nn]) (fun rec k=>by simp only[ge_i,cond_false])]
 rfl
theorem t_laws_heldNoticeS (a0:List D.Notice)(a1:Int)(h:HeldP (mkL mk_Notice) (cntL cn_Notice) a0 a1):m_laws_heldNoticeS a0 a1=some (a1+((cntL cn_Notice a0:Nat):Int)):=by
 have hlen:=cntL_ge cn_Notice_ge a0
 have h1:=h.1
 have h2:=h.2.1
 unfold m_laws_heldNoticeS
 rw[heldLoop mk_Notice_ok h (by omega) (fun rec k i hi hP=>by
  clear h hlen h1 h2
  obtain⟨p1,p2,x,p3,p4⟩:=hP
  rw[←p4] at p2
  unfold cn_Notice at p2
  have b0:0≤k:=by omega
  have d0:k+1≤4611686018427387904:=by omega
  have b1:0≤k+1:=by omega
  have d1:k+1+1≤4611686018427387904:=by omega
  have b2:0≤k+1+1:=by omega
  have d2:k+1+1+1≤4611686018427387904:=by omega
  have b3:0≤k+1+1+1:=by omega
  have d3:k+1+1+1+1≤4611686018427387904:=by omega
  have nn:k+1+1+1+1=k+((cn_Notice x:Nat):Int):=by unfold cn_Notice;omega
  have e0:a0[i].Kind=k:=by rw[p3];simp only[mk_Notice]
  have w0:IntKind.i64.wrap (k+1)=k+1:=wrap1 b0 d0
  have e1:a0[i].Account=(k+1):=by rw[p3];simp only[mk_Notice,w0]
  have w1:IntKind.i64.wrap (k+1+1)=k+1+1:=wrap1 b1 d1
  have e2:a0[i].Time=(k+1+1):=by rw[p3];simp only[mk_Notice,w0,w1]
  have w2:IntKind.i64.wrap (k+1+1+1)=k+1+1+1:=wrap1 b2 d2
  have e3:a0[i].Seen=((k+1+1+1).tmod 3==0):=by rw[p3];simp only[mk_Notice,w0,w1,w2]
  have w3:IntKind.i64.wrap (k+1+1+1+1)=k+1+1+1+1:=wrap1 b3 d3
  simp only[lt_i hi,cond_true,atq_nat hi,e0,w0,e1,w1,e2,w2,e3,w3,bne_self_eq_false,beq_self_eq_true,Bool.not_true,cond_false,bd_s,three_ne,gd_T]
  rw[←p4,←nn]) (fun rec k=>by simp only[ge_i,cond_false])]
 rfl
theorem t_laws_heldMailbox (a0:D.Mailbox)(k:Int)(h:HeldP mv_Mailbox cv_Mailbox a0 k):m_laws_heldMailbox a0 k=some (k+((cv_Mailbox a0:Nat):Int)):=by
 obtain⟨p1,p2,x,p3,p4⟩:=h
 rw[←p4] at p2
 unfold cv_Mailbox at p2
 have b0:0≤k:=by omega
 have d0:k+(((cntL cn_Notice) x.Notices:Nat):Int)≤4611686018427387904:=by omega
 have t0:decide (k+(((cntL cn_Notice) x.Notices:Nat):Int)<0)=false:=decide_eq_false (by omega)
 have nn:k+(((cntL cn_Notice) x.Notices:Nat):Int)=k+((cv_Mailbox x:Nat):Int):=by simp only[cv_Mailbox]<;>omega
 have f0:=(mkL_ok mk_Notice_ok) x.Notices k b0 d0
 have e0:a0.Notices=((mkL mk_Notice) x.Notices k).1:=by rw[p3];simp only[mv_Mailbox]
 have m0:=f0.1
 have c0:(cntL cn_Notice) a0.Notices=(cntL cn_Notice) x.Notices:=by rw[e0];exact f0.2
 have h0:HeldP (mkL mk_Notice) (cntL cn_Notice) a0.Notices k:=heldP_of b0 d0 e0 c0
 unfold m_laws_heldMailbox
 simp only[gd_t h0,c0,t0,cond_false,bd_s]
 rw[←p4,←nn]
theorem t_laws_heldWorld (a0:D.World)(k:Int)(h:HeldP mv_World cv_World a0 k):m_laws_heldWorld a0 k=some (k+((cv_World a0:Nat):Int)):=by
 obtain⟨p1,p2,x,p3,p4⟩:=h
 rw[←p4] at p2
 unfold cv_World at p2
 have b0:0≤k:=by first|omega|(simp only[cv_Cloud,cv_Mailbox];omega)
 have d0:k+(((cntL cn_Device) x.Devices:Nat):Int)≤4611686018427387904:=by first|omega|(simp only[cv_Cloud,cv_Mailbox];omega)
 have t0:decide (k+(((cntL cn_Device) x.Devices:Nat):Int)<0)=false:=decide_eq_false (by first|omega|(simp only[cv_Cloud,cv_Mailbox];omega))
 have b1:0≤k+(((cntL cn_Device) x.Devices:Nat):Int):=by first|omega|(simp only[cv_Cloud,cv_Mailbox];omega)
 have d1:k+(((cntL cn_Device) x.Devices:Nat):Int)+(((cntL cn1) x.Stolen:Nat):Int)≤4611686018427387904:=by first|omega|(simp only[cv_Cloud,cv_Mailbox];omega)
 have t1:decide (k+(((cntL cn_Device) x.Devices:Nat):Int)+(((cntL cn1) x.Stolen:Nat):Int)<0)=false:=decide_eq_false (by first|omega|(simp only[cv_Cloud,cv_Mailbox];omega))
 have b2:0≤k+(((cntL cn_Device) x.Devices:Nat):Int)+(((cntL cn1) x.Stolen:Nat):Int):=by first|omega|(simp only[cv_Cloud,cv_Mailbox];omega)
 have d2:k+(((cntL cn_Device) x.Devices:Nat):Int)+(((cntL cn1) x.Stolen:Nat):Int)+((cv_Cloud x.Cloud:Nat):Int)≤4611686018427387904:=by first|omega|(simp only[cv_Cloud,cv_Mailbox];omega)
 have t2:decide (k+(((cntL cn_Device) x.Devices:Nat):Int)+(((cntL cn1) x.Stolen:Nat):Int)+((cv_Cloud x.Cloud:Nat):Int)<0)=false:=decide_eq_false (by first|omega|(simp only[cv_Cloud,cv_Mailbox];omega))
 have b3:0≤k+(((cntL cn_Device) x.Devices:Nat):Int)+(((cntL cn1) x.Stolen:Nat):Int)+((cv_Cloud x.Cloud:Nat):Int):=by first|omega|(simp only[cv_Cloud,cv_Mailbox];omega)
 have d3:k+(((cntL cn_Device) x.Devices:Nat):Int)+(((cntL cn1) x.Stolen:Nat):Int)+((cv_Cloud x.Cloud:Nat):Int)+(((cntL cn_Site) x.Sites:Nat):Int)≤4611686018427387904:=by first|omega|(simp only[cv_Cloud,cv_Mailbox];omega)
 have t3:decide (k+(((cntL cn_Device) x.Devices:Nat):Int)+(((cntL cn1) x.Stolen:Nat):Int)+((cv_Cloud x.Cloud:Nat):Int)+(((cntL cn_Site) x.Sites:Nat):Int)<0)=false:=decide_eq_false (by first|omega|(simp only[cv_Cloud,cv_Mailbox];omega))
 have b4:0≤k+(((cntL cn_Device) x.Devices:Nat):Int)+(((cntL cn1) x.Stolen:Nat):Int)+((cv_Cloud x.Cloud:Nat):Int)+(((cntL cn_Site) x.Sites:Nat):Int):=by first|omega|(simp only[cv_Cloud,cv_Mailbox];omega)
 have d4:k+(((cntL cn_Device) x.Devices:Nat):Int)+(((cntL cn1) x.Stolen:Nat):Int)+((cv_Cloud x.Cloud:Nat):Int)+(((cntL cn_Site) x.Sites:Nat):Int)+(((cntL cn_KeeperHost) x.Hosts:Nat):Int)≤4611686018427387904:=by first|omega|(simp only[cv_Cloud,cv_Mailbox];omega)
 have t4:decide (k+(((cntL cn_Device) x.Devices:Nat):Int)+(((cntL cn1) x.Stolen:Nat):Int)+((cv_Cloud x.Cloud:Nat):Int)+(((cntL cn_Site) x.Sites:Nat):Int)+(((cntL cn_KeeperHost) x.Hosts:Nat):Int)<0)=false:=decide_eq_false (by first|omega|(simp only[cv_Cloud,cv_Mailbox];omega))
 have b5:0≤k+(((cntL cn_Device) x.Devices:Nat):Int)+(((cntL cn1) x.Stolen:Nat):Int)+((cv_Cloud x.Cloud:Nat):Int)+(((cntL cn_Site) x.Sites:Nat):Int)+(((cntL cn_KeeperHost) x.Hosts:Nat):Int):=by first|omega|(simp only[cv_Cloud,cv_Mailbox];omega)
 have d5:k+(((cntL cn_Device) x.Devices:Nat):Int)+(((cntL cn1) x.Stolen:Nat):Int)+((cv_Cloud x.Cloud:Nat):Int)+(((cntL cn_Site) x.Sites:Nat):Int)+(((cntL cn_KeeperHost) x.Hosts:Nat):Int)+((cv_Mailbox x.Mail:Nat):Int)≤4611686018427387904:=by first|omega|(simp only[cv_Cloud,cv_Mailbox];omega)
 have t5:decide (k+(((cntL cn_Device) x.Devices:Nat):Int)+(((cntL cn1) x.Stolen:Nat):Int)+((cv_Cloud x.Cloud:Nat):Int)+(((cntL cn_Site) x.Sites:Nat):Int)+(((cntL cn_KeeperHost) x.Hosts:Nat):Int)+((cv_Mailbox x.Mail:Nat):Int)<0)=false:=decide_eq_false (by first|omega|(simp only[cv_Cloud,cv_Mailbox];omega))
 have nn:k+(((cntL cn_Device) x.Devices:Nat):Int)+(((cntL cn1) x.Stolen:Nat):Int)+((cv_Cloud x.Cloud:Nat):Int)+(((cntL cn_Site) x.Sites:Nat):Int)+(((cntL cn_KeeperHost) x.Hosts:Nat):Int)+((cv_Mailbox x.Mail:Nat):Int)=k+((cv_World x:Nat):Int):=by simp only[cv_World,cv_Cloud,cv_Mailbox]<;>omega
 have f0:=(mkL_ok mk_Device_ok) x.Devices k b0 d0
 have e0:a0.Devices=((mkL mk_Device) x.Devices k).1:=by rw[p3];simp only[mv_World]
 have m0:=f0.1
 have c0:(cntL cn_Device) a0.Devices=(cntL cn_Device) x.Devices:=by rw[e0];exact f0.2
 have h0:HeldP (mkL mk_Device) (cntL cn_Device) a0.Devices k:=heldP_of b0 d0 e0 c0
 have f1:=(mkL_ok mkB_ok) x.Stolen (k+(((cntL cn_Device) x.Devices:Nat):Int)) b1 d1
 have e1:a0.Stolen=((mkL mkB) x.Stolen (k+(((cntL cn_Device) x.Devices:Nat):Int))).1:=by rw[p3];simp only[mv_World,m0]
 have m1:=f1.1
 have c1:(cntL cn1) a0.Stolen=(cntL cn1) x.Stolen:=by rw[e1];exact f1.2
 have h1:HeldP (mkL mkB) (cntL cn1) a0.Stolen (k+(((cntL cn_Device) x.Devices:Nat):Int)):=heldP_of b1 d1 e1 c1
 have f2:=mv_Cloud_ok x.Cloud (k+(((cntL cn_Device) x.Devices:Nat):Int)+(((cntL cn1) x.Stolen:Nat):Int)) b2 d2
 have e2:a0.Cloud=(mv_Cloud x.Cloud (k+(((cntL cn_Device) x.Devices:Nat):Int)+(((cntL cn1) x.Stolen:Nat):Int))).1:=by rw[p3];simp only[mv_World,mv_Cloud,m0,m1]
 have m2:=f2.1
 simp only[mv_Cloud,m0,m1] at m2
 have c2:cv_Cloud a0.Cloud=cv_Cloud x.Cloud:=by rw[e2];exact f2.2
 have h2:HeldP mv_Cloud cv_Cloud a0.Cloud (k+(((cntL cn_Device) x.Devices:Nat):Int)+(((cntL cn1) x.Stolen:Nat):Int)):=heldP_of b2 d2 e2 c2
 have f3:=(mkL_ok mk_Site_ok) x.Sites (k+(((cntL cn_Device) x.Devices:Nat):Int)+(((cntL cn1) x.Stolen:Nat):Int)+((cv_Cloud x.Cloud:Nat):Int)) b3 d3
 have e3:a0.Sites=((mkL mk_Site) x.Sites (k+(((cntL cn_Device) x.Devices:Nat):Int)+(((cntL cn1) x.Stolen:Nat):Int)+((cv_Cloud x.Cloud:Nat):Int))).1:=by rw[p3];simp only[mv_World,m0,m1,m2]
 have m3:=f3.1
 have c3:(cntL cn_Site) a0.Sites=(cntL cn_Site) x.Sites:=by rw[e3];exact f3.2
 have h3:HeldP (mkL mk_Site) (cntL cn_Site) a0.Sites (k+(((cntL cn_Device) x.Devices:Nat):Int)+(((cntL cn1) x.Stolen:Nat):Int)+((cv_Cloud x.Cloud:Nat):Int)):=heldP_of b3 d3 e3 c3
 have f4:=(mkL_ok mk_KeeperHost_ok) x.Hosts (k+(((cntL cn_Device) x.Devices:Nat):Int)+(((cntL cn1) x.Stolen:Nat):Int)+((cv_Cloud x.Cloud:Nat):Int)+(((cntL cn_Site) x.Sites:Nat):Int)) b4 d4
 have e4:a0.Hosts=((mkL mk_KeeperHost) x.Hosts (k+(((cntL cn_Device) x.Devices:Nat):Int)+(((cntL cn1) x.Stolen:Nat):Int)+((cv_Cloud x.Cloud:Nat):Int)+(((cntL cn_Site) x.Sites:Nat):Int))).1:=by rw[p3];simp only[mv_World,m0,m1,m2,m3]
 have m4:=f4.1
 have c4:(cntL cn_KeeperHost) a0.Hosts=(cntL cn_KeeperHost) x.Hosts:=by rw[e4];exact f4.2
 have h4:HeldP (mkL mk_KeeperHost) (cntL cn_KeeperHost) a0.Hosts (k+(((cntL cn_Device) x.Devices:Nat):Int)+(((cntL cn1) x.Stolen:Nat):Int)+((cv_Cloud x.Cloud:Nat):Int)+(((cntL cn_Site) x.Sites:Nat):Int)):=heldP_of b4 d4 e4 c4
 have f5:=mv_Mailbox_ok x.Mail (k+(((cntL cn_Device) x.Devices:Nat):Int)+(((cntL cn1) x.Stolen:Nat):Int)+((cv_Cloud x.Cloud:Nat):Int)+(((cntL cn_Site) x.Sites:Nat):Int)+(((cntL cn_KeeperHost) x.Hosts:Nat):Int)) b5 d5
 have e5:a0.Mail=(mv_Mailbox x.Mail (k+(((cntL cn_Device) x.Devices:Nat):Int)+(((cntL cn1) x.Stolen:Nat):Int)+((cv_Cloud x.Cloud:Nat):Int)+(((cntL cn_Site) x.Sites:Nat):Int)+(((cntL cn_KeeperHost) x.Hosts:Nat):Int))).1:=by rw[p3];simp only[mv_World,mv_Mailbox,m0,m1,m2,m3,m4]
 have m5:=f5.1
 simp only[mv_Mailbox,m0,m1,m2,m3,m4] at m5
 have c5:cv_Mailbox a0.Mail=cv_Mailbox x.Mail:=by rw[e5];exact f5.2
 have h5:HeldP mv_Mailbox cv_Mailbox a0.Mail (k+(((cntL cn_Device) x.Devices:Nat):Int)+(((cntL cn1) x.Stolen:Nat):Int)+((cv_Cloud x.Cloud:Nat):Int)+(((cntL cn_Site) x.Sites:Nat):Int)+(((cntL cn_KeeperHost) x.Hosts:Nat):Int)):=heldP_of b5 d5 e5 c5
 unfold m_laws_heldWorld
 simp only[gd_t h0,c0,t0,gd_t h1,c1,t1,gd_t h2,c2,t2,gd_t h3,c3,t3,gd_t h4,c4,t4,gd_t h5,c5,t5,cond_false,bd_s]
 rw[←p4,←nn]
end
end Go.VK
