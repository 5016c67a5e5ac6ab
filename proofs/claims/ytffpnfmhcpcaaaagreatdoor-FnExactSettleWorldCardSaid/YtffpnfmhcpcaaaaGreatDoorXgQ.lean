import Derived.Test.YtffpnfmhcpcaaaaGreatDoorXgM
/-
  Printed by wip/tools (own work of this part): models of functions, walks over the value kit, and proofs.
-/
set_option linter.unusedVariables false
set_option linter.unusedSimpArgs false
set_option maxRecDepth 100000
set_option maxHeartbeats 4000000
namespace Go.VK
open Go.RowKit Go.Proofs
noncomputable section
open EV (bW)
theorem Um (a0:List D.LogEntry)(a1:Int)(h:fK (iI (fun _:D.LogEntry=>True)) a0 a1):sM a0 a1=some (dW (a0.length) a1):=by
 obtain⟨h1,h3⟩:=h
 unfold sM
 exact Bq h1.1 h3
theorem aD4 (a0:List D.Entry)(a1:Int)(h:fK (iI (fun _:D.Entry=>True)) a0 a1):Ea a0 a1=some (dW (a0.length) a1):=by
 obtain⟨h1,h3⟩:=h
 unfold Ea
 exact Bq h1.1 h3
theorem aD5 (a0:D.Bundle)(a1:Int)(h:fK D.Bundle.ok a0 a1):Eb a0 a1=some (dW (a0.sz) a1):=by
 obtain⟨h1,h3⟩:=h
 unfold Eb
 have e:a0.sz=(a0.Entries.length):=by simp only[D.Bundle.sz]<;>omega
 rw[e]
 rw[aH (show fK (iI (fun _:D.Entry=>True)) (a0.Entries) _ from⟨h1,h3⟩),bd_s]
 exact Dw h3
theorem aD6 (a0:D.Device)(a1:Int)(h:fK D.Device.ok a0 a1):Ec a0 a1=some (dW (a0.sz) a1):=by
 obtain⟨h1,h3⟩:=h
 unfold Ec
 have e:a0.sz=((a0.Log.length)+(a0.Bundle.sz)):=by simp only[D.Bundle.sz,D.Device.sz,D.KeyStore.sz]<;>omega
 rw[e]
 rw[aH (show fK (iI (fun _:D.LogEntry=>True)) (a0.Log) _ from⟨h1.1,h3⟩),bd_s]
 refine aMy h3 (fun p1=> ?_)
 revert p1
 generalize dW (a0.Log.length) a1=l1
 intro p1
 rw[aH (show fK D.Bundle.ok (a0.Bundle) _ from⟨h1.2,p1⟩),bd_s]
 exact Dw p1
theorem U7 (a0:List D.Device)(a1:Int)(h:fK (iI D.Device.ok) a0 a1):xV a0 a1=some (dW (a0.length+(a0.map D.Device.sz).sum) a1):=by
 unfold xV
 exact R7 h (fun rec i left hi hp=>by simp only[bD hi,cond_true,aG hi,bd_s,aH hp]) (fun rec left=>by simp only[bE,cond_false])
theorem aIj (a0:List Bool)(a1:Int)(h:fK (iI (fun _:Bool=>True)) a0 a1):Je a0 a1=some (dW (a0.length) a1):=by
 obtain⟨h1,h3⟩:=h
 unfold Je
 exact Bq h1.1 h3
theorem aIk (a0:List Int)(a1:Int)(h:fK (iI (fun _:Int=>True)) a0 a1):Jf a0 a1=some (dW (a0.length) a1):=by
 obtain⟨h1,h3⟩:=h
 unfold Jf
 exact Bq h1.1 h3
theorem aRh (a0:D.Box)(a1:Int)(h:fK D.Box.ok a0 a1):Zw a0 a1=some (dW (a0.sz) a1):=by
 obtain⟨h1,h3⟩:=h
 unfold Zw
 have e:a0.sz=(a0.Data.length):=by simp only[D.Box.sz]<;>omega
 rw[e]
 rw[aH (show fK (iI (fun _:Int=>True)) (a0.Data) _ from⟨h1,h3⟩),bd_s]
 exact Dw h3
theorem aM3 (a0:List D.Box)(a1:Int)(h:fK (iI D.Box.ok) a0 a1):Sc a0 a1=some (dW (a0.length+(a0.map D.Box.sz).sum) a1):=by
 unfold Sc
 exact R7 h (fun rec i left hi hp=>by simp only[bD hi,cond_true,aG hi,bd_s,aH hp]) (fun rec left=>by simp only[bE,cond_false])
theorem Ox (a0:D.EpochBoxes)(a1:Int)(h:fK D.EpochBoxes.ok a0 a1):pU a0 a1=some (dW (a0.sz) a1):=by
 obtain⟨h1,h3⟩:=h
 unfold pU
 have e:a0.sz=(a0.Boxes.length+(a0.Boxes.map D.Box.sz).sum):=by simp only[D.EpochBoxes.sz]<;>omega
 rw[e]
 rw[aH (show fK (iI D.Box.ok) (a0.Boxes) _ from⟨h1,h3⟩),bd_s]
 exact Dw h3
theorem Fy (a0:D.SealedBundle)(a1:Int)(h:fK D.SealedBundle.ok a0 a1):mP a0 a1=some (dW (a0.sz) a1):=by
 obtain⟨h1,h3⟩:=h
 unfold mP
 have e:a0.sz=(a0.Data.length):=by simp only[D.SealedBundle.sz]<;>omega
 rw[e]
 rw[aH (show fK (iI (fun _:Int=>True)) (a0.Data) _ from⟨h1,h3⟩),bd_s]
 exact Dw h3
theorem Bv (a0:List D.SealedBundle)(a1:Int)(h:fK (iI D.SealedBundle.ok) a0 a1):lS a0 a1=some (dW (a0.length+(a0.map D.SealedBundle.sz).sum) a1):=by
 unfold lS
 exact R7 h (fun rec i left hi hp=>by simp only[bD hi,cond_true,aG hi,bd_s,aH hp]) (fun rec left=>by simp only[bE,cond_false])
theorem aIl (a0:D.Cloud)(a1:Int)(h:fK D.Cloud.ok a0 a1):Jg a0 a1=some (dW (a0.sz) a1):=by
 obtain⟨h1,h3⟩:=h
 unfold Jg
 have e:a0.sz=((a0.Log.length)+((a0.Boxes.sz)+(a0.History.length+(a0.History.map D.SealedBundle.sz).sum))):=by simp only[D.Cloud.sz,D.EpochBoxes.sz]<;>omega
 rw[e]
 rw[aH (show fK (iI (fun _:D.LogEntry=>True)) (a0.Log) _ from⟨h1.1,h3⟩),bd_s]
 refine aMy h3 (fun p1=> ?_)
 revert p1
 generalize dW (a0.Log.length) a1=l1
 intro p1
 rw[aH (show fK D.EpochBoxes.ok (a0.Boxes) _ from⟨h1.2.1,p1⟩),bd_s]
 refine aMy p1 (fun p2=> ?_)
 revert p2
 generalize dW (a0.Boxes.sz) l1=l2
 intro p2
 rw[aH (show fK (iI D.SealedBundle.ok) (a0.History) _ from⟨h1.2.2,p2⟩),bd_s]
 exact Dw p2
theorem Lv (a0:List D.Credential)(a1:Int)(h:fK (iI (fun _:D.Credential=>True)) a0 a1):oN a0 a1=some (dW (a0.length) a1):=by
 obtain⟨h1,h3⟩:=h
 unfold oN
 exact Bq h1.1 h3
theorem U8 (a0:D.Account)(a1:Int)(h:fK D.Account.ok a0 a1):xW a0 a1=some (dW (a0.sz) a1):=by
 obtain⟨h1,h3⟩:=h
 unfold xW
 have e:a0.sz=(a0.Credentials.length):=by simp only[D.Account.sz]<;>omega
 rw[e]
 rw[aH (show fK (iI (fun _:D.Credential=>True)) (a0.Credentials) _ from⟨h1,h3⟩),bd_s]
 exact Dw h3
theorem o6 (a0:List D.Account)(a1:Int)(h:fK (iI D.Account.ok) a0 a1):vR a0 a1=some (dW (a0.length+(a0.map D.Account.sz).sum) a1):=by
 unfold vR
 exact R7 h (fun rec i left hi hp=>by simp only[bD hi,cond_true,aG hi,bd_s,aH hp]) (fun rec left=>by simp only[bE,cond_false])
theorem Oy (a0:List D.Challenge)(a1:Int)(h:fK (iI (fun _:D.Challenge=>True)) a0 a1):pV a0 a1=some (dW (a0.length) a1):=by
 obtain⟨h1,h3⟩:=h
 unfold pV
 exact Bq h1.1 h3
theorem Bw (a0:D.ChallengeBook)(a1:Int)(h:fK D.ChallengeBook.ok a0 a1):lT a0 a1=some (dW (a0.sz) a1):=by
 obtain⟨h1,h3⟩:=h
 unfold lT
 have e:a0.sz=(a0.Open.length):=by simp only[D.ChallengeBook.sz]<;>omega
 rw[e]
 rw[aH (show fK (iI (fun _:D.Challenge=>True)) (a0.Open) _ from⟨h1,h3⟩),bd_s]
 exact Dw h3
theorem aM4 (a0:List Int)(a1:Int)(h:fK (iI (fun _:Int=>True)) a0 a1):Sd a0 a1=some (dW (a0.length) a1):=by
 obtain⟨h1,h3⟩:=h
 unfold Sd
 exact Bq h1.1 h3
theorem aM5 (a0:D.Site)(a1:Int)(h:fK D.Site.ok a0 a1):Sg a0 a1=some (dW (a0.sz) a1):=by
 obtain⟨h1,h3⟩:=h
 unfold Sg
 have e:a0.sz=((a0.Name.size)+((a0.Accounts.length+(a0.Accounts.map D.Account.sz).sum)+((a0.Book.sz)+(a0.Logins.length)))):=by simp only[D.ChallengeBook.sz,D.Site.sz]<;>omega
 rw[e]
 have w0:IntKind.i64.wrap (a1-((a0.Name).size:Int))=a1-((a0.Name).size:Int):=by have:=h3.1;have:=h3.2;have:(a0.Name).size≤9223372036854775807:=h1.1;exact aS (by omega) (by omega)
 rw[w0]
 refine bDt h3 (fun p1=> ?_)
 revert p1
 generalize a1-((a0.Name).size:Int)=l1
 intro p1
 rw[aH (show fK (iI D.Account.ok) (a0.Accounts) _ from⟨h1.2.1,p1⟩),bd_s]
 refine aMy p1 (fun p2=> ?_)
 revert p2
 generalize dW (a0.Accounts.length+(a0.Accounts.map D.Account.sz).sum) l1=l2
 intro p2
 rw[aH (show fK D.ChallengeBook.ok (a0.Book) _ from⟨h1.2.2.1,p2⟩),bd_s]
 refine aMy p2 (fun p3=> ?_)
 revert p3
 generalize dW (a0.Book.sz) l2=l3
 intro p3
 rw[aH (show fK (iI (fun _:Int=>True)) (a0.Logins) _ from⟨h1.2.2.2,p3⟩),bd_s]
 exact Dw p3
theorem aIm (a0:List D.Site)(a1:Int)(h:fK (iI D.Site.ok) a0 a1):Jh a0 a1=some (dW (a0.length+(a0.map D.Site.sz).sum) a1):=by
 unfold Jh
 exact R7 h (fun rec i left hi hp=>by simp only[bD hi,cond_true,aG hi,bd_s,aH hp]) (fun rec left=>by simp only[bE,cond_false])
theorem U9 (a0:List D.Keeper)(a1:Int)(h:fK (iI (fun _:D.Keeper=>True)) a0 a1):xX a0 a1=some (dW (a0.length) a1):=by
 obtain⟨h1,h3⟩:=h
 unfold xX
 exact Bq h1.1 h3
theorem Oz (a0:D.KeeperHost)(a1:Int)(h:fK D.KeeperHost.ok a0 a1):pW a0 a1=some (dW (a0.sz) a1):=by
 obtain⟨h1,h3⟩:=h
 unfold pW
 have e:a0.sz=(a0.Saved.length):=by simp only[D.Keeper.sz,D.KeeperHost.sz,D.Share.sz]<;>omega
 rw[e]
 rw[aH (show fK (iI (fun _:D.Keeper=>True)) (a0.Saved) _ from⟨h1,h3⟩),bd_s]
 exact Dw h3
theorem Lx (a0:List D.KeeperHost)(a1:Int)(h:fK (iI D.KeeperHost.ok) a0 a1):oO a0 a1=some (dW (a0.length+(a0.map D.KeeperHost.sz).sum) a1):=by
 unfold oO
 exact R7 h (fun rec i left hi hp=>by simp only[bD hi,cond_true,aG hi,bd_s,aH hp]) (fun rec left=>by simp only[bE,cond_false])
theorem V3 (a0:List D.Notice)(a1:Int)(h:fK (iI (fun _:D.Notice=>True)) a0 a1):xY a0 a1=some (dW (a0.length) a1):=by
 obtain⟨h1,h3⟩:=h
 unfold xY
 exact Bq h1.1 h3
theorem V4 (a0:D.Mailbox)(a1:Int)(h:fK D.Mailbox.ok a0 a1):xZ a0 a1=some (dW (a0.sz) a1):=by
 obtain⟨h1,h3⟩:=h
 unfold xZ
 have e:a0.sz=(a0.Notices.length):=by simp only[D.Mailbox.sz]<;>omega
 rw[e]
 rw[aH (show fK (iI (fun _:D.Notice=>True)) (a0.Notices) _ from⟨h1,h3⟩),bd_s]
 exact Dw h3
theorem aIn (a0:D.World)(a1:Int)(h:fK D.World.ok a0 a1):Ji a0 a1=some (dW (a0.sz) a1):=by
 obtain⟨h1,h3⟩:=h
 unfold Ji
 have e:a0.sz=((a0.Devices.length+(a0.Devices.map D.Device.sz).sum)+((a0.Stolen.length)+((a0.Cloud.sz)+((a0.Sites.length+(a0.Sites.map D.Site.sz).sum)+((a0.Hosts.length+(a0.Hosts.map D.KeeperHost.sz).sum)+(a0.Mail.sz)))))):=by simp only[D.Cloud.sz,D.EpochBoxes.sz,D.Mailbox.sz,D.Vault.sz,D.World.sz]<;>omega
 rw[e]
 rw[aH (show fK (iI D.Device.ok) (a0.Devices) _ from⟨h1.1,h3⟩),bd_s]
 refine aMy h3 (fun p1=> ?_)
 revert p1
 generalize dW (a0.Devices.length+(a0.Devices.map D.Device.sz).sum) a1=l1
 intro p1
 rw[aH (show fK (iI (fun _:Bool=>True)) (a0.Stolen) _ from⟨h1.2.1,p1⟩),bd_s]
 refine aMy p1 (fun p2=> ?_)
 revert p2
 generalize dW (a0.Stolen.length) l1=l2
 intro p2
 rw[aH (show fK D.Cloud.ok (a0.Cloud) _ from⟨h1.2.2.1,p2⟩),bd_s]
 refine aMy p2 (fun p3=> ?_)
 revert p3
 generalize dW (a0.Cloud.sz) l2=l3
 intro p3
 rw[aH (show fK (iI D.Site.ok) (a0.Sites) _ from⟨h1.2.2.2.1,p3⟩),bd_s]
 refine aMy p3 (fun p4=> ?_)
 revert p4
 generalize dW (a0.Sites.length+(a0.Sites.map D.Site.sz).sum) l3=l4
 intro p4
 rw[aH (show fK (iI D.KeeperHost.ok) (a0.Hosts) _ from⟨h1.2.2.2.2.1,p4⟩),bd_s]
 refine aMy p4 (fun p5=> ?_)
 revert p5
 generalize dW (a0.Hosts.length+(a0.Hosts.map D.KeeperHost.sz).sum) l4=l5
 intro p5
 rw[aH (show fK D.Mailbox.ok (a0.Mail) _ from⟨h1.2.2.2.2.2,p5⟩),bd_s]
 exact Dw p5
theorem o7 (a0:D.KeyStore):vS a0=some (a0):=by
 unfold vS
 rfl
theorem o8 (a0:D.LogEntry):vT a0=some (a0):=by
 unfold vT
 rfl
theorem Uo (a0:List D.LogEntry)(h:a0.length≤1048576):sN a0=some (a0):=by
 unfold sN
 rw[aH (kV (by omega)),gK bM (by omega) (fun rec i out ho hi=>by
  simp only[bD hi,cond_true,aG hi,aG (show i<out.length by omega),bd_s,bM]) (fun rec out=>by simp only[bE,cond_false])]
 rfl
theorem aIo (a0:D.Entry):Jj a0=some (a0):=by
 unfold Jj
 rfl
theorem aD7 (a0:List D.Entry)(h:a0.length≤1048576):Ed a0=some (a0):=by
 unfold Ed
 rw[aH (kV (by omega)),gK bM (by omega) (fun rec i out ho hi=>by
  simp only[bD hi,cond_true,aG hi,aG (show i<out.length by omega),bd_s,bM]) (fun rec out=>by simp only[bE,cond_false])]
 rfl
theorem aD8 (a0:D.Bundle)(h:a0.sz≤1048576):Ee a0=some (a0):=by
 unfold Ee
 simp only[D.Bundle.sz] at h
 try simp only[bd_s]
 rw[aH (by first|omega|(simp only[D.Bundle.sz];omega))]
 rfl
theorem aD9 (a0:D.Device)(h:a0.sz≤1048576):Ef a0=some (a0):=by
 unfold Ef
 simp only[D.Bundle.sz,D.Device.sz,D.KeyStore.sz] at h
 try simp only[bd_s]
 rw[aH (by first|omega|(simp only[D.Bundle.sz,D.Device.sz,D.KeyStore.sz];omega))]
 try simp only[bd_s]
 rw[aH (by first|omega|(simp only[D.Bundle.sz,D.Device.sz,D.KeyStore.sz];omega))]
 rfl
theorem V5 (a0:List D.Device)(h:a0.length+(a0.map D.Device.sz).sum≤1048576):yA a0=some (a0):=by
 unfold yA
 rw[aH (kV (by omega)),gK bM (by omega) (fun rec i out ho hi=>by
  have hz:=dF (f:=D.Device.sz) hi
  simp only[bD hi,cond_true,aG hi,aG (show i<out.length by omega),bd_s,bM,aH (show a0[i].sz≤1048576 by omega)]) (fun rec out=>by simp only[bE,cond_false])]
 rfl
theorem aIp (a0:List Bool)(h:a0.length≤1048576):Jk a0=some (a0):=by
 unfold Jk
 rw[aH (kV (by omega)),gK bM (by omega) (fun rec i out ho hi=>by
  simp only[bD hi,cond_true,aG hi,aG (show i<out.length by omega),bd_s,bM]) (fun rec out=>by simp only[bE,cond_false])]
 rfl
theorem aIq (a0:List Int)(h:a0.length≤1048576):Jl a0=some (a0):=by
 unfold Jl
 rw[aH (kV (by omega)),gK bM (by omega) (fun rec i out ho hi=>by
  simp only[bD hi,cond_true,aG hi,aG (show i<out.length by omega),bd_s,bM]) (fun rec out=>by simp only[bE,cond_false])]
 rfl
theorem aRi (a0:D.Box)(h:a0.sz≤1048576):Zx a0=some (a0):=by
 unfold Zx
 simp only[D.Box.sz] at h
 try simp only[bd_s]
 rw[aH (by first|omega|(simp only[D.Box.sz];omega))]
 rfl
theorem aM6 (a0:List D.Box)(h:a0.length+(a0.map D.Box.sz).sum≤1048576):Si a0=some (a0):=by
 unfold Si
 rw[aH (kV (by omega)),gK bM (by omega) (fun rec i out ho hi=>by
  have hz:=dF (f:=D.Box.sz) hi
  simp only[bD hi,cond_true,aG hi,aG (show i<out.length by omega),bd_s,bM,aH (show a0[i].sz≤1048576 by omega)]) (fun rec out=>by simp only[bE,cond_false])]
 rfl
theorem Pb (a0:D.EpochBoxes)(h:a0.sz≤1048576):pX a0=some (a0):=by
 unfold pX
 simp only[D.EpochBoxes.sz] at h
 try simp only[bd_s]
 rw[aH (by first|omega|(simp only[D.EpochBoxes.sz];omega))]
 rfl
theorem Fz (a0:D.SealedBundle)(h:a0.sz≤1048576):mQ a0=some (a0):=by
 unfold mQ
 simp only[D.SealedBundle.sz] at h
 try simp only[bd_s]
 rw[aH (by first|omega|(simp only[D.SealedBundle.sz];omega))]
 rfl
theorem Ca (a0:List D.SealedBundle)(h:a0.length+(a0.map D.SealedBundle.sz).sum≤1048576):lU a0=some (a0):=by
 unfold lU
 rw[aH (kV (by omega)),gK bM (by omega) (fun rec i out ho hi=>by
  have hz:=dF (f:=D.SealedBundle.sz) hi
  simp only[bD hi,cond_true,aG hi,aG (show i<out.length by omega),bd_s,bM,aH (show a0[i].sz≤1048576 by omega)]) (fun rec out=>by simp only[bE,cond_false])]
 rfl
theorem aIr (a0:D.Cloud)(h:a0.sz≤1048576):Jm a0=some (a0):=by
 unfold Jm
 simp only[D.Cloud.sz,D.EpochBoxes.sz] at h
 try simp only[bd_s]
 rw[aH (by first|omega|(simp only[D.Cloud.sz,D.EpochBoxes.sz];omega))]
 try simp only[bd_s]
 rw[aH (by first|omega|(simp only[D.Cloud.sz,D.EpochBoxes.sz];omega))]
 try simp only[bd_s]
 rw[aH (by first|omega|(simp only[D.Cloud.sz,D.EpochBoxes.sz];omega))]
 rfl
theorem Pd (a0:D.Credential):pY a0=some (a0):=by
 unfold pY
 rfl
theorem Ma (a0:List D.Credential)(h:a0.length≤1048576):oP a0=some (a0):=by
 unfold oP
 rw[aH (kV (by omega)),gK bM (by omega) (fun rec i out ho hi=>by
  simp only[bD hi,cond_true,aG hi,aG (show i<out.length by omega),bd_s,bM]) (fun rec out=>by simp only[bE,cond_false])]
 rfl
theorem V6 (a0:D.Account)(h:a0.sz≤1048576):yB a0=some (a0):=by
 unfold yB
 simp only[D.Account.sz] at h
 try simp only[bd_s]
 rw[aH (by first|omega|(simp only[D.Account.sz];omega))]
 rfl
theorem o9 (a0:List D.Account)(h:a0.length+(a0.map D.Account.sz).sum≤1048576):vU a0=some (a0):=by
 unfold vU
 rw[aH (kV (by omega)),gK bM (by omega) (fun rec i out ho hi=>by
  have hz:=dF (f:=D.Account.sz) hi
  simp only[bD hi,cond_true,aG hi,aG (show i<out.length by omega),bd_s,bM,aH (show a0[i].sz≤1048576 by omega)]) (fun rec out=>by simp only[bE,cond_false])]
 rfl
theorem Uq (a0:D.Challenge):sO a0=some (a0):=by
 unfold sO
 rfl
theorem Pe (a0:List D.Challenge)(h:a0.length≤1048576):qA a0=some (a0):=by
 unfold qA
 rw[aH (kV (by omega)),gK bM (by omega) (fun rec i out ho hi=>by
  simp only[bD hi,cond_true,aG hi,aG (show i<out.length by omega),bd_s,bM]) (fun rec out=>by simp only[bE,cond_false])]
 rfl
theorem Cb (a0:D.ChallengeBook)(h:a0.sz≤1048576):lV a0=some (a0):=by
 unfold lV
 simp only[D.ChallengeBook.sz] at h
 try simp only[bd_s]
 rw[aH (by first|omega|(simp only[D.ChallengeBook.sz];omega))]
 rfl
theorem aM7 (a0:List Int)(h:a0.length≤1048576):Sj a0=some (a0):=by
 unfold Sj
 rw[aH (kV (by omega)),gK bM (by omega) (fun rec i out ho hi=>by
  simp only[bD hi,cond_true,aG hi,aG (show i<out.length by omega),bd_s,bM]) (fun rec out=>by simp only[bE,cond_false])]
 rfl
theorem aM8 (a0:D.Site)(h:a0.sz≤1048576):Sk a0=some (a0):=by
 unfold Sk
 simp only[D.ChallengeBook.sz,D.Site.sz] at h
 try simp only[bd_s]
 rw[aH (by first|omega|(simp only[D.ChallengeBook.sz,D.Site.sz];omega))]
 try simp only[bd_s]
 rw[aH (by first|omega|(simp only[D.ChallengeBook.sz,D.Site.sz];omega))]
 try simp only[bd_s]
 rw[aH (by first|omega|(simp only[D.ChallengeBook.sz,D.Site.sz];omega))]
 rfl
theorem aIs (a0:List D.Site)(h:a0.length+(a0.map D.Site.sz).sum≤1048576):Jn a0=some (a0):=by
 unfold Jn
 rw[aH (kV (by omega)),gK bM (by omega) (fun rec i out ho hi=>by
  have hz:=dF (f:=D.Site.sz) hi
  simp only[bD hi,cond_true,aG hi,aG (show i<out.length by omega),bd_s,bM,aH (show a0[i].sz≤1048576 by omega)]) (fun rec out=>by simp only[bE,cond_false])]
 rfl
theorem aIt (a0:D.Vault):Jo a0=some (a0):=by
 unfold Jo
 rfl
theorem aIu (a0:D.Share):Jp a0=some (a0):=by
 unfold Jp
 rfl
theorem aEa (a0:D.Keeper):Eg a0=some (a0):=by
 unfold Eg
 rfl
theorem V7 (a0:List D.Keeper)(h:a0.length≤1048576):yC a0=some (a0):=by
 unfold yC
 rw[aH (kV (by omega)),gK bM (by omega) (fun rec i out ho hi=>by
  simp only[bD hi,cond_true,aG hi,aG (show i<out.length by omega),bd_s,bM]) (fun rec out=>by simp only[bE,cond_false])]
 rfl
theorem Pf (a0:D.KeeperHost)(h:a0.sz≤1048576):qB a0=some (a0):=by
 unfold qB
 simp only[D.Keeper.sz,D.KeeperHost.sz,D.Share.sz] at h
 try simp only[bd_s]
 rw[aH (by first|omega|(simp only[D.Keeper.sz,D.KeeperHost.sz,D.Share.sz];omega))]
 rfl
theorem Mc (a0:List D.KeeperHost)(h:a0.length+(a0.map D.KeeperHost.sz).sum≤1048576):oQ a0=some (a0):=by
 unfold oQ
 rw[aH (kV (by omega)),gK bM (by omega) (fun rec i out ho hi=>by
  have hz:=dF (f:=D.KeeperHost.sz) hi
  simp only[bD hi,cond_true,aG hi,aG (show i<out.length by omega),bd_s,bM,aH (show a0[i].sz≤1048576 by omega)]) (fun rec out=>by simp only[bE,cond_false])]
 rfl
theorem aEb (a0:D.Notice):Eh a0=some (a0):=by
 unfold Eh
 rfl
theorem V8 (a0:List D.Notice)(h:a0.length≤1048576):yD a0=some (a0):=by
 unfold yD
 rw[aH (kV (by omega)),gK bM (by omega) (fun rec i out ho hi=>by
  simp only[bD hi,cond_true,aG hi,aG (show i<out.length by omega),bd_s,bM]) (fun rec out=>by simp only[bE,cond_false])]
 rfl
theorem V9 (a0:D.Mailbox)(h:a0.sz≤1048576):yE a0=some (a0):=by
 unfold yE
 simp only[D.Mailbox.sz] at h
 try simp only[bd_s]
 rw[aH (by first|omega|(simp only[D.Mailbox.sz];omega))]
 rfl
theorem aIv (a0:D.World)(h:a0.sz≤1048576):Jq a0=some (a0):=by
 unfold Jq
 simp only[D.Cloud.sz,D.EpochBoxes.sz,D.Mailbox.sz,D.Vault.sz,D.World.sz] at h
 try simp only[bd_s]
 rw[aH (by first|omega|(simp only[D.Cloud.sz,D.EpochBoxes.sz,D.Mailbox.sz,D.Vault.sz,D.World.sz];omega))]
 try simp only[bd_s]
 rw[aH (by first|omega|(simp only[D.Cloud.sz,D.EpochBoxes.sz,D.Mailbox.sz,D.Vault.sz,D.World.sz];omega))]
 try simp only[bd_s]
 rw[aH (by first|omega|(simp only[D.Cloud.sz,D.EpochBoxes.sz,D.Mailbox.sz,D.Vault.sz,D.World.sz];omega))]
 try simp only[bd_s]
 rw[aH (by first|omega|(simp only[D.Cloud.sz,D.EpochBoxes.sz,D.Mailbox.sz,D.Vault.sz,D.World.sz];omega))]
 try simp only[bd_s]
 rw[aH (by first|omega|(simp only[D.Cloud.sz,D.EpochBoxes.sz,D.Mailbox.sz,D.Vault.sz,D.World.sz];omega))]
 try simp only[bd_s]
 rw[aH (by first|omega|(simp only[D.Cloud.sz,D.EpochBoxes.sz,D.Mailbox.sz,D.Vault.sz,D.World.sz];omega))]
 rfl
theorem p9 (a0:D.KeyStore)(a1:D.KeyStore)(h:dN (0) a0 a1):wR a0 a1=some (true):=by
 obtain⟨rfl,hz⟩:=h
 unfold wR
 simp only[beq_self_eq_true,bne_self_eq_false,Bool.not_true,Bool.not_false,cond_true,cond_false,bd_s,nx_r]
theorem q9 (a0:D.LogEntry)(a1:D.LogEntry)(h:dN (0) a0 a1):wT a0 a1=some (true):=by
 obtain⟨rfl,hz⟩:=h
 unfold wT
 simp only[beq_self_eq_true,bne_self_eq_false,Bool.not_true,Bool.not_false,cond_true,cond_false,bd_s,nx_r]
theorem Ur (a0:List D.LogEntry)(a1:List D.LogEntry)(h:dN (a0.length) a0 a1):tY a0 a1=some (true):=by
 obtain⟨rfl,hz⟩:=h
 unfold tY
 rw[kU (a:=a0) (by omega) (fun rec i hi=>by
  simp only[bD hi,aG hi,aH (show dN (0) a0[i] a0[i] from⟨rfl,by omega⟩),beq_self_eq_true,bne_self_eq_false,Bool.not_true,Bool.not_false,cond_true,cond_false,bd_s,nx_r]) (fun rec=>by simp only[bE,cond_false])]
 simp only[beq_self_eq_true,bne_self_eq_false,Bool.not_true,Bool.not_false,cond_true,cond_false,bd_s,nx_r]
theorem aIw (a0:D.Entry)(a1:D.Entry)(h:dN (0) a0 a1):Lh a0 a1=some (true):=by
 obtain⟨rfl,hz⟩:=h
 unfold Lh
 simp only[beq_self_eq_true,bne_self_eq_false,Bool.not_true,Bool.not_false,cond_true,cond_false,bd_s,nx_r]
theorem aEc (a0:List D.Entry)(a1:List D.Entry)(h:dN (a0.length) a0 a1):Ey a0 a1=some (true):=by
 obtain⟨rfl,hz⟩:=h
 unfold Ey
 rw[kU (a:=a0) (by omega) (fun rec i hi=>by
  simp only[bD hi,aG hi,aH (show dN (0) a0[i] a0[i] from⟨rfl,by omega⟩),beq_self_eq_true,bne_self_eq_false,Bool.not_true,Bool.not_false,cond_true,cond_false,bd_s,nx_r]) (fun rec=>by simp only[bE,cond_false])]
 simp only[beq_self_eq_true,bne_self_eq_false,Bool.not_true,Bool.not_false,cond_true,cond_false,bd_s,nx_r]
theorem aEd (a0:D.Bundle)(a1:D.Bundle)(h:dN (a0.sz) a0 a1):Ez a0 a1=some (true):=by
 obtain⟨rfl,hz⟩:=h
 unfold Ez
 simp only[D.Bundle.sz] at hz
 simp only[beq_self_eq_true,bne_self_eq_false,Bool.not_true,Bool.not_false,cond_true,cond_false,bd_s,nx_r,aH (show dN (a0.Entries.length) a0.Entries a0.Entries from⟨rfl,by omega⟩)]
theorem aEe (a0:D.Device)(a1:D.Device)(h:dN (a0.sz) a0 a1):Fa a0 a1=some (true):=by
 obtain⟨rfl,hz⟩:=h
 unfold Fa
 simp only[D.Bundle.sz,D.Device.sz,D.KeyStore.sz] at hz
 simp only[beq_self_eq_true,bne_self_eq_false,Bool.not_true,Bool.not_false,cond_true,cond_false,bd_s,nx_r,aH (show dN (0) a0.Store a0.Store from⟨rfl,by omega⟩),aH (show dN (a0.Log.length) a0.Log a0.Log from⟨rfl,by omega⟩),aH (show dN (a0.Bundle.sz) a0.Bundle a0.Bundle from⟨rfl,by simp only[D.Bundle.sz];omega⟩)]
theorem W9 (a0:List D.Device)(a1:List D.Device)(h:dN (a0.length+(a0.map D.Device.sz).sum) a0 a1):zG a0 a1=some (true):=by
 obtain⟨rfl,hz⟩:=h
 unfold zG
 rw[kU (a:=a0) (by omega) (fun rec i hi=>by
  have hs:=dF (f:=D.Device.sz) hi
  simp only[bD hi,aG hi,aH (show dN (a0[i].sz) a0[i] a0[i] from⟨rfl,by omega⟩),beq_self_eq_true,bne_self_eq_false,Bool.not_true,Bool.not_false,cond_true,cond_false,bd_s,nx_r]) (fun rec=>by simp only[bE,cond_false])]
 simp only[beq_self_eq_true,bne_self_eq_false,Bool.not_true,Bool.not_false,cond_true,cond_false,bd_s,nx_r]
theorem aIx (a0:List Bool)(a1:List Bool)(h:dN (a0.length) a0 a1):Li a0 a1=some (true):=by
 obtain⟨rfl,hz⟩:=h
 unfold Li
 rw[kU (a:=a0) (by omega) (fun rec i hi=>by
  simp only[bD hi,aG hi,beq_self_eq_true,bne_self_eq_false,Bool.not_true,Bool.not_false,cond_true,cond_false,bd_s,nx_r]) (fun rec=>by simp only[bE,cond_false])]
 simp only[beq_self_eq_true,bne_self_eq_false,Bool.not_true,Bool.not_false,cond_true,cond_false,bd_s,nx_r]
theorem aIy (a0:List Int)(a1:List Int)(h:dN (a0.length) a0 a1):Lj a0 a1=some (true):=by
 obtain⟨rfl,hz⟩:=h
 unfold Lj
 rw[kU (a:=a0) (by omega) (fun rec i hi=>by
  simp only[bD hi,aG hi,beq_self_eq_true,bne_self_eq_false,Bool.not_true,Bool.not_false,cond_true,cond_false,bd_s,nx_r]) (fun rec=>by simp only[bE,cond_false])]
 simp only[beq_self_eq_true,bne_self_eq_false,Bool.not_true,Bool.not_false,cond_true,cond_false,bd_s,nx_r]
theorem aRj (a0:D.Box)(a1:D.Box)(h:dN (a0.sz) a0 a1):o5 a0 a1=some (true):=by
 obtain⟨rfl,hz⟩:=h
 unfold o5
 simp only[D.Box.sz] at hz
 simp only[beq_self_eq_true,bne_self_eq_false,Bool.not_true,Bool.not_false,cond_true,cond_false,bd_s,nx_r,aH (show dN (a0.Data.length) a0.Data a0.Data from⟨rfl,by omega⟩)]
theorem aM9 (a0:List D.Box)(a1:List D.Box)(h:dN (a0.length+(a0.map D.Box.sz).sum) a0 a1):Te a0 a1=some (true):=by
 obtain⟨rfl,hz⟩:=h
 unfold Te
 rw[kU (a:=a0) (by omega) (fun rec i hi=>by
  have hs:=dF (f:=D.Box.sz) hi
  simp only[bD hi,aG hi,aH (show dN (a0[i].sz) a0[i] a0[i] from⟨rfl,by omega⟩),beq_self_eq_true,bne_self_eq_false,Bool.not_true,Bool.not_false,cond_true,cond_false,bd_s,nx_r]) (fun rec=>by simp only[bE,cond_false])]
 simp only[beq_self_eq_true,bne_self_eq_false,Bool.not_true,Bool.not_false,cond_true,cond_false,bd_s,nx_r]
theorem Pg (a0:D.EpochBoxes)(a1:D.EpochBoxes)(h:dN (a0.sz) a0 a1):qL a0 a1=some (true):=by
 obtain⟨rfl,hz⟩:=h
 unfold qL
 simp only[D.EpochBoxes.sz] at hz
 simp only[beq_self_eq_true,bne_self_eq_false,Bool.not_true,Bool.not_false,cond_true,cond_false,bd_s,nx_r,aH (show dN (a0.Boxes.length+(a0.Boxes.map D.Box.sz).sum) a0.Boxes a0.Boxes from⟨rfl,by omega⟩)]
theorem Ga (a0:D.SealedBundle)(a1:D.SealedBundle)(h:dN (a0.sz) a0 a1):nA a0 a1=some (true):=by
 obtain⟨rfl,hz⟩:=h
 unfold nA
 simp only[D.SealedBundle.sz] at hz
 simp only[beq_self_eq_true,bne_self_eq_false,Bool.not_true,Bool.not_false,cond_true,cond_false,bd_s,nx_r,aH (show dN (a0.Data.length) a0.Data a0.Data from⟨rfl,by omega⟩)]
theorem Cc (a0:List D.SealedBundle)(a1:List D.SealedBundle)(h:dN (a0.length+(a0.map D.SealedBundle.sz).sum) a0 a1):lZ a0 a1=some (true):=by
 obtain⟨rfl,hz⟩:=h
 unfold lZ
 rw[kU (a:=a0) (by omega) (fun rec i hi=>by
  have hs:=dF (f:=D.SealedBundle.sz) hi
  simp only[bD hi,aG hi,aH (show dN (a0[i].sz) a0[i] a0[i] from⟨rfl,by omega⟩),beq_self_eq_true,bne_self_eq_false,Bool.not_true,Bool.not_false,cond_true,cond_false,bd_s,nx_r]) (fun rec=>by simp only[bE,cond_false])]
 simp only[beq_self_eq_true,bne_self_eq_false,Bool.not_true,Bool.not_false,cond_true,cond_false,bd_s,nx_r]
theorem aIz (a0:D.Cloud)(a1:D.Cloud)(h:dN (a0.sz) a0 a1):Ll a0 a1=some (true):=by
 obtain⟨rfl,hz⟩:=h
 unfold Ll
 simp only[D.Cloud.sz,D.EpochBoxes.sz] at hz
 simp only[beq_self_eq_true,bne_self_eq_false,Bool.not_true,Bool.not_false,cond_true,cond_false,bd_s,nx_r,aH (show dN (a0.Log.length) a0.Log a0.Log from⟨rfl,by omega⟩),aH (show dN (a0.Boxes.sz) a0.Boxes a0.Boxes from⟨rfl,by simp only[D.EpochBoxes.sz];omega⟩),aH (show dN (a0.History.length+(a0.History.map D.SealedBundle.sz).sum) a0.History a0.History from⟨rfl,by omega⟩)]
theorem Ph (a0:D.Credential)(a1:D.Credential)(h:dN (0) a0 a1):qM a0 a1=some (true):=by
 obtain⟨rfl,hz⟩:=h
 unfold qM
 simp only[beq_self_eq_true,bne_self_eq_false,Bool.not_true,Bool.not_false,cond_true,cond_false,bd_s,nx_r]
theorem Md (a0:List D.Credential)(a1:List D.Credential)(h:dN (a0.length) a0 a1):oW a0 a1=some (true):=by
 obtain⟨rfl,hz⟩:=h
 unfold oW
 rw[kU (a:=a0) (by omega) (fun rec i hi=>by
  simp only[bD hi,aG hi,aH (show dN (0) a0[i] a0[i] from⟨rfl,by omega⟩),beq_self_eq_true,bne_self_eq_false,Bool.not_true,Bool.not_false,cond_true,cond_false,bd_s,nx_r]) (fun rec=>by simp only[bE,cond_false])]
 simp only[beq_self_eq_true,bne_self_eq_false,Bool.not_true,Bool.not_false,cond_true,cond_false,bd_s,nx_r]
theorem X3 (a0:D.Account)(a1:D.Account)(h:dN (a0.sz) a0 a1):zH a0 a1=some (true):=by
 obtain⟨rfl,hz⟩:=h
 unfold zH
 simp only[D.Account.sz] at hz
 simp only[beq_self_eq_true,bne_self_eq_false,Bool.not_true,Bool.not_false,cond_true,cond_false,bd_s,nx_r,aH (show dN (a0.Credentials.length) a0.Credentials a0.Credentials from⟨rfl,by omega⟩)]
theorem r9 (a0:List D.Account)(a1:List D.Account)(h:dN (a0.length+(a0.map D.Account.sz).sum) a0 a1):wU a0 a1=some (true):=by
 obtain⟨rfl,hz⟩:=h
 unfold wU
 rw[kU (a:=a0) (by omega) (fun rec i hi=>by
  have hs:=dF (f:=D.Account.sz) hi
  simp only[bD hi,aG hi,aH (show dN (a0[i].sz) a0[i] a0[i] from⟨rfl,by omega⟩),beq_self_eq_true,bne_self_eq_false,Bool.not_true,Bool.not_false,cond_true,cond_false,bd_s,nx_r]) (fun rec=>by simp only[bE,cond_false])]
 simp only[beq_self_eq_true,bne_self_eq_false,Bool.not_true,Bool.not_false,cond_true,cond_false,bd_s,nx_r]
theorem Ut (a0:D.Challenge)(a1:D.Challenge)(h:dN (0) a0 a1):tZ a0 a1=some (true):=by
 obtain⟨rfl,hz⟩:=h
 unfold tZ
 simp only[beq_self_eq_true,bne_self_eq_false,Bool.not_true,Bool.not_false,cond_true,cond_false,bd_s,nx_r]
theorem Pi (a0:List D.Challenge)(a1:List D.Challenge)(h:dN (a0.length) a0 a1):qN a0 a1=some (true):=by
 obtain⟨rfl,hz⟩:=h
 unfold qN
 rw[kU (a:=a0) (by omega) (fun rec i hi=>by
  simp only[bD hi,aG hi,aH (show dN (0) a0[i] a0[i] from⟨rfl,by omega⟩),beq_self_eq_true,bne_self_eq_false,Bool.not_true,Bool.not_false,cond_true,cond_false,bd_s,nx_r]) (fun rec=>by simp only[bE,cond_false])]
 simp only[beq_self_eq_true,bne_self_eq_false,Bool.not_true,Bool.not_false,cond_true,cond_false,bd_s,nx_r]
theorem Ce (a0:D.ChallengeBook)(a1:D.ChallengeBook)(h:dN (a0.sz) a0 a1):mD a0 a1=some (true):=by
 obtain⟨rfl,hz⟩:=h
 unfold mD
 simp only[D.ChallengeBook.sz] at hz
 simp only[beq_self_eq_true,bne_self_eq_false,Bool.not_true,Bool.not_false,cond_true,cond_false,bd_s,nx_r,aH (show dN (a0.Open.length) a0.Open a0.Open from⟨rfl,by omega⟩)]
theorem aNa (a0:List Int)(a1:List Int)(h:dN (a0.length) a0 a1):Tf a0 a1=some (true):=by
 obtain⟨rfl,hz⟩:=h
 unfold Tf
 rw[kU (a:=a0) (by omega) (fun rec i hi=>by
  simp only[bD hi,aG hi,beq_self_eq_true,bne_self_eq_false,Bool.not_true,Bool.not_false,cond_true,cond_false,bd_s,nx_r]) (fun rec=>by simp only[bE,cond_false])]
 simp only[beq_self_eq_true,bne_self_eq_false,Bool.not_true,Bool.not_false,cond_true,cond_false,bd_s,nx_r]
theorem aNb (a0:D.Site)(a1:D.Site)(h:dN (a0.sz) a0 a1):Tg a0 a1=some (true):=by
 obtain⟨rfl,hz⟩:=h
 unfold Tg
 simp only[D.ChallengeBook.sz,D.Site.sz] at hz
 simp only[beq_self_eq_true,bne_self_eq_false,Bool.not_true,Bool.not_false,cond_true,cond_false,bd_s,nx_r,aH (show dN (a0.Accounts.length+(a0.Accounts.map D.Account.sz).sum) a0.Accounts a0.Accounts from⟨rfl,by omega⟩),aH (show dN (a0.Book.sz) a0.Book a0.Book from⟨rfl,by simp only[D.ChallengeBook.sz];omega⟩),aH (show dN (a0.Logins.length) a0.Logins a0.Logins from⟨rfl,by omega⟩)]
theorem aI0 (a0:List D.Site)(a1:List D.Site)(h:dN (a0.length+(a0.map D.Site.sz).sum) a0 a1):Lm a0 a1=some (true):=by
 obtain⟨rfl,hz⟩:=h
 unfold Lm
 rw[kU (a:=a0) (by omega) (fun rec i hi=>by
  have hs:=dF (f:=D.Site.sz) hi
  simp only[bD hi,aG hi,aH (show dN (a0[i].sz) a0[i] a0[i] from⟨rfl,by omega⟩),beq_self_eq_true,bne_self_eq_false,Bool.not_true,Bool.not_false,cond_true,cond_false,bd_s,nx_r]) (fun rec=>by simp only[bE,cond_false])]
 simp only[beq_self_eq_true,bne_self_eq_false,Bool.not_true,Bool.not_false,cond_true,cond_false,bd_s,nx_r]
theorem aI1 (a0:D.Vault)(a1:D.Vault)(h:dN (0) a0 a1):Lp a0 a1=some (true):=by
 obtain⟨rfl,hz⟩:=h
 unfold Lp
 simp only[beq_self_eq_true,bne_self_eq_false,Bool.not_true,Bool.not_false,cond_true,cond_false,bd_s,nx_r]
theorem aI2 (a0:D.Share)(a1:D.Share)(h:dN (0) a0 a1):Lr a0 a1=some (true):=by
 obtain⟨rfl,hz⟩:=h
 unfold Lr
 simp only[beq_self_eq_true,bne_self_eq_false,Bool.not_true,Bool.not_false,cond_true,cond_false,bd_s,nx_r]
theorem aEf (a0:D.Keeper)(a1:D.Keeper)(h:dN (0) a0 a1):Fb a0 a1=some (true):=by
 obtain⟨rfl,hz⟩:=h
 unfold Fb
 simp only[beq_self_eq_true,bne_self_eq_false,Bool.not_true,Bool.not_false,cond_true,cond_false,bd_s,nx_r,aH (show dN (0) a0.Share a0.Share from⟨rfl,by omega⟩)]
theorem X4 (a0:List D.Keeper)(a1:List D.Keeper)(h:dN (a0.length) a0 a1):zI a0 a1=some (true):=by
 obtain⟨rfl,hz⟩:=h
 unfold zI
 rw[kU (a:=a0) (by omega) (fun rec i hi=>by
  simp only[bD hi,aG hi,aH (show dN (0) a0[i] a0[i] from⟨rfl,by omega⟩),beq_self_eq_true,bne_self_eq_false,Bool.not_true,Bool.not_false,cond_true,cond_false,bd_s,nx_r]) (fun rec=>by simp only[bE,cond_false])]
 simp only[beq_self_eq_true,bne_self_eq_false,Bool.not_true,Bool.not_false,cond_true,cond_false,bd_s,nx_r]
theorem Pj (a0:D.KeeperHost)(a1:D.KeeperHost)(h:dN (a0.sz) a0 a1):qO a0 a1=some (true):=by
 obtain⟨rfl,hz⟩:=h
 unfold qO
 simp only[D.Keeper.sz,D.KeeperHost.sz,D.Share.sz] at hz
 simp only[beq_self_eq_true,bne_self_eq_false,Bool.not_true,Bool.not_false,cond_true,cond_false,bd_s,nx_r,aH (show dN (0) a0.State a0.State from⟨rfl,by omega⟩),aH (show dN (a0.Saved.length) a0.Saved a0.Saved from⟨rfl,by omega⟩)]
theorem Me (a0:List D.KeeperHost)(a1:List D.KeeperHost)(h:dN (a0.length+(a0.map D.KeeperHost.sz).sum) a0 a1):oZ a0 a1=some (true):=by
 obtain⟨rfl,hz⟩:=h
 unfold oZ
 rw[kU (a:=a0) (by omega) (fun rec i hi=>by
  have hs:=dF (f:=D.KeeperHost.sz) hi
  simp only[bD hi,aG hi,aH (show dN (a0[i].sz) a0[i] a0[i] from⟨rfl,by omega⟩),beq_self_eq_true,bne_self_eq_false,Bool.not_true,Bool.not_false,cond_true,cond_false,bd_s,nx_r]) (fun rec=>by simp only[bE,cond_false])]
 simp only[beq_self_eq_true,bne_self_eq_false,Bool.not_true,Bool.not_false,cond_true,cond_false,bd_s,nx_r]
theorem aEg (a0:D.Notice)(a1:D.Notice)(h:dN (0) a0 a1):Fe a0 a1=some (true):=by
 obtain⟨rfl,hz⟩:=h
 unfold Fe
 simp only[beq_self_eq_true,bne_self_eq_false,Bool.not_true,Bool.not_false,cond_true,cond_false,bd_s,nx_r]
theorem X5 (a0:List D.Notice)(a1:List D.Notice)(h:dN (a0.length) a0 a1):zJ a0 a1=some (true):=by
 obtain⟨rfl,hz⟩:=h
 unfold zJ
 rw[kU (a:=a0) (by omega) (fun rec i hi=>by
  simp only[bD hi,aG hi,aH (show dN (0) a0[i] a0[i] from⟨rfl,by omega⟩),beq_self_eq_true,bne_self_eq_false,Bool.not_true,Bool.not_false,cond_true,cond_false,bd_s,nx_r]) (fun rec=>by simp only[bE,cond_false])]
 simp only[beq_self_eq_true,bne_self_eq_false,Bool.not_true,Bool.not_false,cond_true,cond_false,bd_s,nx_r]
theorem X6 (a0:D.Mailbox)(a1:D.Mailbox)(h:dN (a0.sz) a0 a1):zK a0 a1=some (true):=by
 obtain⟨rfl,hz⟩:=h
 unfold zK
 simp only[D.Mailbox.sz] at hz
 simp only[beq_self_eq_true,bne_self_eq_false,Bool.not_true,Bool.not_false,cond_true,cond_false,bd_s,nx_r,aH (show dN (a0.Notices.length) a0.Notices a0.Notices from⟨rfl,by omega⟩)]
theorem aI3 (a0:D.World)(a1:D.World)(h:dN (a0.sz) a0 a1):Ls a0 a1=some (true):=by
 obtain⟨rfl,hz⟩:=h
 unfold Ls
 simp only[D.Cloud.sz,D.EpochBoxes.sz,D.Mailbox.sz,D.Vault.sz,D.World.sz] at hz
 simp only[beq_self_eq_true,bne_self_eq_false,Bool.not_true,Bool.not_false,cond_true,cond_false,bd_s,nx_r,aH (show dN (a0.Devices.length+(a0.Devices.map D.Device.sz).sum) a0.Devices a0.Devices from⟨rfl,by omega⟩),aH (show dN (a0.Stolen.length) a0.Stolen a0.Stolen from⟨rfl,by omega⟩),aH (show dN (a0.Cloud.sz) a0.Cloud a0.Cloud from⟨rfl,by simp only[D.Cloud.sz,D.EpochBoxes.sz];omega⟩),aH (show dN (a0.Sites.length+(a0.Sites.map D.Site.sz).sum) a0.Sites a0.Sites from⟨rfl,by omega⟩),aH (show dN (0) a0.Vault a0.Vault from⟨rfl,by omega⟩),aH (show dN (a0.Hosts.length+(a0.Hosts.map D.KeeperHost.sz).sum) a0.Hosts a0.Hosts from⟨rfl,by omega⟩),aH (show dN (a0.Mail.sz) a0.Mail a0.Mail from⟨rfl,by simp only[D.Mailbox.sz];omega⟩)]
theorem Mf (a0:List D.LogEntry)(a1:Int)(h:iO (a0.length) (aD aI a0) a1):pE a0 a1=some (bC aQ a0 a1):=by
 obtain⟨hs,h0,h1⟩:=h
 unfold pE
 rw[gL eP h0 h1 (by omega) (fun rec k i l hi hi0 hx hk0 hk1=>by
  unfold aI at hk1
  obtain⟨k0,q0⟩:∃z,z=IntKind.i64.wrap (k+1):=⟨_,rfl⟩
  have g0:k0=k+1:=q0.trans (aJ (by omega) (by omega))
  obtain⟨k1,q1⟩:∃z,z=IntKind.i64.wrap (k0+1):=⟨_,rfl⟩
  have g1:k1=k0+1:=q1.trans (aJ (by omega) (by omega))
  obtain⟨k2,q2⟩:∃z,z=IntKind.i64.wrap (k1+1):=⟨_,rfl⟩
  have g2:k2=k1+1:=q2.trans (aJ (by omega) (by omega))
  obtain⟨k3,q3⟩:∃z,z=IntKind.i64.wrap (k2+1):=⟨_,rfl⟩
  have g3:k3=k2+1:=q3.trans (aJ (by omega) (by omega))
  obtain⟨k4,q4⟩:∃z,z=IntKind.i64.wrap (k3+1):=⟨_,rfl⟩
  have g4:k4=k3+1:=q4.trans (aJ (by omega) (by omega))
  obtain⟨k5,q5⟩:∃z,z=IntKind.i64.wrap (k4+1):=⟨_,rfl⟩
  have g5:k5=k4+1:=q5.trans (aJ (by omega) (by omega))
  simp only[bD hi,cond_true,aG hi,hx,kN hi,aG (show i<(l.set i _).length by simpa using hi),List.set_set,List.getElem_set_self,bd_s,bM,dJ,gd_T,aQ,←q0,←q1,←q2,←q3,←q4,←q5]) (fun rec k l=>by simp only[bE,cond_false])]
 rfl
theorem w9 (a0:List D.Entry)(a1:Int)(h:iO (a0.length) (aD dB a0) a1):wV a0 a1=some (bC fA a0 a1):=by
 obtain⟨hs,h0,h1⟩:=h
 unfold wV
 rw[gL pF h0 h1 (by omega) (fun rec k i l hi hi0 hx hk0 hk1=>by
  unfold dB at hk1
  obtain⟨k0,q0⟩:∃z,z=IntKind.i64.wrap (k+1):=⟨_,rfl⟩
  have g0:k0=k+1:=q0.trans (aJ (by omega) (by omega))
  obtain⟨k1,q1⟩:∃z,z=IntKind.i64.wrap (k0+1):=⟨_,rfl⟩
  have g1:k1=k0+1:=q1.trans (aJ (by omega) (by omega))
  obtain⟨k2,q2⟩:∃z,z=IntKind.i64.wrap (k1+1):=⟨_,rfl⟩
  have g2:k2=k1+1:=q2.trans (aJ (by omega) (by omega))
  obtain⟨k3,q3⟩:∃z,z=IntKind.i64.wrap (k2+1):=⟨_,rfl⟩
  have g3:k3=k2+1:=q3.trans (aJ (by omega) (by omega))
  simp only[bD hi,cond_true,aG hi,hx,kN hi,aG (show i<(l.set i _).length by simpa using hi),List.set_set,List.getElem_set_self,bd_s,bM,dJ,gd_T,fA,←q0,←q1,←q2,←q3]) (fun rec k l=>by simp only[bE,cond_false])]
 rfl
theorem Uu (a0:List D.Device)(a1:Int)(h:iO (a0.length+(a0.map D.Device.sz).sum) (aD aN a0) a1):uA a0 a1=some (bC bT a0 a1):=by
 obtain⟨hs,h0,h1⟩:=h
 unfold uA
 rw[gL mE h0 h1 (by omega) (fun rec k i l hi hi0 hx hk0 hk1=>by
  have hz:=dF (f:=D.Device.sz) hi0
  simp only[D.Bundle.sz,D.Device.sz,D.KeyStore.sz] at hz
  unfold aN at hk1
  obtain⟨k0,q0⟩:∃z,z=IntKind.i64.wrap (k+1):=⟨_,rfl⟩
  have g0:k0=k+1:=q0.trans (aJ (by omega) (by omega))
  obtain⟨k1,q1⟩:∃z,z=IntKind.i64.wrap (k0+1):=⟨_,rfl⟩
  have g1:k1=k0+1:=q1.trans (aJ (by omega) (by omega))
  obtain⟨k2,q2⟩:∃z,z=IntKind.i64.wrap (k1+1):=⟨_,rfl⟩
  have g2:k2=k1+1:=q2.trans (aJ (by omega) (by omega))
  obtain⟨k3,q3⟩:∃z,z=IntKind.i64.wrap (k2+1):=⟨_,rfl⟩
  have g3:k3=k2+1:=q3.trans (aJ (by omega) (by omega))
  have p4:iO (a0[i].Log.length) (aD aI a0[i].Log) k3:=⟨by omega,by omega,by omega⟩
  have f4:=bJ eP a0[i].Log k3 (by omega) (by omega)
  obtain⟨k4,q4⟩:∃z,z=(bC aQ a0[i].Log k3).2:=⟨_,rfl⟩
  have g4:k4=k3+aD aI a0[i].Log:=q4.trans f4.1
  obtain⟨k5,q5⟩:∃z,z=IntKind.i64.wrap (k4+1):=⟨_,rfl⟩
  have g5:k5=k4+1:=q5.trans (aJ (by omega) (by omega))
  obtain⟨k6,q6⟩:∃z,z=IntKind.i64.wrap (k5+1):=⟨_,rfl⟩
  have g6:k6=k5+1:=q6.trans (aJ (by omega) (by omega))
  obtain⟨k7,q7⟩:∃z,z=IntKind.i64.wrap (k6+1):=⟨_,rfl⟩
  have g7:k7=k6+1:=q7.trans (aJ (by omega) (by omega))
  have p8:iO (a0[i].Bundle.Entries.length) (aD dB a0[i].Bundle.Entries) k7:=⟨by omega,by omega,by omega⟩
  have f8:=bJ pF a0[i].Bundle.Entries k7 (by omega) (by omega)
  obtain⟨k8,q8⟩:∃z,z=(bC fA a0[i].Bundle.Entries k7).2:=⟨_,rfl⟩
  have g8:k8=k7+aD dB a0[i].Bundle.Entries:=q8.trans f8.1
  simp only[bD hi,cond_true,aG hi,hx,kN hi,aG (show i<(l.set i _).length by simpa using hi),List.set_set,List.getElem_set_self,bd_s,bM,dJ,gd_T,bT,←q0,←q1,←q2,←q3,←q4,←q5,←q6,←q7,←q8,aH p4,aH p8]) (fun rec k l=>by simp only[bE,cond_false])]
 rfl
theorem X7 (a0:List Bool)(a1:Int)(h:iO (a0.length) (aD eY a0) a1):zL a0 a1=some (bC mkB a0 a1):=by
 obtain⟨hs,h0,h1⟩:=h
 unfold zL
 rw[gL aId h0 h1 (by omega) (fun rec k i l hi hi0 hx hk0 hk1=>by
  simp only[bD hi,cond_true,aG hi,bd_s,bM,dJ,gd_T,mkB]) (fun rec k l=>by simp only[bE,cond_false])]
 rfl
theorem X8 (a0:List Int)(a1:Int)(h:iO (a0.length) (aD eY a0) a1):zM a0 a1=some (bC mkU a0 a1):=by
 obtain⟨hs,h0,h1⟩:=h
 unfold zM
 rw[gL Jd h0 h1 (by omega) (fun rec k i l hi hi0 hx hk0 hk1=>by
  simp only[bD hi,cond_true,aG hi,bd_s,bM,dJ,gd_T,mkU]) (fun rec k l=>by simp only[bE,cond_false])]
 rfl
theorem aEh (a0:List D.Box)(a1:Int)(h:iO (a0.length+(a0.map D.Box.sz).sum) (aD dV a0) a1):Ff a0 a1=some (bC eQ a0 a1):=by
 obtain⟨hs,h0,h1⟩:=h
 unfold Ff
 rw[gL jX h0 h1 (by omega) (fun rec k i l hi hi0 hx hk0 hk1=>by
  have hz:=dF (f:=D.Box.sz) hi0
  simp only[D.Box.sz] at hz
  unfold dV at hk1
  obtain⟨k0,q0⟩:∃z,z=IntKind.i64.wrap (k+1):=⟨_,rfl⟩
  have g0:k0=k+1:=q0.trans (aJ (by omega) (by omega))
  obtain⟨k1,q1⟩:∃z,z=IntKind.i64.wrap (k0+1):=⟨_,rfl⟩
  have g1:k1=k0+1:=q1.trans (aJ (by omega) (by omega))
  have p2:iO (a0[i].Data.length) (aD eY a0[i].Data) k1:=⟨by omega,by omega,by omega⟩
  have f2:=bJ Jd a0[i].Data k1 (by omega) (by omega)
  obtain⟨k2,q2⟩:∃z,z=(bC mkU a0[i].Data k1).2:=⟨_,rfl⟩
  have g2:k2=k1+aD eY a0[i].Data:=q2.trans f2.1
  obtain⟨k3,q3⟩:∃z,z=IntKind.i64.wrap (k2+1):=⟨_,rfl⟩
  have g3:k3=k2+1:=q3.trans (aJ (by omega) (by omega))
  simp only[bD hi,cond_true,aG hi,hx,kN hi,aG (show i<(l.set i _).length by simpa using hi),List.set_set,List.getElem_set_self,bd_s,bM,dJ,gd_T,eQ,←q0,←q1,←q2,←q3,aH p2]) (fun rec k l=>by simp only[bE,cond_false])]
 rfl
theorem Gb (a0:D.EpochBoxes)(a1:Int)(h:iO (a0.sz) (aL a0) a1):nC a0 a1=some (dH a0 a1):=by
 obtain⟨hs,h0,h1⟩:=h
 unfold aL at h1
 simp only[D.EpochBoxes.sz] at hs
 unfold nC dH
 rw[aH (show iO _ _ _ from⟨by omega,by omega,by omega⟩)]
 have f0:=bJ jX a0.Boxes a1 (by omega) (by omega)
 obtain⟨k0,q0⟩:∃z,z=(bC eQ a0.Boxes a1).2:=⟨_,rfl⟩
 have g0:k0=a1+aD dV a0.Boxes:=q0.trans f0.1
 simp only[bd_s,←q0]
theorem xD (a0:List D.SealedBundle)(a1:Int)(h:iO (a0.length+(a0.map D.SealedBundle.sz).sum) (aD aK a0) a1):kK a0 a1=some (bC aZ a0 a1):=by
 obtain⟨hs,h0,h1⟩:=h
 unfold kK
 rw[gL eU h0 h1 (by omega) (fun rec k i l hi hi0 hx hk0 hk1=>by
  have hz:=dF (f:=D.SealedBundle.sz) hi0
  simp only[D.SealedBundle.sz] at hz
  unfold aK at hk1
  obtain⟨k0,q0⟩:∃z,z=IntKind.i64.wrap (k+1):=⟨_,rfl⟩
  have g0:k0=k+1:=q0.trans (aJ (by omega) (by omega))
  obtain⟨k1,q1⟩:∃z,z=IntKind.i64.wrap (k0+1):=⟨_,rfl⟩
  have g1:k1=k0+1:=q1.trans (aJ (by omega) (by omega))
  have p2:iO (a0[i].Data.length) (aD eY a0[i].Data) k1:=⟨by omega,by omega,by omega⟩
  have f2:=bJ Jd a0[i].Data k1 (by omega) (by omega)
  obtain⟨k2,q2⟩:∃z,z=(bC mkU a0[i].Data k1).2:=⟨_,rfl⟩
  have g2:k2=k1+aD eY a0[i].Data:=q2.trans f2.1
  obtain⟨k3,q3⟩:∃z,z=IntKind.i64.wrap (k2+1):=⟨_,rfl⟩
  have g3:k3=k2+1:=q3.trans (aJ (by omega) (by omega))
  simp only[bD hi,cond_true,aG hi,hx,kN hi,aG (show i<(l.set i _).length by simpa using hi),List.set_set,List.getElem_set_self,bd_s,bM,dJ,gd_T,aZ,←q0,←q1,←q2,←q3,aH p2]) (fun rec k l=>by simp only[bE,cond_false])]
 rfl
theorem X9 (a0:D.Cloud)(a1:Int)(h:iO (a0.sz) (aV a0) a1):zN a0 a1=some (fT a0 a1):=by
 obtain⟨hs,h0,h1⟩:=h
 unfold aV at h1
 simp only[D.Cloud.sz,D.EpochBoxes.sz] at hs
 unfold zN fT
 rw[aH (show iO _ _ _ from⟨by omega,by omega,by omega⟩)]
 have f0:=bJ eP a0.Log a1 (by omega) (by omega)
 obtain⟨k0,q0⟩:∃z,z=(bC aQ a0.Log a1).2:=⟨_,rfl⟩
 have g0:k0=a1+aD aI a0.Log:=q0.trans f0.1
 simp only[bd_s,←q0]
 rw[aH (show iO _ _ _ from⟨by simp only[D.EpochBoxes.sz];omega,by omega,by unfold aL;omega⟩)]
 simp only[bd_s,dH]
 have f1:=bJ jX a0.Boxes.Boxes k0 (by omega) (by omega)
 obtain⟨k1,q1⟩:∃z,z=(bC eQ a0.Boxes.Boxes k0).2:=⟨_,rfl⟩
 have g1:k1=k0+aD dV a0.Boxes.Boxes:=q1.trans f1.1
 simp only[←q1]
 rw[aH (show iO _ _ _ from⟨by omega,by omega,by omega⟩)]
 have f2:=bJ eU a0.History k1 (by omega) (by omega)
 obtain⟨k2,q2⟩:∃z,z=(bC aZ a0.History k1).2:=⟨_,rfl⟩
 have g2:k2=k1+aD aK a0.History:=q2.trans f2.1
 simp only[bd_s,←q2]
theorem Cf (a0:List D.Credential)(a1:Int)(h:iO (a0.length) (aD aY a0) a1):mF a0 a1=some (bC bU a0 a1):=by
 obtain⟨hs,h0,h1⟩:=h
 unfold mF
 rw[gL iL h0 h1 (by omega) (fun rec k i l hi hi0 hx hk0 hk1=>by
  unfold aY at hk1
  obtain⟨k0,q0⟩:∃z,z=IntKind.i64.wrap (k+1):=⟨_,rfl⟩
  have g0:k0=k+1:=q0.trans (aJ (by omega) (by omega))
  obtain⟨k1,q1⟩:∃z,z=IntKind.i64.wrap (k0+1):=⟨_,rfl⟩
  have g1:k1=k0+1:=q1.trans (aJ (by omega) (by omega))
  obtain⟨k2,q2⟩:∃z,z=IntKind.i64.wrap (k1+1):=⟨_,rfl⟩
  have g2:k2=k1+1:=q2.trans (aJ (by omega) (by omega))
  obtain⟨k3,q3⟩:∃z,z=IntKind.i64.wrap (k2+1):=⟨_,rfl⟩
  have g3:k3=k2+1:=q3.trans (aJ (by omega) (by omega))
  simp only[bD hi,cond_true,aG hi,hx,kN hi,aG (show i<(l.set i _).length by simpa using hi),List.set_set,List.getElem_set_self,bd_s,bM,dJ,gd_T,bU,←q0,←q1,←q2,←q3]) (fun rec k l=>by simp only[bE,cond_false])]
 rfl
theorem Pk (a0:List D.Account)(a1:Int)(h:iO (a0.length+(a0.map D.Account.sz).sum) (aD aM a0) a1):qP a0 a1=some (bC dE a0 a1):=by
 obtain⟨hs,h0,h1⟩:=h
 unfold qP
 rw[gL kL h0 h1 (by omega) (fun rec k i l hi hi0 hx hk0 hk1=>by
  have hz:=dF (f:=D.Account.sz) hi0
  simp only[D.Account.sz] at hz
  unfold aM at hk1
  obtain⟨k0,q0⟩:∃z,z=IntKind.i64.wrap (k+1):=⟨_,rfl⟩
  have g0:k0=k+1:=q0.trans (aJ (by omega) (by omega))
  obtain⟨k1,q1⟩:∃z,z=IntKind.i64.wrap (k0+1):=⟨_,rfl⟩
  have g1:k1=k0+1:=q1.trans (aJ (by omega) (by omega))
  have p2:iO (a0[i].Credentials.length) (aD aY a0[i].Credentials) k1:=⟨by omega,by omega,by omega⟩
  have f2:=bJ iL a0[i].Credentials k1 (by omega) (by omega)
  obtain⟨k2,q2⟩:∃z,z=(bC bU a0[i].Credentials k1).2:=⟨_,rfl⟩
  have g2:k2=k1+aD aY a0[i].Credentials:=q2.trans f2.1
  simp only[bD hi,cond_true,aG hi,hx,kN hi,aG (show i<(l.set i _).length by simpa using hi),List.set_set,List.getElem_set_self,bd_s,bM,dJ,gd_T,dE,←q0,←q1,←q2,aH p2]) (fun rec k l=>by simp only[bE,cond_false])]
 rfl
theorem Gc (a0:List D.Challenge)(a1:Int)(h:iO (a0.length) (aD aU a0) a1):nD a0 a1=some (bC cB a0 a1):=by
 obtain⟨hs,h0,h1⟩:=h
 unfold nD
 rw[gL iZ h0 h1 (by omega) (fun rec k i l hi hi0 hx hk0 hk1=>by
  unfold aU at hk1
  obtain⟨k0,q0⟩:∃z,z=IntKind.i64.wrap (k+1):=⟨_,rfl⟩
  have g0:k0=k+1:=q0.trans (aJ (by omega) (by omega))
  obtain⟨k1,q1⟩:∃z,z=IntKind.i64.wrap (k0+1):=⟨_,rfl⟩
  have g1:k1=k0+1:=q1.trans (aJ (by omega) (by omega))
  obtain⟨k2,q2⟩:∃z,z=IntKind.i64.wrap (k1+1):=⟨_,rfl⟩
  have g2:k2=k1+1:=q2.trans (aJ (by omega) (by omega))
  simp only[bD hi,cond_true,aG hi,hx,kN hi,aG (show i<(l.set i _).length by simpa using hi),List.set_set,List.getElem_set_self,bd_s,bM,dJ,gd_T,cB,←q0,←q1,←q2]) (fun rec k l=>by simp only[bE,cond_false])]
 rfl
theorem aEi (a0:List Int)(a1:Int)(h:iO (a0.length) (aD eY a0) a1):Fg a0 a1=some (bC mkI a0 a1):=by
 obtain⟨hs,h0,h1⟩:=h
 unfold Fg
 rw[gL aIc h0 h1 (by omega) (fun rec k i l hi hi0 hx hk0 hk1=>by
  simp only[bD hi,cond_true,aG hi,bd_s,bM,dJ,gd_T,mkI]) (fun rec k l=>by simp only[bE,cond_false])]
 rfl
theorem Y1 (a0:List D.Site)(a1:Int)(h:iO (a0.length+(a0.map D.Site.sz).sum) (aD bX a0) a1):zP a0 a1=some (bC fB a0 a1):=by
 obtain⟨hs,h0,h1⟩:=h
 unfold zP
 rw[gL uB h0 h1 (by omega) (fun rec k i l hi hi0 hx hk0 hk1=>by
  have hz:=dF (f:=D.Site.sz) hi0
  simp only[D.ChallengeBook.sz,D.Site.sz] at hz
  unfold bX at hk1
  have t0:fD k=some (zO k):=aDj (by omega) (by omega)
  obtain⟨k0,q0⟩:∃z,z=IntKind.i64.wrap (k+1):=⟨_,rfl⟩
  have g0:k0=k+1:=q0.trans (aJ (by omega) (by omega))
  have p1:iO (a0[i].Accounts.length+(a0[i].Accounts.map D.Account.sz).sum) (aD aM a0[i].Accounts) k0:=⟨by omega,by omega,by omega⟩
  have f1:=bJ kL a0[i].Accounts k0 (by omega) (by omega)
  obtain⟨k1,q1⟩:∃z,z=(bC dE a0[i].Accounts k0).2:=⟨_,rfl⟩
  have g1:k1=k0+aD aM a0[i].Accounts:=q1.trans f1.1
  obtain⟨k2,q2⟩:∃z,z=IntKind.i64.wrap (k1+1):=⟨_,rfl⟩
  have g2:k2=k1+1:=q2.trans (aJ (by omega) (by omega))
  obtain⟨k3,q3⟩:∃z,z=IntKind.i64.wrap (k2+1):=⟨_,rfl⟩
  have g3:k3=k2+1:=q3.trans (aJ (by omega) (by omega))
  have p4:iO (a0[i].Book.Open.length) (aD aU a0[i].Book.Open) k3:=⟨by omega,by omega,by omega⟩
  have f4:=bJ iZ a0[i].Book.Open k3 (by omega) (by omega)
  obtain⟨k4,q4⟩:∃z,z=(bC cB a0[i].Book.Open k3).2:=⟨_,rfl⟩
  have g4:k4=k3+aD aU a0[i].Book.Open:=q4.trans f4.1
  have p5:iO (a0[i].Logins.length) (aD eY a0[i].Logins) k4:=⟨by omega,by omega,by omega⟩
  have f5:=bJ aIc a0[i].Logins k4 (by omega) (by omega)
  obtain⟨k5,q5⟩:∃z,z=(bC mkI a0[i].Logins k4).2:=⟨_,rfl⟩
  have g5:k5=k4+aD eY a0[i].Logins:=q5.trans f5.1
  simp only[bD hi,cond_true,aG hi,hx,kN hi,aG (show i<(l.set i _).length by simpa using hi),List.set_set,List.getElem_set_self,bd_s,bM,dJ,gd_T,fB,←q0,←q1,←q2,←q3,←q4,←q5,t0,aH p1,aH p4,aH p5]) (fun rec k l=>by simp only[bE,cond_false])]
 rfl
theorem Uv (a0:List D.Keeper)(a1:Int)(h:iO (a0.length) (aD bK a0) a1):uC a0 a1=some (bC dQ a0 a1):=by
 obtain⟨hs,h0,h1⟩:=h
 unfold uC
 rw[gL mG h0 h1 (by omega) (fun rec k i l hi hi0 hx hk0 hk1=>by
  unfold bK at hk1
  obtain⟨k0,q0⟩:∃z,z=IntKind.i64.wrap (k+1):=⟨_,rfl⟩
  have g0:k0=k+1:=q0.trans (aJ (by omega) (by omega))
  obtain⟨k1,q1⟩:∃z,z=IntKind.i64.wrap (k0+1):=⟨_,rfl⟩
  have g1:k1=k0+1:=q1.trans (aJ (by omega) (by omega))
  obtain⟨k2,q2⟩:∃z,z=IntKind.i64.wrap (k1+1):=⟨_,rfl⟩
  have g2:k2=k1+1:=q2.trans (aJ (by omega) (by omega))
  obtain⟨k3,q3⟩:∃z,z=IntKind.i64.wrap (k2+1):=⟨_,rfl⟩
  have g3:k3=k2+1:=q3.trans (aJ (by omega) (by omega))
  obtain⟨k4,q4⟩:∃z,z=IntKind.i64.wrap (k3+1):=⟨_,rfl⟩
  have g4:k4=k3+1:=q4.trans (aJ (by omega) (by omega))
  simp only[bD hi,cond_true,aG hi,hx,kN hi,aG (show i<(l.set i _).length by simpa using hi),List.set_set,List.getElem_set_self,bd_s,bM,dJ,gd_T,dQ,←q0,←q1,←q2,←q3,←q4]) (fun rec k l=>by simp only[bE,cond_false])]
 rfl
theorem Cg (a0:List D.KeeperHost)(a1:Int)(h:iO (a0.length+(a0.map D.KeeperHost.sz).sum) (aD aP a0) a1):mH a0 a1=some (bC bH a0 a1):=by
 obtain⟨hs,h0,h1⟩:=h
 unfold mH
 rw[gL iM h0 h1 (by omega) (fun rec k i l hi hi0 hx hk0 hk1=>by
  have hz:=dF (f:=D.KeeperHost.sz) hi0
  simp only[D.Keeper.sz,D.KeeperHost.sz,D.Share.sz] at hz
  unfold aP at hk1
  obtain⟨k0,q0⟩:∃z,z=IntKind.i64.wrap (k+1):=⟨_,rfl⟩
  have g0:k0=k+1:=q0.trans (aJ (by omega) (by omega))
  obtain⟨k1,q1⟩:∃z,z=IntKind.i64.wrap (k0+1):=⟨_,rfl⟩
  have g1:k1=k0+1:=q1.trans (aJ (by omega) (by omega))
  obtain⟨k2,q2⟩:∃z,z=IntKind.i64.wrap (k1+1):=⟨_,rfl⟩
  have g2:k2=k1+1:=q2.trans (aJ (by omega) (by omega))
  obtain⟨k3,q3⟩:∃z,z=IntKind.i64.wrap (k2+1):=⟨_,rfl⟩
  have g3:k3=k2+1:=q3.trans (aJ (by omega) (by omega))
  obtain⟨k4,q4⟩:∃z,z=IntKind.i64.wrap (k3+1):=⟨_,rfl⟩
  have g4:k4=k3+1:=q4.trans (aJ (by omega) (by omega))
  have p5:iO (a0[i].Saved.length) (aD bK a0[i].Saved) k4:=⟨by omega,by omega,by omega⟩
  have f5:=bJ mG a0[i].Saved k4 (by omega) (by omega)
  obtain⟨k5,q5⟩:∃z,z=(bC dQ a0[i].Saved k4).2:=⟨_,rfl⟩
  have g5:k5=k4+aD bK a0[i].Saved:=q5.trans f5.1
  obtain⟨k6,q6⟩:∃z,z=IntKind.i64.wrap (k5+1):=⟨_,rfl⟩
  have g6:k6=k5+1:=q6.trans (aJ (by omega) (by omega))
  simp only[bD hi,cond_true,aG hi,hx,kN hi,aG (show i<(l.set i _).length by simpa using hi),List.set_set,List.getElem_set_self,bd_s,bM,dJ,gd_T,bH,←q0,←q1,←q2,←q3,←q4,←q5,←q6,aH p5]) (fun rec k l=>by simp only[bE,cond_false])]
 rfl
theorem Uw (a0:List D.Notice)(a1:Int)(h:iO (a0.length) (aD bN a0) a1):uD a0 a1=some (bC dK a0 a1):=by
 obtain⟨hs,h0,h1⟩:=h
 unfold uD
 rw[gL jY h0 h1 (by omega) (fun rec k i l hi hi0 hx hk0 hk1=>by
  unfold bN at hk1
  obtain⟨k0,q0⟩:∃z,z=IntKind.i64.wrap (k+1):=⟨_,rfl⟩
  have g0:k0=k+1:=q0.trans (aJ (by omega) (by omega))
  obtain⟨k1,q1⟩:∃z,z=IntKind.i64.wrap (k0+1):=⟨_,rfl⟩
  have g1:k1=k0+1:=q1.trans (aJ (by omega) (by omega))
  obtain⟨k2,q2⟩:∃z,z=IntKind.i64.wrap (k1+1):=⟨_,rfl⟩
  have g2:k2=k1+1:=q2.trans (aJ (by omega) (by omega))
  obtain⟨k3,q3⟩:∃z,z=IntKind.i64.wrap (k2+1):=⟨_,rfl⟩
  have g3:k3=k2+1:=q3.trans (aJ (by omega) (by omega))
  simp only[bD hi,cond_true,aG hi,hx,kN hi,aG (show i<(l.set i _).length by simpa using hi),List.set_set,List.getElem_set_self,bd_s,bM,dJ,gd_T,dK,←q0,←q1,←q2,←q3]) (fun rec k l=>by simp only[bE,cond_false])]
 rfl
theorem Ux (a0:D.Mailbox)(a1:Int)(h:iO (a0.sz) (bA a0) a1):uE a0 a1=some (eX a0 a1):=by
 obtain⟨hs,h0,h1⟩:=h
 unfold bA at h1
 simp only[D.Mailbox.sz] at hs
 unfold uE eX
 rw[aH (show iO _ _ _ from⟨by omega,by omega,by omega⟩)]
 have f0:=bJ jY a0.Notices a1 (by omega) (by omega)
 obtain⟨k0,q0⟩:∃z,z=(bC dK a0.Notices a1).2:=⟨_,rfl⟩
 have g0:k0=a1+aD bN a0.Notices:=q0.trans f0.1
 simp only[bd_s,←q0]
theorem Y2 (a0:D.World)(a1:Int)(h:iO (a0.sz) (dM a0) a1):zQ a0 a1=some (cK a0 a1):=by
 obtain⟨hs,h0,h1⟩:=h
 unfold dM at h1
 simp only[D.Cloud.sz,D.EpochBoxes.sz,D.Mailbox.sz,D.Vault.sz,D.World.sz] at hs
 unfold zQ cK
 rw[aH (show iO _ _ _ from⟨by omega,by omega,by omega⟩)]
 have f0:=bJ mE a0.Devices a1 (by omega) (by omega)
 obtain⟨k0,q0⟩:∃z,z=(bC bT a0.Devices a1).2:=⟨_,rfl⟩
 have g0:k0=a1+aD aN a0.Devices:=q0.trans f0.1
 simp only[bd_s,←q0]
 rw[aH (show iO _ _ _ from⟨by omega,by omega,by omega⟩)]
 have f1:=bJ aId a0.Stolen k0 (by omega) (by omega)
 obtain⟨k1,q1⟩:∃z,z=(bC mkB a0.Stolen k0).2:=⟨_,rfl⟩
 have g1:k1=k0+aD eY a0.Stolen:=q1.trans f1.1
 simp only[bd_s,←q1]
 rw[aH (show iO _ _ _ from⟨by simp only[D.Cloud.sz,D.EpochBoxes.sz];omega,by omega,by unfold aV;omega⟩)]
 simp only[bd_s,fT]
 have f2:=bJ eP a0.Cloud.Log k1 (by omega) (by omega)
 obtain⟨k2,q2⟩:∃z,z=(bC aQ a0.Cloud.Log k1).2:=⟨_,rfl⟩
 have g2:k2=k1+aD aI a0.Cloud.Log:=q2.trans f2.1
 simp only[←q2]
 have f3:=bJ jX a0.Cloud.Boxes.Boxes k2 (by omega) (by omega)
 obtain⟨k3,q3⟩:∃z,z=(bC eQ a0.Cloud.Boxes.Boxes k2).2:=⟨_,rfl⟩
 have g3:k3=k2+aD dV a0.Cloud.Boxes.Boxes:=q3.trans f3.1
 simp only[←q3]
 have f4:=bJ eU a0.Cloud.History k3 (by omega) (by omega)
 obtain⟨k4,q4⟩:∃z,z=(bC aZ a0.Cloud.History k3).2:=⟨_,rfl⟩
 have g4:k4=k3+aD aK a0.Cloud.History:=q4.trans f4.1
 simp only[←q4]
 rw[aH (show iO _ _ _ from⟨by omega,by omega,by omega⟩)]
 have f5:=bJ uB a0.Sites k4 (by omega) (by omega)
 obtain⟨k5,q5⟩:∃z,z=(bC fB a0.Sites k4).2:=⟨_,rfl⟩
 have g5:k5=k4+aD bX a0.Sites:=q5.trans f5.1
 simp only[bd_s,←q5]
 rw[aH (show iO _ _ _ from⟨by omega,by omega,by omega⟩)]
 have f6:=bJ iM a0.Hosts k5 (by omega) (by omega)
 obtain⟨k6,q6⟩:∃z,z=(bC bH a0.Hosts k5).2:=⟨_,rfl⟩
 have g6:k6=k5+aD aP a0.Hosts:=q6.trans f6.1
 simp only[bd_s,←q6]
 rw[aH (show iO _ _ _ from⟨by simp only[D.Mailbox.sz];omega,by omega,by unfold bA;omega⟩)]
 simp only[bd_s,eX]
theorem Mg (a0:List D.LogEntry)(a1:Int)(h:bI (bC aQ) (aD aI) a0 a1):pG a0 a1=some (a1+((aD aI a0:Nat):Int)):=by
 have hlen:=iF aIi a0
 have h1:=h.1
 have h2:=h.2.1
 unfold pG
 rw[gM eP h (by omega) (fun rec k i hi hP=>by
  clear h hlen h1 h2
  obtain⟨p1,p2,x,p3,p4⟩:=hP
  rw[←p4] at p2
  unfold aI at p2
  have b0:0≤k:=by omega
  have d0:k+1≤4611686018427387904:=by omega
  have b1:0≤k+1:=by omega
  have d1:k+1+1≤4611686018427387904:=by omega
  have b2:0≤k+1+1:=by omega
  have d2:k+1+1+1≤4611686018427387904:=by omega
  have b3:0≤k+1+1+1:=by omega
  have d3:k+1+1+1+1≤4611686018427387904:=by omega
  have b4:0≤k+1+1+1+1:=by omega
  have d4:k+1+1+1+1+1≤4611686018427387904:=by omega
  have b5:0≤k+1+1+1+1+1:=by omega
  have d5:k+1+1+1+1+1+1≤4611686018427387904:=by omega
  have nn:k+1+1+1+1+1+1=k+((aI x:Nat):Int):=by unfold aI;omega
  have e0:a0[i].Index=k:=by rw[p3];simp only[aQ]
  have w0:IntKind.i64.wrap (k+1)=k+1:=aJ b0 d0
  have e1:a0[i].Kind=(k+1):=by rw[p3];simp only[aQ,w0]
  have w1:IntKind.i64.wrap (k+1+1)=k+1+1:=aJ b1 d1
  have e2:a0[i].Device=(k+1+1):=by rw[p3];simp only[aQ,w0,w1]
  have w2:IntKind.i64.wrap (k+1+1+1)=k+1+1+1:=aJ b2 d2
  have e3:a0[i].By=(k+1+1+1):=by rw[p3];simp only[aQ,w0,w1,w2]
  have w3:IntKind.i64.wrap (k+1+1+1+1)=k+1+1+1+1:=aJ b3 d3
  have e4:a0[i].Previous=(k+1+1+1+1):=by rw[p3];simp only[aQ,w0,w1,w2,w3]
  have w4:IntKind.i64.wrap (k+1+1+1+1+1)=k+1+1+1+1+1:=aJ b4 d4
  have e5:a0[i].Signature=(k+1+1+1+1+1):=by rw[p3];simp only[aQ,w0,w1,w2,w3,w4]
  have w5:IntKind.i64.wrap (k+1+1+1+1+1+1)=k+1+1+1+1+1+1:=aJ b5 d5
  simp only[bD hi,cond_true,aG hi,e0,w0,e1,w1,e2,w2,e3,w3,e4,w4,e5,w5,bne_self_eq_false,beq_self_eq_true,Bool.not_true,cond_false,bd_s,dJ,gd_T]
  rw[←p4,←nn]) (fun rec k=>by simp only[bE,cond_false])]
 rfl
theorem x8 (a0:List D.Entry)(a1:Int)(h:bI (bC fA) (aD dB) a0 a1):wW a0 a1=some (a1+((aD dB a0:Nat):Int)):=by
 have hlen:=iF aTm a0
 have h1:=h.1
 have h2:=h.2.1
 unfold wW
 rw[gM pF h (by omega) (fun rec k i hi hP=>by
  clear h hlen h1 h2
  obtain⟨p1,p2,x,p3,p4⟩:=hP
  rw[←p4] at p2
  unfold dB at p2
  have b0:0≤k:=by omega
  have d0:k+1≤4611686018427387904:=by omega
  have b1:0≤k+1:=by omega
  have d1:k+1+1≤4611686018427387904:=by omega
  have b2:0≤k+1+1:=by omega
  have d2:k+1+1+1≤4611686018427387904:=by omega
  have b3:0≤k+1+1+1:=by omega
  have d3:k+1+1+1+1≤4611686018427387904:=by omega
  have nn:k+1+1+1+1=k+((dB x:Nat):Int):=by unfold dB;omega
  have e0:a0[i].Site=k:=by rw[p3];simp only[fA]
  have w0:IntKind.i64.wrap (k+1)=k+1:=aJ b0 d0
  have e1:a0[i].Handle=(k+1):=by rw[p3];simp only[fA,w0]
  have w1:IntKind.i64.wrap (k+1+1)=k+1+1:=aJ b1 d1
  have e2:a0[i].Version=(k+1+1):=by rw[p3];simp only[fA,w0,w1]
  have w2:IntKind.i64.wrap (k+1+1+1)=k+1+1+1:=aJ b2 d2
  have e3:a0[i].Deleted=((k+1+1+1).tmod 3==0):=by rw[p3];simp only[fA,w0,w1,w2]
  have w3:IntKind.i64.wrap (k+1+1+1+1)=k+1+1+1+1:=aJ b3 d3
  simp only[bD hi,cond_true,aG hi,e0,w0,e1,w1,e2,w2,e3,w3,bne_self_eq_false,beq_self_eq_true,Bool.not_true,cond_false,bd_s,dJ,gd_T]
  rw[←p4,←nn]) (fun rec k=>by simp only[bE,cond_false])]
 rfl
theorem Uy (a0:List D.Device)(a1:Int)(h:bI (bC bT) (aD aN) a0 a1):uF a0 a1=some (a1+((aD aN a0:Nat):Int)):=by
 have hlen:=iF aRb a0
 have h1:=h.1
 have h2:=h.2.1
 unfold uF
 rw[gM mE h (by omega) (fun rec k i hi hP=>by
  clear h hlen h1 h2
  obtain⟨p1,p2,x,p3,p4⟩:=hP
  rw[←p4] at p2
  unfold aN at p2
  have b0:0≤k:=by omega
  have d0:k+1≤4611686018427387904:=by omega
  have b1:0≤k+1:=by omega
  have d1:k+1+1≤4611686018427387904:=by omega
  have b2:0≤k+1+1:=by omega
  have d2:k+1+1+1≤4611686018427387904:=by omega
  have b3:0≤k+1+1+1:=by omega
  have d3:k+1+1+1+1≤4611686018427387904:=by omega
  have b4:0≤k+1+1+1+1:=by omega
  have d4:k+1+1+1+1+((aD aI x.Log:Nat):Int)≤4611686018427387904:=by omega
  have t4:decide (k+1+1+1+1+((aD aI x.Log:Nat):Int)<0)=false:=decide_eq_false (by omega)
  have b5:0≤k+1+1+1+1+((aD aI x.Log:Nat):Int):=by omega
  have d5:k+1+1+1+1+((aD aI x.Log:Nat):Int)+1≤4611686018427387904:=by omega
  have b6:0≤k+1+1+1+1+((aD aI x.Log:Nat):Int)+1:=by omega
  have d6:k+1+1+1+1+((aD aI x.Log:Nat):Int)+1+1≤4611686018427387904:=by omega
  have b7:0≤k+1+1+1+1+((aD aI x.Log:Nat):Int)+1+1:=by omega
  have d7:k+1+1+1+1+((aD aI x.Log:Nat):Int)+1+1+1≤4611686018427387904:=by omega
  have b8:0≤k+1+1+1+1+((aD aI x.Log:Nat):Int)+1+1+1:=by omega
  have d8:k+1+1+1+1+((aD aI x.Log:Nat):Int)+1+1+1+((aD dB x.Bundle.Entries:Nat):Int)≤4611686018427387904:=by omega
  have t8:decide (k+1+1+1+1+((aD aI x.Log:Nat):Int)+1+1+1+((aD dB x.Bundle.Entries:Nat):Int)<0)=false:=decide_eq_false (by omega)
  have nn:k+1+1+1+1+((aD aI x.Log:Nat):Int)+1+1+1+((aD dB x.Bundle.Entries:Nat):Int)=k+((aN x:Nat):Int):=by unfold aN;omega
  have e0:a0[i].Store.Vendor=k:=by rw[p3];simp only[bT]
  have w0:IntKind.i64.wrap (k+1)=k+1:=aJ b0 d0
  have e1:a0[i].Store.Serial=(k+1):=by rw[p3];simp only[bT,w0]
  have w1:IntKind.i64.wrap (k+1+1)=k+1+1:=aJ b1 d1
  have e2:a0[i].Store.Seed=(k+1+1):=by rw[p3];simp only[bT,w0,w1]
  have w2:IntKind.i64.wrap (k+1+1+1)=k+1+1+1:=aJ b2 d2
  have e3:a0[i].Store.Counter=(k+1+1+1):=by rw[p3];simp only[bT,w0,w1,w2]
  have w3:IntKind.i64.wrap (k+1+1+1+1)=k+1+1+1+1:=aJ b3 d3
  have f4:=bJ eP x.Log (k+1+1+1+1) b4 d4
  have e4:a0[i].Log=(bC aQ x.Log (k+1+1+1+1)).1:=by rw[p3];simp only[bT,w0,w1,w2,w3]
  have m4:=f4.1
  have c4:aD aI a0[i].Log=aD aI x.Log:=by rw[e4];exact f4.2
  have h4:bI (bC aQ) (aD aI) a0[i].Log (k+1+1+1+1):=eH b4 d4 e4 c4
  have e5:a0[i].Key=(k+1+1+1+1+((aD aI x.Log:Nat):Int)):=by rw[p3];simp only[bT,w0,w1,w2,w3,m4]
  have w5:IntKind.i64.wrap (k+1+1+1+1+((aD aI x.Log:Nat):Int)+1)=k+1+1+1+1+((aD aI x.Log:Nat):Int)+1:=aJ b5 d5
  have e6:a0[i].Epoch=(k+1+1+1+1+((aD aI x.Log:Nat):Int)+1):=by rw[p3];simp only[bT,w0,w1,w2,w3,m4,w5]
  have w6:IntKind.i64.wrap (k+1+1+1+1+((aD aI x.Log:Nat):Int)+1+1)=k+1+1+1+1+((aD aI x.Log:Nat):Int)+1+1:=aJ b6 d6
  have e7:a0[i].Version=(k+1+1+1+1+((aD aI x.Log:Nat):Int)+1+1):=by rw[p3];simp only[bT,w0,w1,w2,w3,m4,w5,w6]
  have w7:IntKind.i64.wrap (k+1+1+1+1+((aD aI x.Log:Nat):Int)+1+1+1)=k+1+1+1+1+((aD aI x.Log:Nat):Int)+1+1+1:=aJ b7 d7
  have f8:=bJ pF x.Bundle.Entries (k+1+1+1+1+((aD aI x.Log:Nat):Int)+1+1+1) b8 d8
  have e8:a0[i].Bundle.Entries=(bC fA x.Bundle.Entries (k+1+1+1+1+((aD aI x.Log:Nat):Int)+1+1+1)).1:=by rw[p3];simp only[bT,w0,w1,w2,w3,m4,w5,w6,w7]
  have m8:=f8.1
  have c8:aD dB a0[i].Bundle.Entries=aD dB x.Bundle.Entries:=by rw[e8];exact f8.2
  have h8:bI (bC fA) (aD dB) a0[i].Bundle.Entries (k+1+1+1+1+((aD aI x.Log:Nat):Int)+1+1+1):=eH b8 d8 e8 c8
  simp only[bD hi,cond_true,aG hi,e0,w0,e1,w1,e2,w2,e3,w3,aH h4,c4,t4,e5,w5,e6,w6,e7,w7,aH h8,c8,t8,bne_self_eq_false,beq_self_eq_true,Bool.not_true,cond_false,bd_s,dJ,gd_T]
  rw[←p4,←nn]) (fun rec k=>by simp only[bE,cond_false])]
 rfl
theorem Y3 (a0:List Bool)(a1:Int)(h:bI (bC mkB) (aD eY) a0 a1):zR a0 a1=some (a1+((aD eY a0:Nat):Int)):=by
 have hlen:=iF (c:=eY) (fun _=>Nat.le_refl _) a0
 have h1:=h.1
 have h2:=h.2.1
 unfold zR
 rw[gM aId h (by omega) (fun rec k i hi hP=>by
  obtain⟨p1,p2,x,p3,_⟩:=hP
  have p2:k+1≤4611686018427387904:=by simpa[eY] using p2
  have e:a0[i]=(k.tmod 3==0):=p3
  simp only[bD hi,cond_true,aG hi,e,bne_self_eq_false,beq_self_eq_true,Bool.not_true,cond_false,bd_s,aJ p1 p2,aH (show(3:Int)≠(0:Int) by omega)];rfl) (fun rec k=>by simp only[bE,cond_false])]
 rfl
theorem Y4 (a0:List Int)(a1:Int)(h:bI (bC mkU) (aD eY) a0 a1):zS a0 a1=some (a1+((aD eY a0:Nat):Int)):=by
 have hlen:=iF (c:=eY) (fun _=>Nat.le_refl _) a0
 have h1:=h.1
 have h2:=h.2.1
 unfold zS
 rw[gM Jd h (by omega) (fun rec k i hi hP=>by
  obtain⟨p1,p2,x,p3,_⟩:=hP
  have p2:k+1≤4611686018427387904:=by simpa[eY] using p2
  have e:a0[i]=IntKind.u8.wrap k:=p3
  simp only[bD hi,cond_true,aG hi,e,bne_self_eq_false,beq_self_eq_true,Bool.not_true,cond_false,bd_s,aJ p1 p2,aH (show(3:Int)≠(0:Int) by omega)];rfl) (fun rec k=>by simp only[bE,cond_false])]
 rfl
theorem aEj (a0:List D.Box)(a1:Int)(h:bI (bC eQ) (aD dV) a0 a1):Fh a0 a1=some (a1+((aD dV a0:Nat):Int)):=by
 have hlen:=iF aYa a0
 have h1:=h.1
 have h2:=h.2.1
 unfold Fh
 rw[gM jX h (by omega) (fun rec k i hi hP=>by
  clear h hlen h1 h2
  obtain⟨p1,p2,x,p3,p4⟩:=hP
  rw[←p4] at p2
  unfold dV at p2
  have b0:0≤k:=by omega
  have d0:k+1≤4611686018427387904:=by omega
  have b1:0≤k+1:=by omega
  have d1:k+1+1≤4611686018427387904:=by omega
  have b2:0≤k+1+1:=by omega
  have d2:k+1+1+((aD eY x.Data:Nat):Int)≤4611686018427387904:=by omega
  have t2:decide (k+1+1+((aD eY x.Data:Nat):Int)<0)=false:=decide_eq_false (by omega)
  have b3:0≤k+1+1+((aD eY x.Data:Nat):Int):=by omega
  have d3:k+1+1+((aD eY x.Data:Nat):Int)+1≤4611686018427387904:=by omega
  have nn:k+1+1+((aD eY x.Data:Nat):Int)+1=k+((dV x:Nat):Int):=by unfold dV;omega
  have e0:a0[i].To=k:=by rw[p3];simp only[eQ]
  have w0:IntKind.i64.wrap (k+1)=k+1:=aJ b0 d0
  have e1:a0[i].Ephemeral=(k+1):=by rw[p3];simp only[eQ,w0]
  have w1:IntKind.i64.wrap (k+1+1)=k+1+1:=aJ b1 d1
  have f2:=bJ Jd x.Data (k+1+1) b2 d2
  have e2:a0[i].Data=(bC mkU x.Data (k+1+1)).1:=by rw[p3];simp only[eQ,w0,w1]
  have m2:=f2.1
  have c2:aD eY a0[i].Data=aD eY x.Data:=by rw[e2];exact f2.2
  have h2:bI (bC mkU) (aD eY) a0[i].Data (k+1+1):=eH b2 d2 e2 c2
  have e3:a0[i].MAC=(k+1+1+((aD eY x.Data:Nat):Int)):=by rw[p3];simp only[eQ,w0,w1,m2]
  have w3:IntKind.i64.wrap (k+1+1+((aD eY x.Data:Nat):Int)+1)=k+1+1+((aD eY x.Data:Nat):Int)+1:=aJ b3 d3
  simp only[bD hi,cond_true,aG hi,e0,w0,e1,w1,aH h2,c2,t2,e3,w3,bne_self_eq_false,beq_self_eq_true,Bool.not_true,cond_false,bd_s,dJ,gd_T]
  rw[←p4,←nn]) (fun rec k=>by simp only[bE,cond_false])]
 rfl
theorem Gd (a0:D.EpochBoxes)(k:Int)(h:bI dH aL a0 k):nE a0 k=some (k+((aL a0:Nat):Int)):=by
 obtain⟨p1,p2,x,p3,p4⟩:=h
 rw[←p4] at p2
 unfold aL at p2
 have b0:0≤k:=by omega
 have d0:k+(((aD dV) x.Boxes:Nat):Int)≤4611686018427387904:=by omega
 have t0:decide (k+(((aD dV) x.Boxes:Nat):Int)<0)=false:=decide_eq_false (by omega)
 have nn:k+(((aD dV) x.Boxes:Nat):Int)=k+((aL x:Nat):Int):=by simp only[aL]<;>omega
 have f0:=(bJ jX) x.Boxes k b0 d0
 have e0:a0.Boxes=((bC eQ) x.Boxes k).1:=by rw[p3];simp only[dH]
 have m0:=f0.1
 have c0:(aD dV) a0.Boxes=(aD dV) x.Boxes:=by rw[e0];exact f0.2
 have h0:bI (bC eQ) (aD dV) a0.Boxes k:=eH b0 d0 e0 c0
 unfold nE
 simp only[aH h0,c0,t0,cond_false,bd_s]
 rw[←p4,←nn]
theorem xE (a0:List D.SealedBundle)(a1:Int)(h:bI (bC aZ) (aD aK) a0 a1):kM a0 a1=some (a1+((aD aK a0:Nat):Int)):=by
 have hlen:=iF Uk a0
 have h1:=h.1
 have h2:=h.2.1
 unfold kM
 rw[gM eU h (by omega) (fun rec k i hi hP=>by
  clear h hlen h1 h2
  obtain⟨p1,p2,x,p3,p4⟩:=hP
  rw[←p4] at p2
  unfold aK at p2
  have b0:0≤k:=by omega
  have d0:k+1≤4611686018427387904:=by omega
  have b1:0≤k+1:=by omega
  have d1:k+1+1≤4611686018427387904:=by omega
  have b2:0≤k+1+1:=by omega
  have d2:k+1+1+((aD eY x.Data:Nat):Int)≤4611686018427387904:=by omega
  have t2:decide (k+1+1+((aD eY x.Data:Nat):Int)<0)=false:=decide_eq_false (by omega)
  have b3:0≤k+1+1+((aD eY x.Data:Nat):Int):=by omega
  have d3:k+1+1+((aD eY x.Data:Nat):Int)+1≤4611686018427387904:=by omega
  have nn:k+1+1+((aD eY x.Data:Nat):Int)+1=k+((aK x:Nat):Int):=by unfold aK;omega
  have e0:a0[i].Epoch=k:=by rw[p3];simp only[aZ]
  have w0:IntKind.i64.wrap (k+1)=k+1:=aJ b0 d0
  have e1:a0[i].Version=(k+1):=by rw[p3];simp only[aZ,w0]
  have w1:IntKind.i64.wrap (k+1+1)=k+1+1:=aJ b1 d1
  have f2:=bJ Jd x.Data (k+1+1) b2 d2
  have e2:a0[i].Data=(bC mkU x.Data (k+1+1)).1:=by rw[p3];simp only[aZ,w0,w1]
  have m2:=f2.1
  have c2:aD eY a0[i].Data=aD eY x.Data:=by rw[e2];exact f2.2
  have h2:bI (bC mkU) (aD eY) a0[i].Data (k+1+1):=eH b2 d2 e2 c2
  have e3:a0[i].MAC=(k+1+1+((aD eY x.Data:Nat):Int)):=by rw[p3];simp only[aZ,w0,w1,m2]
  have w3:IntKind.i64.wrap (k+1+1+((aD eY x.Data:Nat):Int)+1)=k+1+1+((aD eY x.Data:Nat):Int)+1:=aJ b3 d3
  simp only[bD hi,cond_true,aG hi,e0,w0,e1,w1,aH h2,c2,t2,e3,w3,bne_self_eq_false,beq_self_eq_true,Bool.not_true,cond_false,bd_s,dJ,gd_T]
  rw[←p4,←nn]) (fun rec k=>by simp only[bE,cond_false])]
 rfl
theorem Y5 (a0:D.Cloud)(k:Int)(h:bI fT aV a0 k):zT a0 k=some (k+((aV a0:Nat):Int)):=by
 obtain⟨p1,p2,x,p3,p4⟩:=h
 rw[←p4] at p2
 unfold aV at p2
 have b0:0≤k:=by first|omega|(simp only[aL];omega)
 have d0:k+(((aD aI) x.Log:Nat):Int)≤4611686018427387904:=by first|omega|(simp only[aL];omega)
 have t0:decide (k+(((aD aI) x.Log:Nat):Int)<0)=false:=decide_eq_false (by first|omega|(simp only[aL];omega))
 have b1:0≤k+(((aD aI) x.Log:Nat):Int):=by first|omega|(simp only[aL];omega)
 have d1:k+(((aD aI) x.Log:Nat):Int)+((aL x.Boxes:Nat):Int)≤4611686018427387904:=by first|omega|(simp only[aL];omega)
 have t1:decide (k+(((aD aI) x.Log:Nat):Int)+((aL x.Boxes:Nat):Int)<0)=false:=decide_eq_false (by first|omega|(simp only[aL];omega))
 have b2:0≤k+(((aD aI) x.Log:Nat):Int)+((aL x.Boxes:Nat):Int):=by first|omega|(simp only[aL];omega)
 have d2:k+(((aD aI) x.Log:Nat):Int)+((aL x.Boxes:Nat):Int)+(((aD aK) x.History:Nat):Int)≤4611686018427387904:=by first|omega|(simp only[aL];omega)
 have t2:decide (k+(((aD aI) x.Log:Nat):Int)+((aL x.Boxes:Nat):Int)+(((aD aK) x.History:Nat):Int)<0)=false:=decide_eq_false (by first|omega|(simp only[aL];omega))
 have nn:k+(((aD aI) x.Log:Nat):Int)+((aL x.Boxes:Nat):Int)+(((aD aK) x.History:Nat):Int)=k+((aV x:Nat):Int):=by simp only[aV,aL]<;>omega
 have f0:=(bJ eP) x.Log k b0 d0
 have e0:a0.Log=((bC aQ) x.Log k).1:=by rw[p3];simp only[fT]
 have m0:=f0.1
 have c0:(aD aI) a0.Log=(aD aI) x.Log:=by rw[e0];exact f0.2
 have h0:bI (bC aQ) (aD aI) a0.Log k:=eH b0 d0 e0 c0
 have f1:=U2 x.Boxes (k+(((aD aI) x.Log:Nat):Int)) b1 d1
 have e1:a0.Boxes=(dH x.Boxes (k+(((aD aI) x.Log:Nat):Int))).1:=by rw[p3];simp only[fT,dH,m0]
 have m1:=f1.1
 simp only[dH,m0] at m1
 have c1:aL a0.Boxes=aL x.Boxes:=by rw[e1];exact f1.2
 have h1:bI dH aL a0.Boxes (k+(((aD aI) x.Log:Nat):Int)):=eH b1 d1 e1 c1
 have f2:=(bJ eU) x.History (k+(((aD aI) x.Log:Nat):Int)+((aL x.Boxes:Nat):Int)) b2 d2
 have e2:a0.History=((bC aZ) x.History (k+(((aD aI) x.Log:Nat):Int)+((aL x.Boxes:Nat):Int))).1:=by rw[p3];simp only[fT,m0,m1]
 have m2:=f2.1
 have c2:(aD aK) a0.History=(aD aK) x.History:=by rw[e2];exact f2.2
 have h2:bI (bC aZ) (aD aK) a0.History (k+(((aD aI) x.Log:Nat):Int)+((aL x.Boxes:Nat):Int)):=eH b2 d2 e2 c2
 unfold zT
 simp only[aH h0,c0,t0,aH h1,c1,t1,aH h2,c2,t2,cond_false,bd_s]
 rw[←p4,←nn]
theorem Ch (a0:List D.Credential)(a1:Int)(h:bI (bC bU) (aD aY) a0 a1):mI a0 a1=some (a1+((aD aY a0:Nat):Int)):=by
 have hlen:=iF U3 a0
 have h1:=h.1
 have h2:=h.2.1
 unfold mI
 rw[gM iL h (by omega) (fun rec k i hi hP=>by
  clear h hlen h1 h2
  obtain⟨p1,p2,x,p3,p4⟩:=hP
  rw[←p4] at p2
  unfold aY at p2
  have b0:0≤k:=by omega
  have d0:k+1≤4611686018427387904:=by omega
  have b1:0≤k+1:=by omega
  have d1:k+1+1≤4611686018427387904:=by omega
  have b2:0≤k+1+1:=by omega
  have d2:k+1+1+1≤4611686018427387904:=by omega
  have b3:0≤k+1+1+1:=by omega
  have d3:k+1+1+1+1≤4611686018427387904:=by omega
  have nn:k+1+1+1+1=k+((aY x:Nat):Int):=by unfold aY;omega
  have e0:a0[i].Handle=k:=by rw[p3];simp only[bU]
  have w0:IntKind.i64.wrap (k+1)=k+1:=aJ b0 d0
  have e1:a0[i].Public=(k+1):=by rw[p3];simp only[bU,w0]
  have w1:IntKind.i64.wrap (k+1+1)=k+1+1:=aJ b1 d1
  have e2:a0[i].Counter=(k+1+1):=by rw[p3];simp only[bU,w0,w1]
  have w2:IntKind.i64.wrap (k+1+1+1)=k+1+1+1:=aJ b2 d2
  have e3:a0[i].Cut=((k+1+1+1).tmod 3==0):=by rw[p3];simp only[bU,w0,w1,w2]
  have w3:IntKind.i64.wrap (k+1+1+1+1)=k+1+1+1+1:=aJ b3 d3
  simp only[bD hi,cond_true,aG hi,e0,w0,e1,w1,e2,w2,e3,w3,bne_self_eq_false,beq_self_eq_true,Bool.not_true,cond_false,bd_s,dJ,gd_T]
  rw[←p4,←nn]) (fun rec k=>by simp only[bE,cond_false])]
 rfl
theorem Pm (a0:List D.Account)(a1:Int)(h:bI (bC dE) (aD aM) a0 a1):qQ a0 a1=some (a1+((aD aM a0:Nat):Int)):=by
 have hlen:=iF aM0 a0
 have h1:=h.1
 have h2:=h.2.1
 unfold qQ
 rw[gM kL h (by omega) (fun rec k i hi hP=>by
  clear h hlen h1 h2
  obtain⟨p1,p2,x,p3,p4⟩:=hP
  rw[←p4] at p2
  unfold aM at p2
  have b0:0≤k:=by omega
  have d0:k+1≤4611686018427387904:=by omega
  have b1:0≤k+1:=by omega
  have d1:k+1+1≤4611686018427387904:=by omega
  have b2:0≤k+1+1:=by omega
  have d2:k+1+1+((aD aY x.Credentials:Nat):Int)≤4611686018427387904:=by omega
  have t2:decide (k+1+1+((aD aY x.Credentials:Nat):Int)<0)=false:=decide_eq_false (by omega)
  have nn:k+1+1+((aD aY x.Credentials:Nat):Int)=k+((aM x:Nat):Int):=by unfold aM;omega
  have e0:a0[i].Id=k:=by rw[p3];simp only[dE]
  have w0:IntKind.i64.wrap (k+1)=k+1:=aJ b0 d0
  have e1:a0[i].Minimum=(k+1):=by rw[p3];simp only[dE,w0]
  have w1:IntKind.i64.wrap (k+1+1)=k+1+1:=aJ b1 d1
  have f2:=bJ iL x.Credentials (k+1+1) b2 d2
  have e2:a0[i].Credentials=(bC bU x.Credentials (k+1+1)).1:=by rw[p3];simp only[dE,w0,w1]
  have m2:=f2.1
  have c2:aD aY a0[i].Credentials=aD aY x.Credentials:=by rw[e2];exact f2.2
  have h2:bI (bC bU) (aD aY) a0[i].Credentials (k+1+1):=eH b2 d2 e2 c2
  simp only[bD hi,cond_true,aG hi,e0,w0,e1,w1,aH h2,c2,t2,bne_self_eq_false,beq_self_eq_true,Bool.not_true,cond_false,bd_s,dJ,gd_T]
  rw[←p4,←nn]) (fun rec k=>by simp only[bE,cond_false])]
 rfl
theorem Gf (a0:List D.Challenge)(a1:Int)(h:bI (bC cB) (aD aU) a0 a1):nG a0 a1=some (a1+((aD aU a0:Nat):Int)):=by
 have hlen:=iF aD2 a0
 have h1:=h.1
 have h2:=h.2.1
 unfold nG
 rw[gM iZ h (by omega) (fun rec k i hi hP=>by
  clear h hlen h1 h2
  obtain⟨p1,p2,x,p3,p4⟩:=hP
  rw[←p4] at p2
  unfold aU at p2
  have b0:0≤k:=by omega
  have d0:k+1≤4611686018427387904:=by omega
  have b1:0≤k+1:=by omega
  have d1:k+1+1≤4611686018427387904:=by omega
  have b2:0≤k+1+1:=by omega
  have d2:k+1+1+1≤4611686018427387904:=by omega
  have nn:k+1+1+1=k+((aU x:Nat):Int):=by unfold aU;omega
  have e0:a0[i].Id=k:=by rw[p3];simp only[cB]
  have w0:IntKind.i64.wrap (k+1)=k+1:=aJ b0 d0
  have e1:a0[i].Account=(k+1):=by rw[p3];simp only[cB,w0]
  have w1:IntKind.i64.wrap (k+1+1)=k+1+1:=aJ b1 d1
  have e2:a0[i].Until=(k+1+1):=by rw[p3];simp only[cB,w0,w1]
  have w2:IntKind.i64.wrap (k+1+1+1)=k+1+1+1:=aJ b2 d2
  simp only[bD hi,cond_true,aG hi,e0,w0,e1,w1,e2,w2,bne_self_eq_false,beq_self_eq_true,Bool.not_true,cond_false,bd_s,dJ,gd_T]
  rw[←p4,←nn]) (fun rec k=>by simp only[bE,cond_false])]
 rfl
theorem aEk (a0:List Int)(a1:Int)(h:bI (bC mkI) (aD eY) a0 a1):Fj a0 a1=some (a1+((aD eY a0:Nat):Int)):=by
 have hlen:=iF (c:=eY) (fun _=>Nat.le_refl _) a0
 have h1:=h.1
 have h2:=h.2.1
 unfold Fj
 rw[gM aIc h (by omega) (fun rec k i hi hP=>by
  obtain⟨p1,p2,x,p3,_⟩:=hP
  have p2:k+1≤4611686018427387904:=by simpa[eY] using p2
  have e:a0[i]=k:=p3
  simp only[bD hi,cond_true,aG hi,e,bne_self_eq_false,beq_self_eq_true,Bool.not_true,cond_false,bd_s,aJ p1 p2,aH (show(3:Int)≠(0:Int) by omega)];rfl) (fun rec k=>by simp only[bE,cond_false])]
 rfl
theorem Y6 (a0:List D.Site)(a1:Int)(h:bI (bC fB) (aD bX) a0 a1):zU a0 a1=some (a1+((aD bX a0:Nat):Int)):=by
 have hlen:=iF aU8 a0
 have h1:=h.1
 have h2:=h.2.1
 unfold zU
 rw[gM uB h (by omega) (fun rec k i hi hP=>by
  clear h hlen h1 h2
  obtain⟨p1,p2,x,p3,p4⟩:=hP
  rw[←p4] at p2
  unfold bX at p2
  have b0:0≤k:=by omega
  have d0:k+1≤4611686018427387904:=by omega
  have z0:k≤4611686018427387904:=by omega
  have b1:0≤k+1:=by omega
  have d1:k+1+((aD aM x.Accounts:Nat):Int)≤4611686018427387904:=by omega
  have t1:decide (k+1+((aD aM x.Accounts:Nat):Int)<0)=false:=decide_eq_false (by omega)
  have b2:0≤k+1+((aD aM x.Accounts:Nat):Int):=by omega
  have d2:k+1+((aD aM x.Accounts:Nat):Int)+1≤4611686018427387904:=by omega
  have b3:0≤k+1+((aD aM x.Accounts:Nat):Int)+1:=by omega
  have d3:k+1+((aD aM x.Accounts:Nat):Int)+1+1≤4611686018427387904:=by omega
  have b4:0≤k+1+((aD aM x.Accounts:Nat):Int)+1+1:=by omega
  have d4:k+1+((aD aM x.Accounts:Nat):Int)+1+1+((aD aU x.Book.Open:Nat):Int)≤4611686018427387904:=by omega
  have t4:decide (k+1+((aD aM x.Accounts:Nat):Int)+1+1+((aD aU x.Book.Open:Nat):Int)<0)=false:=decide_eq_false (by omega)
  have b5:0≤k+1+((aD aM x.Accounts:Nat):Int)+1+1+((aD aU x.Book.Open:Nat):Int):=by omega
  have d5:k+1+((aD aM x.Accounts:Nat):Int)+1+1+((aD aU x.Book.Open:Nat):Int)+((aD eY x.Logins:Nat):Int)≤4611686018427387904:=by omega
  have t5:decide (k+1+((aD aM x.Accounts:Nat):Int)+1+1+((aD aU x.Book.Open:Nat):Int)+((aD eY x.Logins:Nat):Int)<0)=false:=decide_eq_false (by omega)
  have nn:k+1+((aD aM x.Accounts:Nat):Int)+1+1+((aD aU x.Book.Open:Nat):Int)+((aD eY x.Logins:Nat):Int)=k+((bX x:Nat):Int):=by unfold bX;omega
  have e0:a0[i].Name=(zO k):=by rw[p3];simp only[fB]
  have s0:=aDj (k:=k) b0 z0
  have w0:IntKind.i64.wrap (k+1)=k+1:=aJ b0 d0
  have f1:=bJ kL x.Accounts (k+1) b1 d1
  have e1:a0[i].Accounts=(bC dE x.Accounts (k+1)).1:=by rw[p3];simp only[fB,w0]
  have m1:=f1.1
  have c1:aD aM a0[i].Accounts=aD aM x.Accounts:=by rw[e1];exact f1.2
  have h1:bI (bC dE) (aD aM) a0[i].Accounts (k+1):=eH b1 d1 e1 c1
  have e2:a0[i].Book.Seed=(k+1+((aD aM x.Accounts:Nat):Int)):=by rw[p3];simp only[fB,w0,m1]
  have w2:IntKind.i64.wrap (k+1+((aD aM x.Accounts:Nat):Int)+1)=k+1+((aD aM x.Accounts:Nat):Int)+1:=aJ b2 d2
  have e3:a0[i].Book.Next=(k+1+((aD aM x.Accounts:Nat):Int)+1):=by rw[p3];simp only[fB,w0,m1,w2]
  have w3:IntKind.i64.wrap (k+1+((aD aM x.Accounts:Nat):Int)+1+1)=k+1+((aD aM x.Accounts:Nat):Int)+1+1:=aJ b3 d3
  have f4:=bJ iZ x.Book.Open (k+1+((aD aM x.Accounts:Nat):Int)+1+1) b4 d4
  have e4:a0[i].Book.Open=(bC cB x.Book.Open (k+1+((aD aM x.Accounts:Nat):Int)+1+1)).1:=by rw[p3];simp only[fB,w0,m1,w2,w3]
  have m4:=f4.1
  have c4:aD aU a0[i].Book.Open=aD aU x.Book.Open:=by rw[e4];exact f4.2
  have h4:bI (bC cB) (aD aU) a0[i].Book.Open (k+1+((aD aM x.Accounts:Nat):Int)+1+1):=eH b4 d4 e4 c4
  have f5:=bJ aIc x.Logins (k+1+((aD aM x.Accounts:Nat):Int)+1+1+((aD aU x.Book.Open:Nat):Int)) b5 d5
  have e5:a0[i].Logins=(bC mkI x.Logins (k+1+((aD aM x.Accounts:Nat):Int)+1+1+((aD aU x.Book.Open:Nat):Int))).1:=by rw[p3];simp only[fB,w0,m1,w2,w3,m4]
  have m5:=f5.1
  have c5:aD eY a0[i].Logins=aD eY x.Logins:=by rw[e5];exact f5.2
  have h5:bI (bC mkI) (aD eY) a0[i].Logins (k+1+((aD aM x.Accounts:Nat):Int)+1+1+((aD aU x.Book.Open:Nat):Int)):=eH b5 d5 e5 c5
  simp only[bD hi,cond_true,aG hi,s0,e0,w0,aH h1,c1,t1,e2,w2,e3,w3,aH h4,c4,t4,aH h5,c5,t5,bne_self_eq_false,beq_self_eq_true,Bool.not_true,cond_false,bd_s,dJ,gd_T]
  rw[←p4,←nn]) (fun rec k=>by simp only[bE,cond_false])]
 rfl
theorem Uz (a0:List D.Keeper)(a1:Int)(h:bI (bC dQ) (aD bK) a0 a1):uG a0 a1=some (a1+((aD bK a0:Nat):Int)):=by
 have hlen:=iF aRd a0
 have h1:=h.1
 have h2:=h.2.1
 unfold uG
 rw[gM mG h (by omega) (fun rec k i hi hP=>by
  clear h hlen h1 h2
  obtain⟨p1,p2,x,p3,p4⟩:=hP
  rw[←p4] at p2
  unfold bK at p2
  have b0:0≤k:=by omega
  have d0:k+1≤4611686018427387904:=by omega
  have b1:0≤k+1:=by omega
  have d1:k+1+1≤4611686018427387904:=by omega
  have b2:0≤k+1+1:=by omega
  have d2:k+1+1+1≤4611686018427387904:=by omega
  have b3:0≤k+1+1+1:=by omega
  have d3:k+1+1+1+1≤4611686018427387904:=by omega
  have b4:0≤k+1+1+1+1:=by omega
  have d4:k+1+1+1+1+1≤4611686018427387904:=by omega
  have nn:k+1+1+1+1+1=k+((bK x:Nat):Int):=by unfold bK;omega
  have e0:a0[i].Share.Index=k:=by rw[p3];simp only[dQ]
  have w0:IntKind.i64.wrap (k+1)=k+1:=aJ b0 d0
  have e1:a0[i].Share.Value=(k+1):=by rw[p3];simp only[dQ,w0]
  have w1:IntKind.i64.wrap (k+1+1)=k+1+1:=aJ b1 d1
  have e2:a0[i].Epoch=(k+1+1):=by rw[p3];simp only[dQ,w0,w1]
  have w2:IntKind.i64.wrap (k+1+1+1)=k+1+1+1:=aJ b2 d2
  have e3:a0[i].Guesses=(k+1+1+1):=by rw[p3];simp only[dQ,w0,w1,w2]
  have w3:IntKind.i64.wrap (k+1+1+1+1)=k+1+1+1+1:=aJ b3 d3
  have e4:a0[i].Limit=(k+1+1+1+1):=by rw[p3];simp only[dQ,w0,w1,w2,w3]
  have w4:IntKind.i64.wrap (k+1+1+1+1+1)=k+1+1+1+1+1:=aJ b4 d4
  simp only[bD hi,cond_true,aG hi,e0,w0,e1,w1,e2,w2,e3,w3,e4,w4,bne_self_eq_false,beq_self_eq_true,Bool.not_true,cond_false,bd_s,dJ,gd_T]
  rw[←p4,←nn]) (fun rec k=>by simp only[bE,cond_false])]
 rfl
theorem Ci (a0:List D.KeeperHost)(a1:Int)(h:bI (bC bH) (aD aP) a0 a1):mJ a0 a1=some (a1+((aD aP a0:Nat):Int)):=by
 have hlen:=iF U5 a0
 have h1:=h.1
 have h2:=h.2.1
 unfold mJ
 rw[gM iM h (by omega) (fun rec k i hi hP=>by
  clear h hlen h1 h2
  obtain⟨p1,p2,x,p3,p4⟩:=hP
  rw[←p4] at p2
  unfold aP at p2
  have b0:0≤k:=by omega
  have d0:k+1≤4611686018427387904:=by omega
  have b1:0≤k+1:=by omega
  have d1:k+1+1≤4611686018427387904:=by omega
  have b2:0≤k+1+1:=by omega
  have d2:k+1+1+1≤4611686018427387904:=by omega
  have b3:0≤k+1+1+1:=by omega
  have d3:k+1+1+1+1≤4611686018427387904:=by omega
  have b4:0≤k+1+1+1+1:=by omega
  have d4:k+1+1+1+1+1≤4611686018427387904:=by omega
  have b5:0≤k+1+1+1+1+1:=by omega
  have d5:k+1+1+1+1+1+((aD bK x.Saved:Nat):Int)≤4611686018427387904:=by omega
  have t5:decide (k+1+1+1+1+1+((aD bK x.Saved:Nat):Int)<0)=false:=decide_eq_false (by omega)
  have b6:0≤k+1+1+1+1+1+((aD bK x.Saved:Nat):Int):=by omega
  have d6:k+1+1+1+1+1+((aD bK x.Saved:Nat):Int)+1≤4611686018427387904:=by omega
  have nn:k+1+1+1+1+1+((aD bK x.Saved:Nat):Int)+1=k+((aP x:Nat):Int):=by unfold aP;omega
  have e0:a0[i].State.Share.Index=k:=by rw[p3];simp only[bH]
  have w0:IntKind.i64.wrap (k+1)=k+1:=aJ b0 d0
  have e1:a0[i].State.Share.Value=(k+1):=by rw[p3];simp only[bH,w0]
  have w1:IntKind.i64.wrap (k+1+1)=k+1+1:=aJ b1 d1
  have e2:a0[i].State.Epoch=(k+1+1):=by rw[p3];simp only[bH,w0,w1]
  have w2:IntKind.i64.wrap (k+1+1+1)=k+1+1+1:=aJ b2 d2
  have e3:a0[i].State.Guesses=(k+1+1+1):=by rw[p3];simp only[bH,w0,w1,w2]
  have w3:IntKind.i64.wrap (k+1+1+1+1)=k+1+1+1+1:=aJ b3 d3
  have e4:a0[i].State.Limit=(k+1+1+1+1):=by rw[p3];simp only[bH,w0,w1,w2,w3]
  have w4:IntKind.i64.wrap (k+1+1+1+1+1)=k+1+1+1+1+1:=aJ b4 d4
  have f5:=bJ mG x.Saved (k+1+1+1+1+1) b5 d5
  have e5:a0[i].Saved=(bC dQ x.Saved (k+1+1+1+1+1)).1:=by rw[p3];simp only[bH,w0,w1,w2,w3,w4]
  have m5:=f5.1
  have c5:aD bK a0[i].Saved=aD bK x.Saved:=by rw[e5];exact f5.2
  have h5:bI (bC dQ) (aD bK) a0[i].Saved (k+1+1+1+1+1):=eH b5 d5 e5 c5
  have e6:a0[i].Monotonic=(k+1+1+1+1+1+((aD bK x.Saved:Nat):Int)):=by rw[p3];simp only[bH,w0,w1,w2,w3,w4,m5]
  have w6:IntKind.i64.wrap (k+1+1+1+1+1+((aD bK x.Saved:Nat):Int)+1)=k+1+1+1+1+1+((aD bK x.Saved:Nat):Int)+1:=aJ b6 d6
  simp only[bD hi,cond_true,aG hi,e0,w0,e1,w1,e2,w2,e3,w3,e4,w4,aH h5,c5,t5,e6,w6,bne_self_eq_false,beq_self_eq_true,Bool.not_true,cond_false,bd_s,dJ,gd_T]
  rw[←p4,←nn]) (fun rec k=>by simp only[bE,cond_false])]
 rfl
theorem Va (a0:List D.Notice)(a1:Int)(h:bI (bC dK) (aD bN) a0 a1):uH a0 a1=some (a1+((aD bN a0:Nat):Int)):=by
 have hlen:=iF aRf a0
 have h1:=h.1
 have h2:=h.2.1
 unfold uH
 rw[gM jY h (by omega) (fun rec k i hi hP=>by
  clear h hlen h1 h2
  obtain⟨p1,p2,x,p3,p4⟩:=hP
  rw[←p4] at p2
  unfold bN at p2
  have b0:0≤k:=by omega
  have d0:k+1≤4611686018427387904:=by omega
  have b1:0≤k+1:=by omega
  have d1:k+1+1≤4611686018427387904:=by omega
  have b2:0≤k+1+1:=by omega
  have d2:k+1+1+1≤4611686018427387904:=by omega
  have b3:0≤k+1+1+1:=by omega
  have d3:k+1+1+1+1≤4611686018427387904:=by omega
  have nn:k+1+1+1+1=k+((bN x:Nat):Int):=by unfold bN;omega
  have e0:a0[i].Kind=k:=by rw[p3];simp only[dK]
  have w0:IntKind.i64.wrap (k+1)=k+1:=aJ b0 d0
  have e1:a0[i].Account=(k+1):=by rw[p3];simp only[dK,w0]
  have w1:IntKind.i64.wrap (k+1+1)=k+1+1:=aJ b1 d1
  have e2:a0[i].Time=(k+1+1):=by rw[p3];simp only[dK,w0,w1]
  have w2:IntKind.i64.wrap (k+1+1+1)=k+1+1+1:=aJ b2 d2
  have e3:a0[i].Seen=((k+1+1+1).tmod 3==0):=by rw[p3];simp only[dK,w0,w1,w2]
  have w3:IntKind.i64.wrap (k+1+1+1+1)=k+1+1+1+1:=aJ b3 d3
  simp only[bD hi,cond_true,aG hi,e0,w0,e1,w1,e2,w2,e3,w3,bne_self_eq_false,beq_self_eq_true,Bool.not_true,cond_false,bd_s,dJ,gd_T]
  rw[←p4,←nn]) (fun rec k=>by simp only[bE,cond_false])]
 rfl
theorem Vb (a0:D.Mailbox)(k:Int)(h:bI eX bA a0 k):uI a0 k=some (k+((bA a0:Nat):Int)):=by
 obtain⟨p1,p2,x,p3,p4⟩:=h
 rw[←p4] at p2
 unfold bA at p2
 have b0:0≤k:=by omega
 have d0:k+(((aD bN) x.Notices:Nat):Int)≤4611686018427387904:=by omega
 have t0:decide (k+(((aD bN) x.Notices:Nat):Int)<0)=false:=decide_eq_false (by omega)
 have nn:k+(((aD bN) x.Notices:Nat):Int)=k+((bA x:Nat):Int):=by simp only[bA]<;>omega
 have f0:=(bJ jY) x.Notices k b0 d0
 have e0:a0.Notices=((bC dK) x.Notices k).1:=by rw[p3];simp only[eX]
 have m0:=f0.1
 have c0:(aD bN) a0.Notices=(aD bN) x.Notices:=by rw[e0];exact f0.2
 have h0:bI (bC dK) (aD bN) a0.Notices k:=eH b0 d0 e0 c0
 unfold uI
 simp only[aH h0,c0,t0,cond_false,bd_s]
 rw[←p4,←nn]
theorem Y7 (a0:D.World)(k:Int)(h:bI cK dM a0 k):zW a0 k=some (k+((dM a0:Nat):Int)):=by
 obtain⟨p1,p2,x,p3,p4⟩:=h
 rw[←p4] at p2
 unfold dM at p2
 have b0:0≤k:=by first|omega|(simp only[aV,bA];omega)
 have d0:k+(((aD aN) x.Devices:Nat):Int)≤4611686018427387904:=by first|omega|(simp only[aV,bA];omega)
 have t0:decide (k+(((aD aN) x.Devices:Nat):Int)<0)=false:=decide_eq_false (by first|omega|(simp only[aV,bA];omega))
 have b1:0≤k+(((aD aN) x.Devices:Nat):Int):=by first|omega|(simp only[aV,bA];omega)
 have d1:k+(((aD aN) x.Devices:Nat):Int)+(((aD eY) x.Stolen:Nat):Int)≤4611686018427387904:=by first|omega|(simp only[aV,bA];omega)
 have t1:decide (k+(((aD aN) x.Devices:Nat):Int)+(((aD eY) x.Stolen:Nat):Int)<0)=false:=decide_eq_false (by first|omega|(simp only[aV,bA];omega))
 have b2:0≤k+(((aD aN) x.Devices:Nat):Int)+(((aD eY) x.Stolen:Nat):Int):=by first|omega|(simp only[aV,bA];omega)
 have d2:k+(((aD aN) x.Devices:Nat):Int)+(((aD eY) x.Stolen:Nat):Int)+((aV x.Cloud:Nat):Int)≤4611686018427387904:=by first|omega|(simp only[aV,bA];omega)
 have t2:decide (k+(((aD aN) x.Devices:Nat):Int)+(((aD eY) x.Stolen:Nat):Int)+((aV x.Cloud:Nat):Int)<0)=false:=decide_eq_false (by first|omega|(simp only[aV,bA];omega))
 have b3:0≤k+(((aD aN) x.Devices:Nat):Int)+(((aD eY) x.Stolen:Nat):Int)+((aV x.Cloud:Nat):Int):=by first|omega|(simp only[aV,bA];omega)
 have d3:k+(((aD aN) x.Devices:Nat):Int)+(((aD eY) x.Stolen:Nat):Int)+((aV x.Cloud:Nat):Int)+(((aD bX) x.Sites:Nat):Int)≤4611686018427387904:=by first|omega|(simp only[aV,bA];omega)
 have t3:decide (k+(((aD aN) x.Devices:Nat):Int)+(((aD eY) x.Stolen:Nat):Int)+((aV x.Cloud:Nat):Int)+(((aD bX) x.Sites:Nat):Int)<0)=false:=decide_eq_false (by first|omega|(simp only[aV,bA];omega))
 have b4:0≤k+(((aD aN) x.Devices:Nat):Int)+(((aD eY) x.Stolen:Nat):Int)+((aV x.Cloud:Nat):Int)+(((aD bX) x.Sites:Nat):Int):=by first|omega|(simp only[aV,bA];omega)
 have d4:k+(((aD aN) x.Devices:Nat):Int)+(((aD eY) x.Stolen:Nat):Int)+((aV x.Cloud:Nat):Int)+(((aD bX) x.Sites:Nat):Int)+(((aD aP) x.Hosts:Nat):Int)≤4611686018427387904:=by first|omega|(simp only[aV,bA];omega)
 have t4:decide (k+(((aD aN) x.Devices:Nat):Int)+(((aD eY) x.Stolen:Nat):Int)+((aV x.Cloud:Nat):Int)+(((aD bX) x.Sites:Nat):Int)+(((aD aP) x.Hosts:Nat):Int)<0)=false:=decide_eq_false (by first|omega|(simp only[aV,bA];omega))
 have b5:0≤k+(((aD aN) x.Devices:Nat):Int)+(((aD eY) x.Stolen:Nat):Int)+((aV x.Cloud:Nat):Int)+(((aD bX) x.Sites:Nat):Int)+(((aD aP) x.Hosts:Nat):Int):=by first|omega|(simp only[aV,bA];omega)
 have d5:k+(((aD aN) x.Devices:Nat):Int)+(((aD eY) x.Stolen:Nat):Int)+((aV x.Cloud:Nat):Int)+(((aD bX) x.Sites:Nat):Int)+(((aD aP) x.Hosts:Nat):Int)+((bA x.Mail:Nat):Int)≤4611686018427387904:=by first|omega|(simp only[aV,bA];omega)
 have t5:decide (k+(((aD aN) x.Devices:Nat):Int)+(((aD eY) x.Stolen:Nat):Int)+((aV x.Cloud:Nat):Int)+(((aD bX) x.Sites:Nat):Int)+(((aD aP) x.Hosts:Nat):Int)+((bA x.Mail:Nat):Int)<0)=false:=decide_eq_false (by first|omega|(simp only[aV,bA];omega))
 have nn:k+(((aD aN) x.Devices:Nat):Int)+(((aD eY) x.Stolen:Nat):Int)+((aV x.Cloud:Nat):Int)+(((aD bX) x.Sites:Nat):Int)+(((aD aP) x.Hosts:Nat):Int)+((bA x.Mail:Nat):Int)=k+((dM x:Nat):Int):=by simp only[dM,aV,bA]<;>omega
 have f0:=(bJ mE) x.Devices k b0 d0
 have e0:a0.Devices=((bC bT) x.Devices k).1:=by rw[p3];simp only[cK]
 have m0:=f0.1
 have c0:(aD aN) a0.Devices=(aD aN) x.Devices:=by rw[e0];exact f0.2
 have h0:bI (bC bT) (aD aN) a0.Devices k:=eH b0 d0 e0 c0
 have f1:=(bJ aId) x.Stolen (k+(((aD aN) x.Devices:Nat):Int)) b1 d1
 have e1:a0.Stolen=((bC mkB) x.Stolen (k+(((aD aN) x.Devices:Nat):Int))).1:=by rw[p3];simp only[cK,m0]
 have m1:=f1.1
 have c1:(aD eY) a0.Stolen=(aD eY) x.Stolen:=by rw[e1];exact f1.2
 have h1:bI (bC mkB) (aD eY) a0.Stolen (k+(((aD aN) x.Devices:Nat):Int)):=eH b1 d1 e1 c1
 have f2:=aTo x.Cloud (k+(((aD aN) x.Devices:Nat):Int)+(((aD eY) x.Stolen:Nat):Int)) b2 d2
 have e2:a0.Cloud=(fT x.Cloud (k+(((aD aN) x.Devices:Nat):Int)+(((aD eY) x.Stolen:Nat):Int))).1:=by rw[p3];simp only[cK,fT,m0,m1]
 have m2:=f2.1
 simp only[fT,m0,m1] at m2
 have c2:aV a0.Cloud=aV x.Cloud:=by rw[e2];exact f2.2
 have h2:bI fT aV a0.Cloud (k+(((aD aN) x.Devices:Nat):Int)+(((aD eY) x.Stolen:Nat):Int)):=eH b2 d2 e2 c2
 have f3:=(bJ uB) x.Sites (k+(((aD aN) x.Devices:Nat):Int)+(((aD eY) x.Stolen:Nat):Int)+((aV x.Cloud:Nat):Int)) b3 d3
 have e3:a0.Sites=((bC fB) x.Sites (k+(((aD aN) x.Devices:Nat):Int)+(((aD eY) x.Stolen:Nat):Int)+((aV x.Cloud:Nat):Int))).1:=by rw[p3];simp only[cK,m0,m1,m2]
 have m3:=f3.1
 have c3:(aD bX) a0.Sites=(aD bX) x.Sites:=by rw[e3];exact f3.2
 have h3:bI (bC fB) (aD bX) a0.Sites (k+(((aD aN) x.Devices:Nat):Int)+(((aD eY) x.Stolen:Nat):Int)+((aV x.Cloud:Nat):Int)):=eH b3 d3 e3 c3
 have f4:=(bJ iM) x.Hosts (k+(((aD aN) x.Devices:Nat):Int)+(((aD eY) x.Stolen:Nat):Int)+((aV x.Cloud:Nat):Int)+(((aD bX) x.Sites:Nat):Int)) b4 d4
 have e4:a0.Hosts=((bC bH) x.Hosts (k+(((aD aN) x.Devices:Nat):Int)+(((aD eY) x.Stolen:Nat):Int)+((aV x.Cloud:Nat):Int)+(((aD bX) x.Sites:Nat):Int))).1:=by rw[p3];simp only[cK,m0,m1,m2,m3]
 have m4:=f4.1
 have c4:(aD aP) a0.Hosts=(aD aP) x.Hosts:=by rw[e4];exact f4.2
 have h4:bI (bC bH) (aD aP) a0.Hosts (k+(((aD aN) x.Devices:Nat):Int)+(((aD eY) x.Stolen:Nat):Int)+((aV x.Cloud:Nat):Int)+(((aD bX) x.Sites:Nat):Int)):=eH b4 d4 e4 c4
 have f5:=aM2 x.Mail (k+(((aD aN) x.Devices:Nat):Int)+(((aD eY) x.Stolen:Nat):Int)+((aV x.Cloud:Nat):Int)+(((aD bX) x.Sites:Nat):Int)+(((aD aP) x.Hosts:Nat):Int)) b5 d5
 have e5:a0.Mail=(eX x.Mail (k+(((aD aN) x.Devices:Nat):Int)+(((aD eY) x.Stolen:Nat):Int)+((aV x.Cloud:Nat):Int)+(((aD bX) x.Sites:Nat):Int)+(((aD aP) x.Hosts:Nat):Int))).1:=by rw[p3];simp only[cK,eX,m0,m1,m2,m3,m4]
 have m5:=f5.1
 simp only[eX,m0,m1,m2,m3,m4] at m5
 have c5:bA a0.Mail=bA x.Mail:=by rw[e5];exact f5.2
 have h5:bI eX bA a0.Mail (k+(((aD aN) x.Devices:Nat):Int)+(((aD eY) x.Stolen:Nat):Int)+((aV x.Cloud:Nat):Int)+(((aD bX) x.Sites:Nat):Int)+(((aD aP) x.Hosts:Nat):Int)):=eH b5 d5 e5 c5
 unfold zW
 simp only[aH h0,c0,t0,aH h1,c1,t1,aH h2,c2,t2,aH h3,c3,t3,aH h4,c4,t4,aH h5,c5,t5,cond_false,bd_s]
 rw[←p4,←nn]
end
end Go.VK
