import Derived.Test.YtinkjfapmhcgmaaGreatDoorXjM
/- Printed by wip/tools: models, walks, proofs. -/
set_option linter.unusedVariables false
set_option linter.unusedSimpArgs false
set_option maxRecDepth 100000
set_option maxHeartbeats 4000000
namespace Go.VK
open Go.RowKit Go.Proofs
noncomputable section
open EV (bU)
theorem o9 (a0:List D.aAB)(a1:Int)(h:gL (jJ (fun _:D.aAB=>True)) a0 a1):vR a0 a1=some (eT (a0.length) a1):=by
 obtain⟨h1,h3⟩:=h
 unfold vR
 exact Fu h1.1 h3
theorem aJb (a0:List D.Entry)(a1:Int)(h:gL (jJ (fun _:D.Entry=>True)) a0 a1):Im a0 a1=some (eT (a0.length) a1):=by
 obtain⟨h1,h3⟩:=h
 unfold Im
 exact Fu h1.1 h3
theorem aJc (a0:D.aAD)(a1:Int)(h:gL D.aAD.ok a0 a1):Io a0 a1=some (eT (a0.sz) a1):=by
 obtain⟨h1,h3⟩:=h
 unfold Io
 have e:a0.sz=(a0.Entries.length):=by simp only[D.aAD.sz]<;>omega
 rw[e]
 rw[aC (show gL (jJ (fun _:D.Entry=>True)) (a0.Entries) _ from⟨h1,h3⟩),bd_s]
 exact Ig h3
theorem aJd (a0:D.Device)(a1:Int)(h:gL D.Device.ok a0 a1):Ip a0 a1=some (eT (a0.sz) a1):=by
 obtain⟨h1,h3⟩:=h
 unfold Ip
 have e:a0.sz=((a0.Log.length)+(a0.aAD.sz)):=by simp only[D.aAD.sz,D.Device.sz,D.aAJ.sz]<;>omega
 rw[e]
 rw[aC (show gL (jJ (fun _:D.aAB=>True)) (a0.Log) _ from⟨h1.1,h3⟩),bd_s]
 refine aSz h3 (fun p1=> ?_)
 revert p1
 generalize eT (a0.Log.length) a1=l1
 intro p1
 rw[aC (show gL D.aAD.ok (a0.aAD) _ from⟨h1.2,p1⟩),bd_s]
 exact Ig p1
theorem aDt (a0:List D.Device)(a1:Int)(h:gL (jJ D.Device.ok) a0 a1):Ba a0 a1=some (eT (a0.length+(a0.map D.Device.sz).sum) a1):=by
 unfold Ba
 exact aDc h (fun rec i left hi hp=>by simp only[bE hi,cond_true,aF hi,bd_s,aC hp]) (fun rec left=>by simp only[bF,cond_false])
theorem aOd (a0:List Bool)(a1:Int)(h:gL (jJ (fun _:Bool=>True)) a0 a1):Oh a0 a1=some (eT (a0.length) a1):=by
 obtain⟨h1,h3⟩:=h
 unfold Oh
 exact Fu h1.1 h3
theorem aOe (a0:List Int)(a1:Int)(h:gL (jJ (fun _:Int=>True)) a0 a1):Oi a0 a1=some (eT (a0.length) a1):=by
 obtain⟨h1,h3⟩:=h
 unfold Oi
 exact Fu h1.1 h3
theorem aXu (a0:D.Box)(a1:Int)(h:gL D.Box.ok a0 a1):X9 a0 a1=some (eT (a0.sz) a1):=by
 obtain⟨h1,h3⟩:=h
 unfold X9
 have e:a0.sz=(a0.Data.length):=by simp only[D.Box.sz]<;>omega
 rw[e]
 rw[aC (show gL (jJ (fun _:Int=>True)) (a0.Data) _ from⟨h1,h3⟩),bd_s]
 exact Ig h3
theorem aS5 (a0:List D.Box)(a1:Int)(h:gL (jJ D.Box.ok) a0 a1):Yd a0 a1=some (eT (a0.length+(a0.map D.Box.sz).sum) a1):=by
 unfold Yd
 exact aDc h (fun rec i left hi hp=>by simp only[bE hi,cond_true,aF hi,bd_s,aC hp]) (fun rec left=>by simp only[bF,cond_false])
theorem Ug (a0:D.aAE)(a1:Int)(h:gL D.aAE.ok a0 a1):tF a0 a1=some (eT (a0.sz) a1):=by
 obtain⟨h1,h3⟩:=h
 unfold tF
 have e:a0.sz=(a0.Boxes.length+(a0.Boxes.map D.Box.sz).sum):=by simp only[D.aAE.sz]<;>omega
 rw[e]
 rw[aC (show gL (jJ D.Box.ok) (a0.Boxes) _ from⟨h1,h3⟩),bd_s]
 exact Ig h3
theorem Km (a0:D.aAA)(a1:Int)(h:gL D.aAA.ok a0 a1):pI a0 a1=some (eT (a0.sz) a1):=by
 obtain⟨h1,h3⟩:=h
 unfold pI
 have e:a0.sz=(a0.Data.length):=by simp only[D.aAA.sz]<;>omega
 rw[e]
 rw[aC (show gL (jJ (fun _:Int=>True)) (a0.Data) _ from⟨h1,h3⟩),bd_s]
 exact Ig h3
theorem Ga (a0:List D.aAA)(a1:Int)(h:gL (jJ D.aAA.ok) a0 a1):nY a0 a1=some (eT (a0.length+(a0.map D.aAA.sz).sum) a1):=by
 unfold nY
 exact aDc h (fun rec i left hi hp=>by simp only[bE hi,cond_true,aF hi,bd_s,aC hp]) (fun rec left=>by simp only[bF,cond_false])
theorem aOf (a0:D.aAH)(a1:Int)(h:gL D.aAH.ok a0 a1):Oj a0 a1=some (eT (a0.sz) a1):=by
 obtain⟨h1,h3⟩:=h
 unfold Oj
 have e:a0.sz=((a0.Log.length)+((a0.Boxes.sz)+(a0.History.length+(a0.History.map D.aAA.sz).sum))):=by simp only[D.aAH.sz,D.aAE.sz]<;>omega
 rw[e]
 rw[aC (show gL (jJ (fun _:D.aAB=>True)) (a0.Log) _ from⟨h1.1,h3⟩),bd_s]
 refine aSz h3 (fun p1=> ?_)
 revert p1
 generalize eT (a0.Log.length) a1=l1
 intro p1
 rw[aC (show gL D.aAE.ok (a0.Boxes) _ from⟨h1.2.1,p1⟩),bd_s]
 refine aSz p1 (fun p2=> ?_)
 revert p2
 generalize eT (a0.Boxes.sz) l1=l2
 intro p2
 rw[aC (show gL (jJ D.aAA.ok) (a0.History) _ from⟨h1.2.2,p2⟩),bd_s]
 exact Ig p2
theorem Qw (a0:List D.aAI)(a1:Int)(h:gL (jJ (fun _:D.aAI=>True)) a0 a1):rV a0 a1=some (eT (a0.length) a1):=by
 obtain⟨h1,h3⟩:=h
 unfold rV
 exact Fu h1.1 h3
theorem aDu (a0:D.aAG)(a1:Int)(h:gL D.aAG.ok a0 a1):Bb a0 a1=some (eT (a0.sz) a1):=by
 obtain⟨h1,h3⟩:=h
 unfold Bb
 have e:a0.sz=(a0.Credentials.length):=by simp only[D.aAG.sz]<;>omega
 rw[e]
 rw[aC (show gL (jJ (fun _:D.aAI=>True)) (a0.Credentials) _ from⟨h1,h3⟩),bd_s]
 exact Ig h3
theorem Y6 (a0:List D.aAG)(a1:Int)(h:gL (jJ D.aAG.ok) a0 a1):yB a0 a1=some (eT (a0.length+(a0.map D.aAG.sz).sum) a1):=by
 unfold yB
 exact aDc h (fun rec i left hi hp=>by simp only[bE hi,cond_true,aF hi,bd_s,aC hp]) (fun rec left=>by simp only[bF,cond_false])
theorem Uh (a0:List D.aAL)(a1:Int)(h:gL (jJ (fun _:D.aAL=>True)) a0 a1):tH a0 a1=some (eT (a0.length) a1):=by
 obtain⟨h1,h3⟩:=h
 unfold tH
 exact Fu h1.1 h3
theorem Gb (a0:D.aAF)(a1:Int)(h:gL D.aAF.ok a0 a1):nZ a0 a1=some (eT (a0.sz) a1):=by
 obtain⟨h1,h3⟩:=h
 unfold nZ
 have e:a0.sz=(a0.Open.length):=by simp only[D.aAF.sz]<;>omega
 rw[e]
 rw[aC (show gL (jJ (fun _:D.aAL=>True)) (a0.Open) _ from⟨h1,h3⟩),bd_s]
 exact Ig h3
theorem aS6 (a0:List Int)(a1:Int)(h:gL (jJ (fun _:Int=>True)) a0 a1):Ye a0 a1=some (eT (a0.length) a1):=by
 obtain⟨h1,h3⟩:=h
 unfold Ye
 exact Fu h1.1 h3
theorem aS7 (a0:D.Site)(a1:Int)(h:gL D.Site.ok a0 a1):Yf a0 a1=some (eT (a0.sz) a1):=by
 obtain⟨h1,h3⟩:=h
 unfold Yf
 have e:a0.sz=((a0.Name.size)+((a0.Accounts.length+(a0.Accounts.map D.aAG.sz).sum)+((a0.Book.sz)+(a0.Logins.length)))):=by simp only[D.aAF.sz,D.Site.sz]<;>omega
 rw[e]
 have w0:IntKind.i64.wrap (a1-((a0.Name).size:Int))=a1-((a0.Name).size:Int):=by have:=h3.1;have:=h3.2;have:(a0.Name).size≤9223372036854775807:=h1.1;exact aP (by omega) (by omega)
 rw[w0]
 refine bMg h3 (fun p1=> ?_)
 revert p1
 generalize a1-((a0.Name).size:Int)=l1
 intro p1
 rw[aC (show gL (jJ D.aAG.ok) (a0.Accounts) _ from⟨h1.2.1,p1⟩),bd_s]
 refine aSz p1 (fun p2=> ?_)
 revert p2
 generalize eT (a0.Accounts.length+(a0.Accounts.map D.aAG.sz).sum) l1=l2
 intro p2
 rw[aC (show gL D.aAF.ok (a0.Book) _ from⟨h1.2.2.1,p2⟩),bd_s]
 refine aSz p2 (fun p3=> ?_)
 revert p3
 generalize eT (a0.Book.sz) l2=l3
 intro p3
 rw[aC (show gL (jJ (fun _:Int=>True)) (a0.Logins) _ from⟨h1.2.2.2,p3⟩),bd_s]
 exact Ig p3
theorem aOg (a0:List D.Site)(a1:Int)(h:gL (jJ D.Site.ok) a0 a1):Ol a0 a1=some (eT (a0.length+(a0.map D.Site.sz).sum) a1):=by
 unfold Ol
 exact aDc h (fun rec i left hi hp=>by simp only[bE hi,cond_true,aF hi,bd_s,aC hp]) (fun rec left=>by simp only[bF,cond_false])
theorem aDv (a0:List D.aAN)(a1:Int)(h:gL (jJ (fun _:D.aAN=>True)) a0 a1):Bc a0 a1=some (eT (a0.length) a1):=by
 obtain⟨h1,h3⟩:=h
 unfold Bc
 exact Fu h1.1 h3
theorem Ui (a0:D.aAC)(a1:Int)(h:gL D.aAC.ok a0 a1):tJ a0 a1=some (eT (a0.sz) a1):=by
 obtain⟨h1,h3⟩:=h
 unfold tJ
 have e:a0.sz=(a0.Saved.length):=by simp only[D.aAN.sz,D.aAC.sz,D.aAO.sz]<;>omega
 rw[e]
 rw[aC (show gL (jJ (fun _:D.aAN=>True)) (a0.Saved) _ from⟨h1,h3⟩),bd_s]
 exact Ig h3
theorem Qx (a0:List D.aAC)(a1:Int)(h:gL (jJ D.aAC.ok) a0 a1):rW a0 a1=some (eT (a0.length+(a0.map D.aAC.sz).sum) a1):=by
 unfold rW
 exact aDc h (fun rec i left hi hp=>by simp only[bE hi,cond_true,aF hi,bd_s,aC hp]) (fun rec left=>by simp only[bF,cond_false])
theorem aDw (a0:List D.aAM)(a1:Int)(h:gL (jJ (fun _:D.aAM=>True)) a0 a1):Bd a0 a1=some (eT (a0.length) a1):=by
 obtain⟨h1,h3⟩:=h
 unfold Bd
 exact Fu h1.1 h3
theorem aDx (a0:D.aAK)(a1:Int)(h:gL D.aAK.ok a0 a1):Be a0 a1=some (eT (a0.sz) a1):=by
 obtain⟨h1,h3⟩:=h
 unfold Be
 have e:a0.sz=(a0.Notices.length):=by simp only[D.aAK.sz]<;>omega
 rw[e]
 rw[aC (show gL (jJ (fun _:D.aAM=>True)) (a0.Notices) _ from⟨h1,h3⟩),bd_s]
 exact Ig h3
theorem aOh (a0:D.World)(a1:Int)(h:gL D.World.ok a0 a1):Om a0 a1=some (eT (a0.sz) a1):=by
 obtain⟨h1,h3⟩:=h
 unfold Om
 have e:a0.sz=((a0.Devices.length+(a0.Devices.map D.Device.sz).sum)+((a0.Stolen.length)+((a0.aAH.sz)+((a0.Sites.length+(a0.Sites.map D.Site.sz).sum)+((a0.Hosts.length+(a0.Hosts.map D.aAC.sz).sum)+(a0.Mail.sz)))))):=by simp only[D.aAH.sz,D.aAE.sz,D.aAK.sz,D.aAQ.sz,D.World.sz]<;>omega
 rw[e]
 rw[aC (show gL (jJ D.Device.ok) (a0.Devices) _ from⟨h1.1,h3⟩),bd_s]
 refine aSz h3 (fun p1=> ?_)
 revert p1
 generalize eT (a0.Devices.length+(a0.Devices.map D.Device.sz).sum) a1=l1
 intro p1
 rw[aC (show gL (jJ (fun _:Bool=>True)) (a0.Stolen) _ from⟨h1.2.1,p1⟩),bd_s]
 refine aSz p1 (fun p2=> ?_)
 revert p2
 generalize eT (a0.Stolen.length) l1=l2
 intro p2
 rw[aC (show gL D.aAH.ok (a0.aAH) _ from⟨h1.2.2.1,p2⟩),bd_s]
 refine aSz p2 (fun p3=> ?_)
 revert p3
 generalize eT (a0.aAH.sz) l2=l3
 intro p3
 rw[aC (show gL (jJ D.Site.ok) (a0.Sites) _ from⟨h1.2.2.2.1,p3⟩),bd_s]
 refine aSz p3 (fun p4=> ?_)
 revert p4
 generalize eT (a0.Sites.length+(a0.Sites.map D.Site.sz).sum) l3=l4
 intro p4
 rw[aC (show gL (jJ D.aAC.ok) (a0.Hosts) _ from⟨h1.2.2.2.2.1,p4⟩),bd_s]
 refine aSz p4 (fun p5=> ?_)
 revert p5
 generalize eT (a0.Hosts.length+(a0.Hosts.map D.aAC.sz).sum) l4=l5
 intro p5
 rw[aC (show gL D.aAK.ok (a0.Mail) _ from⟨h1.2.2.2.2.2,p5⟩),bd_s]
 exact Ig p5
theorem Y7 (a0:D.aAJ):yC a0=some (a0):=by
 unfold yC
 rfl
theorem Y8 (a0:D.aAB):yD a0=some (a0):=by
 unfold yD
 rfl
theorem p9 (a0:List D.aAB)(h:a0.length≤1048576):vS a0=some (a0):=by
 unfold vS
 rw[aC (mV (by omega)),iD bQ (by omega) (fun rec i out ho hi=>by
  simp only[bE hi,cond_true,aF hi,aF (show i<out.length by omega),bd_s,bQ]) (fun rec out=>by simp only[bF,cond_false])]
 rfl
theorem aOi (a0:D.Entry):Oo a0=some (a0):=by
 unfold Oo
 rfl
theorem aJe (a0:List D.Entry)(h:a0.length≤1048576):Iq a0=some (a0):=by
 unfold Iq
 rw[aC (mV (by omega)),iD bQ (by omega) (fun rec i out ho hi=>by
  simp only[bE hi,cond_true,aF hi,aF (show i<out.length by omega),bd_s,bQ]) (fun rec out=>by simp only[bF,cond_false])]
 rfl
theorem aJf (a0:D.aAD)(h:a0.sz≤1048576):Ir a0=some (a0):=by
 unfold Ir
 simp only[D.aAD.sz] at h
 try simp only[bd_s]
 rw[aC (by first|omega|(simp only[D.aAD.sz];omega))]
 rfl
theorem aJg (a0:D.Device)(h:a0.sz≤1048576):Iu a0=some (a0):=by
 unfold Iu
 simp only[D.aAD.sz,D.Device.sz,D.aAJ.sz] at h
 try simp only[bd_s]
 rw[aC (by first|omega|(simp only[D.aAD.sz,D.Device.sz,D.aAJ.sz];omega))]
 try simp only[bd_s]
 rw[aC (by first|omega|(simp only[D.aAD.sz,D.Device.sz,D.aAJ.sz];omega))]
 rfl
theorem aDy (a0:List D.Device)(h:a0.length+(a0.map D.Device.sz).sum≤1048576):Bf a0=some (a0):=by
 unfold Bf
 rw[aC (mV (by omega)),iD bQ (by omega) (fun rec i out ho hi=>by
  have hz:=dM (f:=D.Device.sz) hi
  simp only[bE hi,cond_true,aF hi,aF (show i<out.length by omega),bd_s,bQ,aC (show a0[i].sz≤1048576 by omega)]) (fun rec out=>by simp only[bF,cond_false])]
 rfl
theorem aOj (a0:List Bool)(h:a0.length≤1048576):Oq a0=some (a0):=by
 unfold Oq
 rw[aC (mV (by omega)),iD bQ (by omega) (fun rec i out ho hi=>by
  simp only[bE hi,cond_true,aF hi,aF (show i<out.length by omega),bd_s,bQ]) (fun rec out=>by simp only[bF,cond_false])]
 rfl
theorem aOk (a0:List Int)(h:a0.length≤1048576):Ot a0=some (a0):=by
 unfold Ot
 rw[aC (mV (by omega)),iD bQ (by omega) (fun rec i out ho hi=>by
  simp only[bE hi,cond_true,aF hi,aF (show i<out.length by omega),bd_s,bQ]) (fun rec out=>by simp only[bF,cond_false])]
 rfl
theorem aXv (a0:D.Box)(h:a0.sz≤1048576):Y1 a0=some (a0):=by
 unfold Y1
 simp only[D.Box.sz] at h
 try simp only[bd_s]
 rw[aC (by first|omega|(simp only[D.Box.sz];omega))]
 rfl
theorem aS8 (a0:List D.Box)(h:a0.length+(a0.map D.Box.sz).sum≤1048576):Yg a0=some (a0):=by
 unfold Yg
 rw[aC (mV (by omega)),iD bQ (by omega) (fun rec i out ho hi=>by
  have hz:=dM (f:=D.Box.sz) hi
  simp only[bE hi,cond_true,aF hi,aF (show i<out.length by omega),bd_s,bQ,aC (show a0[i].sz≤1048576 by omega)]) (fun rec out=>by simp only[bF,cond_false])]
 rfl
theorem Uj (a0:D.aAE)(h:a0.sz≤1048576):tK a0=some (a0):=by
 unfold tK
 simp only[D.aAE.sz] at h
 try simp only[bd_s]
 rw[aC (by first|omega|(simp only[D.aAE.sz];omega))]
 rfl
theorem Kn (a0:D.aAA)(h:a0.sz≤1048576):pJ a0=some (a0):=by
 unfold pJ
 simp only[D.aAA.sz] at h
 try simp only[bd_s]
 rw[aC (by first|omega|(simp only[D.aAA.sz];omega))]
 rfl
theorem Gc (a0:List D.aAA)(h:a0.length+(a0.map D.aAA.sz).sum≤1048576):oC a0=some (a0):=by
 unfold oC
 rw[aC (mV (by omega)),iD bQ (by omega) (fun rec i out ho hi=>by
  have hz:=dM (f:=D.aAA.sz) hi
  simp only[bE hi,cond_true,aF hi,aF (show i<out.length by omega),bd_s,bQ,aC (show a0[i].sz≤1048576 by omega)]) (fun rec out=>by simp only[bF,cond_false])]
 rfl
theorem aOl (a0:D.aAH)(h:a0.sz≤1048576):Ou a0=some (a0):=by
 unfold Ou
 simp only[D.aAH.sz,D.aAE.sz] at h
 try simp only[bd_s]
 rw[aC (by first|omega|(simp only[D.aAH.sz,D.aAE.sz];omega))]
 try simp only[bd_s]
 rw[aC (by first|omega|(simp only[D.aAH.sz,D.aAE.sz];omega))]
 try simp only[bd_s]
 rw[aC (by first|omega|(simp only[D.aAH.sz,D.aAE.sz];omega))]
 rfl
theorem Uk (a0:D.aAI):tL a0=some (a0):=by
 unfold tL
 rfl
theorem Qy (a0:List D.aAI)(h:a0.length≤1048576):rX a0=some (a0):=by
 unfold rX
 rw[aC (mV (by omega)),iD bQ (by omega) (fun rec i out ho hi=>by
  simp only[bE hi,cond_true,aF hi,aF (show i<out.length by omega),bd_s,bQ]) (fun rec out=>by simp only[bF,cond_false])]
 rfl
theorem aDz (a0:D.aAG)(h:a0.sz≤1048576):Bg a0=some (a0):=by
 unfold Bg
 simp only[D.aAG.sz] at h
 try simp only[bd_s]
 rw[aC (by first|omega|(simp only[D.aAG.sz];omega))]
 rfl
theorem Y9 (a0:List D.aAG)(h:a0.length+(a0.map D.aAG.sz).sum≤1048576):yE a0=some (a0):=by
 unfold yE
 rw[aC (mV (by omega)),iD bQ (by omega) (fun rec i out ho hi=>by
  have hz:=dM (f:=D.aAG.sz) hi
  simp only[bE hi,cond_true,aF hi,aF (show i<out.length by omega),bd_s,bQ,aC (show a0[i].sz≤1048576 by omega)]) (fun rec out=>by simp only[bF,cond_false])]
 rfl
theorem q9 (a0:D.aAL):vT a0=some (a0):=by
 unfold vT
 rfl
theorem Ul (a0:List D.aAL)(h:a0.length≤1048576):tN a0=some (a0):=by
 unfold tN
 rw[aC (mV (by omega)),iD bQ (by omega) (fun rec i out ho hi=>by
  simp only[bE hi,cond_true,aF hi,aF (show i<out.length by omega),bd_s,bQ]) (fun rec out=>by simp only[bF,cond_false])]
 rfl
theorem Gd (a0:D.aAF)(h:a0.sz≤1048576):oD a0=some (a0):=by
 unfold oD
 simp only[D.aAF.sz] at h
 try simp only[bd_s]
 rw[aC (by first|omega|(simp only[D.aAF.sz];omega))]
 rfl
theorem aS9 (a0:List Int)(h:a0.length≤1048576):Yh a0=some (a0):=by
 unfold Yh
 rw[aC (mV (by omega)),iD bQ (by omega) (fun rec i out ho hi=>by
  simp only[bE hi,cond_true,aF hi,aF (show i<out.length by omega),bd_s,bQ]) (fun rec out=>by simp only[bF,cond_false])]
 rfl
theorem aTa (a0:D.Site)(h:a0.sz≤1048576):Yi a0=some (a0):=by
 unfold Yi
 simp only[D.aAF.sz,D.Site.sz] at h
 try simp only[bd_s]
 rw[aC (by first|omega|(simp only[D.aAF.sz,D.Site.sz];omega))]
 try simp only[bd_s]
 rw[aC (by first|omega|(simp only[D.aAF.sz,D.Site.sz];omega))]
 try simp only[bd_s]
 rw[aC (by first|omega|(simp only[D.aAF.sz,D.Site.sz];omega))]
 rfl
theorem aOm (a0:List D.Site)(h:a0.length+(a0.map D.Site.sz).sum≤1048576):Ov a0=some (a0):=by
 unfold Ov
 rw[aC (mV (by omega)),iD bQ (by omega) (fun rec i out ho hi=>by
  have hz:=dM (f:=D.Site.sz) hi
  simp only[bE hi,cond_true,aF hi,aF (show i<out.length by omega),bd_s,bQ,aC (show a0[i].sz≤1048576 by omega)]) (fun rec out=>by simp only[bF,cond_false])]
 rfl
theorem aOn (a0:D.aAQ):Ox a0=some (a0):=by
 unfold Ox
 rfl
theorem aOo (a0:D.aAO):Oy a0=some (a0):=by
 unfold Oy
 rfl
theorem aJh (a0:D.aAN):Iw a0=some (a0):=by
 unfold Iw
 rfl
theorem aD0 (a0:List D.aAN)(h:a0.length≤1048576):Bh a0=some (a0):=by
 unfold Bh
 rw[aC (mV (by omega)),iD bQ (by omega) (fun rec i out ho hi=>by
  simp only[bE hi,cond_true,aF hi,aF (show i<out.length by omega),bd_s,bQ]) (fun rec out=>by simp only[bF,cond_false])]
 rfl
theorem Um (a0:D.aAC)(h:a0.sz≤1048576):tO a0=some (a0):=by
 unfold tO
 simp only[D.aAN.sz,D.aAC.sz,D.aAO.sz] at h
 try simp only[bd_s]
 rw[aC (by first|omega|(simp only[D.aAN.sz,D.aAC.sz,D.aAO.sz];omega))]
 rfl
theorem Qz (a0:List D.aAC)(h:a0.length+(a0.map D.aAC.sz).sum≤1048576):rY a0=some (a0):=by
 unfold rY
 rw[aC (mV (by omega)),iD bQ (by omega) (fun rec i out ho hi=>by
  have hz:=dM (f:=D.aAC.sz) hi
  simp only[bE hi,cond_true,aF hi,aF (show i<out.length by omega),bd_s,bQ,aC (show a0[i].sz≤1048576 by omega)]) (fun rec out=>by simp only[bF,cond_false])]
 rfl
theorem aJi (a0:D.aAM):Iy a0=some (a0):=by
 unfold Iy
 rfl
theorem aD1 (a0:List D.aAM)(h:a0.length≤1048576):Bi a0=some (a0):=by
 unfold Bi
 rw[aC (mV (by omega)),iD bQ (by omega) (fun rec i out ho hi=>by
  simp only[bE hi,cond_true,aF hi,aF (show i<out.length by omega),bd_s,bQ]) (fun rec out=>by simp only[bF,cond_false])]
 rfl
theorem aD2 (a0:D.aAK)(h:a0.sz≤1048576):Bj a0=some (a0):=by
 unfold Bj
 simp only[D.aAK.sz] at h
 try simp only[bd_s]
 rw[aC (by first|omega|(simp only[D.aAK.sz];omega))]
 rfl
theorem aOp (a0:D.World)(h:a0.sz≤1048576):Oz a0=some (a0):=by
 unfold Oz
 simp only[D.aAH.sz,D.aAE.sz,D.aAK.sz,D.aAQ.sz,D.World.sz] at h
 try simp only[bd_s]
 rw[aC (by first|omega|(simp only[D.aAH.sz,D.aAE.sz,D.aAK.sz,D.aAQ.sz,D.World.sz];omega))]
 try simp only[bd_s]
 rw[aC (by first|omega|(simp only[D.aAH.sz,D.aAE.sz,D.aAK.sz,D.aAQ.sz,D.World.sz];omega))]
 try simp only[bd_s]
 rw[aC (by first|omega|(simp only[D.aAH.sz,D.aAE.sz,D.aAK.sz,D.aAQ.sz,D.World.sz];omega))]
 try simp only[bd_s]
 rw[aC (by first|omega|(simp only[D.aAH.sz,D.aAE.sz,D.aAK.sz,D.aAQ.sz,D.World.sz];omega))]
 try simp only[bd_s]
 rw[aC (by first|omega|(simp only[D.aAH.sz,D.aAE.sz,D.aAK.sz,D.aAQ.sz,D.World.sz];omega))]
 try simp only[bd_s]
 rw[aC (by first|omega|(simp only[D.aAH.sz,D.aAE.sz,D.aAK.sz,D.aAQ.sz,D.World.sz];omega))]
 rfl
theorem Z0 (a0:D.aAJ)(a1:D.aAJ)(h:eD (0) a0 a1):zI a0 a1=some (true):=by
 obtain⟨rfl,hz⟩:=h
 unfold zI
 simp only[beq_self_eq_true,bne_self_eq_false,Bool.not_true,Bool.not_false,cond_true,cond_false,bd_s,nx_r]
theorem Z4 (a0:D.aAB)(a1:D.aAB)(h:eD (0) a0 a1):zJ a0 a1=some (true):=by
 obtain⟨rfl,hz⟩:=h
 unfold zJ
 simp only[beq_self_eq_true,bne_self_eq_false,Bool.not_true,Bool.not_false,cond_true,cond_false,bd_s,nx_r]
theorem r9 (a0:List D.aAB)(a1:List D.aAB)(h:eD (a0.length) a0 a1):wU a0 a1=some (true):=by
 obtain⟨rfl,hz⟩:=h
 unfold wU
 rw[mU (a:=a0) (by omega) (fun rec i hi=>by
  simp only[bE hi,aF hi,aC (show eD (0) a0[i] a0[i] from⟨rfl,by omega⟩),beq_self_eq_true,bne_self_eq_false,Bool.not_true,Bool.not_false,cond_true,cond_false,bd_s,nx_r]) (fun rec=>by simp only[bF,cond_false])]
 simp only[beq_self_eq_true,bne_self_eq_false,Bool.not_true,Bool.not_false,cond_true,cond_false,bd_s,nx_r]
theorem aOq (a0:D.Entry)(a1:D.Entry)(h:eD (0) a0 a1):Qm a0 a1=some (true):=by
 obtain⟨rfl,hz⟩:=h
 unfold Qm
 simp only[beq_self_eq_true,bne_self_eq_false,Bool.not_true,Bool.not_false,cond_true,cond_false,bd_s,nx_r]
theorem aJj (a0:List D.Entry)(a1:List D.Entry)(h:eD (a0.length) a0 a1):Jr a0 a1=some (true):=by
 obtain⟨rfl,hz⟩:=h
 unfold Jr
 rw[mU (a:=a0) (by omega) (fun rec i hi=>by
  simp only[bE hi,aF hi,aC (show eD (0) a0[i] a0[i] from⟨rfl,by omega⟩),beq_self_eq_true,bne_self_eq_false,Bool.not_true,Bool.not_false,cond_true,cond_false,bd_s,nx_r]) (fun rec=>by simp only[bF,cond_false])]
 simp only[beq_self_eq_true,bne_self_eq_false,Bool.not_true,Bool.not_false,cond_true,cond_false,bd_s,nx_r]
theorem aJk (a0:D.aAD)(a1:D.aAD)(h:eD (a0.sz) a0 a1):Js a0 a1=some (true):=by
 obtain⟨rfl,hz⟩:=h
 unfold Js
 simp only[D.aAD.sz] at hz
 simp only[beq_self_eq_true,bne_self_eq_false,Bool.not_true,Bool.not_false,cond_true,cond_false,bd_s,nx_r,aC (show eD (a0.Entries.length) a0.Entries a0.Entries from⟨rfl,by omega⟩)]
theorem aJl (a0:D.Device)(a1:D.Device)(h:eD (a0.sz) a0 a1):Jt a0 a1=some (true):=by
 obtain⟨rfl,hz⟩:=h
 unfold Jt
 simp only[D.aAD.sz,D.Device.sz,D.aAJ.sz] at hz
 simp only[beq_self_eq_true,bne_self_eq_false,Bool.not_true,Bool.not_false,cond_true,cond_false,bd_s,nx_r,aC (show eD (0) a0.Store a0.Store from⟨rfl,by omega⟩),aC (show eD (a0.Log.length) a0.Log a0.Log from⟨rfl,by omega⟩),aC (show eD (a0.aAD.sz) a0.aAD a0.aAD from⟨rfl,by simp only[D.aAD.sz];omega⟩)]
theorem aD3 (a0:List D.Device)(a1:List D.Device)(h:eD (a0.length+(a0.map D.Device.sz).sum) a0 a1):Dc a0 a1=some (true):=by
 obtain⟨rfl,hz⟩:=h
 unfold Dc
 rw[mU (a:=a0) (by omega) (fun rec i hi=>by
  have hs:=dM (f:=D.Device.sz) hi
  simp only[bE hi,aF hi,aC (show eD (a0[i].sz) a0[i] a0[i] from⟨rfl,by omega⟩),beq_self_eq_true,bne_self_eq_false,Bool.not_true,Bool.not_false,cond_true,cond_false,bd_s,nx_r]) (fun rec=>by simp only[bF,cond_false])]
 simp only[beq_self_eq_true,bne_self_eq_false,Bool.not_true,Bool.not_false,cond_true,cond_false,bd_s,nx_r]
theorem aOr (a0:List Bool)(a1:List Bool)(h:eD (a0.length) a0 a1):Qn a0 a1=some (true):=by
 obtain⟨rfl,hz⟩:=h
 unfold Qn
 rw[mU (a:=a0) (by omega) (fun rec i hi=>by
  simp only[bE hi,aF hi,beq_self_eq_true,bne_self_eq_false,Bool.not_true,Bool.not_false,cond_true,cond_false,bd_s,nx_r]) (fun rec=>by simp only[bF,cond_false])]
 simp only[beq_self_eq_true,bne_self_eq_false,Bool.not_true,Bool.not_false,cond_true,cond_false,bd_s,nx_r]
theorem aOs (a0:List Int)(a1:List Int)(h:eD (a0.length) a0 a1):Qo a0 a1=some (true):=by
 obtain⟨rfl,hz⟩:=h
 unfold Qo
 rw[mU (a:=a0) (by omega) (fun rec i hi=>by
  simp only[bE hi,aF hi,beq_self_eq_true,bne_self_eq_false,Bool.not_true,Bool.not_false,cond_true,cond_false,bd_s,nx_r]) (fun rec=>by simp only[bF,cond_false])]
 simp only[beq_self_eq_true,bne_self_eq_false,Bool.not_true,Bool.not_false,cond_true,cond_false,bd_s,nx_r]
theorem aXw (a0:D.Box)(a1:D.Box)(h:eD (a0.sz) a0 a1):Y5 a0 a1=some (true):=by
 obtain⟨rfl,hz⟩:=h
 unfold Y5
 simp only[D.Box.sz] at hz
 simp only[beq_self_eq_true,bne_self_eq_false,Bool.not_true,Bool.not_false,cond_true,cond_false,bd_s,nx_r,aC (show eD (a0.Data.length) a0.Data a0.Data from⟨rfl,by omega⟩)]
theorem aTb (a0:List D.Box)(a1:List D.Box)(h:eD (a0.length+(a0.map D.Box.sz).sum) a0 a1):Yy a0 a1=some (true):=by
 obtain⟨rfl,hz⟩:=h
 unfold Yy
 rw[mU (a:=a0) (by omega) (fun rec i hi=>by
  have hs:=dM (f:=D.Box.sz) hi
  simp only[bE hi,aF hi,aC (show eD (a0[i].sz) a0[i] a0[i] from⟨rfl,by omega⟩),beq_self_eq_true,bne_self_eq_false,Bool.not_true,Bool.not_false,cond_true,cond_false,bd_s,nx_r]) (fun rec=>by simp only[bF,cond_false])]
 simp only[beq_self_eq_true,bne_self_eq_false,Bool.not_true,Bool.not_false,cond_true,cond_false,bd_s,nx_r]
theorem Uo (a0:D.aAE)(a1:D.aAE)(h:eD (a0.sz) a0 a1):uH a0 a1=some (true):=by
 obtain⟨rfl,hz⟩:=h
 unfold uH
 simp only[D.aAE.sz] at hz
 simp only[beq_self_eq_true,bne_self_eq_false,Bool.not_true,Bool.not_false,cond_true,cond_false,bd_s,nx_r,aC (show eD (a0.Boxes.length+(a0.Boxes.map D.Box.sz).sum) a0.Boxes a0.Boxes from⟨rfl,by omega⟩)]
theorem Ko (a0:D.aAA)(a1:D.aAA)(h:eD (a0.sz) a0 a1):qB a0 a1=some (true):=by
 obtain⟨rfl,hz⟩:=h
 unfold qB
 simp only[D.aAA.sz] at hz
 simp only[beq_self_eq_true,bne_self_eq_false,Bool.not_true,Bool.not_false,cond_true,cond_false,bd_s,nx_r,aC (show eD (a0.Data.length) a0.Data a0.Data from⟨rfl,by omega⟩)]
theorem Gf (a0:List D.aAA)(a1:List D.aAA)(h:eD (a0.length+(a0.map D.aAA.sz).sum) a0 a1):oI a0 a1=some (true):=by
 obtain⟨rfl,hz⟩:=h
 unfold oI
 rw[mU (a:=a0) (by omega) (fun rec i hi=>by
  have hs:=dM (f:=D.aAA.sz) hi
  simp only[bE hi,aF hi,aC (show eD (a0[i].sz) a0[i] a0[i] from⟨rfl,by omega⟩),beq_self_eq_true,bne_self_eq_false,Bool.not_true,Bool.not_false,cond_true,cond_false,bd_s,nx_r]) (fun rec=>by simp only[bF,cond_false])]
 simp only[beq_self_eq_true,bne_self_eq_false,Bool.not_true,Bool.not_false,cond_true,cond_false,bd_s,nx_r]
theorem aOt (a0:D.aAH)(a1:D.aAH)(h:eD (a0.sz) a0 a1):Qp a0 a1=some (true):=by
 obtain⟨rfl,hz⟩:=h
 unfold Qp
 simp only[D.aAH.sz,D.aAE.sz] at hz
 simp only[beq_self_eq_true,bne_self_eq_false,Bool.not_true,Bool.not_false,cond_true,cond_false,bd_s,nx_r,aC (show eD (a0.Log.length) a0.Log a0.Log from⟨rfl,by omega⟩),aC (show eD (a0.Boxes.sz) a0.Boxes a0.Boxes from⟨rfl,by simp only[D.aAE.sz];omega⟩),aC (show eD (a0.History.length+(a0.History.map D.aAA.sz).sum) a0.History a0.History from⟨rfl,by omega⟩)]
theorem Uq (a0:D.aAI)(a1:D.aAI)(h:eD (0) a0 a1):uI a0 a1=some (true):=by
 obtain⟨rfl,hz⟩:=h
 unfold uI
 simp only[beq_self_eq_true,bne_self_eq_false,Bool.not_true,Bool.not_false,cond_true,cond_false,bd_s,nx_r]
theorem Ra (a0:List D.aAI)(a1:List D.aAI)(h:eD (a0.length) a0 a1):sH a0 a1=some (true):=by
 obtain⟨rfl,hz⟩:=h
 unfold sH
 rw[mU (a:=a0) (by omega) (fun rec i hi=>by
  simp only[bE hi,aF hi,aC (show eD (0) a0[i] a0[i] from⟨rfl,by omega⟩),beq_self_eq_true,bne_self_eq_false,Bool.not_true,Bool.not_false,cond_true,cond_false,bd_s,nx_r]) (fun rec=>by simp only[bF,cond_false])]
 simp only[beq_self_eq_true,bne_self_eq_false,Bool.not_true,Bool.not_false,cond_true,cond_false,bd_s,nx_r]
theorem aD4 (a0:D.aAG)(a1:D.aAG)(h:eD (a0.sz) a0 a1):De a0 a1=some (true):=by
 obtain⟨rfl,hz⟩:=h
 unfold De
 simp only[D.aAG.sz] at hz
 simp only[beq_self_eq_true,bne_self_eq_false,Bool.not_true,Bool.not_false,cond_true,cond_false,bd_s,nx_r,aC (show eD (a0.Credentials.length) a0.Credentials a0.Credentials from⟨rfl,by omega⟩)]
theorem Z5 (a0:List D.aAG)(a1:List D.aAG)(h:eD (a0.length+(a0.map D.aAG.sz).sum) a0 a1):zK a0 a1=some (true):=by
 obtain⟨rfl,hz⟩:=h
 unfold zK
 rw[mU (a:=a0) (by omega) (fun rec i hi=>by
  have hs:=dM (f:=D.aAG.sz) hi
  simp only[bE hi,aF hi,aC (show eD (a0[i].sz) a0[i] a0[i] from⟨rfl,by omega⟩),beq_self_eq_true,bne_self_eq_false,Bool.not_true,Bool.not_false,cond_true,cond_false,bd_s,nx_r]) (fun rec=>by simp only[bF,cond_false])]
 simp only[beq_self_eq_true,bne_self_eq_false,Bool.not_true,Bool.not_false,cond_true,cond_false,bd_s,nx_r]
theorem w9 (a0:D.aAL)(a1:D.aAL)(h:eD (0) a0 a1):wV a0 a1=some (true):=by
 obtain⟨rfl,hz⟩:=h
 unfold wV
 simp only[beq_self_eq_true,bne_self_eq_false,Bool.not_true,Bool.not_false,cond_true,cond_false,bd_s,nx_r]
theorem Ur (a0:List D.aAL)(a1:List D.aAL)(h:eD (a0.length) a0 a1):uJ a0 a1=some (true):=by
 obtain⟨rfl,hz⟩:=h
 unfold uJ
 rw[mU (a:=a0) (by omega) (fun rec i hi=>by
  simp only[bE hi,aF hi,aC (show eD (0) a0[i] a0[i] from⟨rfl,by omega⟩),beq_self_eq_true,bne_self_eq_false,Bool.not_true,Bool.not_false,cond_true,cond_false,bd_s,nx_r]) (fun rec=>by simp only[bF,cond_false])]
 simp only[beq_self_eq_true,bne_self_eq_false,Bool.not_true,Bool.not_false,cond_true,cond_false,bd_s,nx_r]
theorem Gg (a0:D.aAF)(a1:D.aAF)(h:eD (a0.sz) a0 a1):oJ a0 a1=some (true):=by
 obtain⟨rfl,hz⟩:=h
 unfold oJ
 simp only[D.aAF.sz] at hz
 simp only[beq_self_eq_true,bne_self_eq_false,Bool.not_true,Bool.not_false,cond_true,cond_false,bd_s,nx_r,aC (show eD (a0.Open.length) a0.Open a0.Open from⟨rfl,by omega⟩)]
theorem aTc (a0:List Int)(a1:List Int)(h:eD (a0.length) a0 a1):Yz a0 a1=some (true):=by
 obtain⟨rfl,hz⟩:=h
 unfold Yz
 rw[mU (a:=a0) (by omega) (fun rec i hi=>by
  simp only[bE hi,aF hi,beq_self_eq_true,bne_self_eq_false,Bool.not_true,Bool.not_false,cond_true,cond_false,bd_s,nx_r]) (fun rec=>by simp only[bF,cond_false])]
 simp only[beq_self_eq_true,bne_self_eq_false,Bool.not_true,Bool.not_false,cond_true,cond_false,bd_s,nx_r]
theorem aTd (a0:D.Site)(a1:D.Site)(h:eD (a0.sz) a0 a1):Za a0 a1=some (true):=by
 obtain⟨rfl,hz⟩:=h
 unfold Za
 simp only[D.aAF.sz,D.Site.sz] at hz
 simp only[beq_self_eq_true,bne_self_eq_false,Bool.not_true,Bool.not_false,cond_true,cond_false,bd_s,nx_r,aC (show eD (a0.Accounts.length+(a0.Accounts.map D.aAG.sz).sum) a0.Accounts a0.Accounts from⟨rfl,by omega⟩),aC (show eD (a0.Book.sz) a0.Book a0.Book from⟨rfl,by simp only[D.aAF.sz];omega⟩),aC (show eD (a0.Logins.length) a0.Logins a0.Logins from⟨rfl,by omega⟩)]
theorem aOu (a0:List D.Site)(a1:List D.Site)(h:eD (a0.length+(a0.map D.Site.sz).sum) a0 a1):Qq a0 a1=some (true):=by
 obtain⟨rfl,hz⟩:=h
 unfold Qq
 rw[mU (a:=a0) (by omega) (fun rec i hi=>by
  have hs:=dM (f:=D.Site.sz) hi
  simp only[bE hi,aF hi,aC (show eD (a0[i].sz) a0[i] a0[i] from⟨rfl,by omega⟩),beq_self_eq_true,bne_self_eq_false,Bool.not_true,Bool.not_false,cond_true,cond_false,bd_s,nx_r]) (fun rec=>by simp only[bF,cond_false])]
 simp only[beq_self_eq_true,bne_self_eq_false,Bool.not_true,Bool.not_false,cond_true,cond_false,bd_s,nx_r]
theorem aOv (a0:D.aAQ)(a1:D.aAQ)(h:eD (0) a0 a1):Qr a0 a1=some (true):=by
 obtain⟨rfl,hz⟩:=h
 unfold Qr
 simp only[beq_self_eq_true,bne_self_eq_false,Bool.not_true,Bool.not_false,cond_true,cond_false,bd_s,nx_r]
theorem aOw (a0:D.aAO)(a1:D.aAO)(h:eD (0) a0 a1):Qs a0 a1=some (true):=by
 obtain⟨rfl,hz⟩:=h
 unfold Qs
 simp only[beq_self_eq_true,bne_self_eq_false,Bool.not_true,Bool.not_false,cond_true,cond_false,bd_s,nx_r]
theorem aJm (a0:D.aAN)(a1:D.aAN)(h:eD (0) a0 a1):Ju a0 a1=some (true):=by
 obtain⟨rfl,hz⟩:=h
 unfold Ju
 simp only[beq_self_eq_true,bne_self_eq_false,Bool.not_true,Bool.not_false,cond_true,cond_false,bd_s,nx_r,aC (show eD (0) a0.aAO a0.aAO from⟨rfl,by omega⟩)]
theorem aD5 (a0:List D.aAN)(a1:List D.aAN)(h:eD (a0.length) a0 a1):Df a0 a1=some (true):=by
 obtain⟨rfl,hz⟩:=h
 unfold Df
 rw[mU (a:=a0) (by omega) (fun rec i hi=>by
  simp only[bE hi,aF hi,aC (show eD (0) a0[i] a0[i] from⟨rfl,by omega⟩),beq_self_eq_true,bne_self_eq_false,Bool.not_true,Bool.not_false,cond_true,cond_false,bd_s,nx_r]) (fun rec=>by simp only[bF,cond_false])]
 simp only[beq_self_eq_true,bne_self_eq_false,Bool.not_true,Bool.not_false,cond_true,cond_false,bd_s,nx_r]
theorem Ut (a0:D.aAC)(a1:D.aAC)(h:eD (a0.sz) a0 a1):uK a0 a1=some (true):=by
 obtain⟨rfl,hz⟩:=h
 unfold uK
 simp only[D.aAN.sz,D.aAC.sz,D.aAO.sz] at hz
 simp only[beq_self_eq_true,bne_self_eq_false,Bool.not_true,Bool.not_false,cond_true,cond_false,bd_s,nx_r,aC (show eD (0) a0.State a0.State from⟨rfl,by omega⟩),aC (show eD (a0.Saved.length) a0.Saved a0.Saved from⟨rfl,by omega⟩)]
theorem Rb (a0:List D.aAC)(a1:List D.aAC)(h:eD (a0.length+(a0.map D.aAC.sz).sum) a0 a1):sI a0 a1=some (true):=by
 obtain⟨rfl,hz⟩:=h
 unfold sI
 rw[mU (a:=a0) (by omega) (fun rec i hi=>by
  have hs:=dM (f:=D.aAC.sz) hi
  simp only[bE hi,aF hi,aC (show eD (a0[i].sz) a0[i] a0[i] from⟨rfl,by omega⟩),beq_self_eq_true,bne_self_eq_false,Bool.not_true,Bool.not_false,cond_true,cond_false,bd_s,nx_r]) (fun rec=>by simp only[bF,cond_false])]
 simp only[beq_self_eq_true,bne_self_eq_false,Bool.not_true,Bool.not_false,cond_true,cond_false,bd_s,nx_r]
theorem aJn (a0:D.aAM)(a1:D.aAM)(h:eD (0) a0 a1):Jv a0 a1=some (true):=by
 obtain⟨rfl,hz⟩:=h
 unfold Jv
 simp only[beq_self_eq_true,bne_self_eq_false,Bool.not_true,Bool.not_false,cond_true,cond_false,bd_s,nx_r]
theorem aD6 (a0:List D.aAM)(a1:List D.aAM)(h:eD (a0.length) a0 a1):Dh a0 a1=some (true):=by
 obtain⟨rfl,hz⟩:=h
 unfold Dh
 rw[mU (a:=a0) (by omega) (fun rec i hi=>by
  simp only[bE hi,aF hi,aC (show eD (0) a0[i] a0[i] from⟨rfl,by omega⟩),beq_self_eq_true,bne_self_eq_false,Bool.not_true,Bool.not_false,cond_true,cond_false,bd_s,nx_r]) (fun rec=>by simp only[bF,cond_false])]
 simp only[beq_self_eq_true,bne_self_eq_false,Bool.not_true,Bool.not_false,cond_true,cond_false,bd_s,nx_r]
theorem aD7 (a0:D.aAK)(a1:D.aAK)(h:eD (a0.sz) a0 a1):Di a0 a1=some (true):=by
 obtain⟨rfl,hz⟩:=h
 unfold Di
 simp only[D.aAK.sz] at hz
 simp only[beq_self_eq_true,bne_self_eq_false,Bool.not_true,Bool.not_false,cond_true,cond_false,bd_s,nx_r,aC (show eD (a0.Notices.length) a0.Notices a0.Notices from⟨rfl,by omega⟩)]
theorem aOx (a0:D.World)(a1:D.World)(h:eD (a0.sz) a0 a1):Qt a0 a1=some (true):=by
 obtain⟨rfl,hz⟩:=h
 unfold Qt
 simp only[D.aAH.sz,D.aAE.sz,D.aAK.sz,D.aAQ.sz,D.World.sz] at hz
 simp only[beq_self_eq_true,bne_self_eq_false,Bool.not_true,Bool.not_false,cond_true,cond_false,bd_s,nx_r,aC (show eD (a0.Devices.length+(a0.Devices.map D.Device.sz).sum) a0.Devices a0.Devices from⟨rfl,by omega⟩),aC (show eD (a0.Stolen.length) a0.Stolen a0.Stolen from⟨rfl,by omega⟩),aC (show eD (a0.aAH.sz) a0.aAH a0.aAH from⟨rfl,by simp only[D.aAH.sz,D.aAE.sz];omega⟩),aC (show eD (a0.Sites.length+(a0.Sites.map D.Site.sz).sum) a0.Sites a0.Sites from⟨rfl,by omega⟩),aC (show eD (0) a0.aAQ a0.aAQ from⟨rfl,by omega⟩),aC (show eD (a0.Hosts.length+(a0.Hosts.map D.aAC.sz).sum) a0.Hosts a0.Hosts from⟨rfl,by omega⟩),aC (show eD (a0.Mail.sz) a0.Mail a0.Mail from⟨rfl,by simp only[D.aAK.sz];omega⟩)]
theorem Rc (a0:List D.aAB)(a1:Int)(h:jU (a0.length) (aD aG a0) a1):sJ a0 a1=some (bG aS a0 a1):=by
 obtain⟨hs,h0,h1⟩:=h
 unfold sJ
 rw[iE fG h0 h1 (by omega) (fun rec k i l hi hi0 hx hk0 hk1=>by
  unfold aG at hk1
  obtain⟨k0,q0⟩:∃z,z=IntKind.i64.wrap (k+1):=⟨_,rfl⟩
  have g0:k0=k+1:=q0.trans (aK (by omega) (by omega))
  obtain⟨k1,q1⟩:∃z,z=IntKind.i64.wrap (k0+1):=⟨_,rfl⟩
  have g1:k1=k0+1:=q1.trans (aK (by omega) (by omega))
  obtain⟨k2,q2⟩:∃z,z=IntKind.i64.wrap (k1+1):=⟨_,rfl⟩
  have g2:k2=k1+1:=q2.trans (aK (by omega) (by omega))
  obtain⟨k3,q3⟩:∃z,z=IntKind.i64.wrap (k2+1):=⟨_,rfl⟩
  have g3:k3=k2+1:=q3.trans (aK (by omega) (by omega))
  obtain⟨k4,q4⟩:∃z,z=IntKind.i64.wrap (k3+1):=⟨_,rfl⟩
  have g4:k4=k3+1:=q4.trans (aK (by omega) (by omega))
  obtain⟨k5,q5⟩:∃z,z=IntKind.i64.wrap (k4+1):=⟨_,rfl⟩
  have g5:k5=k4+1:=q5.trans (aK (by omega) (by omega))
  simp only[bE hi,cond_true,aF hi,hx,mO hi,aF (show i<(l.set i _).length by simpa using hi),List.set_set,List.getElem_set_self,bd_s,bQ,dR,gd_T,aS,←q0,←q1,←q2,←q3,←q4,←q5]) (fun rec k l=>by simp only[bF,cond_false])]
 rfl
theorem Z6 (a0:List D.Entry)(a1:Int)(h:jU (a0.length) (aD dJ a0) a1):zL a0 a1=some (bG fZ a0 a1):=by
 obtain⟨hs,h0,h1⟩:=h
 unfold zL
 rw[iE sK h0 h1 (by omega) (fun rec k i l hi hi0 hx hk0 hk1=>by
  unfold dJ at hk1
  obtain⟨k0,q0⟩:∃z,z=IntKind.i64.wrap (k+1):=⟨_,rfl⟩
  have g0:k0=k+1:=q0.trans (aK (by omega) (by omega))
  obtain⟨k1,q1⟩:∃z,z=IntKind.i64.wrap (k0+1):=⟨_,rfl⟩
  have g1:k1=k0+1:=q1.trans (aK (by omega) (by omega))
  obtain⟨k2,q2⟩:∃z,z=IntKind.i64.wrap (k1+1):=⟨_,rfl⟩
  have g2:k2=k1+1:=q2.trans (aK (by omega) (by omega))
  obtain⟨k3,q3⟩:∃z,z=IntKind.i64.wrap (k2+1):=⟨_,rfl⟩
  have g3:k3=k2+1:=q3.trans (aK (by omega) (by omega))
  simp only[bE hi,cond_true,aF hi,hx,mO hi,aF (show i<(l.set i _).length by simpa using hi),List.set_set,List.getElem_set_self,bd_s,bQ,dR,gd_T,fZ,←q0,←q1,←q2,←q3]) (fun rec k l=>by simp only[bF,cond_false])]
 rfl
theorem x8 (a0:List D.Device)(a1:Int)(h:jU (a0.length+(a0.map D.Device.sz).sum) (aD aQ a0) a1):wW a0 a1=some (bG bY a0 a1):=by
 obtain⟨hs,h0,h1⟩:=h
 unfold wW
 rw[iE oK h0 h1 (by omega) (fun rec k i l hi hi0 hx hk0 hk1=>by
  have hz:=dM (f:=D.Device.sz) hi0
  simp only[D.aAD.sz,D.Device.sz,D.aAJ.sz] at hz
  unfold aQ at hk1
  obtain⟨k0,q0⟩:∃z,z=IntKind.i64.wrap (k+1):=⟨_,rfl⟩
  have g0:k0=k+1:=q0.trans (aK (by omega) (by omega))
  obtain⟨k1,q1⟩:∃z,z=IntKind.i64.wrap (k0+1):=⟨_,rfl⟩
  have g1:k1=k0+1:=q1.trans (aK (by omega) (by omega))
  obtain⟨k2,q2⟩:∃z,z=IntKind.i64.wrap (k1+1):=⟨_,rfl⟩
  have g2:k2=k1+1:=q2.trans (aK (by omega) (by omega))
  obtain⟨k3,q3⟩:∃z,z=IntKind.i64.wrap (k2+1):=⟨_,rfl⟩
  have g3:k3=k2+1:=q3.trans (aK (by omega) (by omega))
  have p4:jU (a0[i].Log.length) (aD aG a0[i].Log) k3:=⟨by omega,by omega,by omega⟩
  have f4:=bM fG a0[i].Log k3 (by omega) (by omega)
  obtain⟨k4,q4⟩:∃z,z=(bG aS a0[i].Log k3).2:=⟨_,rfl⟩
  have g4:k4=k3+aD aG a0[i].Log:=q4.trans f4.1
  obtain⟨k5,q5⟩:∃z,z=IntKind.i64.wrap (k4+1):=⟨_,rfl⟩
  have g5:k5=k4+1:=q5.trans (aK (by omega) (by omega))
  obtain⟨k6,q6⟩:∃z,z=IntKind.i64.wrap (k5+1):=⟨_,rfl⟩
  have g6:k6=k5+1:=q6.trans (aK (by omega) (by omega))
  obtain⟨k7,q7⟩:∃z,z=IntKind.i64.wrap (k6+1):=⟨_,rfl⟩
  have g7:k7=k6+1:=q7.trans (aK (by omega) (by omega))
  have p8:jU (a0[i].aAD.Entries.length) (aD dJ a0[i].aAD.Entries) k7:=⟨by omega,by omega,by omega⟩
  have f8:=bM sK a0[i].aAD.Entries k7 (by omega) (by omega)
  obtain⟨k8,q8⟩:∃z,z=(bG fZ a0[i].aAD.Entries k7).2:=⟨_,rfl⟩
  have g8:k8=k7+aD dJ a0[i].aAD.Entries:=q8.trans f8.1
  simp only[bE hi,cond_true,aF hi,hx,mO hi,aF (show i<(l.set i _).length by simpa using hi),List.set_set,List.getElem_set_self,bd_s,bQ,dR,gd_T,bY,←q0,←q1,←q2,←q3,←q4,←q5,←q6,←q7,←q8,aC p4,aC p8]) (fun rec k l=>by simp only[bF,cond_false])]
 rfl
theorem aD8 (a0:List Bool)(a1:Int)(h:jU (a0.length) (aD fP a0) a1):Dj a0 a1=some (bG mkB a0 a1):=by
 obtain⟨hs,h0,h1⟩:=h
 unfold Dj
 rw[iE aN5 h0 h1 (by omega) (fun rec k i l hi hi0 hx hk0 hk1=>by
  simp only[bE hi,cond_true,aF hi,bd_s,bQ,dR,gd_T,mkB]) (fun rec k l=>by simp only[bF,cond_false])]
 rfl
theorem aD9 (a0:List Int)(a1:Int)(h:jU (a0.length) (aD fP a0) a1):Dk a0 a1=some (bG mkU a0 a1):=by
 obtain⟨hs,h0,h1⟩:=h
 unfold Dk
 rw[iE Og h0 h1 (by omega) (fun rec k i l hi hi0 hx hk0 hk1=>by
  simp only[bE hi,cond_true,aF hi,bd_s,bQ,dR,gd_T,mkU]) (fun rec k l=>by simp only[bF,cond_false])]
 rfl
theorem aJo (a0:List D.Box)(a1:Int)(h:jU (a0.length+(a0.map D.Box.sz).sum) (aD eQ a0) a1):Jw a0 a1=some (bG fH a0 a1):=by
 obtain⟨hs,h0,h1⟩:=h
 unfold Jw
 rw[iE lY h0 h1 (by omega) (fun rec k i l hi hi0 hx hk0 hk1=>by
  have hz:=dM (f:=D.Box.sz) hi0
  simp only[D.Box.sz] at hz
  unfold eQ at hk1
  obtain⟨k0,q0⟩:∃z,z=IntKind.i64.wrap (k+1):=⟨_,rfl⟩
  have g0:k0=k+1:=q0.trans (aK (by omega) (by omega))
  obtain⟨k1,q1⟩:∃z,z=IntKind.i64.wrap (k0+1):=⟨_,rfl⟩
  have g1:k1=k0+1:=q1.trans (aK (by omega) (by omega))
  have p2:jU (a0[i].Data.length) (aD fP a0[i].Data) k1:=⟨by omega,by omega,by omega⟩
  have f2:=bM Og a0[i].Data k1 (by omega) (by omega)
  obtain⟨k2,q2⟩:∃z,z=(bG mkU a0[i].Data k1).2:=⟨_,rfl⟩
  have g2:k2=k1+aD fP a0[i].Data:=q2.trans f2.1
  obtain⟨k3,q3⟩:∃z,z=IntKind.i64.wrap (k2+1):=⟨_,rfl⟩
  have g3:k3=k2+1:=q3.trans (aK (by omega) (by omega))
  simp only[bE hi,cond_true,aF hi,hx,mO hi,aF (show i<(l.set i _).length by simpa using hi),List.set_set,List.getElem_set_self,bd_s,bQ,dR,gd_T,fH,←q0,←q1,←q2,←q3,aC p2]) (fun rec k l=>by simp only[bF,cond_false])]
 rfl
theorem Kq (a0:D.aAE)(a1:Int)(h:jU (a0.sz) (aN a0) a1):qC a0 a1=some (dO a0 a1):=by
 obtain⟨hs,h0,h1⟩:=h
 unfold aN at h1
 simp only[D.aAE.sz] at hs
 unfold qC dO
 rw[aC (show jU _ _ _ from⟨by omega,by omega,by omega⟩)]
 have f0:=bM lY a0.Boxes a1 (by omega) (by omega)
 obtain⟨k0,q0⟩:∃z,z=(bG fH a0.Boxes a1).2:=⟨_,rfl⟩
 have g0:k0=a1+aD eQ a0.Boxes:=q0.trans f0.1
 simp only[bd_s,←q0]
theorem zR (a0:List D.aAA)(a1:Int)(h:jU (a0.length+(a0.map D.aAA.sz).sum) (aD aM a0) a1):mJ a0 a1=some (bG aZ a0 a1):=by
 obtain⟨hs,h0,h1⟩:=h
 unfold mJ
 rw[iE fI h0 h1 (by omega) (fun rec k i l hi hi0 hx hk0 hk1=>by
  have hz:=dM (f:=D.aAA.sz) hi0
  simp only[D.aAA.sz] at hz
  unfold aM at hk1
  obtain⟨k0,q0⟩:∃z,z=IntKind.i64.wrap (k+1):=⟨_,rfl⟩
  have g0:k0=k+1:=q0.trans (aK (by omega) (by omega))
  obtain⟨k1,q1⟩:∃z,z=IntKind.i64.wrap (k0+1):=⟨_,rfl⟩
  have g1:k1=k0+1:=q1.trans (aK (by omega) (by omega))
  have p2:jU (a0[i].Data.length) (aD fP a0[i].Data) k1:=⟨by omega,by omega,by omega⟩
  have f2:=bM Og a0[i].Data k1 (by omega) (by omega)
  obtain⟨k2,q2⟩:∃z,z=(bG mkU a0[i].Data k1).2:=⟨_,rfl⟩
  have g2:k2=k1+aD fP a0[i].Data:=q2.trans f2.1
  obtain⟨k3,q3⟩:∃z,z=IntKind.i64.wrap (k2+1):=⟨_,rfl⟩
  have g3:k3=k2+1:=q3.trans (aK (by omega) (by omega))
  simp only[bE hi,cond_true,aF hi,hx,mO hi,aF (show i<(l.set i _).length by simpa using hi),List.set_set,List.getElem_set_self,bd_s,bQ,dR,gd_T,aZ,←q0,←q1,←q2,←q3,aC p2]) (fun rec k l=>by simp only[bF,cond_false])]
 rfl
theorem aEa (a0:D.aAH)(a1:Int)(h:jU (a0.sz) (aX a0) a1):Dl a0 a1=some (gQ a0 a1):=by
 obtain⟨hs,h0,h1⟩:=h
 unfold aX at h1
 simp only[D.aAH.sz,D.aAE.sz] at hs
 unfold Dl gQ
 rw[aC (show jU _ _ _ from⟨by omega,by omega,by omega⟩)]
 have f0:=bM fG a0.Log a1 (by omega) (by omega)
 obtain⟨k0,q0⟩:∃z,z=(bG aS a0.Log a1).2:=⟨_,rfl⟩
 have g0:k0=a1+aD aG a0.Log:=q0.trans f0.1
 simp only[bd_s,←q0]
 rw[aC (show jU _ _ _ from⟨by simp only[D.aAE.sz];omega,by omega,by unfold aN;omega⟩)]
 simp only[bd_s,dO]
 have f1:=bM lY a0.Boxes.Boxes k0 (by omega) (by omega)
 obtain⟨k1,q1⟩:∃z,z=(bG fH a0.Boxes.Boxes k0).2:=⟨_,rfl⟩
 have g1:k1=k0+aD eQ a0.Boxes.Boxes:=q1.trans f1.1
 simp only[←q1]
 rw[aC (show jU _ _ _ from⟨by omega,by omega,by omega⟩)]
 have f2:=bM fI a0.History k1 (by omega) (by omega)
 obtain⟨k2,q2⟩:∃z,z=(bG aZ a0.History k1).2:=⟨_,rfl⟩
 have g2:k2=k1+aD aM a0.History:=q2.trans f2.1
 simp only[bd_s,←q2]
theorem Gh (a0:List D.aAI)(a1:Int)(h:jU (a0.length) (aD aY a0) a1):oL a0 a1=some (bG bZ a0 a1):=by
 obtain⟨hs,h0,h1⟩:=h
 unfold oL
 rw[iE jL h0 h1 (by omega) (fun rec k i l hi hi0 hx hk0 hk1=>by
  unfold aY at hk1
  obtain⟨k0,q0⟩:∃z,z=IntKind.i64.wrap (k+1):=⟨_,rfl⟩
  have g0:k0=k+1:=q0.trans (aK (by omega) (by omega))
  obtain⟨k1,q1⟩:∃z,z=IntKind.i64.wrap (k0+1):=⟨_,rfl⟩
  have g1:k1=k0+1:=q1.trans (aK (by omega) (by omega))
  obtain⟨k2,q2⟩:∃z,z=IntKind.i64.wrap (k1+1):=⟨_,rfl⟩
  have g2:k2=k1+1:=q2.trans (aK (by omega) (by omega))
  obtain⟨k3,q3⟩:∃z,z=IntKind.i64.wrap (k2+1):=⟨_,rfl⟩
  have g3:k3=k2+1:=q3.trans (aK (by omega) (by omega))
  simp only[bE hi,cond_true,aF hi,hx,mO hi,aF (show i<(l.set i _).length by simpa using hi),List.set_set,List.getElem_set_self,bd_s,bQ,dR,gd_T,bZ,←q0,←q1,←q2,←q3]) (fun rec k l=>by simp only[bF,cond_false])]
 rfl
theorem Uu (a0:List D.aAG)(a1:Int)(h:jU (a0.length+(a0.map D.aAG.sz).sum) (aD aO a0) a1):uL a0 a1=some (bG dL a0 a1):=by
 obtain⟨hs,h0,h1⟩:=h
 unfold uL
 rw[iE mK h0 h1 (by omega) (fun rec k i l hi hi0 hx hk0 hk1=>by
  have hz:=dM (f:=D.aAG.sz) hi0
  simp only[D.aAG.sz] at hz
  unfold aO at hk1
  obtain⟨k0,q0⟩:∃z,z=IntKind.i64.wrap (k+1):=⟨_,rfl⟩
  have g0:k0=k+1:=q0.trans (aK (by omega) (by omega))
  obtain⟨k1,q1⟩:∃z,z=IntKind.i64.wrap (k0+1):=⟨_,rfl⟩
  have g1:k1=k0+1:=q1.trans (aK (by omega) (by omega))
  have p2:jU (a0[i].Credentials.length) (aD aY a0[i].Credentials) k1:=⟨by omega,by omega,by omega⟩
  have f2:=bM jL a0[i].Credentials k1 (by omega) (by omega)
  obtain⟨k2,q2⟩:∃z,z=(bG bZ a0[i].Credentials k1).2:=⟨_,rfl⟩
  have g2:k2=k1+aD aY a0[i].Credentials:=q2.trans f2.1
  simp only[bE hi,cond_true,aF hi,hx,mO hi,aF (show i<(l.set i _).length by simpa using hi),List.set_set,List.getElem_set_self,bd_s,bQ,dR,gd_T,dL,←q0,←q1,←q2,aC p2]) (fun rec k l=>by simp only[bF,cond_false])]
 rfl
theorem Kr (a0:List D.aAL)(a1:Int)(h:jU (a0.length) (aD aU a0) a1):qD a0 a1=some (bG dD a0 a1):=by
 obtain⟨hs,h0,h1⟩:=h
 unfold qD
 rw[iE kN h0 h1 (by omega) (fun rec k i l hi hi0 hx hk0 hk1=>by
  unfold aU at hk1
  obtain⟨k0,q0⟩:∃z,z=IntKind.i64.wrap (k+1):=⟨_,rfl⟩
  have g0:k0=k+1:=q0.trans (aK (by omega) (by omega))
  obtain⟨k1,q1⟩:∃z,z=IntKind.i64.wrap (k0+1):=⟨_,rfl⟩
  have g1:k1=k0+1:=q1.trans (aK (by omega) (by omega))
  obtain⟨k2,q2⟩:∃z,z=IntKind.i64.wrap (k1+1):=⟨_,rfl⟩
  have g2:k2=k1+1:=q2.trans (aK (by omega) (by omega))
  simp only[bE hi,cond_true,aF hi,hx,mO hi,aF (show i<(l.set i _).length by simpa using hi),List.set_set,List.getElem_set_self,bd_s,bQ,dR,gd_T,dD,←q0,←q1,←q2]) (fun rec k l=>by simp only[bF,cond_false])]
 rfl
theorem aJp (a0:List Int)(a1:Int)(h:jU (a0.length) (aD fP a0) a1):Jy a0 a1=some (bG mkI a0 a1):=by
 obtain⟨hs,h0,h1⟩:=h
 unfold Jy
 rw[iE aN4 h0 h1 (by omega) (fun rec k i l hi hi0 hx hk0 hk1=>by
  simp only[bE hi,cond_true,aF hi,bd_s,bQ,dR,gd_T,mkI]) (fun rec k l=>by simp only[bF,cond_false])]
 rfl
theorem aEb (a0:List D.Site)(a1:Int)(h:jU (a0.length+(a0.map D.Site.sz).sum) (aD cK a0) a1):Dp a0 a1=some (bG gB a0 a1):=by
 obtain⟨hs,h0,h1⟩:=h
 unfold Dp
 rw[iE wX h0 h1 (by omega) (fun rec k i l hi hi0 hx hk0 hk1=>by
  have hz:=dM (f:=D.Site.sz) hi0
  simp only[D.aAF.sz,D.Site.sz] at hz
  unfold cK at hk1
  have t0:gD k=some (Dm k):=aIq (by omega) (by omega)
  obtain⟨k0,q0⟩:∃z,z=IntKind.i64.wrap (k+1):=⟨_,rfl⟩
  have g0:k0=k+1:=q0.trans (aK (by omega) (by omega))
  have p1:jU (a0[i].Accounts.length+(a0[i].Accounts.map D.aAG.sz).sum) (aD aO a0[i].Accounts) k0:=⟨by omega,by omega,by omega⟩
  have f1:=bM mK a0[i].Accounts k0 (by omega) (by omega)
  obtain⟨k1,q1⟩:∃z,z=(bG dL a0[i].Accounts k0).2:=⟨_,rfl⟩
  have g1:k1=k0+aD aO a0[i].Accounts:=q1.trans f1.1
  obtain⟨k2,q2⟩:∃z,z=IntKind.i64.wrap (k1+1):=⟨_,rfl⟩
  have g2:k2=k1+1:=q2.trans (aK (by omega) (by omega))
  obtain⟨k3,q3⟩:∃z,z=IntKind.i64.wrap (k2+1):=⟨_,rfl⟩
  have g3:k3=k2+1:=q3.trans (aK (by omega) (by omega))
  have p4:jU (a0[i].Book.Open.length) (aD aU a0[i].Book.Open) k3:=⟨by omega,by omega,by omega⟩
  have f4:=bM kN a0[i].Book.Open k3 (by omega) (by omega)
  obtain⟨k4,q4⟩:∃z,z=(bG dD a0[i].Book.Open k3).2:=⟨_,rfl⟩
  have g4:k4=k3+aD aU a0[i].Book.Open:=q4.trans f4.1
  have p5:jU (a0[i].Logins.length) (aD fP a0[i].Logins) k4:=⟨by omega,by omega,by omega⟩
  have f5:=bM aN4 a0[i].Logins k4 (by omega) (by omega)
  obtain⟨k5,q5⟩:∃z,z=(bG mkI a0[i].Logins k4).2:=⟨_,rfl⟩
  have g5:k5=k4+aD fP a0[i].Logins:=q5.trans f5.1
  simp only[bE hi,cond_true,aF hi,hx,mO hi,aF (show i<(l.set i _).length by simpa using hi),List.set_set,List.getElem_set_self,bd_s,bQ,dR,gd_T,gB,←q0,←q1,←q2,←q3,←q4,←q5,t0,aC p1,aC p4,aC p5]) (fun rec k l=>by simp only[bF,cond_false])]
 rfl
theorem x9 (a0:List D.aAN)(a1:Int)(h:jU (a0.length) (aD bN a0) a1):wY a0 a1=some (bG eH a0 a1):=by
 obtain⟨hs,h0,h1⟩:=h
 unfold wY
 rw[iE oM h0 h1 (by omega) (fun rec k i l hi hi0 hx hk0 hk1=>by
  unfold bN at hk1
  obtain⟨k0,q0⟩:∃z,z=IntKind.i64.wrap (k+1):=⟨_,rfl⟩
  have g0:k0=k+1:=q0.trans (aK (by omega) (by omega))
  obtain⟨k1,q1⟩:∃z,z=IntKind.i64.wrap (k0+1):=⟨_,rfl⟩
  have g1:k1=k0+1:=q1.trans (aK (by omega) (by omega))
  obtain⟨k2,q2⟩:∃z,z=IntKind.i64.wrap (k1+1):=⟨_,rfl⟩
  have g2:k2=k1+1:=q2.trans (aK (by omega) (by omega))
  obtain⟨k3,q3⟩:∃z,z=IntKind.i64.wrap (k2+1):=⟨_,rfl⟩
  have g3:k3=k2+1:=q3.trans (aK (by omega) (by omega))
  obtain⟨k4,q4⟩:∃z,z=IntKind.i64.wrap (k3+1):=⟨_,rfl⟩
  have g4:k4=k3+1:=q4.trans (aK (by omega) (by omega))
  simp only[bE hi,cond_true,aF hi,hx,mO hi,aF (show i<(l.set i _).length by simpa using hi),List.set_set,List.getElem_set_self,bd_s,bQ,dR,gd_T,eH,←q0,←q1,←q2,←q3,←q4]) (fun rec k l=>by simp only[bF,cond_false])]
 rfl
theorem Gi (a0:List D.aAC)(a1:Int)(h:jU (a0.length+(a0.map D.aAC.sz).sum) (aD aR a0) a1):oN a0 a1=some (bG bK a0 a1):=by
 obtain⟨hs,h0,h1⟩:=h
 unfold oN
 rw[iE jM h0 h1 (by omega) (fun rec k i l hi hi0 hx hk0 hk1=>by
  have hz:=dM (f:=D.aAC.sz) hi0
  simp only[D.aAN.sz,D.aAC.sz,D.aAO.sz] at hz
  unfold aR at hk1
  obtain⟨k0,q0⟩:∃z,z=IntKind.i64.wrap (k+1):=⟨_,rfl⟩
  have g0:k0=k+1:=q0.trans (aK (by omega) (by omega))
  obtain⟨k1,q1⟩:∃z,z=IntKind.i64.wrap (k0+1):=⟨_,rfl⟩
  have g1:k1=k0+1:=q1.trans (aK (by omega) (by omega))
  obtain⟨k2,q2⟩:∃z,z=IntKind.i64.wrap (k1+1):=⟨_,rfl⟩
  have g2:k2=k1+1:=q2.trans (aK (by omega) (by omega))
  obtain⟨k3,q3⟩:∃z,z=IntKind.i64.wrap (k2+1):=⟨_,rfl⟩
  have g3:k3=k2+1:=q3.trans (aK (by omega) (by omega))
  obtain⟨k4,q4⟩:∃z,z=IntKind.i64.wrap (k3+1):=⟨_,rfl⟩
  have g4:k4=k3+1:=q4.trans (aK (by omega) (by omega))
  have p5:jU (a0[i].Saved.length) (aD bN a0[i].Saved) k4:=⟨by omega,by omega,by omega⟩
  have f5:=bM oM a0[i].Saved k4 (by omega) (by omega)
  obtain⟨k5,q5⟩:∃z,z=(bG eH a0[i].Saved k4).2:=⟨_,rfl⟩
  have g5:k5=k4+aD bN a0[i].Saved:=q5.trans f5.1
  obtain⟨k6,q6⟩:∃z,z=IntKind.i64.wrap (k5+1):=⟨_,rfl⟩
  have g6:k6=k5+1:=q6.trans (aK (by omega) (by omega))
  simp only[bE hi,cond_true,aF hi,hx,mO hi,aF (show i<(l.set i _).length by simpa using hi),List.set_set,List.getElem_set_self,bd_s,bQ,dR,gd_T,bK,←q0,←q1,←q2,←q3,←q4,←q5,←q6,aC p5]) (fun rec k l=>by simp only[bF,cond_false])]
 rfl
theorem y5 (a0:List D.aAM)(a1:Int)(h:jU (a0.length) (aD bX a0) a1):wZ a0 a1=some (bG dV a0 a1):=by
 obtain⟨hs,h0,h1⟩:=h
 unfold wZ
 rw[iE lZ h0 h1 (by omega) (fun rec k i l hi hi0 hx hk0 hk1=>by
  unfold bX at hk1
  obtain⟨k0,q0⟩:∃z,z=IntKind.i64.wrap (k+1):=⟨_,rfl⟩
  have g0:k0=k+1:=q0.trans (aK (by omega) (by omega))
  obtain⟨k1,q1⟩:∃z,z=IntKind.i64.wrap (k0+1):=⟨_,rfl⟩
  have g1:k1=k0+1:=q1.trans (aK (by omega) (by omega))
  obtain⟨k2,q2⟩:∃z,z=IntKind.i64.wrap (k1+1):=⟨_,rfl⟩
  have g2:k2=k1+1:=q2.trans (aK (by omega) (by omega))
  obtain⟨k3,q3⟩:∃z,z=IntKind.i64.wrap (k2+1):=⟨_,rfl⟩
  have g3:k3=k2+1:=q3.trans (aK (by omega) (by omega))
  simp only[bE hi,cond_true,aF hi,hx,mO hi,aF (show i<(l.set i _).length by simpa using hi),List.set_set,List.getElem_set_self,bd_s,bQ,dR,gd_T,dV,←q0,←q1,←q2,←q3]) (fun rec k l=>by simp only[bF,cond_false])]
 rfl
theorem y7 (a0:D.aAK)(a1:Int)(h:jU (a0.sz) (bB a0) a1):xA a0 a1=some (fJ a0 a1):=by
 obtain⟨hs,h0,h1⟩:=h
 unfold bB at h1
 simp only[D.aAK.sz] at hs
 unfold xA fJ
 rw[aC (show jU _ _ _ from⟨by omega,by omega,by omega⟩)]
 have f0:=bM lZ a0.Notices a1 (by omega) (by omega)
 obtain⟨k0,q0⟩:∃z,z=(bG dV a0.Notices a1).2:=⟨_,rfl⟩
 have g0:k0=a1+aD bX a0.Notices:=q0.trans f0.1
 simp only[bd_s,←q0]
theorem aEc (a0:D.World)(a1:Int)(h:jU (a0.sz) (dZ a0) a1):Dq a0 a1=some (dE a0 a1):=by
 obtain⟨hs,h0,h1⟩:=h
 unfold dZ at h1
 simp only[D.aAH.sz,D.aAE.sz,D.aAK.sz,D.aAQ.sz,D.World.sz] at hs
 unfold Dq dE
 rw[aC (show jU _ _ _ from⟨by omega,by omega,by omega⟩)]
 have f0:=bM oK a0.Devices a1 (by omega) (by omega)
 obtain⟨k0,q0⟩:∃z,z=(bG bY a0.Devices a1).2:=⟨_,rfl⟩
 have g0:k0=a1+aD aQ a0.Devices:=q0.trans f0.1
 simp only[bd_s,←q0]
 rw[aC (show jU _ _ _ from⟨by omega,by omega,by omega⟩)]
 have f1:=bM aN5 a0.Stolen k0 (by omega) (by omega)
 obtain⟨k1,q1⟩:∃z,z=(bG mkB a0.Stolen k0).2:=⟨_,rfl⟩
 have g1:k1=k0+aD fP a0.Stolen:=q1.trans f1.1
 simp only[bd_s,←q1]
 rw[aC (show jU _ _ _ from⟨by simp only[D.aAH.sz,D.aAE.sz];omega,by omega,by unfold aX;omega⟩)]
 simp only[bd_s,gQ]
 have f2:=bM fG a0.aAH.Log k1 (by omega) (by omega)
 obtain⟨k2,q2⟩:∃z,z=(bG aS a0.aAH.Log k1).2:=⟨_,rfl⟩
 have g2:k2=k1+aD aG a0.aAH.Log:=q2.trans f2.1
 simp only[←q2]
 have f3:=bM lY a0.aAH.Boxes.Boxes k2 (by omega) (by omega)
 obtain⟨k3,q3⟩:∃z,z=(bG fH a0.aAH.Boxes.Boxes k2).2:=⟨_,rfl⟩
 have g3:k3=k2+aD eQ a0.aAH.Boxes.Boxes:=q3.trans f3.1
 simp only[←q3]
 have f4:=bM fI a0.aAH.History k3 (by omega) (by omega)
 obtain⟨k4,q4⟩:∃z,z=(bG aZ a0.aAH.History k3).2:=⟨_,rfl⟩
 have g4:k4=k3+aD aM a0.aAH.History:=q4.trans f4.1
 simp only[←q4]
 rw[aC (show jU _ _ _ from⟨by omega,by omega,by omega⟩)]
 have f5:=bM wX a0.Sites k4 (by omega) (by omega)
 obtain⟨k5,q5⟩:∃z,z=(bG gB a0.Sites k4).2:=⟨_,rfl⟩
 have g5:k5=k4+aD cK a0.Sites:=q5.trans f5.1
 simp only[bd_s,←q5]
 rw[aC (show jU _ _ _ from⟨by omega,by omega,by omega⟩)]
 have f6:=bM jM a0.Hosts k5 (by omega) (by omega)
 obtain⟨k6,q6⟩:∃z,z=(bG bK a0.Hosts k5).2:=⟨_,rfl⟩
 have g6:k6=k5+aD aR a0.Hosts:=q6.trans f6.1
 simp only[bd_s,←q6]
 rw[aC (show jU _ _ _ from⟨by simp only[D.aAK.sz];omega,by omega,by unfold bB;omega⟩)]
 simp only[bd_s,fJ]
theorem Re (a0:List D.aAB)(a1:Int)(h:bL (bG aS) (aD aG) a0 a1):sM a0 a1=some (a1+((aD aG a0:Nat):Int)):=by
 have hlen:=jE aOc a0
 have h1:=h.1
 have h2:=h.2.1
 unfold sM
 rw[iF fG h (by omega) (fun rec k i hi hP=>by
  clear h hlen h1 h2
  obtain⟨p1,p2,x,p3,p4⟩:=hP
  rw[←p4] at p2
  unfold aG at p2
  have b0:0≤k:=by omega
  have d0:k+1≤4611686018427387904:=by omega
  have b1:0≤k+1:=by omega
  have d1:k+1+1≤4611686018427387904:=by omega
  have b2:0≤k+1+1:=by omega
  have d2:k+1+1+1≤4611686018427387904:=by omega
  have b3:0≤k+1+1+1:=by omega
  have d3:k+1+1+1+1≤4611686018427387904:=by omega
  have b4:0≤k+1+1+1+1:=by omega
  have d4:k+1+1+1+1+1≤4611686018427387904:=by omega
  have b5:0≤k+1+1+1+1+1:=by omega
  have d5:k+1+1+1+1+1+1≤4611686018427387904:=by omega
  have nn:k+1+1+1+1+1+1=k+((aG x:Nat):Int):=by unfold aG;omega
  have e0:a0[i].Index=k:=by rw[p3];simp only[aS]
  have w0:IntKind.i64.wrap (k+1)=k+1:=aK b0 d0
  have e1:a0[i].Kind=(k+1):=by rw[p3];simp only[aS,w0]
  have w1:IntKind.i64.wrap (k+1+1)=k+1+1:=aK b1 d1
  have e2:a0[i].Device=(k+1+1):=by rw[p3];simp only[aS,w0,w1]
  have w2:IntKind.i64.wrap (k+1+1+1)=k+1+1+1:=aK b2 d2
  have e3:a0[i].By=(k+1+1+1):=by rw[p3];simp only[aS,w0,w1,w2]
  have w3:IntKind.i64.wrap (k+1+1+1+1)=k+1+1+1+1:=aK b3 d3
  have e4:a0[i].Previous=(k+1+1+1+1):=by rw[p3];simp only[aS,w0,w1,w2,w3]
  have w4:IntKind.i64.wrap (k+1+1+1+1+1)=k+1+1+1+1+1:=aK b4 d4
  have e5:a0[i].Signature=(k+1+1+1+1+1):=by rw[p3];simp only[aS,w0,w1,w2,w3,w4]
  have w5:IntKind.i64.wrap (k+1+1+1+1+1+1)=k+1+1+1+1+1+1:=aK b5 d5
  simp only[bE hi,cond_true,aF hi,e0,w0,e1,w1,e2,w2,e3,w3,e4,w4,e5,w5,bne_self_eq_false,beq_self_eq_true,Bool.not_true,cond_false,bd_s,dR,gd_T]
  rw[←p4,←nn]) (fun rec k=>by simp only[bF,cond_false])]
 rfl
theorem Z7 (a0:List D.Entry)(a1:Int)(h:bL (bG fZ) (aD dJ) a0 a1):zM a0 a1=some (a1+((aD dJ a0:Nat):Int)):=by
 have hlen:=jE bAe a0
 have h1:=h.1
 have h2:=h.2.1
 unfold zM
 rw[iF sK h (by omega) (fun rec k i hi hP=>by
  clear h hlen h1 h2
  obtain⟨p1,p2,x,p3,p4⟩:=hP
  rw[←p4] at p2
  unfold dJ at p2
  have b0:0≤k:=by omega
  have d0:k+1≤4611686018427387904:=by omega
  have b1:0≤k+1:=by omega
  have d1:k+1+1≤4611686018427387904:=by omega
  have b2:0≤k+1+1:=by omega
  have d2:k+1+1+1≤4611686018427387904:=by omega
  have b3:0≤k+1+1+1:=by omega
  have d3:k+1+1+1+1≤4611686018427387904:=by omega
  have nn:k+1+1+1+1=k+((dJ x:Nat):Int):=by unfold dJ;omega
  have e0:a0[i].Site=k:=by rw[p3];simp only[fZ]
  have w0:IntKind.i64.wrap (k+1)=k+1:=aK b0 d0
  have e1:a0[i].Handle=(k+1):=by rw[p3];simp only[fZ,w0]
  have w1:IntKind.i64.wrap (k+1+1)=k+1+1:=aK b1 d1
  have e2:a0[i].Version=(k+1+1):=by rw[p3];simp only[fZ,w0,w1]
  have w2:IntKind.i64.wrap (k+1+1+1)=k+1+1+1:=aK b2 d2
  have e3:a0[i].Deleted=((k+1+1+1).tmod 3==0):=by rw[p3];simp only[fZ,w0,w1,w2]
  have w3:IntKind.i64.wrap (k+1+1+1+1)=k+1+1+1+1:=aK b3 d3
  simp only[bE hi,cond_true,aF hi,e0,w0,e1,w1,e2,w2,e3,w3,bne_self_eq_false,beq_self_eq_true,Bool.not_true,cond_false,bd_s,dR,gd_T]
  rw[←p4,←nn]) (fun rec k=>by simp only[bF,cond_false])]
 rfl
theorem y9 (a0:List D.Device)(a1:Int)(h:bL (bG bY) (aD aQ) a0 a1):xB a0 a1=some (a1+((aD aQ a0:Nat):Int)):=by
 have hlen:=jE aXo a0
 have h1:=h.1
 have h2:=h.2.1
 unfold xB
 rw[iF oK h (by omega) (fun rec k i hi hP=>by
  clear h hlen h1 h2
  obtain⟨p1,p2,x,p3,p4⟩:=hP
  rw[←p4] at p2
  unfold aQ at p2
  have b0:0≤k:=by omega
  have d0:k+1≤4611686018427387904:=by omega
  have b1:0≤k+1:=by omega
  have d1:k+1+1≤4611686018427387904:=by omega
  have b2:0≤k+1+1:=by omega
  have d2:k+1+1+1≤4611686018427387904:=by omega
  have b3:0≤k+1+1+1:=by omega
  have d3:k+1+1+1+1≤4611686018427387904:=by omega
  have b4:0≤k+1+1+1+1:=by omega
  have d4:k+1+1+1+1+((aD aG x.Log:Nat):Int)≤4611686018427387904:=by omega
  have t4:decide (k+1+1+1+1+((aD aG x.Log:Nat):Int)<0)=false:=decide_eq_false (by omega)
  have b5:0≤k+1+1+1+1+((aD aG x.Log:Nat):Int):=by omega
  have d5:k+1+1+1+1+((aD aG x.Log:Nat):Int)+1≤4611686018427387904:=by omega
  have b6:0≤k+1+1+1+1+((aD aG x.Log:Nat):Int)+1:=by omega
  have d6:k+1+1+1+1+((aD aG x.Log:Nat):Int)+1+1≤4611686018427387904:=by omega
  have b7:0≤k+1+1+1+1+((aD aG x.Log:Nat):Int)+1+1:=by omega
  have d7:k+1+1+1+1+((aD aG x.Log:Nat):Int)+1+1+1≤4611686018427387904:=by omega
  have b8:0≤k+1+1+1+1+((aD aG x.Log:Nat):Int)+1+1+1:=by omega
  have d8:k+1+1+1+1+((aD aG x.Log:Nat):Int)+1+1+1+((aD dJ x.aAD.Entries:Nat):Int)≤4611686018427387904:=by omega
  have t8:decide (k+1+1+1+1+((aD aG x.Log:Nat):Int)+1+1+1+((aD dJ x.aAD.Entries:Nat):Int)<0)=false:=decide_eq_false (by omega)
  have nn:k+1+1+1+1+((aD aG x.Log:Nat):Int)+1+1+1+((aD dJ x.aAD.Entries:Nat):Int)=k+((aQ x:Nat):Int):=by unfold aQ;omega
  have e0:a0[i].Store.Vendor=k:=by rw[p3];simp only[bY]
  have w0:IntKind.i64.wrap (k+1)=k+1:=aK b0 d0
  have e1:a0[i].Store.Serial=(k+1):=by rw[p3];simp only[bY,w0]
  have w1:IntKind.i64.wrap (k+1+1)=k+1+1:=aK b1 d1
  have e2:a0[i].Store.Seed=(k+1+1):=by rw[p3];simp only[bY,w0,w1]
  have w2:IntKind.i64.wrap (k+1+1+1)=k+1+1+1:=aK b2 d2
  have e3:a0[i].Store.Counter=(k+1+1+1):=by rw[p3];simp only[bY,w0,w1,w2]
  have w3:IntKind.i64.wrap (k+1+1+1+1)=k+1+1+1+1:=aK b3 d3
  have f4:=bM fG x.Log (k+1+1+1+1) b4 d4
  have e4:a0[i].Log=(bG aS x.Log (k+1+1+1+1)).1:=by rw[p3];simp only[bY,w0,w1,w2,w3]
  have m4:=f4.1
  have c4:aD aG a0[i].Log=aD aG x.Log:=by rw[e4];exact f4.2
  have h4:bL (bG aS) (aD aG) a0[i].Log (k+1+1+1+1):=fD b4 d4 e4 c4
  have e5:a0[i].Key=(k+1+1+1+1+((aD aG x.Log:Nat):Int)):=by rw[p3];simp only[bY,w0,w1,w2,w3,m4]
  have w5:IntKind.i64.wrap (k+1+1+1+1+((aD aG x.Log:Nat):Int)+1)=k+1+1+1+1+((aD aG x.Log:Nat):Int)+1:=aK b5 d5
  have e6:a0[i].Epoch=(k+1+1+1+1+((aD aG x.Log:Nat):Int)+1):=by rw[p3];simp only[bY,w0,w1,w2,w3,m4,w5]
  have w6:IntKind.i64.wrap (k+1+1+1+1+((aD aG x.Log:Nat):Int)+1+1)=k+1+1+1+1+((aD aG x.Log:Nat):Int)+1+1:=aK b6 d6
  have e7:a0[i].Version=(k+1+1+1+1+((aD aG x.Log:Nat):Int)+1+1):=by rw[p3];simp only[bY,w0,w1,w2,w3,m4,w5,w6]
  have w7:IntKind.i64.wrap (k+1+1+1+1+((aD aG x.Log:Nat):Int)+1+1+1)=k+1+1+1+1+((aD aG x.Log:Nat):Int)+1+1+1:=aK b7 d7
  have f8:=bM sK x.aAD.Entries (k+1+1+1+1+((aD aG x.Log:Nat):Int)+1+1+1) b8 d8
  have e8:a0[i].aAD.Entries=(bG fZ x.aAD.Entries (k+1+1+1+1+((aD aG x.Log:Nat):Int)+1+1+1)).1:=by rw[p3];simp only[bY,w0,w1,w2,w3,m4,w5,w6,w7]
  have m8:=f8.1
  have c8:aD dJ a0[i].aAD.Entries=aD dJ x.aAD.Entries:=by rw[e8];exact f8.2
  have h8:bL (bG fZ) (aD dJ) a0[i].aAD.Entries (k+1+1+1+1+((aD aG x.Log:Nat):Int)+1+1+1):=fD b8 d8 e8 c8
  simp only[bE hi,cond_true,aF hi,e0,w0,e1,w1,e2,w2,e3,w3,aC h4,c4,t4,e5,w5,e6,w6,e7,w7,aC h8,c8,t8,bne_self_eq_false,beq_self_eq_true,Bool.not_true,cond_false,bd_s,dR,gd_T]
  rw[←p4,←nn]) (fun rec k=>by simp only[bF,cond_false])]
 rfl
theorem aEd (a0:List Bool)(a1:Int)(h:bL (bG mkB) (aD fP) a0 a1):Dt a0 a1=some (a1+((aD fP a0:Nat):Int)):=by
 have hlen:=jE (c:=fP) (fun _=>Nat.le_refl _) a0
 have h1:=h.1
 have h2:=h.2.1
 unfold Dt
 rw[iF aN5 h (by omega) (fun rec k i hi hP=>by
  obtain⟨p1,p2,x,p3,_⟩:=hP
  have p2:k+1≤4611686018427387904:=by simpa[fP] using p2
  have e:a0[i]=(k.tmod 3==0):=p3
  simp only[bE hi,cond_true,aF hi,e,bne_self_eq_false,beq_self_eq_true,Bool.not_true,cond_false,bd_s,aK p1 p2,aC (show(3:Int)≠(0:Int) by omega)];rfl) (fun rec k=>by simp only[bF,cond_false])]
 rfl
theorem aEe (a0:List Int)(a1:Int)(h:bL (bG mkU) (aD fP) a0 a1):Du a0 a1=some (a1+((aD fP a0:Nat):Int)):=by
 have hlen:=jE (c:=fP) (fun _=>Nat.le_refl _) a0
 have h1:=h.1
 have h2:=h.2.1
 unfold Du
 rw[iF Og h (by omega) (fun rec k i hi hP=>by
  obtain⟨p1,p2,x,p3,_⟩:=hP
  have p2:k+1≤4611686018427387904:=by simpa[fP] using p2
  have e:a0[i]=IntKind.u8.wrap k:=p3
  simp only[bE hi,cond_true,aF hi,e,bne_self_eq_false,beq_self_eq_true,Bool.not_true,cond_false,bd_s,aK p1 p2,aC (show(3:Int)≠(0:Int) by omega)];rfl) (fun rec k=>by simp only[bF,cond_false])]
 rfl
theorem aJq (a0:List D.Box)(a1:Int)(h:bL (bG fH) (aD eQ) a0 a1):Jz a0 a1=some (a1+((aD eQ a0:Nat):Int)):=by
 have hlen:=jE bE9 a0
 have h1:=h.1
 have h2:=h.2.1
 unfold Jz
 rw[iF lY h (by omega) (fun rec k i hi hP=>by
  clear h hlen h1 h2
  obtain⟨p1,p2,x,p3,p4⟩:=hP
  rw[←p4] at p2
  unfold eQ at p2
  have b0:0≤k:=by omega
  have d0:k+1≤4611686018427387904:=by omega
  have b1:0≤k+1:=by omega
  have d1:k+1+1≤4611686018427387904:=by omega
  have b2:0≤k+1+1:=by omega
  have d2:k+1+1+((aD fP x.Data:Nat):Int)≤4611686018427387904:=by omega
  have t2:decide (k+1+1+((aD fP x.Data:Nat):Int)<0)=false:=decide_eq_false (by omega)
  have b3:0≤k+1+1+((aD fP x.Data:Nat):Int):=by omega
  have d3:k+1+1+((aD fP x.Data:Nat):Int)+1≤4611686018427387904:=by omega
  have nn:k+1+1+((aD fP x.Data:Nat):Int)+1=k+((eQ x:Nat):Int):=by unfold eQ;omega
  have e0:a0[i].To=k:=by rw[p3];simp only[fH]
  have w0:IntKind.i64.wrap (k+1)=k+1:=aK b0 d0
  have e1:a0[i].Ephemeral=(k+1):=by rw[p3];simp only[fH,w0]
  have w1:IntKind.i64.wrap (k+1+1)=k+1+1:=aK b1 d1
  have f2:=bM Og x.Data (k+1+1) b2 d2
  have e2:a0[i].Data=(bG mkU x.Data (k+1+1)).1:=by rw[p3];simp only[fH,w0,w1]
  have m2:=f2.1
  have c2:aD fP a0[i].Data=aD fP x.Data:=by rw[e2];exact f2.2
  have h2:bL (bG mkU) (aD fP) a0[i].Data (k+1+1):=fD b2 d2 e2 c2
  have e3:a0[i].MAC=(k+1+1+((aD fP x.Data:Nat):Int)):=by rw[p3];simp only[fH,w0,w1,m2]
  have w3:IntKind.i64.wrap (k+1+1+((aD fP x.Data:Nat):Int)+1)=k+1+1+((aD fP x.Data:Nat):Int)+1:=aK b3 d3
  simp only[bE hi,cond_true,aF hi,e0,w0,e1,w1,aC h2,c2,t2,e3,w3,bne_self_eq_false,beq_self_eq_true,Bool.not_true,cond_false,bd_s,dR,gd_T]
  rw[←p4,←nn]) (fun rec k=>by simp only[bF,cond_false])]
 rfl
theorem Kt (a0:D.aAE)(k:Int)(h:bL dO aN a0 k):qE a0 k=some (k+((aN a0:Nat):Int)):=by
 obtain⟨p1,p2,x,p3,p4⟩:=h
 rw[←p4] at p2
 unfold aN at p2
 have b0:0≤k:=by omega
 have d0:k+(((aD eQ) x.Boxes:Nat):Int)≤4611686018427387904:=by omega
 have t0:decide (k+(((aD eQ) x.Boxes:Nat):Int)<0)=false:=decide_eq_false (by omega)
 have nn:k+(((aD eQ) x.Boxes:Nat):Int)=k+((aN x:Nat):Int):=by simp only[aN]<;>omega
 have f0:=(bM lY) x.Boxes k b0 d0
 have e0:a0.Boxes=((bG fH) x.Boxes k).1:=by rw[p3];simp only[dO]
 have m0:=f0.1
 have c0:(aD eQ) a0.Boxes=(aD eQ) x.Boxes:=by rw[e0];exact f0.2
 have h0:bL (bG fH) (aD eQ) a0.Boxes k:=fD b0 d0 e0 c0
 unfold qE
 simp only[aC h0,c0,t0,cond_false,bd_s]
 rw[←p4,←nn]
theorem zS (a0:List D.aAA)(a1:Int)(h:bL (bG aZ) (aD aM) a0 a1):mM a0 a1=some (a1+((aD aM a0:Nat):Int)):=by
 have hlen:=jE o7 a0
 have h1:=h.1
 have h2:=h.2.1
 unfold mM
 rw[iF fI h (by omega) (fun rec k i hi hP=>by
  clear h hlen h1 h2
  obtain⟨p1,p2,x,p3,p4⟩:=hP
  rw[←p4] at p2
  unfold aM at p2
  have b0:0≤k:=by omega
  have d0:k+1≤4611686018427387904:=by omega
  have b1:0≤k+1:=by omega
  have d1:k+1+1≤4611686018427387904:=by omega
  have b2:0≤k+1+1:=by omega
  have d2:k+1+1+((aD fP x.Data:Nat):Int)≤4611686018427387904:=by omega
  have t2:decide (k+1+1+((aD fP x.Data:Nat):Int)<0)=false:=decide_eq_false (by omega)
  have b3:0≤k+1+1+((aD fP x.Data:Nat):Int):=by omega
  have d3:k+1+1+((aD fP x.Data:Nat):Int)+1≤4611686018427387904:=by omega
  have nn:k+1+1+((aD fP x.Data:Nat):Int)+1=k+((aM x:Nat):Int):=by unfold aM;omega
  have e0:a0[i].Epoch=k:=by rw[p3];simp only[aZ]
  have w0:IntKind.i64.wrap (k+1)=k+1:=aK b0 d0
  have e1:a0[i].Version=(k+1):=by rw[p3];simp only[aZ,w0]
  have w1:IntKind.i64.wrap (k+1+1)=k+1+1:=aK b1 d1
  have f2:=bM Og x.Data (k+1+1) b2 d2
  have e2:a0[i].Data=(bG mkU x.Data (k+1+1)).1:=by rw[p3];simp only[aZ,w0,w1]
  have m2:=f2.1
  have c2:aD fP a0[i].Data=aD fP x.Data:=by rw[e2];exact f2.2
  have h2:bL (bG mkU) (aD fP) a0[i].Data (k+1+1):=fD b2 d2 e2 c2
  have e3:a0[i].MAC=(k+1+1+((aD fP x.Data:Nat):Int)):=by rw[p3];simp only[aZ,w0,w1,m2]
  have w3:IntKind.i64.wrap (k+1+1+((aD fP x.Data:Nat):Int)+1)=k+1+1+((aD fP x.Data:Nat):Int)+1:=aK b3 d3
  simp only[bE hi,cond_true,aF hi,e0,w0,e1,w1,aC h2,c2,t2,e3,w3,bne_self_eq_false,beq_self_eq_true,Bool.not_true,cond_false,bd_s,dR,gd_T]
  rw[←p4,←nn]) (fun rec k=>by simp only[bF,cond_false])]
 rfl
theorem aEf (a0:D.aAH)(k:Int)(h:bL gQ aX a0 k):Dv a0 k=some (k+((aX a0:Nat):Int)):=by
 obtain⟨p1,p2,x,p3,p4⟩:=h
 rw[←p4] at p2
 unfold aX at p2
 have b0:0≤k:=by first|omega|(simp only[aN];omega)
 have d0:k+(((aD aG) x.Log:Nat):Int)≤4611686018427387904:=by first|omega|(simp only[aN];omega)
 have t0:decide (k+(((aD aG) x.Log:Nat):Int)<0)=false:=decide_eq_false (by first|omega|(simp only[aN];omega))
 have b1:0≤k+(((aD aG) x.Log:Nat):Int):=by first|omega|(simp only[aN];omega)
 have d1:k+(((aD aG) x.Log:Nat):Int)+((aN x.Boxes:Nat):Int)≤4611686018427387904:=by first|omega|(simp only[aN];omega)
 have t1:decide (k+(((aD aG) x.Log:Nat):Int)+((aN x.Boxes:Nat):Int)<0)=false:=decide_eq_false (by first|omega|(simp only[aN];omega))
 have b2:0≤k+(((aD aG) x.Log:Nat):Int)+((aN x.Boxes:Nat):Int):=by first|omega|(simp only[aN];omega)
 have d2:k+(((aD aG) x.Log:Nat):Int)+((aN x.Boxes:Nat):Int)+(((aD aM) x.History:Nat):Int)≤4611686018427387904:=by first|omega|(simp only[aN];omega)
 have t2:decide (k+(((aD aG) x.Log:Nat):Int)+((aN x.Boxes:Nat):Int)+(((aD aM) x.History:Nat):Int)<0)=false:=decide_eq_false (by first|omega|(simp only[aN];omega))
 have nn:k+(((aD aG) x.Log:Nat):Int)+((aN x.Boxes:Nat):Int)+(((aD aM) x.History:Nat):Int)=k+((aX x:Nat):Int):=by simp only[aX,aN]<;>omega
 have f0:=(bM fG) x.Log k b0 d0
 have e0:a0.Log=((bG aS) x.Log k).1:=by rw[p3];simp only[gQ]
 have m0:=f0.1
 have c0:(aD aG) a0.Log=(aD aG) x.Log:=by rw[e0];exact f0.2
 have h0:bL (bG aS) (aD aG) a0.Log k:=fD b0 d0 e0 c0
 have f1:=aDo x.Boxes (k+(((aD aG) x.Log:Nat):Int)) b1 d1
 have e1:a0.Boxes=(dO x.Boxes (k+(((aD aG) x.Log:Nat):Int))).1:=by rw[p3];simp only[gQ,dO,m0]
 have m1:=f1.1
 simp only[dO,m0] at m1
 have c1:aN a0.Boxes=aN x.Boxes:=by rw[e1];exact f1.2
 have h1:bL dO aN a0.Boxes (k+(((aD aG) x.Log:Nat):Int)):=fD b1 d1 e1 c1
 have f2:=(bM fI) x.History (k+(((aD aG) x.Log:Nat):Int)+((aN x.Boxes:Nat):Int)) b2 d2
 have e2:a0.History=((bG aZ) x.History (k+(((aD aG) x.Log:Nat):Int)+((aN x.Boxes:Nat):Int))).1:=by rw[p3];simp only[gQ,m0,m1]
 have m2:=f2.1
 have c2:(aD aM) a0.History=(aD aM) x.History:=by rw[e2];exact f2.2
 have h2:bL (bG aZ) (aD aM) a0.History (k+(((aD aG) x.Log:Nat):Int)+((aN x.Boxes:Nat):Int)):=fD b2 d2 e2 c2
 unfold Dv
 simp only[aC h0,c0,t0,aC h1,c1,t1,aC h2,c2,t2,cond_false,bd_s]
 rw[←p4,←nn]
theorem Gj (a0:List D.aAI)(a1:Int)(h:bL (bG bZ) (aD aY) a0 a1):oO a0 a1=some (a1+((aD aY a0:Nat):Int)):=by
 have hlen:=jE aDp a0
 have h1:=h.1
 have h2:=h.2.1
 unfold oO
 rw[iF jL h (by omega) (fun rec k i hi hP=>by
  clear h hlen h1 h2
  obtain⟨p1,p2,x,p3,p4⟩:=hP
  rw[←p4] at p2
  unfold aY at p2
  have b0:0≤k:=by omega
  have d0:k+1≤4611686018427387904:=by omega
  have b1:0≤k+1:=by omega
  have d1:k+1+1≤4611686018427387904:=by omega
  have b2:0≤k+1+1:=by omega
  have d2:k+1+1+1≤4611686018427387904:=by omega
  have b3:0≤k+1+1+1:=by omega
  have d3:k+1+1+1+1≤4611686018427387904:=by omega
  have nn:k+1+1+1+1=k+((aY x:Nat):Int):=by unfold aY;omega
  have e0:a0[i].Handle=k:=by rw[p3];simp only[bZ]
  have w0:IntKind.i64.wrap (k+1)=k+1:=aK b0 d0
  have e1:a0[i].Public=(k+1):=by rw[p3];simp only[bZ,w0]
  have w1:IntKind.i64.wrap (k+1+1)=k+1+1:=aK b1 d1
  have e2:a0[i].Counter=(k+1+1):=by rw[p3];simp only[bZ,w0,w1]
  have w2:IntKind.i64.wrap (k+1+1+1)=k+1+1+1:=aK b2 d2
  have e3:a0[i].Cut=((k+1+1+1).tmod 3==0):=by rw[p3];simp only[bZ,w0,w1,w2]
  have w3:IntKind.i64.wrap (k+1+1+1+1)=k+1+1+1+1:=aK b3 d3
  simp only[bE hi,cond_true,aF hi,e0,w0,e1,w1,e2,w2,e3,w3,bne_self_eq_false,beq_self_eq_true,Bool.not_true,cond_false,bd_s,dR,gd_T]
  rw[←p4,←nn]) (fun rec k=>by simp only[bF,cond_false])]
 rfl
theorem Uv (a0:List D.aAG)(a1:Int)(h:bL (bG dL) (aD aO) a0 a1):uM a0 a1=some (a1+((aD aO a0:Nat):Int)):=by
 have hlen:=jE aS2 a0
 have h1:=h.1
 have h2:=h.2.1
 unfold uM
 rw[iF mK h (by omega) (fun rec k i hi hP=>by
  clear h hlen h1 h2
  obtain⟨p1,p2,x,p3,p4⟩:=hP
  rw[←p4] at p2
  unfold aO at p2
  have b0:0≤k:=by omega
  have d0:k+1≤4611686018427387904:=by omega
  have b1:0≤k+1:=by omega
  have d1:k+1+1≤4611686018427387904:=by omega
  have b2:0≤k+1+1:=by omega
  have d2:k+1+1+((aD aY x.Credentials:Nat):Int)≤4611686018427387904:=by omega
  have t2:decide (k+1+1+((aD aY x.Credentials:Nat):Int)<0)=false:=decide_eq_false (by omega)
  have nn:k+1+1+((aD aY x.Credentials:Nat):Int)=k+((aO x:Nat):Int):=by unfold aO;omega
  have e0:a0[i].Id=k:=by rw[p3];simp only[dL]
  have w0:IntKind.i64.wrap (k+1)=k+1:=aK b0 d0
  have e1:a0[i].Minimum=(k+1):=by rw[p3];simp only[dL,w0]
  have w1:IntKind.i64.wrap (k+1+1)=k+1+1:=aK b1 d1
  have f2:=bM jL x.Credentials (k+1+1) b2 d2
  have e2:a0[i].Credentials=(bG bZ x.Credentials (k+1+1)).1:=by rw[p3];simp only[dL,w0,w1]
  have m2:=f2.1
  have c2:aD aY a0[i].Credentials=aD aY x.Credentials:=by rw[e2];exact f2.2
  have h2:bL (bG bZ) (aD aY) a0[i].Credentials (k+1+1):=fD b2 d2 e2 c2
  simp only[bE hi,cond_true,aF hi,e0,w0,e1,w1,aC h2,c2,t2,bne_self_eq_false,beq_self_eq_true,Bool.not_true,cond_false,bd_s,dR,gd_T]
  rw[←p4,←nn]) (fun rec k=>by simp only[bF,cond_false])]
 rfl
theorem Ku (a0:List D.aAL)(a1:Int)(h:bL (bG dD) (aD aU) a0 a1):qF a0 a1=some (a1+((aD aU a0:Nat):Int)):=by
 have hlen:=jE aI9 a0
 have h1:=h.1
 have h2:=h.2.1
 unfold qF
 rw[iF kN h (by omega) (fun rec k i hi hP=>by
  clear h hlen h1 h2
  obtain⟨p1,p2,x,p3,p4⟩:=hP
  rw[←p4] at p2
  unfold aU at p2
  have b0:0≤k:=by omega
  have d0:k+1≤4611686018427387904:=by omega
  have b1:0≤k+1:=by omega
  have d1:k+1+1≤4611686018427387904:=by omega
  have b2:0≤k+1+1:=by omega
  have d2:k+1+1+1≤4611686018427387904:=by omega
  have nn:k+1+1+1=k+((aU x:Nat):Int):=by unfold aU;omega
  have e0:a0[i].Id=k:=by rw[p3];simp only[dD]
  have w0:IntKind.i64.wrap (k+1)=k+1:=aK b0 d0
  have e1:a0[i].aAG=(k+1):=by rw[p3];simp only[dD,w0]
  have w1:IntKind.i64.wrap (k+1+1)=k+1+1:=aK b1 d1
  have e2:a0[i].Until=(k+1+1):=by rw[p3];simp only[dD,w0,w1]
  have w2:IntKind.i64.wrap (k+1+1+1)=k+1+1+1:=aK b2 d2
  simp only[bE hi,cond_true,aF hi,e0,w0,e1,w1,e2,w2,bne_self_eq_false,beq_self_eq_true,Bool.not_true,cond_false,bd_s,dR,gd_T]
  rw[←p4,←nn]) (fun rec k=>by simp only[bF,cond_false])]
 rfl
theorem aJr (a0:List Int)(a1:Int)(h:bL (bG mkI) (aD fP) a0 a1):Ka a0 a1=some (a1+((aD fP a0:Nat):Int)):=by
 have hlen:=jE (c:=fP) (fun _=>Nat.le_refl _) a0
 have h1:=h.1
 have h2:=h.2.1
 unfold Ka
 rw[iF aN4 h (by omega) (fun rec k i hi hP=>by
  obtain⟨p1,p2,x,p3,_⟩:=hP
  have p2:k+1≤4611686018427387904:=by simpa[fP] using p2
  have e:a0[i]=k:=p3
  simp only[bE hi,cond_true,aF hi,e,bne_self_eq_false,beq_self_eq_true,Bool.not_true,cond_false,bd_s,aK p1 p2,aC (show(3:Int)≠(0:Int) by omega)];rfl) (fun rec k=>by simp only[bF,cond_false])]
 rfl
theorem aEg (a0:List D.Site)(a1:Int)(h:bL (bG gB) (aD cK) a0 a1):Dw a0 a1=some (a1+((aD cK a0:Nat):Int)):=by
 have hlen:=jE bB1 a0
 have h1:=h.1
 have h2:=h.2.1
 unfold Dw
 rw[iF wX h (by omega) (fun rec k i hi hP=>by
  clear h hlen h1 h2
  obtain⟨p1,p2,x,p3,p4⟩:=hP
  rw[←p4] at p2
  unfold cK at p2
  have b0:0≤k:=by omega
  have d0:k+1≤4611686018427387904:=by omega
  have z0:k≤4611686018427387904:=by omega
  have b1:0≤k+1:=by omega
  have d1:k+1+((aD aO x.Accounts:Nat):Int)≤4611686018427387904:=by omega
  have t1:decide (k+1+((aD aO x.Accounts:Nat):Int)<0)=false:=decide_eq_false (by omega)
  have b2:0≤k+1+((aD aO x.Accounts:Nat):Int):=by omega
  have d2:k+1+((aD aO x.Accounts:Nat):Int)+1≤4611686018427387904:=by omega
  have b3:0≤k+1+((aD aO x.Accounts:Nat):Int)+1:=by omega
  have d3:k+1+((aD aO x.Accounts:Nat):Int)+1+1≤4611686018427387904:=by omega
  have b4:0≤k+1+((aD aO x.Accounts:Nat):Int)+1+1:=by omega
  have d4:k+1+((aD aO x.Accounts:Nat):Int)+1+1+((aD aU x.Book.Open:Nat):Int)≤4611686018427387904:=by omega
  have t4:decide (k+1+((aD aO x.Accounts:Nat):Int)+1+1+((aD aU x.Book.Open:Nat):Int)<0)=false:=decide_eq_false (by omega)
  have b5:0≤k+1+((aD aO x.Accounts:Nat):Int)+1+1+((aD aU x.Book.Open:Nat):Int):=by omega
  have d5:k+1+((aD aO x.Accounts:Nat):Int)+1+1+((aD aU x.Book.Open:Nat):Int)+((aD fP x.Logins:Nat):Int)≤4611686018427387904:=by omega
  have t5:decide (k+1+((aD aO x.Accounts:Nat):Int)+1+1+((aD aU x.Book.Open:Nat):Int)+((aD fP x.Logins:Nat):Int)<0)=false:=decide_eq_false (by omega)
  have nn:k+1+((aD aO x.Accounts:Nat):Int)+1+1+((aD aU x.Book.Open:Nat):Int)+((aD fP x.Logins:Nat):Int)=k+((cK x:Nat):Int):=by unfold cK;omega
  have e0:a0[i].Name=(Dm k):=by rw[p3];simp only[gB]
  have s0:=aIq (k:=k) b0 z0
  have w0:IntKind.i64.wrap (k+1)=k+1:=aK b0 d0
  have f1:=bM mK x.Accounts (k+1) b1 d1
  have e1:a0[i].Accounts=(bG dL x.Accounts (k+1)).1:=by rw[p3];simp only[gB,w0]
  have m1:=f1.1
  have c1:aD aO a0[i].Accounts=aD aO x.Accounts:=by rw[e1];exact f1.2
  have h1:bL (bG dL) (aD aO) a0[i].Accounts (k+1):=fD b1 d1 e1 c1
  have e2:a0[i].Book.Seed=(k+1+((aD aO x.Accounts:Nat):Int)):=by rw[p3];simp only[gB,w0,m1]
  have w2:IntKind.i64.wrap (k+1+((aD aO x.Accounts:Nat):Int)+1)=k+1+((aD aO x.Accounts:Nat):Int)+1:=aK b2 d2
  have e3:a0[i].Book.Next=(k+1+((aD aO x.Accounts:Nat):Int)+1):=by rw[p3];simp only[gB,w0,m1,w2]
  have w3:IntKind.i64.wrap (k+1+((aD aO x.Accounts:Nat):Int)+1+1)=k+1+((aD aO x.Accounts:Nat):Int)+1+1:=aK b3 d3
  have f4:=bM kN x.Book.Open (k+1+((aD aO x.Accounts:Nat):Int)+1+1) b4 d4
  have e4:a0[i].Book.Open=(bG dD x.Book.Open (k+1+((aD aO x.Accounts:Nat):Int)+1+1)).1:=by rw[p3];simp only[gB,w0,m1,w2,w3]
  have m4:=f4.1
  have c4:aD aU a0[i].Book.Open=aD aU x.Book.Open:=by rw[e4];exact f4.2
  have h4:bL (bG dD) (aD aU) a0[i].Book.Open (k+1+((aD aO x.Accounts:Nat):Int)+1+1):=fD b4 d4 e4 c4
  have f5:=bM aN4 x.Logins (k+1+((aD aO x.Accounts:Nat):Int)+1+1+((aD aU x.Book.Open:Nat):Int)) b5 d5
  have e5:a0[i].Logins=(bG mkI x.Logins (k+1+((aD aO x.Accounts:Nat):Int)+1+1+((aD aU x.Book.Open:Nat):Int))).1:=by rw[p3];simp only[gB,w0,m1,w2,w3,m4]
  have m5:=f5.1
  have c5:aD fP a0[i].Logins=aD fP x.Logins:=by rw[e5];exact f5.2
  have h5:bL (bG mkI) (aD fP) a0[i].Logins (k+1+((aD aO x.Accounts:Nat):Int)+1+1+((aD aU x.Book.Open:Nat):Int)):=fD b5 d5 e5 c5
  simp only[bE hi,cond_true,aF hi,s0,e0,w0,aC h1,c1,t1,e2,w2,e3,w3,aC h4,c4,t4,aC h5,c5,t5,bne_self_eq_false,beq_self_eq_true,Bool.not_true,cond_false,bd_s,dR,gd_T]
  rw[←p4,←nn]) (fun rec k=>by simp only[bF,cond_false])]
 rfl
theorem A7 (a0:List D.aAN)(a1:Int)(h:bL (bG eH) (aD bN) a0 a1):xC a0 a1=some (a1+((aD bN a0:Nat):Int)):=by
 have hlen:=jE aXq a0
 have h1:=h.1
 have h2:=h.2.1
 unfold xC
 rw[iF oM h (by omega) (fun rec k i hi hP=>by
  clear h hlen h1 h2
  obtain⟨p1,p2,x,p3,p4⟩:=hP
  rw[←p4] at p2
  unfold bN at p2
  have b0:0≤k:=by omega
  have d0:k+1≤4611686018427387904:=by omega
  have b1:0≤k+1:=by omega
  have d1:k+1+1≤4611686018427387904:=by omega
  have b2:0≤k+1+1:=by omega
  have d2:k+1+1+1≤4611686018427387904:=by omega
  have b3:0≤k+1+1+1:=by omega
  have d3:k+1+1+1+1≤4611686018427387904:=by omega
  have b4:0≤k+1+1+1+1:=by omega
  have d4:k+1+1+1+1+1≤4611686018427387904:=by omega
  have nn:k+1+1+1+1+1=k+((bN x:Nat):Int):=by unfold bN;omega
  have e0:a0[i].aAO.Index=k:=by rw[p3];simp only[eH]
  have w0:IntKind.i64.wrap (k+1)=k+1:=aK b0 d0
  have e1:a0[i].aAO.Value=(k+1):=by rw[p3];simp only[eH,w0]
  have w1:IntKind.i64.wrap (k+1+1)=k+1+1:=aK b1 d1
  have e2:a0[i].Epoch=(k+1+1):=by rw[p3];simp only[eH,w0,w1]
  have w2:IntKind.i64.wrap (k+1+1+1)=k+1+1+1:=aK b2 d2
  have e3:a0[i].Guesses=(k+1+1+1):=by rw[p3];simp only[eH,w0,w1,w2]
  have w3:IntKind.i64.wrap (k+1+1+1+1)=k+1+1+1+1:=aK b3 d3
  have e4:a0[i].Limit=(k+1+1+1+1):=by rw[p3];simp only[eH,w0,w1,w2,w3]
  have w4:IntKind.i64.wrap (k+1+1+1+1+1)=k+1+1+1+1+1:=aK b4 d4
  simp only[bE hi,cond_true,aF hi,e0,w0,e1,w1,e2,w2,e3,w3,e4,w4,bne_self_eq_false,beq_self_eq_true,Bool.not_true,cond_false,bd_s,dR,gd_T]
  rw[←p4,←nn]) (fun rec k=>by simp only[bF,cond_false])]
 rfl
theorem Gl (a0:List D.aAC)(a1:Int)(h:bL (bG bK) (aD aR) a0 a1):oP a0 a1=some (a1+((aD aR a0:Nat):Int)):=by
 have hlen:=jE aDr a0
 have h1:=h.1
 have h2:=h.2.1
 unfold oP
 rw[iF jM h (by omega) (fun rec k i hi hP=>by
  clear h hlen h1 h2
  obtain⟨p1,p2,x,p3,p4⟩:=hP
  rw[←p4] at p2
  unfold aR at p2
  have b0:0≤k:=by omega
  have d0:k+1≤4611686018427387904:=by omega
  have b1:0≤k+1:=by omega
  have d1:k+1+1≤4611686018427387904:=by omega
  have b2:0≤k+1+1:=by omega
  have d2:k+1+1+1≤4611686018427387904:=by omega
  have b3:0≤k+1+1+1:=by omega
  have d3:k+1+1+1+1≤4611686018427387904:=by omega
  have b4:0≤k+1+1+1+1:=by omega
  have d4:k+1+1+1+1+1≤4611686018427387904:=by omega
  have b5:0≤k+1+1+1+1+1:=by omega
  have d5:k+1+1+1+1+1+((aD bN x.Saved:Nat):Int)≤4611686018427387904:=by omega
  have t5:decide (k+1+1+1+1+1+((aD bN x.Saved:Nat):Int)<0)=false:=decide_eq_false (by omega)
  have b6:0≤k+1+1+1+1+1+((aD bN x.Saved:Nat):Int):=by omega
  have d6:k+1+1+1+1+1+((aD bN x.Saved:Nat):Int)+1≤4611686018427387904:=by omega
  have nn:k+1+1+1+1+1+((aD bN x.Saved:Nat):Int)+1=k+((aR x:Nat):Int):=by unfold aR;omega
  have e0:a0[i].State.aAO.Index=k:=by rw[p3];simp only[bK]
  have w0:IntKind.i64.wrap (k+1)=k+1:=aK b0 d0
  have e1:a0[i].State.aAO.Value=(k+1):=by rw[p3];simp only[bK,w0]
  have w1:IntKind.i64.wrap (k+1+1)=k+1+1:=aK b1 d1
  have e2:a0[i].State.Epoch=(k+1+1):=by rw[p3];simp only[bK,w0,w1]
  have w2:IntKind.i64.wrap (k+1+1+1)=k+1+1+1:=aK b2 d2
  have e3:a0[i].State.Guesses=(k+1+1+1):=by rw[p3];simp only[bK,w0,w1,w2]
  have w3:IntKind.i64.wrap (k+1+1+1+1)=k+1+1+1+1:=aK b3 d3
  have e4:a0[i].State.Limit=(k+1+1+1+1):=by rw[p3];simp only[bK,w0,w1,w2,w3]
  have w4:IntKind.i64.wrap (k+1+1+1+1+1)=k+1+1+1+1+1:=aK b4 d4
  have f5:=bM oM x.Saved (k+1+1+1+1+1) b5 d5
  have e5:a0[i].Saved=(bG eH x.Saved (k+1+1+1+1+1)).1:=by rw[p3];simp only[bK,w0,w1,w2,w3,w4]
  have m5:=f5.1
  have c5:aD bN a0[i].Saved=aD bN x.Saved:=by rw[e5];exact f5.2
  have h5:bL (bG eH) (aD bN) a0[i].Saved (k+1+1+1+1+1):=fD b5 d5 e5 c5
  have e6:a0[i].Monotonic=(k+1+1+1+1+1+((aD bN x.Saved:Nat):Int)):=by rw[p3];simp only[bK,w0,w1,w2,w3,w4,m5]
  have w6:IntKind.i64.wrap (k+1+1+1+1+1+((aD bN x.Saved:Nat):Int)+1)=k+1+1+1+1+1+((aD bN x.Saved:Nat):Int)+1:=aK b6 d6
  simp only[bE hi,cond_true,aF hi,e0,w0,e1,w1,e2,w2,e3,w3,e4,w4,aC h5,c5,t5,e6,w6,bne_self_eq_false,beq_self_eq_true,Bool.not_true,cond_false,bd_s,dR,gd_T]
  rw[←p4,←nn]) (fun rec k=>by simp only[bF,cond_false])]
 rfl
theorem A8 (a0:List D.aAM)(a1:Int)(h:bL (bG dV) (aD bX) a0 a1):xD a0 a1=some (a1+((aD bX a0:Nat):Int)):=by
 have hlen:=jE aXs a0
 have h1:=h.1
 have h2:=h.2.1
 unfold xD
 rw[iF lZ h (by omega) (fun rec k i hi hP=>by
  clear h hlen h1 h2
  obtain⟨p1,p2,x,p3,p4⟩:=hP
  rw[←p4] at p2
  unfold bX at p2
  have b0:0≤k:=by omega
  have d0:k+1≤4611686018427387904:=by omega
  have b1:0≤k+1:=by omega
  have d1:k+1+1≤4611686018427387904:=by omega
  have b2:0≤k+1+1:=by omega
  have d2:k+1+1+1≤4611686018427387904:=by omega
  have b3:0≤k+1+1+1:=by omega
  have d3:k+1+1+1+1≤4611686018427387904:=by omega
  have nn:k+1+1+1+1=k+((bX x:Nat):Int):=by unfold bX;omega
  have e0:a0[i].Kind=k:=by rw[p3];simp only[dV]
  have w0:IntKind.i64.wrap (k+1)=k+1:=aK b0 d0
  have e1:a0[i].aAG=(k+1):=by rw[p3];simp only[dV,w0]
  have w1:IntKind.i64.wrap (k+1+1)=k+1+1:=aK b1 d1
  have e2:a0[i].Time=(k+1+1):=by rw[p3];simp only[dV,w0,w1]
  have w2:IntKind.i64.wrap (k+1+1+1)=k+1+1+1:=aK b2 d2
  have e3:a0[i].Seen=((k+1+1+1).tmod 3==0):=by rw[p3];simp only[dV,w0,w1,w2]
  have w3:IntKind.i64.wrap (k+1+1+1+1)=k+1+1+1+1:=aK b3 d3
  simp only[bE hi,cond_true,aF hi,e0,w0,e1,w1,e2,w2,e3,w3,bne_self_eq_false,beq_self_eq_true,Bool.not_true,cond_false,bd_s,dR,gd_T]
  rw[←p4,←nn]) (fun rec k=>by simp only[bF,cond_false])]
 rfl
theorem A9 (a0:D.aAK)(k:Int)(h:bL fJ bB a0 k):xE a0 k=some (k+((bB a0:Nat):Int)):=by
 obtain⟨p1,p2,x,p3,p4⟩:=h
 rw[←p4] at p2
 unfold bB at p2
 have b0:0≤k:=by omega
 have d0:k+(((aD bX) x.Notices:Nat):Int)≤4611686018427387904:=by omega
 have t0:decide (k+(((aD bX) x.Notices:Nat):Int)<0)=false:=decide_eq_false (by omega)
 have nn:k+(((aD bX) x.Notices:Nat):Int)=k+((bB x:Nat):Int):=by simp only[bB]<;>omega
 have f0:=(bM lZ) x.Notices k b0 d0
 have e0:a0.Notices=((bG dV) x.Notices k).1:=by rw[p3];simp only[fJ]
 have m0:=f0.1
 have c0:(aD bX) a0.Notices=(aD bX) x.Notices:=by rw[e0];exact f0.2
 have h0:bL (bG dV) (aD bX) a0.Notices k:=fD b0 d0 e0 c0
 unfold xE
 simp only[aC h0,c0,t0,cond_false,bd_s]
 rw[←p4,←nn]
theorem aEh (a0:D.World)(k:Int)(h:bL dE dZ a0 k):Dx a0 k=some (k+((dZ a0:Nat):Int)):=by
 obtain⟨p1,p2,x,p3,p4⟩:=h
 rw[←p4] at p2
 unfold dZ at p2
 have b0:0≤k:=by first|omega|(simp only[aX,bB];omega)
 have d0:k+(((aD aQ) x.Devices:Nat):Int)≤4611686018427387904:=by first|omega|(simp only[aX,bB];omega)
 have t0:decide (k+(((aD aQ) x.Devices:Nat):Int)<0)=false:=decide_eq_false (by first|omega|(simp only[aX,bB];omega))
 have b1:0≤k+(((aD aQ) x.Devices:Nat):Int):=by first|omega|(simp only[aX,bB];omega)
 have d1:k+(((aD aQ) x.Devices:Nat):Int)+(((aD fP) x.Stolen:Nat):Int)≤4611686018427387904:=by first|omega|(simp only[aX,bB];omega)
 have t1:decide (k+(((aD aQ) x.Devices:Nat):Int)+(((aD fP) x.Stolen:Nat):Int)<0)=false:=decide_eq_false (by first|omega|(simp only[aX,bB];omega))
 have b2:0≤k+(((aD aQ) x.Devices:Nat):Int)+(((aD fP) x.Stolen:Nat):Int):=by first|omega|(simp only[aX,bB];omega)
 have d2:k+(((aD aQ) x.Devices:Nat):Int)+(((aD fP) x.Stolen:Nat):Int)+((aX x.aAH:Nat):Int)≤4611686018427387904:=by first|omega|(simp only[aX,bB];omega)
 have t2:decide (k+(((aD aQ) x.Devices:Nat):Int)+(((aD fP) x.Stolen:Nat):Int)+((aX x.aAH:Nat):Int)<0)=false:=decide_eq_false (by first|omega|(simp only[aX,bB];omega))
 have b3:0≤k+(((aD aQ) x.Devices:Nat):Int)+(((aD fP) x.Stolen:Nat):Int)+((aX x.aAH:Nat):Int):=by first|omega|(simp only[aX,bB];omega)
 have d3:k+(((aD aQ) x.Devices:Nat):Int)+(((aD fP) x.Stolen:Nat):Int)+((aX x.aAH:Nat):Int)+(((aD cK) x.Sites:Nat):Int)≤4611686018427387904:=by first|omega|(simp only[aX,bB];omega)
 have t3:decide (k+(((aD aQ) x.Devices:Nat):Int)+(((aD fP) x.Stolen:Nat):Int)+((aX x.aAH:Nat):Int)+(((aD cK) x.Sites:Nat):Int)<0)=false:=decide_eq_false (by first|omega|(simp only[aX,bB];omega))
 have b4:0≤k+(((aD aQ) x.Devices:Nat):Int)+(((aD fP) x.Stolen:Nat):Int)+((aX x.aAH:Nat):Int)+(((aD cK) x.Sites:Nat):Int):=by first|omega|(simp only[aX,bB];omega)
 have d4:k+(((aD aQ) x.Devices:Nat):Int)+(((aD fP) x.Stolen:Nat):Int)+((aX x.aAH:Nat):Int)+(((aD cK) x.Sites:Nat):Int)+(((aD aR) x.Hosts:Nat):Int)≤4611686018427387904:=by first|omega|(simp only[aX,bB];omega)
 have t4:decide (k+(((aD aQ) x.Devices:Nat):Int)+(((aD fP) x.Stolen:Nat):Int)+((aX x.aAH:Nat):Int)+(((aD cK) x.Sites:Nat):Int)+(((aD aR) x.Hosts:Nat):Int)<0)=false:=decide_eq_false (by first|omega|(simp only[aX,bB];omega))
 have b5:0≤k+(((aD aQ) x.Devices:Nat):Int)+(((aD fP) x.Stolen:Nat):Int)+((aX x.aAH:Nat):Int)+(((aD cK) x.Sites:Nat):Int)+(((aD aR) x.Hosts:Nat):Int):=by first|omega|(simp only[aX,bB];omega)
 have d5:k+(((aD aQ) x.Devices:Nat):Int)+(((aD fP) x.Stolen:Nat):Int)+((aX x.aAH:Nat):Int)+(((aD cK) x.Sites:Nat):Int)+(((aD aR) x.Hosts:Nat):Int)+((bB x.Mail:Nat):Int)≤4611686018427387904:=by first|omega|(simp only[aX,bB];omega)
 have t5:decide (k+(((aD aQ) x.Devices:Nat):Int)+(((aD fP) x.Stolen:Nat):Int)+((aX x.aAH:Nat):Int)+(((aD cK) x.Sites:Nat):Int)+(((aD aR) x.Hosts:Nat):Int)+((bB x.Mail:Nat):Int)<0)=false:=decide_eq_false (by first|omega|(simp only[aX,bB];omega))
 have nn:k+(((aD aQ) x.Devices:Nat):Int)+(((aD fP) x.Stolen:Nat):Int)+((aX x.aAH:Nat):Int)+(((aD cK) x.Sites:Nat):Int)+(((aD aR) x.Hosts:Nat):Int)+((bB x.Mail:Nat):Int)=k+((dZ x:Nat):Int):=by simp only[dZ,aX,bB]<;>omega
 have f0:=(bM oK) x.Devices k b0 d0
 have e0:a0.Devices=((bG bY) x.Devices k).1:=by rw[p3];simp only[dE]
 have m0:=f0.1
 have c0:(aD aQ) a0.Devices=(aD aQ) x.Devices:=by rw[e0];exact f0.2
 have h0:bL (bG bY) (aD aQ) a0.Devices k:=fD b0 d0 e0 c0
 have f1:=(bM aN5) x.Stolen (k+(((aD aQ) x.Devices:Nat):Int)) b1 d1
 have e1:a0.Stolen=((bG mkB) x.Stolen (k+(((aD aQ) x.Devices:Nat):Int))).1:=by rw[p3];simp only[dE,m0]
 have m1:=f1.1
 have c1:(aD fP) a0.Stolen=(aD fP) x.Stolen:=by rw[e1];exact f1.2
 have h1:bL (bG mkB) (aD fP) a0.Stolen (k+(((aD aQ) x.Devices:Nat):Int)):=fD b1 d1 e1 c1
 have f2:=bAg x.aAH (k+(((aD aQ) x.Devices:Nat):Int)+(((aD fP) x.Stolen:Nat):Int)) b2 d2
 have e2:a0.aAH=(gQ x.aAH (k+(((aD aQ) x.Devices:Nat):Int)+(((aD fP) x.Stolen:Nat):Int))).1:=by rw[p3];simp only[dE,gQ,m0,m1]
 have m2:=f2.1
 simp only[gQ,m0,m1] at m2
 have c2:aX a0.aAH=aX x.aAH:=by rw[e2];exact f2.2
 have h2:bL gQ aX a0.aAH (k+(((aD aQ) x.Devices:Nat):Int)+(((aD fP) x.Stolen:Nat):Int)):=fD b2 d2 e2 c2
 have f3:=(bM wX) x.Sites (k+(((aD aQ) x.Devices:Nat):Int)+(((aD fP) x.Stolen:Nat):Int)+((aX x.aAH:Nat):Int)) b3 d3
 have e3:a0.Sites=((bG gB) x.Sites (k+(((aD aQ) x.Devices:Nat):Int)+(((aD fP) x.Stolen:Nat):Int)+((aX x.aAH:Nat):Int))).1:=by rw[p3];simp only[dE,m0,m1,m2]
 have m3:=f3.1
 have c3:(aD cK) a0.Sites=(aD cK) x.Sites:=by rw[e3];exact f3.2
 have h3:bL (bG gB) (aD cK) a0.Sites (k+(((aD aQ) x.Devices:Nat):Int)+(((aD fP) x.Stolen:Nat):Int)+((aX x.aAH:Nat):Int)):=fD b3 d3 e3 c3
 have f4:=(bM jM) x.Hosts (k+(((aD aQ) x.Devices:Nat):Int)+(((aD fP) x.Stolen:Nat):Int)+((aX x.aAH:Nat):Int)+(((aD cK) x.Sites:Nat):Int)) b4 d4
 have e4:a0.Hosts=((bG bK) x.Hosts (k+(((aD aQ) x.Devices:Nat):Int)+(((aD fP) x.Stolen:Nat):Int)+((aX x.aAH:Nat):Int)+(((aD cK) x.Sites:Nat):Int))).1:=by rw[p3];simp only[dE,m0,m1,m2,m3]
 have m4:=f4.1
 have c4:(aD aR) a0.Hosts=(aD aR) x.Hosts:=by rw[e4];exact f4.2
 have h4:bL (bG bK) (aD aR) a0.Hosts (k+(((aD aQ) x.Devices:Nat):Int)+(((aD fP) x.Stolen:Nat):Int)+((aX x.aAH:Nat):Int)+(((aD cK) x.Sites:Nat):Int)):=fD b4 d4 e4 c4
 have f5:=aS4 x.Mail (k+(((aD aQ) x.Devices:Nat):Int)+(((aD fP) x.Stolen:Nat):Int)+((aX x.aAH:Nat):Int)+(((aD cK) x.Sites:Nat):Int)+(((aD aR) x.Hosts:Nat):Int)) b5 d5
 have e5:a0.Mail=(fJ x.Mail (k+(((aD aQ) x.Devices:Nat):Int)+(((aD fP) x.Stolen:Nat):Int)+((aX x.aAH:Nat):Int)+(((aD cK) x.Sites:Nat):Int)+(((aD aR) x.Hosts:Nat):Int))).1:=by rw[p3];simp only[dE,fJ,m0,m1,m2,m3,m4]
 have m5:=f5.1
 simp only[fJ,m0,m1,m2,m3,m4] at m5
 have c5:bB a0.Mail=bB x.Mail:=by rw[e5];exact f5.2
 have h5:bL fJ bB a0.Mail (k+(((aD aQ) x.Devices:Nat):Int)+(((aD fP) x.Stolen:Nat):Int)+((aX x.aAH:Nat):Int)+(((aD cK) x.Sites:Nat):Int)+(((aD aR) x.Hosts:Nat):Int)):=fD b5 d5 e5 c5
 unfold Dx
 simp only[aC h0,c0,t0,aC h1,c1,t1,aC h2,c2,t2,aC h3,c3,t3,aC h4,c4,t4,aC h5,c5,t5,cond_false,bd_s]
 rw[←p4,←nn]
end
end Go.VK
