import Derived.Test.YthecajfmhdediaaGreatDoorXhM
/- Printed by wip/tools: models, walks, proofs. -/
set_option linter.unusedVariables false
set_option linter.unusedSimpArgs false
set_option maxRecDepth 100000
set_option maxHeartbeats 4000000
namespace Go.VK
open Go.RowKit Go.Proofs
noncomputable section
open EV (bX)
theorem w9 (a0:List D.aAB)(a1:Int)(h:gP (jL (fun _:D.aAB=>True)) a0 a1):vT a0 a1=some (eX (a0.length) a1):=by
 obtain⟨h1,h3⟩:=h
 unfold vT
 exact Fz h1.1 h3
theorem aJ9 (a0:List D.Entry)(a1:Int)(h:gP (jL (fun _:D.Entry=>True)) a0 a1):Io a0 a1=some (eX (a0.length) a1):=by
 obtain⟨h1,h3⟩:=h
 unfold Io
 exact Fz h1.1 h3
theorem aKa (a0:D.aAC)(a1:Int)(h:gP D.aAC.ok a0 a1):Ip a0 a1=some (eX (a0.sz) a1):=by
 obtain⟨h1,h3⟩:=h
 unfold Ip
 have e:a0.sz=(a0.Entries.length):=by simp only[D.aAC.sz]<;>omega
 rw[e]
 rw[aD (show gP (jL (fun _:D.Entry=>True)) (a0.Entries) _ from⟨h1,h3⟩),bd_s]
 exact Ii h3
theorem aKb (a0:D.Device)(a1:Int)(h:gP D.Device.ok a0 a1):Iq a0 a1=some (eX (a0.sz) a1):=by
 obtain⟨h1,h3⟩:=h
 unfold Iq
 have e:a0.sz=((a0.Log.length)+(a0.aAC.sz)):=by simp only[D.aAC.sz,D.Device.sz,D.aAI.sz]<;>omega
 rw[e]
 rw[aD (show gP (jL (fun _:D.aAB=>True)) (a0.Log) _ from⟨h1.1,h3⟩),bd_s]
 refine aTm h3 (fun p1=> ?_)
 revert p1
 generalize eX (a0.Log.length) a1=l1
 intro p1
 rw[aD (show gP D.aAC.ok (a0.aAC) _ from⟨h1.2,p1⟩),bd_s]
 exact Ii p1
theorem aEp (a0:List D.Device)(a1:Int)(h:gP (jL D.Device.ok) a0 a1):Bo a0 a1=some (eX (a0.length+(a0.map D.Device.sz).sum) a1):=by
 unfold Bo
 exact aD7 h (fun rec i left hi hp=>by simp only[bH hi,cond_true,aH hi,bd_s,aD hp]) (fun rec left=>by simp only[bJ,cond_false])
theorem aO7 (a0:List Bool)(a1:Int)(h:gP (jL (fun _:Bool=>True)) a0 a1):Oc a0 a1=some (eX (a0.length) a1):=by
 obtain⟨h1,h3⟩:=h
 unfold Oc
 exact Fz h1.1 h3
theorem aO8 (a0:List Int)(a1:Int)(h:gP (jL (fun _:Int=>True)) a0 a1):Od a0 a1=some (eX (a0.length) a1):=by
 obtain⟨h1,h3⟩:=h
 unfold Od
 exact Fz h1.1 h3
theorem aX4 (a0:D.Box)(a1:Int)(h:gP D.Box.ok a0 a1):aAd a0 a1=some (eX (a0.sz) a1):=by
 obtain⟨h1,h3⟩:=h
 unfold aAd
 have e:a0.sz=(a0.Data.length):=by simp only[D.Box.sz]<;>omega
 rw[e]
 rw[aD (show gP (jL (fun _:Int=>True)) (a0.Data) _ from⟨h1,h3⟩),bd_s]
 exact Ii h3
theorem aTs (a0:List D.Box)(a1:Int)(h:gP (jL D.Box.ok) a0 a1):Yi a0 a1=some (eX (a0.length+(a0.map D.Box.sz).sum) a1):=by
 unfold Yi
 exact aD7 h (fun rec i left hi hp=>by simp only[bH hi,cond_true,aH hi,bd_s,aD hp]) (fun rec left=>by simp only[bJ,cond_false])
theorem Uf (a0:D.aAE)(a1:Int)(h:gP D.aAE.ok a0 a1):sU a0 a1=some (eX (a0.sz) a1):=by
 obtain⟨h1,h3⟩:=h
 unfold sU
 have e:a0.sz=(a0.Boxes.length+(a0.Boxes.map D.Box.sz).sum):=by simp only[D.aAE.sz]<;>omega
 rw[e]
 rw[aD (show gP (jL D.Box.ok) (a0.Boxes) _ from⟨h1,h3⟩),bd_s]
 exact Ii h3
theorem Kq (a0:D.aAA)(a1:Int)(h:gP D.aAA.ok a0 a1):oZ a0 a1=some (eX (a0.sz) a1):=by
 obtain⟨h1,h3⟩:=h
 unfold oZ
 have e:a0.sz=(a0.Data.length):=by simp only[D.aAA.sz]<;>omega
 rw[e]
 rw[aD (show gP (jL (fun _:Int=>True)) (a0.Data) _ from⟨h1,h3⟩),bd_s]
 exact Ii h3
theorem Gf (a0:List D.aAA)(a1:Int)(h:gP (jL D.aAA.ok) a0 a1):nU a0 a1=some (eX (a0.length+(a0.map D.aAA.sz).sum) a1):=by
 unfold nU
 exact aD7 h (fun rec i left hi hp=>by simp only[bH hi,cond_true,aH hi,bd_s,aD hp]) (fun rec left=>by simp only[bJ,cond_false])
theorem aO9 (a0:D.aAH)(a1:Int)(h:gP D.aAH.ok a0 a1):Oe a0 a1=some (eX (a0.sz) a1):=by
 obtain⟨h1,h3⟩:=h
 unfold Oe
 have e:a0.sz=((a0.Log.length)+((a0.Boxes.sz)+(a0.History.length+(a0.History.map D.aAA.sz).sum))):=by simp only[D.aAH.sz,D.aAE.sz]<;>omega
 rw[e]
 rw[aD (show gP (jL (fun _:D.aAB=>True)) (a0.Log) _ from⟨h1.1,h3⟩),bd_s]
 refine aTm h3 (fun p1=> ?_)
 revert p1
 generalize eX (a0.Log.length) a1=l1
 intro p1
 rw[aD (show gP D.aAE.ok (a0.Boxes) _ from⟨h1.2.1,p1⟩),bd_s]
 refine aTm p1 (fun p2=> ?_)
 revert p2
 generalize eX (a0.Boxes.sz) l1=l2
 intro p2
 rw[aD (show gP (jL D.aAA.ok) (a0.History) _ from⟨h1.2.2,p2⟩),bd_s]
 exact Ii p2
theorem Qs (a0:List D.aAJ)(a1:Int)(h:gP (jL (fun _:D.aAJ=>True)) a0 a1):rO a0 a1=some (eX (a0.length) a1):=by
 obtain⟨h1,h3⟩:=h
 unfold rO
 exact Fz h1.1 h3
theorem aEq (a0:D.aAG)(a1:Int)(h:gP D.aAG.ok a0 a1):Bp a0 a1=some (eX (a0.sz) a1):=by
 obtain⟨h1,h3⟩:=h
 unfold Bp
 have e:a0.sz=(a0.Credentials.length):=by simp only[D.aAG.sz]<;>omega
 rw[e]
 rw[aD (show gP (jL (fun _:D.aAJ=>True)) (a0.Credentials) _ from⟨h1,h3⟩),bd_s]
 exact Ii h3
theorem aAk (a0:List D.aAG)(a1:Int)(h:gP (jL D.aAG.ok) a0 a1):yO a0 a1=some (eX (a0.length+(a0.map D.aAG.sz).sum) a1):=by
 unfold yO
 exact aD7 h (fun rec i left hi hp=>by simp only[bH hi,cond_true,aH hi,bd_s,aD hp]) (fun rec left=>by simp only[bJ,cond_false])
theorem Ug (a0:List D.aAL)(a1:Int)(h:gP (jL (fun _:D.aAL=>True)) a0 a1):sW a0 a1=some (eX (a0.length) a1):=by
 obtain⟨h1,h3⟩:=h
 unfold sW
 exact Fz h1.1 h3
theorem Gg (a0:D.aAF)(a1:Int)(h:gP D.aAF.ok a0 a1):nV a0 a1=some (eX (a0.sz) a1):=by
 obtain⟨h1,h3⟩:=h
 unfold nV
 have e:a0.sz=(a0.Open.length):=by simp only[D.aAF.sz]<;>omega
 rw[e]
 rw[aD (show gP (jL (fun _:D.aAL=>True)) (a0.Open) _ from⟨h1,h3⟩),bd_s]
 exact Ii h3
theorem aTt (a0:List Int)(a1:Int)(h:gP (jL (fun _:Int=>True)) a0 a1):Yj a0 a1=some (eX (a0.length) a1):=by
 obtain⟨h1,h3⟩:=h
 unfold Yj
 exact Fz h1.1 h3
theorem aTu (a0:D.Site)(a1:Int)(h:gP D.Site.ok a0 a1):Yk a0 a1=some (eX (a0.sz) a1):=by
 obtain⟨h1,h3⟩:=h
 unfold Yk
 have e:a0.sz=((a0.Name.size)+((a0.Accounts.length+(a0.Accounts.map D.aAG.sz).sum)+((a0.Book.sz)+(a0.Logins.length)))):=by simp only[D.aAF.sz,D.Site.sz]<;>omega
 rw[e]
 have w0:IntKind.i64.wrap (a1-((a0.Name).size:Int))=a1-((a0.Name).size:Int):=by have:=h3.1;have:=h3.2;have:(a0.Name).size≤9223372036854775807:=h1.1;exact aR (by omega) (by omega)
 rw[w0]
 refine bLu h3 (fun p1=> ?_)
 revert p1
 generalize a1-((a0.Name).size:Int)=l1
 intro p1
 rw[aD (show gP (jL D.aAG.ok) (a0.Accounts) _ from⟨h1.2.1,p1⟩),bd_s]
 refine aTm p1 (fun p2=> ?_)
 revert p2
 generalize eX (a0.Accounts.length+(a0.Accounts.map D.aAG.sz).sum) l1=l2
 intro p2
 rw[aD (show gP D.aAF.ok (a0.Book) _ from⟨h1.2.2.1,p2⟩),bd_s]
 refine aTm p2 (fun p3=> ?_)
 revert p3
 generalize eX (a0.Book.sz) l2=l3
 intro p3
 rw[aD (show gP (jL (fun _:Int=>True)) (a0.Logins) _ from⟨h1.2.2.2,p3⟩),bd_s]
 exact Ii p3
theorem aPa (a0:List D.Site)(a1:Int)(h:gP (jL D.Site.ok) a0 a1):Og a0 a1=some (eX (a0.length+(a0.map D.Site.sz).sum) a1):=by
 unfold Og
 exact aD7 h (fun rec i left hi hp=>by simp only[bH hi,cond_true,aH hi,bd_s,aD hp]) (fun rec left=>by simp only[bJ,cond_false])
theorem aEr (a0:List D.aAN)(a1:Int)(h:gP (jL (fun _:D.aAN=>True)) a0 a1):Bq a0 a1=some (eX (a0.length) a1):=by
 obtain⟨h1,h3⟩:=h
 unfold Bq
 exact Fz h1.1 h3
theorem Uh (a0:D.aAD)(a1:Int)(h:gP D.aAD.ok a0 a1):sZ a0 a1=some (eX (a0.sz) a1):=by
 obtain⟨h1,h3⟩:=h
 unfold sZ
 have e:a0.sz=(a0.Saved.length):=by simp only[D.aAN.sz,D.aAD.sz,D.aAO.sz]<;>omega
 rw[e]
 rw[aD (show gP (jL (fun _:D.aAN=>True)) (a0.Saved) _ from⟨h1,h3⟩),bd_s]
 exact Ii h3
theorem Qt (a0:List D.aAD)(a1:Int)(h:gP (jL D.aAD.ok) a0 a1):rP a0 a1=some (eX (a0.length+(a0.map D.aAD.sz).sum) a1):=by
 unfold rP
 exact aD7 h (fun rec i left hi hp=>by simp only[bH hi,cond_true,aH hi,bd_s,aD hp]) (fun rec left=>by simp only[bJ,cond_false])
theorem aEs (a0:List D.aAM)(a1:Int)(h:gP (jL (fun _:D.aAM=>True)) a0 a1):Bt a0 a1=some (eX (a0.length) a1):=by
 obtain⟨h1,h3⟩:=h
 unfold Bt
 exact Fz h1.1 h3
theorem aEt (a0:D.aAK)(a1:Int)(h:gP D.aAK.ok a0 a1):Bu a0 a1=some (eX (a0.sz) a1):=by
 obtain⟨h1,h3⟩:=h
 unfold Bu
 have e:a0.sz=(a0.Notices.length):=by simp only[D.aAK.sz]<;>omega
 rw[e]
 rw[aD (show gP (jL (fun _:D.aAM=>True)) (a0.Notices) _ from⟨h1,h3⟩),bd_s]
 exact Ii h3
theorem aPb (a0:D.World)(a1:Int)(h:gP D.World.ok a0 a1):Oh a0 a1=some (eX (a0.sz) a1):=by
 obtain⟨h1,h3⟩:=h
 unfold Oh
 have e:a0.sz=((a0.Devices.length+(a0.Devices.map D.Device.sz).sum)+((a0.Stolen.length)+((a0.aAH.sz)+((a0.Sites.length+(a0.Sites.map D.Site.sz).sum)+((a0.Hosts.length+(a0.Hosts.map D.aAD.sz).sum)+(a0.Mail.sz)))))):=by simp only[D.aAH.sz,D.aAE.sz,D.aAK.sz,D.aAQ.sz,D.World.sz]<;>omega
 rw[e]
 rw[aD (show gP (jL D.Device.ok) (a0.Devices) _ from⟨h1.1,h3⟩),bd_s]
 refine aTm h3 (fun p1=> ?_)
 revert p1
 generalize eX (a0.Devices.length+(a0.Devices.map D.Device.sz).sum) a1=l1
 intro p1
 rw[aD (show gP (jL (fun _:Bool=>True)) (a0.Stolen) _ from⟨h1.2.1,p1⟩),bd_s]
 refine aTm p1 (fun p2=> ?_)
 revert p2
 generalize eX (a0.Stolen.length) l1=l2
 intro p2
 rw[aD (show gP D.aAH.ok (a0.aAH) _ from⟨h1.2.2.1,p2⟩),bd_s]
 refine aTm p2 (fun p3=> ?_)
 revert p3
 generalize eX (a0.aAH.sz) l2=l3
 intro p3
 rw[aD (show gP (jL D.Site.ok) (a0.Sites) _ from⟨h1.2.2.2.1,p3⟩),bd_s]
 refine aTm p3 (fun p4=> ?_)
 revert p4
 generalize eX (a0.Sites.length+(a0.Sites.map D.Site.sz).sum) l3=l4
 intro p4
 rw[aD (show gP (jL D.aAD.ok) (a0.Hosts) _ from⟨h1.2.2.2.2.1,p4⟩),bd_s]
 refine aTm p4 (fun p5=> ?_)
 revert p5
 generalize eX (a0.Hosts.length+(a0.Hosts.map D.aAD.sz).sum) l4=l5
 intro p5
 rw[aD (show gP D.aAK.ok (a0.Mail) _ from⟨h1.2.2.2.2.2,p5⟩),bd_s]
 exact Ii p5
theorem aAl (a0:D.aAI):yP a0=some (a0):=by
 unfold yP
 rfl
theorem aAm (a0:D.aAB):yQ a0=some (a0):=by
 unfold yQ
 rfl
theorem x8 (a0:List D.aAB)(h:a0.length≤1048576):vU a0=some (a0):=by
 unfold vU
 rw[aD (mV (by omega)),iI bT (by omega) (fun rec i out ho hi=>by
  simp only[bH hi,cond_true,aH hi,aH (show i<out.length by omega),bd_s,bT]) (fun rec out=>by simp only[bJ,cond_false])]
 rfl
theorem aPc (a0:D.Entry):Oi a0=some (a0):=by
 unfold Oi
 rfl
theorem aKc (a0:List D.Entry)(h:a0.length≤1048576):Ir a0=some (a0):=by
 unfold Ir
 rw[aD (mV (by omega)),iI bT (by omega) (fun rec i out ho hi=>by
  simp only[bH hi,cond_true,aH hi,aH (show i<out.length by omega),bd_s,bT]) (fun rec out=>by simp only[bJ,cond_false])]
 rfl
theorem aKd (a0:D.aAC)(h:a0.sz≤1048576):Iu a0=some (a0):=by
 unfold Iu
 simp only[D.aAC.sz] at h
 try simp only[bd_s]
 rw[aD (by first|omega|(simp only[D.aAC.sz];omega))]
 rfl
theorem aKe (a0:D.Device)(h:a0.sz≤1048576):Iw a0=some (a0):=by
 unfold Iw
 simp only[D.aAC.sz,D.Device.sz,D.aAI.sz] at h
 try simp only[bd_s]
 rw[aD (by first|omega|(simp only[D.aAC.sz,D.Device.sz,D.aAI.sz];omega))]
 try simp only[bd_s]
 rw[aD (by first|omega|(simp only[D.aAC.sz,D.Device.sz,D.aAI.sz];omega))]
 rfl
theorem aEu (a0:List D.Device)(h:a0.length+(a0.map D.Device.sz).sum≤1048576):Bv a0=some (a0):=by
 unfold Bv
 rw[aD (mV (by omega)),iI bT (by omega) (fun rec i out ho hi=>by
  have hz:=dP (f:=D.Device.sz) hi
  simp only[bH hi,cond_true,aH hi,aH (show i<out.length by omega),bd_s,bT,aD (show a0[i].sz≤1048576 by omega)]) (fun rec out=>by simp only[bJ,cond_false])]
 rfl
theorem aPd (a0:List Bool)(h:a0.length≤1048576):Oj a0=some (a0):=by
 unfold Oj
 rw[aD (mV (by omega)),iI bT (by omega) (fun rec i out ho hi=>by
  simp only[bH hi,cond_true,aH hi,aH (show i<out.length by omega),bd_s,bT]) (fun rec out=>by simp only[bJ,cond_false])]
 rfl
theorem aPe (a0:List Int)(h:a0.length≤1048576):Ol a0=some (a0):=by
 unfold Ol
 rw[aD (mV (by omega)),iI bT (by omega) (fun rec i out ho hi=>by
  simp only[bH hi,cond_true,aH hi,aH (show i<out.length by omega),bd_s,bT]) (fun rec out=>by simp only[bJ,cond_false])]
 rfl
theorem aX5 (a0:D.Box)(h:a0.sz≤1048576):aAe a0=some (a0):=by
 unfold aAe
 simp only[D.Box.sz] at h
 try simp only[bd_s]
 rw[aD (by first|omega|(simp only[D.Box.sz];omega))]
 rfl
theorem aTv (a0:List D.Box)(h:a0.length+(a0.map D.Box.sz).sum≤1048576):Yl a0=some (a0):=by
 unfold Yl
 rw[aD (mV (by omega)),iI bT (by omega) (fun rec i out ho hi=>by
  have hz:=dP (f:=D.Box.sz) hi
  simp only[bH hi,cond_true,aH hi,aH (show i<out.length by omega),bd_s,bT,aD (show a0[i].sz≤1048576 by omega)]) (fun rec out=>by simp only[bJ,cond_false])]
 rfl
theorem Ui (a0:D.aAE)(h:a0.sz≤1048576):tC a0=some (a0):=by
 unfold tC
 simp only[D.aAE.sz] at h
 try simp only[bd_s]
 rw[aD (by first|omega|(simp only[D.aAE.sz];omega))]
 rfl
theorem Kr (a0:D.aAA)(h:a0.sz≤1048576):pE a0=some (a0):=by
 unfold pE
 simp only[D.aAA.sz] at h
 try simp only[bd_s]
 rw[aD (by first|omega|(simp only[D.aAA.sz];omega))]
 rfl
theorem Gh (a0:List D.aAA)(h:a0.length+(a0.map D.aAA.sz).sum≤1048576):nW a0=some (a0):=by
 unfold nW
 rw[aD (mV (by omega)),iI bT (by omega) (fun rec i out ho hi=>by
  have hz:=dP (f:=D.aAA.sz) hi
  simp only[bH hi,cond_true,aH hi,aH (show i<out.length by omega),bd_s,bT,aD (show a0[i].sz≤1048576 by omega)]) (fun rec out=>by simp only[bJ,cond_false])]
 rfl
theorem aPf (a0:D.aAH)(h:a0.sz≤1048576):Om a0=some (a0):=by
 unfold Om
 simp only[D.aAH.sz,D.aAE.sz] at h
 try simp only[bd_s]
 rw[aD (by first|omega|(simp only[D.aAH.sz,D.aAE.sz];omega))]
 try simp only[bd_s]
 rw[aD (by first|omega|(simp only[D.aAH.sz,D.aAE.sz];omega))]
 try simp only[bd_s]
 rw[aD (by first|omega|(simp only[D.aAH.sz,D.aAE.sz];omega))]
 rfl
theorem Uj (a0:D.aAJ):tF a0=some (a0):=by
 unfold tF
 rfl
theorem Qu (a0:List D.aAJ)(h:a0.length≤1048576):rQ a0=some (a0):=by
 unfold rQ
 rw[aD (mV (by omega)),iI bT (by omega) (fun rec i out ho hi=>by
  simp only[bH hi,cond_true,aH hi,aH (show i<out.length by omega),bd_s,bT]) (fun rec out=>by simp only[bJ,cond_false])]
 rfl
theorem aEv (a0:D.aAG)(h:a0.sz≤1048576):Bw a0=some (a0):=by
 unfold Bw
 simp only[D.aAG.sz] at h
 try simp only[bd_s]
 rw[aD (by first|omega|(simp only[D.aAG.sz];omega))]
 rfl
theorem aAn (a0:List D.aAG)(h:a0.length+(a0.map D.aAG.sz).sum≤1048576):yR a0=some (a0):=by
 unfold yR
 rw[aD (mV (by omega)),iI bT (by omega) (fun rec i out ho hi=>by
  have hz:=dP (f:=D.aAG.sz) hi
  simp only[bH hi,cond_true,aH hi,aH (show i<out.length by omega),bd_s,bT,aD (show a0[i].sz≤1048576 by omega)]) (fun rec out=>by simp only[bJ,cond_false])]
 rfl
theorem x9 (a0:D.aAL):vV a0=some (a0):=by
 unfold vV
 rfl
theorem Uk (a0:List D.aAL)(h:a0.length≤1048576):tH a0=some (a0):=by
 unfold tH
 rw[aD (mV (by omega)),iI bT (by omega) (fun rec i out ho hi=>by
  simp only[bH hi,cond_true,aH hi,aH (show i<out.length by omega),bd_s,bT]) (fun rec out=>by simp only[bJ,cond_false])]
 rfl
theorem Gi (a0:D.aAF)(h:a0.sz≤1048576):nX a0=some (a0):=by
 unfold nX
 simp only[D.aAF.sz] at h
 try simp only[bd_s]
 rw[aD (by first|omega|(simp only[D.aAF.sz];omega))]
 rfl
theorem aTw (a0:List Int)(h:a0.length≤1048576):Ym a0=some (a0):=by
 unfold Ym
 rw[aD (mV (by omega)),iI bT (by omega) (fun rec i out ho hi=>by
  simp only[bH hi,cond_true,aH hi,aH (show i<out.length by omega),bd_s,bT]) (fun rec out=>by simp only[bJ,cond_false])]
 rfl
theorem aTx (a0:D.Site)(h:a0.sz≤1048576):Yo a0=some (a0):=by
 unfold Yo
 simp only[D.aAF.sz,D.Site.sz] at h
 try simp only[bd_s]
 rw[aD (by first|omega|(simp only[D.aAF.sz,D.Site.sz];omega))]
 try simp only[bd_s]
 rw[aD (by first|omega|(simp only[D.aAF.sz,D.Site.sz];omega))]
 try simp only[bd_s]
 rw[aD (by first|omega|(simp only[D.aAF.sz,D.Site.sz];omega))]
 rfl
theorem aPg (a0:List D.Site)(h:a0.length+(a0.map D.Site.sz).sum≤1048576):Oo a0=some (a0):=by
 unfold Oo
 rw[aD (mV (by omega)),iI bT (by omega) (fun rec i out ho hi=>by
  have hz:=dP (f:=D.Site.sz) hi
  simp only[bH hi,cond_true,aH hi,aH (show i<out.length by omega),bd_s,bT,aD (show a0[i].sz≤1048576 by omega)]) (fun rec out=>by simp only[bJ,cond_false])]
 rfl
theorem aPh (a0:D.aAQ):Oq a0=some (a0):=by
 unfold Oq
 rfl
theorem aPi (a0:D.aAO):Ot a0=some (a0):=by
 unfold Ot
 rfl
theorem aKf (a0:D.aAN):Iy a0=some (a0):=by
 unfold Iy
 rfl
theorem aEw (a0:List D.aAN)(h:a0.length≤1048576):Ca a0=some (a0):=by
 unfold Ca
 rw[aD (mV (by omega)),iI bT (by omega) (fun rec i out ho hi=>by
  simp only[bH hi,cond_true,aH hi,aH (show i<out.length by omega),bd_s,bT]) (fun rec out=>by simp only[bJ,cond_false])]
 rfl
theorem Ul (a0:D.aAD)(h:a0.sz≤1048576):tJ a0=some (a0):=by
 unfold tJ
 simp only[D.aAN.sz,D.aAD.sz,D.aAO.sz] at h
 try simp only[bd_s]
 rw[aD (by first|omega|(simp only[D.aAN.sz,D.aAD.sz,D.aAO.sz];omega))]
 rfl
theorem Qv (a0:List D.aAD)(h:a0.length+(a0.map D.aAD.sz).sum≤1048576):rR a0=some (a0):=by
 unfold rR
 rw[aD (mV (by omega)),iI bT (by omega) (fun rec i out ho hi=>by
  have hz:=dP (f:=D.aAD.sz) hi
  simp only[bH hi,cond_true,aH hi,aH (show i<out.length by omega),bd_s,bT,aD (show a0[i].sz≤1048576 by omega)]) (fun rec out=>by simp only[bJ,cond_false])]
 rfl
theorem aKg (a0:D.aAM):Iz a0=some (a0):=by
 unfold Iz
 rfl
theorem aEx (a0:List D.aAM)(h:a0.length≤1048576):Cb a0=some (a0):=by
 unfold Cb
 rw[aD (mV (by omega)),iI bT (by omega) (fun rec i out ho hi=>by
  simp only[bH hi,cond_true,aH hi,aH (show i<out.length by omega),bd_s,bT]) (fun rec out=>by simp only[bJ,cond_false])]
 rfl
theorem aEy (a0:D.aAK)(h:a0.sz≤1048576):Cc a0=some (a0):=by
 unfold Cc
 simp only[D.aAK.sz] at h
 try simp only[bd_s]
 rw[aD (by first|omega|(simp only[D.aAK.sz];omega))]
 rfl
theorem aPj (a0:D.World)(h:a0.sz≤1048576):Ou a0=some (a0):=by
 unfold Ou
 simp only[D.aAH.sz,D.aAE.sz,D.aAK.sz,D.aAQ.sz,D.World.sz] at h
 try simp only[bd_s]
 rw[aD (by first|omega|(simp only[D.aAH.sz,D.aAE.sz,D.aAK.sz,D.aAQ.sz,D.World.sz];omega))]
 try simp only[bd_s]
 rw[aD (by first|omega|(simp only[D.aAH.sz,D.aAE.sz,D.aAK.sz,D.aAQ.sz,D.World.sz];omega))]
 try simp only[bd_s]
 rw[aD (by first|omega|(simp only[D.aAH.sz,D.aAE.sz,D.aAK.sz,D.aAQ.sz,D.World.sz];omega))]
 try simp only[bd_s]
 rw[aD (by first|omega|(simp only[D.aAH.sz,D.aAE.sz,D.aAK.sz,D.aAQ.sz,D.World.sz];omega))]
 try simp only[bd_s]
 rw[aD (by first|omega|(simp only[D.aAH.sz,D.aAE.sz,D.aAK.sz,D.aAQ.sz,D.World.sz];omega))]
 try simp only[bd_s]
 rw[aD (by first|omega|(simp only[D.aAH.sz,D.aAE.sz,D.aAK.sz,D.aAQ.sz,D.World.sz];omega))]
 rfl
theorem aAo (a0:D.aAI)(a1:D.aAI)(h:eH (0) a0 a1):Aa a0 a1=some (true):=by
 obtain⟨rfl,hz⟩:=h
 unfold Aa
 simp only[beq_self_eq_true,bne_self_eq_false,Bool.not_true,Bool.not_false,cond_true,cond_false,bd_s,nx_r]
theorem aAp (a0:D.aAB)(a1:D.aAB)(h:eH (0) a0 a1):Ab a0 a1=some (true):=by
 obtain⟨rfl,hz⟩:=h
 unfold Ab
 simp only[beq_self_eq_true,bne_self_eq_false,Bool.not_true,Bool.not_false,cond_true,cond_false,bd_s,nx_r]
theorem y5 (a0:List D.aAB)(a1:List D.aAB)(h:eH (a0.length) a0 a1):xA a0 a1=some (true):=by
 obtain⟨rfl,hz⟩:=h
 unfold xA
 rw[mU (a:=a0) (by omega) (fun rec i hi=>by
  simp only[bH hi,aH hi,aD (show eH (0) a0[i] a0[i] from⟨rfl,by omega⟩),beq_self_eq_true,bne_self_eq_false,Bool.not_true,Bool.not_false,cond_true,cond_false,bd_s,nx_r]) (fun rec=>by simp only[bJ,cond_false])]
 simp only[beq_self_eq_true,bne_self_eq_false,Bool.not_true,Bool.not_false,cond_true,cond_false,bd_s,nx_r]
theorem aPk (a0:D.Entry)(a1:D.Entry)(h:eH (0) a0 a1):Qi a0 a1=some (true):=by
 obtain⟨rfl,hz⟩:=h
 unfold Qi
 simp only[beq_self_eq_true,bne_self_eq_false,Bool.not_true,Bool.not_false,cond_true,cond_false,bd_s,nx_r]
theorem aKh (a0:List D.Entry)(a1:List D.Entry)(h:eH (a0.length) a0 a1):Jq a0 a1=some (true):=by
 obtain⟨rfl,hz⟩:=h
 unfold Jq
 rw[mU (a:=a0) (by omega) (fun rec i hi=>by
  simp only[bH hi,aH hi,aD (show eH (0) a0[i] a0[i] from⟨rfl,by omega⟩),beq_self_eq_true,bne_self_eq_false,Bool.not_true,Bool.not_false,cond_true,cond_false,bd_s,nx_r]) (fun rec=>by simp only[bJ,cond_false])]
 simp only[beq_self_eq_true,bne_self_eq_false,Bool.not_true,Bool.not_false,cond_true,cond_false,bd_s,nx_r]
theorem aKi (a0:D.aAC)(a1:D.aAC)(h:eH (a0.sz) a0 a1):Jr a0 a1=some (true):=by
 obtain⟨rfl,hz⟩:=h
 unfold Jr
 simp only[D.aAC.sz] at hz
 simp only[beq_self_eq_true,bne_self_eq_false,Bool.not_true,Bool.not_false,cond_true,cond_false,bd_s,nx_r,aD (show eH (a0.Entries.length) a0.Entries a0.Entries from⟨rfl,by omega⟩)]
theorem aKj (a0:D.Device)(a1:D.Device)(h:eH (a0.sz) a0 a1):Js a0 a1=some (true):=by
 obtain⟨rfl,hz⟩:=h
 unfold Js
 simp only[D.aAC.sz,D.Device.sz,D.aAI.sz] at hz
 simp only[beq_self_eq_true,bne_self_eq_false,Bool.not_true,Bool.not_false,cond_true,cond_false,bd_s,nx_r,aD (show eH (0) a0.Store a0.Store from⟨rfl,by omega⟩),aD (show eH (a0.Log.length) a0.Log a0.Log from⟨rfl,by omega⟩),aD (show eH (a0.aAC.sz) a0.aAC a0.aAC from⟨rfl,by simp only[D.aAC.sz];omega⟩)]
theorem aEz (a0:List D.Device)(a1:List D.Device)(h:eH (a0.length+(a0.map D.Device.sz).sum) a0 a1):Dq a0 a1=some (true):=by
 obtain⟨rfl,hz⟩:=h
 unfold Dq
 rw[mU (a:=a0) (by omega) (fun rec i hi=>by
  have hs:=dP (f:=D.Device.sz) hi
  simp only[bH hi,aH hi,aD (show eH (a0[i].sz) a0[i] a0[i] from⟨rfl,by omega⟩),beq_self_eq_true,bne_self_eq_false,Bool.not_true,Bool.not_false,cond_true,cond_false,bd_s,nx_r]) (fun rec=>by simp only[bJ,cond_false])]
 simp only[beq_self_eq_true,bne_self_eq_false,Bool.not_true,Bool.not_false,cond_true,cond_false,bd_s,nx_r]
theorem aPl (a0:List Bool)(a1:List Bool)(h:eH (a0.length) a0 a1):Qj a0 a1=some (true):=by
 obtain⟨rfl,hz⟩:=h
 unfold Qj
 rw[mU (a:=a0) (by omega) (fun rec i hi=>by
  simp only[bH hi,aH hi,beq_self_eq_true,bne_self_eq_false,Bool.not_true,Bool.not_false,cond_true,cond_false,bd_s,nx_r]) (fun rec=>by simp only[bJ,cond_false])]
 simp only[beq_self_eq_true,bne_self_eq_false,Bool.not_true,Bool.not_false,cond_true,cond_false,bd_s,nx_r]
theorem aPm (a0:List Int)(a1:List Int)(h:eH (a0.length) a0 a1):Qk a0 a1=some (true):=by
 obtain⟨rfl,hz⟩:=h
 unfold Qk
 rw[mU (a:=a0) (by omega) (fun rec i hi=>by
  simp only[bH hi,aH hi,beq_self_eq_true,bne_self_eq_false,Bool.not_true,Bool.not_false,cond_true,cond_false,bd_s,nx_r]) (fun rec=>by simp only[bJ,cond_false])]
 simp only[beq_self_eq_true,bne_self_eq_false,Bool.not_true,Bool.not_false,cond_true,cond_false,bd_s,nx_r]
theorem aX6 (a0:D.Box)(a1:D.Box)(h:eH (a0.sz) a0 a1):aAj a0 a1=some (true):=by
 obtain⟨rfl,hz⟩:=h
 unfold aAj
 simp only[D.Box.sz] at hz
 simp only[beq_self_eq_true,bne_self_eq_false,Bool.not_true,Bool.not_false,cond_true,cond_false,bd_s,nx_r,aD (show eH (a0.Data.length) a0.Data a0.Data from⟨rfl,by omega⟩)]
theorem aTy (a0:List D.Box)(a1:List D.Box)(h:eH (a0.length+(a0.map D.Box.sz).sum) a0 a1):Zb a0 a1=some (true):=by
 obtain⟨rfl,hz⟩:=h
 unfold Zb
 rw[mU (a:=a0) (by omega) (fun rec i hi=>by
  have hs:=dP (f:=D.Box.sz) hi
  simp only[bH hi,aH hi,aD (show eH (a0[i].sz) a0[i] a0[i] from⟨rfl,by omega⟩),beq_self_eq_true,bne_self_eq_false,Bool.not_true,Bool.not_false,cond_true,cond_false,bd_s,nx_r]) (fun rec=>by simp only[bJ,cond_false])]
 simp only[beq_self_eq_true,bne_self_eq_false,Bool.not_true,Bool.not_false,cond_true,cond_false,bd_s,nx_r]
theorem Um (a0:D.aAE)(a1:D.aAE)(h:eH (a0.sz) a0 a1):uF a0 a1=some (true):=by
 obtain⟨rfl,hz⟩:=h
 unfold uF
 simp only[D.aAE.sz] at hz
 simp only[beq_self_eq_true,bne_self_eq_false,Bool.not_true,Bool.not_false,cond_true,cond_false,bd_s,nx_r,aD (show eH (a0.Boxes.length+(a0.Boxes.map D.Box.sz).sum) a0.Boxes a0.Boxes from⟨rfl,by omega⟩)]
theorem Kt (a0:D.aAA)(a1:D.aAA)(h:eH (a0.sz) a0 a1):pU a0 a1=some (true):=by
 obtain⟨rfl,hz⟩:=h
 unfold pU
 simp only[D.aAA.sz] at hz
 simp only[beq_self_eq_true,bne_self_eq_false,Bool.not_true,Bool.not_false,cond_true,cond_false,bd_s,nx_r,aD (show eH (a0.Data.length) a0.Data a0.Data from⟨rfl,by omega⟩)]
theorem Gj (a0:List D.aAA)(a1:List D.aAA)(h:eH (a0.length+(a0.map D.aAA.sz).sum) a0 a1):oD a0 a1=some (true):=by
 obtain⟨rfl,hz⟩:=h
 unfold oD
 rw[mU (a:=a0) (by omega) (fun rec i hi=>by
  have hs:=dP (f:=D.aAA.sz) hi
  simp only[bH hi,aH hi,aD (show eH (a0[i].sz) a0[i] a0[i] from⟨rfl,by omega⟩),beq_self_eq_true,bne_self_eq_false,Bool.not_true,Bool.not_false,cond_true,cond_false,bd_s,nx_r]) (fun rec=>by simp only[bJ,cond_false])]
 simp only[beq_self_eq_true,bne_self_eq_false,Bool.not_true,Bool.not_false,cond_true,cond_false,bd_s,nx_r]
theorem aPn (a0:D.aAH)(a1:D.aAH)(h:eH (a0.sz) a0 a1):Ql a0 a1=some (true):=by
 obtain⟨rfl,hz⟩:=h
 unfold Ql
 simp only[D.aAH.sz,D.aAE.sz] at hz
 simp only[beq_self_eq_true,bne_self_eq_false,Bool.not_true,Bool.not_false,cond_true,cond_false,bd_s,nx_r,aD (show eH (a0.Log.length) a0.Log a0.Log from⟨rfl,by omega⟩),aD (show eH (a0.Boxes.sz) a0.Boxes a0.Boxes from⟨rfl,by simp only[D.aAE.sz];omega⟩),aD (show eH (a0.History.length+(a0.History.map D.aAA.sz).sum) a0.History a0.History from⟨rfl,by omega⟩)]
theorem Uo (a0:D.aAJ)(a1:D.aAJ)(h:eH (0) a0 a1):uG a0 a1=some (true):=by
 obtain⟨rfl,hz⟩:=h
 unfold uG
 simp only[beq_self_eq_true,bne_self_eq_false,Bool.not_true,Bool.not_false,cond_true,cond_false,bd_s,nx_r]
theorem Qw (a0:List D.aAJ)(a1:List D.aAJ)(h:eH (a0.length) a0 a1):rX a0 a1=some (true):=by
 obtain⟨rfl,hz⟩:=h
 unfold rX
 rw[mU (a:=a0) (by omega) (fun rec i hi=>by
  simp only[bH hi,aH hi,aD (show eH (0) a0[i] a0[i] from⟨rfl,by omega⟩),beq_self_eq_true,bne_self_eq_false,Bool.not_true,Bool.not_false,cond_true,cond_false,bd_s,nx_r]) (fun rec=>by simp only[bJ,cond_false])]
 simp only[beq_self_eq_true,bne_self_eq_false,Bool.not_true,Bool.not_false,cond_true,cond_false,bd_s,nx_r]
theorem aE0 (a0:D.aAG)(a1:D.aAG)(h:eH (a0.sz) a0 a1):Dt a0 a1=some (true):=by
 obtain⟨rfl,hz⟩:=h
 unfold Dt
 simp only[D.aAG.sz] at hz
 simp only[beq_self_eq_true,bne_self_eq_false,Bool.not_true,Bool.not_false,cond_true,cond_false,bd_s,nx_r,aD (show eH (a0.Credentials.length) a0.Credentials a0.Credentials from⟨rfl,by omega⟩)]
theorem aAq (a0:List D.aAG)(a1:List D.aAG)(h:eH (a0.length+(a0.map D.aAG.sz).sum) a0 a1):Ac a0 a1=some (true):=by
 obtain⟨rfl,hz⟩:=h
 unfold Ac
 rw[mU (a:=a0) (by omega) (fun rec i hi=>by
  have hs:=dP (f:=D.aAG.sz) hi
  simp only[bH hi,aH hi,aD (show eH (a0[i].sz) a0[i] a0[i] from⟨rfl,by omega⟩),beq_self_eq_true,bne_self_eq_false,Bool.not_true,Bool.not_false,cond_true,cond_false,bd_s,nx_r]) (fun rec=>by simp only[bJ,cond_false])]
 simp only[beq_self_eq_true,bne_self_eq_false,Bool.not_true,Bool.not_false,cond_true,cond_false,bd_s,nx_r]
theorem y7 (a0:D.aAL)(a1:D.aAL)(h:eH (0) a0 a1):xB a0 a1=some (true):=by
 obtain⟨rfl,hz⟩:=h
 unfold xB
 simp only[beq_self_eq_true,bne_self_eq_false,Bool.not_true,Bool.not_false,cond_true,cond_false,bd_s,nx_r]
theorem Uq (a0:List D.aAL)(a1:List D.aAL)(h:eH (a0.length) a0 a1):uH a0 a1=some (true):=by
 obtain⟨rfl,hz⟩:=h
 unfold uH
 rw[mU (a:=a0) (by omega) (fun rec i hi=>by
  simp only[bH hi,aH hi,aD (show eH (0) a0[i] a0[i] from⟨rfl,by omega⟩),beq_self_eq_true,bne_self_eq_false,Bool.not_true,Bool.not_false,cond_true,cond_false,bd_s,nx_r]) (fun rec=>by simp only[bJ,cond_false])]
 simp only[beq_self_eq_true,bne_self_eq_false,Bool.not_true,Bool.not_false,cond_true,cond_false,bd_s,nx_r]
theorem Gl (a0:D.aAF)(a1:D.aAF)(h:eH (a0.sz) a0 a1):oF a0 a1=some (true):=by
 obtain⟨rfl,hz⟩:=h
 unfold oF
 simp only[D.aAF.sz] at hz
 simp only[beq_self_eq_true,bne_self_eq_false,Bool.not_true,Bool.not_false,cond_true,cond_false,bd_s,nx_r,aD (show eH (a0.Open.length) a0.Open a0.Open from⟨rfl,by omega⟩)]
theorem aTz (a0:List Int)(a1:List Int)(h:eH (a0.length) a0 a1):Zc a0 a1=some (true):=by
 obtain⟨rfl,hz⟩:=h
 unfold Zc
 rw[mU (a:=a0) (by omega) (fun rec i hi=>by
  simp only[bH hi,aH hi,beq_self_eq_true,bne_self_eq_false,Bool.not_true,Bool.not_false,cond_true,cond_false,bd_s,nx_r]) (fun rec=>by simp only[bJ,cond_false])]
 simp only[beq_self_eq_true,bne_self_eq_false,Bool.not_true,Bool.not_false,cond_true,cond_false,bd_s,nx_r]
theorem aT0 (a0:D.Site)(a1:D.Site)(h:eH (a0.sz) a0 a1):Zd a0 a1=some (true):=by
 obtain⟨rfl,hz⟩:=h
 unfold Zd
 simp only[D.aAF.sz,D.Site.sz] at hz
 simp only[beq_self_eq_true,bne_self_eq_false,Bool.not_true,Bool.not_false,cond_true,cond_false,bd_s,nx_r,aD (show eH (a0.Accounts.length+(a0.Accounts.map D.aAG.sz).sum) a0.Accounts a0.Accounts from⟨rfl,by omega⟩),aD (show eH (a0.Book.sz) a0.Book a0.Book from⟨rfl,by simp only[D.aAF.sz];omega⟩),aD (show eH (a0.Logins.length) a0.Logins a0.Logins from⟨rfl,by omega⟩)]
theorem aPo (a0:List D.Site)(a1:List D.Site)(h:eH (a0.length+(a0.map D.Site.sz).sum) a0 a1):Qm a0 a1=some (true):=by
 obtain⟨rfl,hz⟩:=h
 unfold Qm
 rw[mU (a:=a0) (by omega) (fun rec i hi=>by
  have hs:=dP (f:=D.Site.sz) hi
  simp only[bH hi,aH hi,aD (show eH (a0[i].sz) a0[i] a0[i] from⟨rfl,by omega⟩),beq_self_eq_true,bne_self_eq_false,Bool.not_true,Bool.not_false,cond_true,cond_false,bd_s,nx_r]) (fun rec=>by simp only[bJ,cond_false])]
 simp only[beq_self_eq_true,bne_self_eq_false,Bool.not_true,Bool.not_false,cond_true,cond_false,bd_s,nx_r]
theorem aPp (a0:D.aAQ)(a1:D.aAQ)(h:eH (0) a0 a1):Qn a0 a1=some (true):=by
 obtain⟨rfl,hz⟩:=h
 unfold Qn
 simp only[beq_self_eq_true,bne_self_eq_false,Bool.not_true,Bool.not_false,cond_true,cond_false,bd_s,nx_r]
theorem aPq (a0:D.aAO)(a1:D.aAO)(h:eH (0) a0 a1):Qo a0 a1=some (true):=by
 obtain⟨rfl,hz⟩:=h
 unfold Qo
 simp only[beq_self_eq_true,bne_self_eq_false,Bool.not_true,Bool.not_false,cond_true,cond_false,bd_s,nx_r]
theorem aKk (a0:D.aAN)(a1:D.aAN)(h:eH (0) a0 a1):Jt a0 a1=some (true):=by
 obtain⟨rfl,hz⟩:=h
 unfold Jt
 simp only[beq_self_eq_true,bne_self_eq_false,Bool.not_true,Bool.not_false,cond_true,cond_false,bd_s,nx_r,aD (show eH (0) a0.aAO a0.aAO from⟨rfl,by omega⟩)]
theorem aE1 (a0:List D.aAN)(a1:List D.aAN)(h:eH (a0.length) a0 a1):Du a0 a1=some (true):=by
 obtain⟨rfl,hz⟩:=h
 unfold Du
 rw[mU (a:=a0) (by omega) (fun rec i hi=>by
  simp only[bH hi,aH hi,aD (show eH (0) a0[i] a0[i] from⟨rfl,by omega⟩),beq_self_eq_true,bne_self_eq_false,Bool.not_true,Bool.not_false,cond_true,cond_false,bd_s,nx_r]) (fun rec=>by simp only[bJ,cond_false])]
 simp only[beq_self_eq_true,bne_self_eq_false,Bool.not_true,Bool.not_false,cond_true,cond_false,bd_s,nx_r]
theorem Ur (a0:D.aAD)(a1:D.aAD)(h:eH (a0.sz) a0 a1):uI a0 a1=some (true):=by
 obtain⟨rfl,hz⟩:=h
 unfold uI
 simp only[D.aAN.sz,D.aAD.sz,D.aAO.sz] at hz
 simp only[beq_self_eq_true,bne_self_eq_false,Bool.not_true,Bool.not_false,cond_true,cond_false,bd_s,nx_r,aD (show eH (0) a0.State a0.State from⟨rfl,by omega⟩),aD (show eH (a0.Saved.length) a0.Saved a0.Saved from⟨rfl,by omega⟩)]
theorem Qx (a0:List D.aAD)(a1:List D.aAD)(h:eH (a0.length+(a0.map D.aAD.sz).sum) a0 a1):rY a0 a1=some (true):=by
 obtain⟨rfl,hz⟩:=h
 unfold rY
 rw[mU (a:=a0) (by omega) (fun rec i hi=>by
  have hs:=dP (f:=D.aAD.sz) hi
  simp only[bH hi,aH hi,aD (show eH (a0[i].sz) a0[i] a0[i] from⟨rfl,by omega⟩),beq_self_eq_true,bne_self_eq_false,Bool.not_true,Bool.not_false,cond_true,cond_false,bd_s,nx_r]) (fun rec=>by simp only[bJ,cond_false])]
 simp only[beq_self_eq_true,bne_self_eq_false,Bool.not_true,Bool.not_false,cond_true,cond_false,bd_s,nx_r]
theorem aKl (a0:D.aAM)(a1:D.aAM)(h:eH (0) a0 a1):Ju a0 a1=some (true):=by
 obtain⟨rfl,hz⟩:=h
 unfold Ju
 simp only[beq_self_eq_true,bne_self_eq_false,Bool.not_true,Bool.not_false,cond_true,cond_false,bd_s,nx_r]
theorem aE2 (a0:List D.aAM)(a1:List D.aAM)(h:eH (a0.length) a0 a1):Dv a0 a1=some (true):=by
 obtain⟨rfl,hz⟩:=h
 unfold Dv
 rw[mU (a:=a0) (by omega) (fun rec i hi=>by
  simp only[bH hi,aH hi,aD (show eH (0) a0[i] a0[i] from⟨rfl,by omega⟩),beq_self_eq_true,bne_self_eq_false,Bool.not_true,Bool.not_false,cond_true,cond_false,bd_s,nx_r]) (fun rec=>by simp only[bJ,cond_false])]
 simp only[beq_self_eq_true,bne_self_eq_false,Bool.not_true,Bool.not_false,cond_true,cond_false,bd_s,nx_r]
theorem aE3 (a0:D.aAK)(a1:D.aAK)(h:eH (a0.sz) a0 a1):Dw a0 a1=some (true):=by
 obtain⟨rfl,hz⟩:=h
 unfold Dw
 simp only[D.aAK.sz] at hz
 simp only[beq_self_eq_true,bne_self_eq_false,Bool.not_true,Bool.not_false,cond_true,cond_false,bd_s,nx_r,aD (show eH (a0.Notices.length) a0.Notices a0.Notices from⟨rfl,by omega⟩)]
theorem aPr (a0:D.World)(a1:D.World)(h:eH (a0.sz) a0 a1):Qp a0 a1=some (true):=by
 obtain⟨rfl,hz⟩:=h
 unfold Qp
 simp only[D.aAH.sz,D.aAE.sz,D.aAK.sz,D.aAQ.sz,D.World.sz] at hz
 simp only[beq_self_eq_true,bne_self_eq_false,Bool.not_true,Bool.not_false,cond_true,cond_false,bd_s,nx_r,aD (show eH (a0.Devices.length+(a0.Devices.map D.Device.sz).sum) a0.Devices a0.Devices from⟨rfl,by omega⟩),aD (show eH (a0.Stolen.length) a0.Stolen a0.Stolen from⟨rfl,by omega⟩),aD (show eH (a0.aAH.sz) a0.aAH a0.aAH from⟨rfl,by simp only[D.aAH.sz,D.aAE.sz];omega⟩),aD (show eH (a0.Sites.length+(a0.Sites.map D.Site.sz).sum) a0.Sites a0.Sites from⟨rfl,by omega⟩),aD (show eH (0) a0.aAQ a0.aAQ from⟨rfl,by omega⟩),aD (show eH (a0.Hosts.length+(a0.Hosts.map D.aAD.sz).sum) a0.Hosts a0.Hosts from⟨rfl,by omega⟩),aD (show eH (a0.Mail.sz) a0.Mail a0.Mail from⟨rfl,by simp only[D.aAK.sz];omega⟩)]
theorem Qy (a0:List D.aAB)(a1:Int)(h:jS (a0.length) (aG aI a0) a1):rZ a0 a1=some (bL aX a0 a1):=by
 obtain⟨hs,h0,h1⟩:=h
 unfold rZ
 rw[iJ fF h0 h1 (by omega) (fun rec k i l hi hi0 hx hk0 hk1=>by
  unfold aI at hk1
  obtain⟨k0,q0⟩:∃z,z=IntKind.i64.wrap (k+1):=⟨_,rfl⟩
  have g0:k0=k+1:=q0.trans (aM (by omega) (by omega))
  obtain⟨k1,q1⟩:∃z,z=IntKind.i64.wrap (k0+1):=⟨_,rfl⟩
  have g1:k1=k0+1:=q1.trans (aM (by omega) (by omega))
  obtain⟨k2,q2⟩:∃z,z=IntKind.i64.wrap (k1+1):=⟨_,rfl⟩
  have g2:k2=k1+1:=q2.trans (aM (by omega) (by omega))
  obtain⟨k3,q3⟩:∃z,z=IntKind.i64.wrap (k2+1):=⟨_,rfl⟩
  have g3:k3=k2+1:=q3.trans (aM (by omega) (by omega))
  obtain⟨k4,q4⟩:∃z,z=IntKind.i64.wrap (k3+1):=⟨_,rfl⟩
  have g4:k4=k3+1:=q4.trans (aM (by omega) (by omega))
  obtain⟨k5,q5⟩:∃z,z=IntKind.i64.wrap (k4+1):=⟨_,rfl⟩
  have g5:k5=k4+1:=q5.trans (aM (by omega) (by omega))
  simp only[bH hi,cond_true,aH hi,hx,mO hi,aH (show i<(l.set i _).length by simpa using hi),List.set_set,List.getElem_set_self,bd_s,bT,dW,gd_T,aX,←q0,←q1,←q2,←q3,←q4,←q5]) (fun rec k l=>by simp only[bJ,cond_false])]
 rfl
theorem aAr (a0:List D.Entry)(a1:Int)(h:jS (a0.length) (aG dL a0) a1):Ad a0 a1=some (bL gB a0 a1):=by
 obtain⟨hs,h0,h1⟩:=h
 unfold Ad
 rw[iJ sD h0 h1 (by omega) (fun rec k i l hi hi0 hx hk0 hk1=>by
  unfold dL at hk1
  obtain⟨k0,q0⟩:∃z,z=IntKind.i64.wrap (k+1):=⟨_,rfl⟩
  have g0:k0=k+1:=q0.trans (aM (by omega) (by omega))
  obtain⟨k1,q1⟩:∃z,z=IntKind.i64.wrap (k0+1):=⟨_,rfl⟩
  have g1:k1=k0+1:=q1.trans (aM (by omega) (by omega))
  obtain⟨k2,q2⟩:∃z,z=IntKind.i64.wrap (k1+1):=⟨_,rfl⟩
  have g2:k2=k1+1:=q2.trans (aM (by omega) (by omega))
  obtain⟨k3,q3⟩:∃z,z=IntKind.i64.wrap (k2+1):=⟨_,rfl⟩
  have g3:k3=k2+1:=q3.trans (aM (by omega) (by omega))
  simp only[bH hi,cond_true,aH hi,hx,mO hi,aH (show i<(l.set i _).length by simpa using hi),List.set_set,List.getElem_set_self,bd_s,bT,dW,gd_T,gB,←q0,←q1,←q2,←q3]) (fun rec k l=>by simp only[bJ,cond_false])]
 rfl
theorem y9 (a0:List D.Device)(a1:Int)(h:jS (a0.length+(a0.map D.Device.sz).sum) (aG aT a0) a1):xC a0 a1=some (bL cK a0 a1):=by
 obtain⟨hs,h0,h1⟩:=h
 unfold xC
 rw[iJ oG h0 h1 (by omega) (fun rec k i l hi hi0 hx hk0 hk1=>by
  have hz:=dP (f:=D.Device.sz) hi0
  simp only[D.aAC.sz,D.Device.sz,D.aAI.sz] at hz
  unfold aT at hk1
  obtain⟨k0,q0⟩:∃z,z=IntKind.i64.wrap (k+1):=⟨_,rfl⟩
  have g0:k0=k+1:=q0.trans (aM (by omega) (by omega))
  obtain⟨k1,q1⟩:∃z,z=IntKind.i64.wrap (k0+1):=⟨_,rfl⟩
  have g1:k1=k0+1:=q1.trans (aM (by omega) (by omega))
  obtain⟨k2,q2⟩:∃z,z=IntKind.i64.wrap (k1+1):=⟨_,rfl⟩
  have g2:k2=k1+1:=q2.trans (aM (by omega) (by omega))
  obtain⟨k3,q3⟩:∃z,z=IntKind.i64.wrap (k2+1):=⟨_,rfl⟩
  have g3:k3=k2+1:=q3.trans (aM (by omega) (by omega))
  have p4:jS (a0[i].Log.length) (aG aI a0[i].Log) k3:=⟨by omega,by omega,by omega⟩
  have f4:=bP fF a0[i].Log k3 (by omega) (by omega)
  obtain⟨k4,q4⟩:∃z,z=(bL aX a0[i].Log k3).2:=⟨_,rfl⟩
  have g4:k4=k3+aG aI a0[i].Log:=q4.trans f4.1
  obtain⟨k5,q5⟩:∃z,z=IntKind.i64.wrap (k4+1):=⟨_,rfl⟩
  have g5:k5=k4+1:=q5.trans (aM (by omega) (by omega))
  obtain⟨k6,q6⟩:∃z,z=IntKind.i64.wrap (k5+1):=⟨_,rfl⟩
  have g6:k6=k5+1:=q6.trans (aM (by omega) (by omega))
  obtain⟨k7,q7⟩:∃z,z=IntKind.i64.wrap (k6+1):=⟨_,rfl⟩
  have g7:k7=k6+1:=q7.trans (aM (by omega) (by omega))
  have p8:jS (a0[i].aAC.Entries.length) (aG dL a0[i].aAC.Entries) k7:=⟨by omega,by omega,by omega⟩
  have f8:=bP sD a0[i].aAC.Entries k7 (by omega) (by omega)
  obtain⟨k8,q8⟩:∃z,z=(bL gB a0[i].aAC.Entries k7).2:=⟨_,rfl⟩
  have g8:k8=k7+aG dL a0[i].aAC.Entries:=q8.trans f8.1
  simp only[bH hi,cond_true,aH hi,hx,mO hi,aH (show i<(l.set i _).length by simpa using hi),List.set_set,List.getElem_set_self,bd_s,bT,dW,gd_T,cK,←q0,←q1,←q2,←q3,←q4,←q5,←q6,←q7,←q8,aD p4,aD p8]) (fun rec k l=>by simp only[bJ,cond_false])]
 rfl
theorem aE4 (a0:List Bool)(a1:Int)(h:jS (a0.length) (aG fP a0) a1):Dx a0 a1=some (bL mkB a0 a1):=by
 obtain⟨hs,h0,h1⟩:=h
 unfold Dx
 rw[iJ aOz h0 h1 (by omega) (fun rec k i l hi hi0 hx hk0 hk1=>by
  simp only[bH hi,cond_true,aH hi,bd_s,bT,dW,gd_T,mkB]) (fun rec k l=>by simp only[bJ,cond_false])]
 rfl
theorem aE5 (a0:List Int)(a1:Int)(h:jS (a0.length) (aG fP a0) a1):Dy a0 a1=some (bL mkU a0 a1):=by
 obtain⟨hs,h0,h1⟩:=h
 unfold Dy
 rw[iJ Oa h0 h1 (by omega) (fun rec k i l hi hi0 hx hk0 hk1=>by
  simp only[bH hi,cond_true,aH hi,bd_s,bT,dW,gd_T,mkU]) (fun rec k l=>by simp only[bJ,cond_false])]
 rfl
theorem aKm (a0:List D.Box)(a1:Int)(h:jS (a0.length+(a0.map D.Box.sz).sum) (aG eU a0) a1):Jv a0 a1=some (bL fG a0 a1):=by
 obtain⟨hs,h0,h1⟩:=h
 unfold Jv
 rw[iJ lT h0 h1 (by omega) (fun rec k i l hi hi0 hx hk0 hk1=>by
  have hz:=dP (f:=D.Box.sz) hi0
  simp only[D.Box.sz] at hz
  unfold eU at hk1
  obtain⟨k0,q0⟩:∃z,z=IntKind.i64.wrap (k+1):=⟨_,rfl⟩
  have g0:k0=k+1:=q0.trans (aM (by omega) (by omega))
  obtain⟨k1,q1⟩:∃z,z=IntKind.i64.wrap (k0+1):=⟨_,rfl⟩
  have g1:k1=k0+1:=q1.trans (aM (by omega) (by omega))
  have p2:jS (a0[i].Data.length) (aG fP a0[i].Data) k1:=⟨by omega,by omega,by omega⟩
  have f2:=bP Oa a0[i].Data k1 (by omega) (by omega)
  obtain⟨k2,q2⟩:∃z,z=(bL mkU a0[i].Data k1).2:=⟨_,rfl⟩
  have g2:k2=k1+aG fP a0[i].Data:=q2.trans f2.1
  obtain⟨k3,q3⟩:∃z,z=IntKind.i64.wrap (k2+1):=⟨_,rfl⟩
  have g3:k3=k2+1:=q3.trans (aM (by omega) (by omega))
  simp only[bH hi,cond_true,aH hi,hx,mO hi,aH (show i<(l.set i _).length by simpa using hi),List.set_set,List.getElem_set_self,bd_s,bT,dW,gd_T,fG,←q0,←q1,←q2,←q3,aD p2]) (fun rec k l=>by simp only[bJ,cond_false])]
 rfl
theorem Ku (a0:D.aAE)(a1:Int)(h:jS (a0.sz) (aQ a0) a1):pV a0 a1=some (dS a0 a1):=by
 obtain⟨hs,h0,h1⟩:=h
 unfold aQ at h1
 simp only[D.aAE.sz] at hs
 unfold pV dS
 rw[aD (show jS _ _ _ from⟨by omega,by omega,by omega⟩)]
 have f0:=bP lT a0.Boxes a1 (by omega) (by omega)
 obtain⟨k0,q0⟩:∃z,z=(bL fG a0.Boxes a1).2:=⟨_,rfl⟩
 have g0:k0=a1+aG eU a0.Boxes:=q0.trans f0.1
 simp only[bd_s,←q0]
theorem Ap (a0:List D.aAA)(a1:Int)(h:jS (a0.length+(a0.map D.aAA.sz).sum) (aG aO a0) a1):mJ a0 a1=some (bL bE a0 a1):=by
 obtain⟨hs,h0,h1⟩:=h
 unfold mJ
 rw[iJ fH h0 h1 (by omega) (fun rec k i l hi hi0 hx hk0 hk1=>by
  have hz:=dP (f:=D.aAA.sz) hi0
  simp only[D.aAA.sz] at hz
  unfold aO at hk1
  obtain⟨k0,q0⟩:∃z,z=IntKind.i64.wrap (k+1):=⟨_,rfl⟩
  have g0:k0=k+1:=q0.trans (aM (by omega) (by omega))
  obtain⟨k1,q1⟩:∃z,z=IntKind.i64.wrap (k0+1):=⟨_,rfl⟩
  have g1:k1=k0+1:=q1.trans (aM (by omega) (by omega))
  have p2:jS (a0[i].Data.length) (aG fP a0[i].Data) k1:=⟨by omega,by omega,by omega⟩
  have f2:=bP Oa a0[i].Data k1 (by omega) (by omega)
  obtain⟨k2,q2⟩:∃z,z=(bL mkU a0[i].Data k1).2:=⟨_,rfl⟩
  have g2:k2=k1+aG fP a0[i].Data:=q2.trans f2.1
  obtain⟨k3,q3⟩:∃z,z=IntKind.i64.wrap (k2+1):=⟨_,rfl⟩
  have g3:k3=k2+1:=q3.trans (aM (by omega) (by omega))
  simp only[bH hi,cond_true,aH hi,hx,mO hi,aH (show i<(l.set i _).length by simpa using hi),List.set_set,List.getElem_set_self,bd_s,bT,dW,gd_T,bE,←q0,←q1,←q2,←q3,aD p2]) (fun rec k l=>by simp only[bJ,cond_false])]
 rfl
theorem aE6 (a0:D.aAH)(a1:Int)(h:jS (a0.sz) (bB a0) a1):Dz a0 a1=some (gX a0 a1):=by
 obtain⟨hs,h0,h1⟩:=h
 unfold bB at h1
 simp only[D.aAH.sz,D.aAE.sz] at hs
 unfold Dz gX
 rw[aD (show jS _ _ _ from⟨by omega,by omega,by omega⟩)]
 have f0:=bP fF a0.Log a1 (by omega) (by omega)
 obtain⟨k0,q0⟩:∃z,z=(bL aX a0.Log a1).2:=⟨_,rfl⟩
 have g0:k0=a1+aG aI a0.Log:=q0.trans f0.1
 simp only[bd_s,←q0]
 rw[aD (show jS _ _ _ from⟨by simp only[D.aAE.sz];omega,by omega,by unfold aQ;omega⟩)]
 simp only[bd_s,dS]
 have f1:=bP lT a0.Boxes.Boxes k0 (by omega) (by omega)
 obtain⟨k1,q1⟩:∃z,z=(bL fG a0.Boxes.Boxes k0).2:=⟨_,rfl⟩
 have g1:k1=k0+aG eU a0.Boxes.Boxes:=q1.trans f1.1
 simp only[←q1]
 rw[aD (show jS _ _ _ from⟨by omega,by omega,by omega⟩)]
 have f2:=bP fH a0.History k1 (by omega) (by omega)
 obtain⟨k2,q2⟩:∃z,z=(bL bE a0.History k1).2:=⟨_,rfl⟩
 have g2:k2=k1+aG aO a0.History:=q2.trans f2.1
 simp only[bd_s,←q2]
theorem Gm (a0:List D.aAJ)(a1:Int)(h:jS (a0.length) (aG bD a0) a1):oH a0 a1=some (bL cO a0 a1):=by
 obtain⟨hs,h0,h1⟩:=h
 unfold oH
 rw[iJ jN h0 h1 (by omega) (fun rec k i l hi hi0 hx hk0 hk1=>by
  unfold bD at hk1
  obtain⟨k0,q0⟩:∃z,z=IntKind.i64.wrap (k+1):=⟨_,rfl⟩
  have g0:k0=k+1:=q0.trans (aM (by omega) (by omega))
  obtain⟨k1,q1⟩:∃z,z=IntKind.i64.wrap (k0+1):=⟨_,rfl⟩
  have g1:k1=k0+1:=q1.trans (aM (by omega) (by omega))
  obtain⟨k2,q2⟩:∃z,z=IntKind.i64.wrap (k1+1):=⟨_,rfl⟩
  have g2:k2=k1+1:=q2.trans (aM (by omega) (by omega))
  obtain⟨k3,q3⟩:∃z,z=IntKind.i64.wrap (k2+1):=⟨_,rfl⟩
  have g3:k3=k2+1:=q3.trans (aM (by omega) (by omega))
  simp only[bH hi,cond_true,aH hi,hx,mO hi,aH (show i<(l.set i _).length by simpa using hi),List.set_set,List.getElem_set_self,bd_s,bT,dW,gd_T,cO,←q0,←q1,←q2,←q3]) (fun rec k l=>by simp only[bJ,cond_false])]
 rfl
theorem Ut (a0:List D.aAG)(a1:Int)(h:jS (a0.length+(a0.map D.aAG.sz).sum) (aG aS a0) a1):uJ a0 a1=some (bL dO a0 a1):=by
 obtain⟨hs,h0,h1⟩:=h
 unfold uJ
 rw[iJ mK h0 h1 (by omega) (fun rec k i l hi hi0 hx hk0 hk1=>by
  have hz:=dP (f:=D.aAG.sz) hi0
  simp only[D.aAG.sz] at hz
  unfold aS at hk1
  obtain⟨k0,q0⟩:∃z,z=IntKind.i64.wrap (k+1):=⟨_,rfl⟩
  have g0:k0=k+1:=q0.trans (aM (by omega) (by omega))
  obtain⟨k1,q1⟩:∃z,z=IntKind.i64.wrap (k0+1):=⟨_,rfl⟩
  have g1:k1=k0+1:=q1.trans (aM (by omega) (by omega))
  have p2:jS (a0[i].Credentials.length) (aG bD a0[i].Credentials) k1:=⟨by omega,by omega,by omega⟩
  have f2:=bP jN a0[i].Credentials k1 (by omega) (by omega)
  obtain⟨k2,q2⟩:∃z,z=(bL cO a0[i].Credentials k1).2:=⟨_,rfl⟩
  have g2:k2=k1+aG bD a0[i].Credentials:=q2.trans f2.1
  simp only[bH hi,cond_true,aH hi,hx,mO hi,aH (show i<(l.set i _).length by simpa using hi),List.set_set,List.getElem_set_self,bd_s,bT,dW,gd_T,dO,←q0,←q1,←q2,aD p2]) (fun rec k l=>by simp only[bJ,cond_false])]
 rfl
theorem Kv (a0:List D.aAL)(a1:Int)(h:jS (a0.length) (aG aZ a0) a1):pW a0 a1=some (bL dF a0 a1):=by
 obtain⟨hs,h0,h1⟩:=h
 unfold pW
 rw[iJ kF h0 h1 (by omega) (fun rec k i l hi hi0 hx hk0 hk1=>by
  unfold aZ at hk1
  obtain⟨k0,q0⟩:∃z,z=IntKind.i64.wrap (k+1):=⟨_,rfl⟩
  have g0:k0=k+1:=q0.trans (aM (by omega) (by omega))
  obtain⟨k1,q1⟩:∃z,z=IntKind.i64.wrap (k0+1):=⟨_,rfl⟩
  have g1:k1=k0+1:=q1.trans (aM (by omega) (by omega))
  obtain⟨k2,q2⟩:∃z,z=IntKind.i64.wrap (k1+1):=⟨_,rfl⟩
  have g2:k2=k1+1:=q2.trans (aM (by omega) (by omega))
  simp only[bH hi,cond_true,aH hi,hx,mO hi,aH (show i<(l.set i _).length by simpa using hi),List.set_set,List.getElem_set_self,bd_s,bT,dW,gd_T,dF,←q0,←q1,←q2]) (fun rec k l=>by simp only[bJ,cond_false])]
 rfl
theorem aKn (a0:List Int)(a1:Int)(h:jS (a0.length) (aG fP a0) a1):Jw a0 a1=some (bL mkI a0 a1):=by
 obtain⟨hs,h0,h1⟩:=h
 unfold Jw
 rw[iJ aOy h0 h1 (by omega) (fun rec k i l hi hi0 hx hk0 hk1=>by
  simp only[bH hi,cond_true,aH hi,bd_s,bT,dW,gd_T,mkI]) (fun rec k l=>by simp only[bJ,cond_false])]
 rfl
theorem aE7 (a0:List D.Site)(a1:Int)(h:jS (a0.length+(a0.map D.Site.sz).sum) (aG cZ a0) a1):Eb a0 a1=some (bL gD a0 a1):=by
 obtain⟨hs,h0,h1⟩:=h
 unfold Eb
 rw[iJ xD h0 h1 (by omega) (fun rec k i l hi hi0 hx hk0 hk1=>by
  have hz:=dP (f:=D.Site.sz) hi0
  simp only[D.aAF.sz,D.Site.sz] at hz
  unfold cZ at hk1
  have t0:gF k=some (Ea k):=aJn (by omega) (by omega)
  obtain⟨k0,q0⟩:∃z,z=IntKind.i64.wrap (k+1):=⟨_,rfl⟩
  have g0:k0=k+1:=q0.trans (aM (by omega) (by omega))
  have p1:jS (a0[i].Accounts.length+(a0[i].Accounts.map D.aAG.sz).sum) (aG aS a0[i].Accounts) k0:=⟨by omega,by omega,by omega⟩
  have f1:=bP mK a0[i].Accounts k0 (by omega) (by omega)
  obtain⟨k1,q1⟩:∃z,z=(bL dO a0[i].Accounts k0).2:=⟨_,rfl⟩
  have g1:k1=k0+aG aS a0[i].Accounts:=q1.trans f1.1
  obtain⟨k2,q2⟩:∃z,z=IntKind.i64.wrap (k1+1):=⟨_,rfl⟩
  have g2:k2=k1+1:=q2.trans (aM (by omega) (by omega))
  obtain⟨k3,q3⟩:∃z,z=IntKind.i64.wrap (k2+1):=⟨_,rfl⟩
  have g3:k3=k2+1:=q3.trans (aM (by omega) (by omega))
  have p4:jS (a0[i].Book.Open.length) (aG aZ a0[i].Book.Open) k3:=⟨by omega,by omega,by omega⟩
  have f4:=bP kF a0[i].Book.Open k3 (by omega) (by omega)
  obtain⟨k4,q4⟩:∃z,z=(bL dF a0[i].Book.Open k3).2:=⟨_,rfl⟩
  have g4:k4=k3+aG aZ a0[i].Book.Open:=q4.trans f4.1
  have p5:jS (a0[i].Logins.length) (aG fP a0[i].Logins) k4:=⟨by omega,by omega,by omega⟩
  have f5:=bP aOy a0[i].Logins k4 (by omega) (by omega)
  obtain⟨k5,q5⟩:∃z,z=(bL mkI a0[i].Logins k4).2:=⟨_,rfl⟩
  have g5:k5=k4+aG fP a0[i].Logins:=q5.trans f5.1
  simp only[bH hi,cond_true,aH hi,hx,mO hi,aH (show i<(l.set i _).length by simpa using hi),List.set_set,List.getElem_set_self,bd_s,bT,dW,gd_T,gD,←q0,←q1,←q2,←q3,←q4,←q5,t0,aD p1,aD p4,aD p5]) (fun rec k l=>by simp only[bJ,cond_false])]
 rfl
theorem A7 (a0:List D.aAN)(a1:Int)(h:jS (a0.length) (aG bQ a0) a1):xE a0 a1=some (bL eP a0 a1):=by
 obtain⟨hs,h0,h1⟩:=h
 unfold xE
 rw[iJ oI h0 h1 (by omega) (fun rec k i l hi hi0 hx hk0 hk1=>by
  unfold bQ at hk1
  obtain⟨k0,q0⟩:∃z,z=IntKind.i64.wrap (k+1):=⟨_,rfl⟩
  have g0:k0=k+1:=q0.trans (aM (by omega) (by omega))
  obtain⟨k1,q1⟩:∃z,z=IntKind.i64.wrap (k0+1):=⟨_,rfl⟩
  have g1:k1=k0+1:=q1.trans (aM (by omega) (by omega))
  obtain⟨k2,q2⟩:∃z,z=IntKind.i64.wrap (k1+1):=⟨_,rfl⟩
  have g2:k2=k1+1:=q2.trans (aM (by omega) (by omega))
  obtain⟨k3,q3⟩:∃z,z=IntKind.i64.wrap (k2+1):=⟨_,rfl⟩
  have g3:k3=k2+1:=q3.trans (aM (by omega) (by omega))
  obtain⟨k4,q4⟩:∃z,z=IntKind.i64.wrap (k3+1):=⟨_,rfl⟩
  have g4:k4=k3+1:=q4.trans (aM (by omega) (by omega))
  simp only[bH hi,cond_true,aH hi,hx,mO hi,aH (show i<(l.set i _).length by simpa using hi),List.set_set,List.getElem_set_self,bd_s,bT,dW,gd_T,eP,←q0,←q1,←q2,←q3,←q4]) (fun rec k l=>by simp only[bJ,cond_false])]
 rfl
theorem Gn (a0:List D.aAD)(a1:Int)(h:jS (a0.length+(a0.map D.aAD.sz).sum) (aG aV a0) a1):oJ a0 a1=some (bL bN a0 a1):=by
 obtain⟨hs,h0,h1⟩:=h
 unfold oJ
 rw[iJ jO h0 h1 (by omega) (fun rec k i l hi hi0 hx hk0 hk1=>by
  have hz:=dP (f:=D.aAD.sz) hi0
  simp only[D.aAN.sz,D.aAD.sz,D.aAO.sz] at hz
  unfold aV at hk1
  obtain⟨k0,q0⟩:∃z,z=IntKind.i64.wrap (k+1):=⟨_,rfl⟩
  have g0:k0=k+1:=q0.trans (aM (by omega) (by omega))
  obtain⟨k1,q1⟩:∃z,z=IntKind.i64.wrap (k0+1):=⟨_,rfl⟩
  have g1:k1=k0+1:=q1.trans (aM (by omega) (by omega))
  obtain⟨k2,q2⟩:∃z,z=IntKind.i64.wrap (k1+1):=⟨_,rfl⟩
  have g2:k2=k1+1:=q2.trans (aM (by omega) (by omega))
  obtain⟨k3,q3⟩:∃z,z=IntKind.i64.wrap (k2+1):=⟨_,rfl⟩
  have g3:k3=k2+1:=q3.trans (aM (by omega) (by omega))
  obtain⟨k4,q4⟩:∃z,z=IntKind.i64.wrap (k3+1):=⟨_,rfl⟩
  have g4:k4=k3+1:=q4.trans (aM (by omega) (by omega))
  have p5:jS (a0[i].Saved.length) (aG bQ a0[i].Saved) k4:=⟨by omega,by omega,by omega⟩
  have f5:=bP oI a0[i].Saved k4 (by omega) (by omega)
  obtain⟨k5,q5⟩:∃z,z=(bL eP a0[i].Saved k4).2:=⟨_,rfl⟩
  have g5:k5=k4+aG bQ a0[i].Saved:=q5.trans f5.1
  obtain⟨k6,q6⟩:∃z,z=IntKind.i64.wrap (k5+1):=⟨_,rfl⟩
  have g6:k6=k5+1:=q6.trans (aM (by omega) (by omega))
  simp only[bH hi,cond_true,aH hi,hx,mO hi,aH (show i<(l.set i _).length by simpa using hi),List.set_set,List.getElem_set_self,bd_s,bT,dW,gd_T,bN,←q0,←q1,←q2,←q3,←q4,←q5,←q6,aD p5]) (fun rec k l=>by simp only[bJ,cond_false])]
 rfl
theorem A8 (a0:List D.aAM)(a1:Int)(h:jS (a0.length) (aG bZ a0) a1):xG a0 a1=some (bL dZ a0 a1):=by
 obtain⟨hs,h0,h1⟩:=h
 unfold xG
 rw[iJ lU h0 h1 (by omega) (fun rec k i l hi hi0 hx hk0 hk1=>by
  unfold bZ at hk1
  obtain⟨k0,q0⟩:∃z,z=IntKind.i64.wrap (k+1):=⟨_,rfl⟩
  have g0:k0=k+1:=q0.trans (aM (by omega) (by omega))
  obtain⟨k1,q1⟩:∃z,z=IntKind.i64.wrap (k0+1):=⟨_,rfl⟩
  have g1:k1=k0+1:=q1.trans (aM (by omega) (by omega))
  obtain⟨k2,q2⟩:∃z,z=IntKind.i64.wrap (k1+1):=⟨_,rfl⟩
  have g2:k2=k1+1:=q2.trans (aM (by omega) (by omega))
  obtain⟨k3,q3⟩:∃z,z=IntKind.i64.wrap (k2+1):=⟨_,rfl⟩
  have g3:k3=k2+1:=q3.trans (aM (by omega) (by omega))
  simp only[bH hi,cond_true,aH hi,hx,mO hi,aH (show i<(l.set i _).length by simpa using hi),List.set_set,List.getElem_set_self,bd_s,bT,dW,gd_T,dZ,←q0,←q1,←q2,←q3]) (fun rec k l=>by simp only[bJ,cond_false])]
 rfl
theorem A9 (a0:D.aAK)(a1:Int)(h:jS (a0.sz) (bF a0) a1):xH a0 a1=some (fI a0 a1):=by
 obtain⟨hs,h0,h1⟩:=h
 unfold bF at h1
 simp only[D.aAK.sz] at hs
 unfold xH fI
 rw[aD (show jS _ _ _ from⟨by omega,by omega,by omega⟩)]
 have f0:=bP lU a0.Notices a1 (by omega) (by omega)
 obtain⟨k0,q0⟩:∃z,z=(bL dZ a0.Notices a1).2:=⟨_,rfl⟩
 have g0:k0=a1+aG bZ a0.Notices:=q0.trans f0.1
 simp only[bd_s,←q0]
theorem aE8 (a0:D.World)(a1:Int)(h:jS (a0.sz) (eG a0) a1):Ec a0 a1=some (dG a0 a1):=by
 obtain⟨hs,h0,h1⟩:=h
 unfold eG at h1
 simp only[D.aAH.sz,D.aAE.sz,D.aAK.sz,D.aAQ.sz,D.World.sz] at hs
 unfold Ec dG
 rw[aD (show jS _ _ _ from⟨by omega,by omega,by omega⟩)]
 have f0:=bP oG a0.Devices a1 (by omega) (by omega)
 obtain⟨k0,q0⟩:∃z,z=(bL cK a0.Devices a1).2:=⟨_,rfl⟩
 have g0:k0=a1+aG aT a0.Devices:=q0.trans f0.1
 simp only[bd_s,←q0]
 rw[aD (show jS _ _ _ from⟨by omega,by omega,by omega⟩)]
 have f1:=bP aOz a0.Stolen k0 (by omega) (by omega)
 obtain⟨k1,q1⟩:∃z,z=(bL mkB a0.Stolen k0).2:=⟨_,rfl⟩
 have g1:k1=k0+aG fP a0.Stolen:=q1.trans f1.1
 simp only[bd_s,←q1]
 rw[aD (show jS _ _ _ from⟨by simp only[D.aAH.sz,D.aAE.sz];omega,by omega,by unfold bB;omega⟩)]
 simp only[bd_s,gX]
 have f2:=bP fF a0.aAH.Log k1 (by omega) (by omega)
 obtain⟨k2,q2⟩:∃z,z=(bL aX a0.aAH.Log k1).2:=⟨_,rfl⟩
 have g2:k2=k1+aG aI a0.aAH.Log:=q2.trans f2.1
 simp only[←q2]
 have f3:=bP lT a0.aAH.Boxes.Boxes k2 (by omega) (by omega)
 obtain⟨k3,q3⟩:∃z,z=(bL fG a0.aAH.Boxes.Boxes k2).2:=⟨_,rfl⟩
 have g3:k3=k2+aG eU a0.aAH.Boxes.Boxes:=q3.trans f3.1
 simp only[←q3]
 have f4:=bP fH a0.aAH.History k3 (by omega) (by omega)
 obtain⟨k4,q4⟩:∃z,z=(bL bE a0.aAH.History k3).2:=⟨_,rfl⟩
 have g4:k4=k3+aG aO a0.aAH.History:=q4.trans f4.1
 simp only[←q4]
 rw[aD (show jS _ _ _ from⟨by omega,by omega,by omega⟩)]
 have f5:=bP xD a0.Sites k4 (by omega) (by omega)
 obtain⟨k5,q5⟩:∃z,z=(bL gD a0.Sites k4).2:=⟨_,rfl⟩
 have g5:k5=k4+aG cZ a0.Sites:=q5.trans f5.1
 simp only[bd_s,←q5]
 rw[aD (show jS _ _ _ from⟨by omega,by omega,by omega⟩)]
 have f6:=bP jO a0.Hosts k5 (by omega) (by omega)
 obtain⟨k6,q6⟩:∃z,z=(bL bN a0.Hosts k5).2:=⟨_,rfl⟩
 have g6:k6=k5+aG aV a0.Hosts:=q6.trans f6.1
 simp only[bd_s,←q6]
 rw[aD (show jS _ _ _ from⟨by simp only[D.aAK.sz];omega,by omega,by unfold bF;omega⟩)]
 simp only[bd_s,fI]
theorem Qz (a0:List D.aAB)(a1:Int)(h:bO (bL aX) (aG aI) a0 a1):sF a0 a1=some (a1+((aG aI a0:Nat):Int)):=by
 have hlen:=jI aO6 a0
 have h1:=h.1
 have h2:=h.2.1
 unfold sF
 rw[iK fF h (by omega) (fun rec k i hi hP=>by
  clear h hlen h1 h2
  obtain⟨p1,p2,x,p3,p4⟩:=hP
  rw[←p4] at p2
  unfold aI at p2
  have b0:0≤k:=by omega
  have d0:k+1≤4611686018427387904:=by omega
  have b1:0≤k+1:=by omega
  have d1:k+1+1≤4611686018427387904:=by omega
  have b2:0≤k+1+1:=by omega
  have d2:k+1+1+1≤4611686018427387904:=by omega
  have b3:0≤k+1+1+1:=by omega
  have d3:k+1+1+1+1≤4611686018427387904:=by omega
  have b4:0≤k+1+1+1+1:=by omega
  have d4:k+1+1+1+1+1≤4611686018427387904:=by omega
  have b5:0≤k+1+1+1+1+1:=by omega
  have d5:k+1+1+1+1+1+1≤4611686018427387904:=by omega
  have nn:k+1+1+1+1+1+1=k+((aI x:Nat):Int):=by unfold aI;omega
  have e0:a0[i].Index=k:=by rw[p3];simp only[aX]
  have w0:IntKind.i64.wrap (k+1)=k+1:=aM b0 d0
  have e1:a0[i].Kind=(k+1):=by rw[p3];simp only[aX,w0]
  have w1:IntKind.i64.wrap (k+1+1)=k+1+1:=aM b1 d1
  have e2:a0[i].Device=(k+1+1):=by rw[p3];simp only[aX,w0,w1]
  have w2:IntKind.i64.wrap (k+1+1+1)=k+1+1+1:=aM b2 d2
  have e3:a0[i].By=(k+1+1+1):=by rw[p3];simp only[aX,w0,w1,w2]
  have w3:IntKind.i64.wrap (k+1+1+1+1)=k+1+1+1+1:=aM b3 d3
  have e4:a0[i].Previous=(k+1+1+1+1):=by rw[p3];simp only[aX,w0,w1,w2,w3]
  have w4:IntKind.i64.wrap (k+1+1+1+1+1)=k+1+1+1+1+1:=aM b4 d4
  have e5:a0[i].Signature=(k+1+1+1+1+1):=by rw[p3];simp only[aX,w0,w1,w2,w3,w4]
  have w5:IntKind.i64.wrap (k+1+1+1+1+1+1)=k+1+1+1+1+1+1:=aM b5 d5
  simp only[bH hi,cond_true,aH hi,e0,w0,e1,w1,e2,w2,e3,w3,e4,w4,e5,w5,bne_self_eq_false,beq_self_eq_true,Bool.not_true,cond_false,bd_s,dW,gd_T]
  rw[←p4,←nn]) (fun rec k=>by simp only[bJ,cond_false])]
 rfl
theorem aAs (a0:List D.Entry)(a1:Int)(h:bO (bL gB) (aG dL) a0 a1):Ae a0 a1=some (a1+((aG dL a0:Nat):Int)):=by
 have hlen:=jI bAi a0
 have h1:=h.1
 have h2:=h.2.1
 unfold Ae
 rw[iK sD h (by omega) (fun rec k i hi hP=>by
  clear h hlen h1 h2
  obtain⟨p1,p2,x,p3,p4⟩:=hP
  rw[←p4] at p2
  unfold dL at p2
  have b0:0≤k:=by omega
  have d0:k+1≤4611686018427387904:=by omega
  have b1:0≤k+1:=by omega
  have d1:k+1+1≤4611686018427387904:=by omega
  have b2:0≤k+1+1:=by omega
  have d2:k+1+1+1≤4611686018427387904:=by omega
  have b3:0≤k+1+1+1:=by omega
  have d3:k+1+1+1+1≤4611686018427387904:=by omega
  have nn:k+1+1+1+1=k+((dL x:Nat):Int):=by unfold dL;omega
  have e0:a0[i].Site=k:=by rw[p3];simp only[gB]
  have w0:IntKind.i64.wrap (k+1)=k+1:=aM b0 d0
  have e1:a0[i].Handle=(k+1):=by rw[p3];simp only[gB,w0]
  have w1:IntKind.i64.wrap (k+1+1)=k+1+1:=aM b1 d1
  have e2:a0[i].Version=(k+1+1):=by rw[p3];simp only[gB,w0,w1]
  have w2:IntKind.i64.wrap (k+1+1+1)=k+1+1+1:=aM b2 d2
  have e3:a0[i].Deleted=((k+1+1+1).tmod 3==0):=by rw[p3];simp only[gB,w0,w1,w2]
  have w3:IntKind.i64.wrap (k+1+1+1+1)=k+1+1+1+1:=aM b3 d3
  simp only[bH hi,cond_true,aH hi,e0,w0,e1,w1,e2,w2,e3,w3,bne_self_eq_false,beq_self_eq_true,Bool.not_true,cond_false,bd_s,dW,gd_T]
  rw[←p4,←nn]) (fun rec k=>by simp only[bJ,cond_false])]
 rfl
theorem C8 (a0:List D.Device)(a1:Int)(h:bO (bL cK) (aG aT) a0 a1):xI a0 a1=some (a1+((aG aT a0:Nat):Int)):=by
 have hlen:=jI aXy a0
 have h1:=h.1
 have h2:=h.2.1
 unfold xI
 rw[iK oG h (by omega) (fun rec k i hi hP=>by
  clear h hlen h1 h2
  obtain⟨p1,p2,x,p3,p4⟩:=hP
  rw[←p4] at p2
  unfold aT at p2
  have b0:0≤k:=by omega
  have d0:k+1≤4611686018427387904:=by omega
  have b1:0≤k+1:=by omega
  have d1:k+1+1≤4611686018427387904:=by omega
  have b2:0≤k+1+1:=by omega
  have d2:k+1+1+1≤4611686018427387904:=by omega
  have b3:0≤k+1+1+1:=by omega
  have d3:k+1+1+1+1≤4611686018427387904:=by omega
  have b4:0≤k+1+1+1+1:=by omega
  have d4:k+1+1+1+1+((aG aI x.Log:Nat):Int)≤4611686018427387904:=by omega
  have t4:decide (k+1+1+1+1+((aG aI x.Log:Nat):Int)<0)=false:=decide_eq_false (by omega)
  have b5:0≤k+1+1+1+1+((aG aI x.Log:Nat):Int):=by omega
  have d5:k+1+1+1+1+((aG aI x.Log:Nat):Int)+1≤4611686018427387904:=by omega
  have b6:0≤k+1+1+1+1+((aG aI x.Log:Nat):Int)+1:=by omega
  have d6:k+1+1+1+1+((aG aI x.Log:Nat):Int)+1+1≤4611686018427387904:=by omega
  have b7:0≤k+1+1+1+1+((aG aI x.Log:Nat):Int)+1+1:=by omega
  have d7:k+1+1+1+1+((aG aI x.Log:Nat):Int)+1+1+1≤4611686018427387904:=by omega
  have b8:0≤k+1+1+1+1+((aG aI x.Log:Nat):Int)+1+1+1:=by omega
  have d8:k+1+1+1+1+((aG aI x.Log:Nat):Int)+1+1+1+((aG dL x.aAC.Entries:Nat):Int)≤4611686018427387904:=by omega
  have t8:decide (k+1+1+1+1+((aG aI x.Log:Nat):Int)+1+1+1+((aG dL x.aAC.Entries:Nat):Int)<0)=false:=decide_eq_false (by omega)
  have nn:k+1+1+1+1+((aG aI x.Log:Nat):Int)+1+1+1+((aG dL x.aAC.Entries:Nat):Int)=k+((aT x:Nat):Int):=by unfold aT;omega
  have e0:a0[i].Store.Vendor=k:=by rw[p3];simp only[cK]
  have w0:IntKind.i64.wrap (k+1)=k+1:=aM b0 d0
  have e1:a0[i].Store.Serial=(k+1):=by rw[p3];simp only[cK,w0]
  have w1:IntKind.i64.wrap (k+1+1)=k+1+1:=aM b1 d1
  have e2:a0[i].Store.Seed=(k+1+1):=by rw[p3];simp only[cK,w0,w1]
  have w2:IntKind.i64.wrap (k+1+1+1)=k+1+1+1:=aM b2 d2
  have e3:a0[i].Store.Counter=(k+1+1+1):=by rw[p3];simp only[cK,w0,w1,w2]
  have w3:IntKind.i64.wrap (k+1+1+1+1)=k+1+1+1+1:=aM b3 d3
  have f4:=bP fF x.Log (k+1+1+1+1) b4 d4
  have e4:a0[i].Log=(bL aX x.Log (k+1+1+1+1)).1:=by rw[p3];simp only[cK,w0,w1,w2,w3]
  have m4:=f4.1
  have c4:aG aI a0[i].Log=aG aI x.Log:=by rw[e4];exact f4.2
  have h4:bO (bL aX) (aG aI) a0[i].Log (k+1+1+1+1):=fE b4 d4 e4 c4
  have e5:a0[i].Key=(k+1+1+1+1+((aG aI x.Log:Nat):Int)):=by rw[p3];simp only[cK,w0,w1,w2,w3,m4]
  have w5:IntKind.i64.wrap (k+1+1+1+1+((aG aI x.Log:Nat):Int)+1)=k+1+1+1+1+((aG aI x.Log:Nat):Int)+1:=aM b5 d5
  have e6:a0[i].Epoch=(k+1+1+1+1+((aG aI x.Log:Nat):Int)+1):=by rw[p3];simp only[cK,w0,w1,w2,w3,m4,w5]
  have w6:IntKind.i64.wrap (k+1+1+1+1+((aG aI x.Log:Nat):Int)+1+1)=k+1+1+1+1+((aG aI x.Log:Nat):Int)+1+1:=aM b6 d6
  have e7:a0[i].Version=(k+1+1+1+1+((aG aI x.Log:Nat):Int)+1+1):=by rw[p3];simp only[cK,w0,w1,w2,w3,m4,w5,w6]
  have w7:IntKind.i64.wrap (k+1+1+1+1+((aG aI x.Log:Nat):Int)+1+1+1)=k+1+1+1+1+((aG aI x.Log:Nat):Int)+1+1+1:=aM b7 d7
  have f8:=bP sD x.aAC.Entries (k+1+1+1+1+((aG aI x.Log:Nat):Int)+1+1+1) b8 d8
  have e8:a0[i].aAC.Entries=(bL gB x.aAC.Entries (k+1+1+1+1+((aG aI x.Log:Nat):Int)+1+1+1)).1:=by rw[p3];simp only[cK,w0,w1,w2,w3,m4,w5,w6,w7]
  have m8:=f8.1
  have c8:aG dL a0[i].aAC.Entries=aG dL x.aAC.Entries:=by rw[e8];exact f8.2
  have h8:bO (bL gB) (aG dL) a0[i].aAC.Entries (k+1+1+1+1+((aG aI x.Log:Nat):Int)+1+1+1):=fE b8 d8 e8 c8
  simp only[bH hi,cond_true,aH hi,e0,w0,e1,w1,e2,w2,e3,w3,aD h4,c4,t4,e5,w5,e6,w6,e7,w7,aD h8,c8,t8,bne_self_eq_false,beq_self_eq_true,Bool.not_true,cond_false,bd_s,dW,gd_T]
  rw[←p4,←nn]) (fun rec k=>by simp only[bJ,cond_false])]
 rfl
theorem aE9 (a0:List Bool)(a1:Int)(h:bO (bL mkB) (aG fP) a0 a1):Ed a0 a1=some (a1+((aG fP a0:Nat):Int)):=by
 have hlen:=jI (c:=fP) (fun _=>Nat.le_refl _) a0
 have h1:=h.1
 have h2:=h.2.1
 unfold Ed
 rw[iK aOz h (by omega) (fun rec k i hi hP=>by
  obtain⟨p1,p2,x,p3,_⟩:=hP
  have p2:k+1≤4611686018427387904:=by simpa[fP] using p2
  have e:a0[i]=(k.tmod 3==0):=p3
  simp only[bH hi,cond_true,aH hi,e,bne_self_eq_false,beq_self_eq_true,Bool.not_true,cond_false,bd_s,aM p1 p2,aD (show(3:Int)≠(0:Int) by omega)];rfl) (fun rec k=>by simp only[bJ,cond_false])]
 rfl
theorem aFa (a0:List Int)(a1:Int)(h:bO (bL mkU) (aG fP) a0 a1):Ee a0 a1=some (a1+((aG fP a0:Nat):Int)):=by
 have hlen:=jI (c:=fP) (fun _=>Nat.le_refl _) a0
 have h1:=h.1
 have h2:=h.2.1
 unfold Ee
 rw[iK Oa h (by omega) (fun rec k i hi hP=>by
  obtain⟨p1,p2,x,p3,_⟩:=hP
  have p2:k+1≤4611686018427387904:=by simpa[fP] using p2
  have e:a0[i]=IntKind.u8.wrap k:=p3
  simp only[bH hi,cond_true,aH hi,e,bne_self_eq_false,beq_self_eq_true,Bool.not_true,cond_false,bd_s,aM p1 p2,aD (show(3:Int)≠(0:Int) by omega)];rfl) (fun rec k=>by simp only[bJ,cond_false])]
 rfl
theorem aKo (a0:List D.Box)(a1:Int)(h:bO (bL fG) (aG eU) a0 a1):Jy a0 a1=some (a1+((aG eU a0:Nat):Int)):=by
 have hlen:=jI bFh a0
 have h1:=h.1
 have h2:=h.2.1
 unfold Jy
 rw[iK lT h (by omega) (fun rec k i hi hP=>by
  clear h hlen h1 h2
  obtain⟨p1,p2,x,p3,p4⟩:=hP
  rw[←p4] at p2
  unfold eU at p2
  have b0:0≤k:=by omega
  have d0:k+1≤4611686018427387904:=by omega
  have b1:0≤k+1:=by omega
  have d1:k+1+1≤4611686018427387904:=by omega
  have b2:0≤k+1+1:=by omega
  have d2:k+1+1+((aG fP x.Data:Nat):Int)≤4611686018427387904:=by omega
  have t2:decide (k+1+1+((aG fP x.Data:Nat):Int)<0)=false:=decide_eq_false (by omega)
  have b3:0≤k+1+1+((aG fP x.Data:Nat):Int):=by omega
  have d3:k+1+1+((aG fP x.Data:Nat):Int)+1≤4611686018427387904:=by omega
  have nn:k+1+1+((aG fP x.Data:Nat):Int)+1=k+((eU x:Nat):Int):=by unfold eU;omega
  have e0:a0[i].To=k:=by rw[p3];simp only[fG]
  have w0:IntKind.i64.wrap (k+1)=k+1:=aM b0 d0
  have e1:a0[i].Ephemeral=(k+1):=by rw[p3];simp only[fG,w0]
  have w1:IntKind.i64.wrap (k+1+1)=k+1+1:=aM b1 d1
  have f2:=bP Oa x.Data (k+1+1) b2 d2
  have e2:a0[i].Data=(bL mkU x.Data (k+1+1)).1:=by rw[p3];simp only[fG,w0,w1]
  have m2:=f2.1
  have c2:aG fP a0[i].Data=aG fP x.Data:=by rw[e2];exact f2.2
  have h2:bO (bL mkU) (aG fP) a0[i].Data (k+1+1):=fE b2 d2 e2 c2
  have e3:a0[i].MAC=(k+1+1+((aG fP x.Data:Nat):Int)):=by rw[p3];simp only[fG,w0,w1,m2]
  have w3:IntKind.i64.wrap (k+1+1+((aG fP x.Data:Nat):Int)+1)=k+1+1+((aG fP x.Data:Nat):Int)+1:=aM b3 d3
  simp only[bH hi,cond_true,aH hi,e0,w0,e1,w1,aD h2,c2,t2,e3,w3,bne_self_eq_false,beq_self_eq_true,Bool.not_true,cond_false,bd_s,dW,gd_T]
  rw[←p4,←nn]) (fun rec k=>by simp only[bJ,cond_false])]
 rfl
theorem Kw (a0:D.aAE)(k:Int)(h:bO dS aQ a0 k):pX a0 k=some (k+((aQ a0:Nat):Int)):=by
 obtain⟨p1,p2,x,p3,p4⟩:=h
 rw[←p4] at p2
 unfold aQ at p2
 have b0:0≤k:=by omega
 have d0:k+(((aG eU) x.Boxes:Nat):Int)≤4611686018427387904:=by omega
 have t0:decide (k+(((aG eU) x.Boxes:Nat):Int)<0)=false:=decide_eq_false (by omega)
 have nn:k+(((aG eU) x.Boxes:Nat):Int)=k+((aQ x:Nat):Int):=by simp only[aQ]<;>omega
 have f0:=(bP lT) x.Boxes k b0 d0
 have e0:a0.Boxes=((bL fG) x.Boxes k).1:=by rw[p3];simp only[dS]
 have m0:=f0.1
 have c0:(aG eU) a0.Boxes=(aG eU) x.Boxes:=by rw[e0];exact f0.2
 have h0:bO (bL fG) (aG eU) a0.Boxes k:=fE b0 d0 e0 c0
 unfold pX
 simp only[aD h0,c0,t0,cond_false,bd_s]
 rw[←p4,←nn]
theorem Aq (a0:List D.aAA)(a1:Int)(h:bO (bL bE) (aG aO) a0 a1):mM a0 a1=some (a1+((aG aO a0:Nat):Int)):=by
 have hlen:=jI q9 a0
 have h1:=h.1
 have h2:=h.2.1
 unfold mM
 rw[iK fH h (by omega) (fun rec k i hi hP=>by
  clear h hlen h1 h2
  obtain⟨p1,p2,x,p3,p4⟩:=hP
  rw[←p4] at p2
  unfold aO at p2
  have b0:0≤k:=by omega
  have d0:k+1≤4611686018427387904:=by omega
  have b1:0≤k+1:=by omega
  have d1:k+1+1≤4611686018427387904:=by omega
  have b2:0≤k+1+1:=by omega
  have d2:k+1+1+((aG fP x.Data:Nat):Int)≤4611686018427387904:=by omega
  have t2:decide (k+1+1+((aG fP x.Data:Nat):Int)<0)=false:=decide_eq_false (by omega)
  have b3:0≤k+1+1+((aG fP x.Data:Nat):Int):=by omega
  have d3:k+1+1+((aG fP x.Data:Nat):Int)+1≤4611686018427387904:=by omega
  have nn:k+1+1+((aG fP x.Data:Nat):Int)+1=k+((aO x:Nat):Int):=by unfold aO;omega
  have e0:a0[i].Epoch=k:=by rw[p3];simp only[bE]
  have w0:IntKind.i64.wrap (k+1)=k+1:=aM b0 d0
  have e1:a0[i].Version=(k+1):=by rw[p3];simp only[bE,w0]
  have w1:IntKind.i64.wrap (k+1+1)=k+1+1:=aM b1 d1
  have f2:=bP Oa x.Data (k+1+1) b2 d2
  have e2:a0[i].Data=(bL mkU x.Data (k+1+1)).1:=by rw[p3];simp only[bE,w0,w1]
  have m2:=f2.1
  have c2:aG fP a0[i].Data=aG fP x.Data:=by rw[e2];exact f2.2
  have h2:bO (bL mkU) (aG fP) a0[i].Data (k+1+1):=fE b2 d2 e2 c2
  have e3:a0[i].MAC=(k+1+1+((aG fP x.Data:Nat):Int)):=by rw[p3];simp only[bE,w0,w1,m2]
  have w3:IntKind.i64.wrap (k+1+1+((aG fP x.Data:Nat):Int)+1)=k+1+1+((aG fP x.Data:Nat):Int)+1:=aM b3 d3
  simp only[bH hi,cond_true,aH hi,e0,w0,e1,w1,aD h2,c2,t2,e3,w3,bne_self_eq_false,beq_self_eq_true,Bool.not_true,cond_false,bd_s,dW,gd_T]
  rw[←p4,←nn]) (fun rec k=>by simp only[bJ,cond_false])]
 rfl
theorem aFb (a0:D.aAH)(k:Int)(h:bO gX bB a0 k):Ef a0 k=some (k+((bB a0:Nat):Int)):=by
 obtain⟨p1,p2,x,p3,p4⟩:=h
 rw[←p4] at p2
 unfold bB at p2
 have b0:0≤k:=by first|omega|(simp only[aQ];omega)
 have d0:k+(((aG aI) x.Log:Nat):Int)≤4611686018427387904:=by first|omega|(simp only[aQ];omega)
 have t0:decide (k+(((aG aI) x.Log:Nat):Int)<0)=false:=decide_eq_false (by first|omega|(simp only[aQ];omega))
 have b1:0≤k+(((aG aI) x.Log:Nat):Int):=by first|omega|(simp only[aQ];omega)
 have d1:k+(((aG aI) x.Log:Nat):Int)+((aQ x.Boxes:Nat):Int)≤4611686018427387904:=by first|omega|(simp only[aQ];omega)
 have t1:decide (k+(((aG aI) x.Log:Nat):Int)+((aQ x.Boxes:Nat):Int)<0)=false:=decide_eq_false (by first|omega|(simp only[aQ];omega))
 have b2:0≤k+(((aG aI) x.Log:Nat):Int)+((aQ x.Boxes:Nat):Int):=by first|omega|(simp only[aQ];omega)
 have d2:k+(((aG aI) x.Log:Nat):Int)+((aQ x.Boxes:Nat):Int)+(((aG aO) x.History:Nat):Int)≤4611686018427387904:=by first|omega|(simp only[aQ];omega)
 have t2:decide (k+(((aG aI) x.Log:Nat):Int)+((aQ x.Boxes:Nat):Int)+(((aG aO) x.History:Nat):Int)<0)=false:=decide_eq_false (by first|omega|(simp only[aQ];omega))
 have nn:k+(((aG aI) x.Log:Nat):Int)+((aQ x.Boxes:Nat):Int)+(((aG aO) x.History:Nat):Int)=k+((bB x:Nat):Int):=by simp only[bB,aQ]<;>omega
 have f0:=(bP fF) x.Log k b0 d0
 have e0:a0.Log=((bL aX) x.Log k).1:=by rw[p3];simp only[gX]
 have m0:=f0.1
 have c0:(aG aI) a0.Log=(aG aI) x.Log:=by rw[e0];exact f0.2
 have h0:bO (bL aX) (aG aI) a0.Log k:=fE b0 d0 e0 c0
 have f1:=aEk x.Boxes (k+(((aG aI) x.Log:Nat):Int)) b1 d1
 have e1:a0.Boxes=(dS x.Boxes (k+(((aG aI) x.Log:Nat):Int))).1:=by rw[p3];simp only[gX,dS,m0]
 have m1:=f1.1
 simp only[dS,m0] at m1
 have c1:aQ a0.Boxes=aQ x.Boxes:=by rw[e1];exact f1.2
 have h1:bO dS aQ a0.Boxes (k+(((aG aI) x.Log:Nat):Int)):=fE b1 d1 e1 c1
 have f2:=(bP fH) x.History (k+(((aG aI) x.Log:Nat):Int)+((aQ x.Boxes:Nat):Int)) b2 d2
 have e2:a0.History=((bL bE) x.History (k+(((aG aI) x.Log:Nat):Int)+((aQ x.Boxes:Nat):Int))).1:=by rw[p3];simp only[gX,m0,m1]
 have m2:=f2.1
 have c2:(aG aO) a0.History=(aG aO) x.History:=by rw[e2];exact f2.2
 have h2:bO (bL bE) (aG aO) a0.History (k+(((aG aI) x.Log:Nat):Int)+((aQ x.Boxes:Nat):Int)):=fE b2 d2 e2 c2
 unfold Ef
 simp only[aD h0,c0,t0,aD h1,c1,t1,aD h2,c2,t2,cond_false,bd_s]
 rw[←p4,←nn]
theorem Gp (a0:List D.aAJ)(a1:Int)(h:bO (bL cO) (aG bD) a0 a1):oK a0 a1=some (a1+((aG bD a0:Nat):Int)):=by
 have hlen:=jI aEl a0
 have h1:=h.1
 have h2:=h.2.1
 unfold oK
 rw[iK jN h (by omega) (fun rec k i hi hP=>by
  clear h hlen h1 h2
  obtain⟨p1,p2,x,p3,p4⟩:=hP
  rw[←p4] at p2
  unfold bD at p2
  have b0:0≤k:=by omega
  have d0:k+1≤4611686018427387904:=by omega
  have b1:0≤k+1:=by omega
  have d1:k+1+1≤4611686018427387904:=by omega
  have b2:0≤k+1+1:=by omega
  have d2:k+1+1+1≤4611686018427387904:=by omega
  have b3:0≤k+1+1+1:=by omega
  have d3:k+1+1+1+1≤4611686018427387904:=by omega
  have nn:k+1+1+1+1=k+((bD x:Nat):Int):=by unfold bD;omega
  have e0:a0[i].Handle=k:=by rw[p3];simp only[cO]
  have w0:IntKind.i64.wrap (k+1)=k+1:=aM b0 d0
  have e1:a0[i].Public=(k+1):=by rw[p3];simp only[cO,w0]
  have w1:IntKind.i64.wrap (k+1+1)=k+1+1:=aM b1 d1
  have e2:a0[i].Counter=(k+1+1):=by rw[p3];simp only[cO,w0,w1]
  have w2:IntKind.i64.wrap (k+1+1+1)=k+1+1+1:=aM b2 d2
  have e3:a0[i].Cut=((k+1+1+1).tmod 3==0):=by rw[p3];simp only[cO,w0,w1,w2]
  have w3:IntKind.i64.wrap (k+1+1+1+1)=k+1+1+1+1:=aM b3 d3
  simp only[bH hi,cond_true,aH hi,e0,w0,e1,w1,e2,w2,e3,w3,bne_self_eq_false,beq_self_eq_true,Bool.not_true,cond_false,bd_s,dW,gd_T]
  rw[←p4,←nn]) (fun rec k=>by simp only[bJ,cond_false])]
 rfl
theorem Uu (a0:List D.aAG)(a1:Int)(h:bO (bL dO) (aG aS) a0 a1):uK a0 a1=some (a1+((aG aS a0:Nat):Int)):=by
 have hlen:=jI aTp a0
 have h1:=h.1
 have h2:=h.2.1
 unfold uK
 rw[iK mK h (by omega) (fun rec k i hi hP=>by
  clear h hlen h1 h2
  obtain⟨p1,p2,x,p3,p4⟩:=hP
  rw[←p4] at p2
  unfold aS at p2
  have b0:0≤k:=by omega
  have d0:k+1≤4611686018427387904:=by omega
  have b1:0≤k+1:=by omega
  have d1:k+1+1≤4611686018427387904:=by omega
  have b2:0≤k+1+1:=by omega
  have d2:k+1+1+((aG bD x.Credentials:Nat):Int)≤4611686018427387904:=by omega
  have t2:decide (k+1+1+((aG bD x.Credentials:Nat):Int)<0)=false:=decide_eq_false (by omega)
  have nn:k+1+1+((aG bD x.Credentials:Nat):Int)=k+((aS x:Nat):Int):=by unfold aS;omega
  have e0:a0[i].Id=k:=by rw[p3];simp only[dO]
  have w0:IntKind.i64.wrap (k+1)=k+1:=aM b0 d0
  have e1:a0[i].Minimum=(k+1):=by rw[p3];simp only[dO,w0]
  have w1:IntKind.i64.wrap (k+1+1)=k+1+1:=aM b1 d1
  have f2:=bP jN x.Credentials (k+1+1) b2 d2
  have e2:a0[i].Credentials=(bL cO x.Credentials (k+1+1)).1:=by rw[p3];simp only[dO,w0,w1]
  have m2:=f2.1
  have c2:aG bD a0[i].Credentials=aG bD x.Credentials:=by rw[e2];exact f2.2
  have h2:bO (bL cO) (aG bD) a0[i].Credentials (k+1+1):=fE b2 d2 e2 c2
  simp only[bH hi,cond_true,aH hi,e0,w0,e1,w1,aD h2,c2,t2,bne_self_eq_false,beq_self_eq_true,Bool.not_true,cond_false,bd_s,dW,gd_T]
  rw[←p4,←nn]) (fun rec k=>by simp only[bJ,cond_false])]
 rfl
theorem Ky (a0:List D.aAL)(a1:Int)(h:bO (bL dF) (aG aZ) a0 a1):pY a0 a1=some (a1+((aG aZ a0:Nat):Int)):=by
 have hlen:=jI aJ7 a0
 have h1:=h.1
 have h2:=h.2.1
 unfold pY
 rw[iK kF h (by omega) (fun rec k i hi hP=>by
  clear h hlen h1 h2
  obtain⟨p1,p2,x,p3,p4⟩:=hP
  rw[←p4] at p2
  unfold aZ at p2
  have b0:0≤k:=by omega
  have d0:k+1≤4611686018427387904:=by omega
  have b1:0≤k+1:=by omega
  have d1:k+1+1≤4611686018427387904:=by omega
  have b2:0≤k+1+1:=by omega
  have d2:k+1+1+1≤4611686018427387904:=by omega
  have nn:k+1+1+1=k+((aZ x:Nat):Int):=by unfold aZ;omega
  have e0:a0[i].Id=k:=by rw[p3];simp only[dF]
  have w0:IntKind.i64.wrap (k+1)=k+1:=aM b0 d0
  have e1:a0[i].aAG=(k+1):=by rw[p3];simp only[dF,w0]
  have w1:IntKind.i64.wrap (k+1+1)=k+1+1:=aM b1 d1
  have e2:a0[i].Until=(k+1+1):=by rw[p3];simp only[dF,w0,w1]
  have w2:IntKind.i64.wrap (k+1+1+1)=k+1+1+1:=aM b2 d2
  simp only[bH hi,cond_true,aH hi,e0,w0,e1,w1,e2,w2,bne_self_eq_false,beq_self_eq_true,Bool.not_true,cond_false,bd_s,dW,gd_T]
  rw[←p4,←nn]) (fun rec k=>by simp only[bJ,cond_false])]
 rfl
theorem aKp (a0:List Int)(a1:Int)(h:bO (bL mkI) (aG fP) a0 a1):Jz a0 a1=some (a1+((aG fP a0:Nat):Int)):=by
 have hlen:=jI (c:=fP) (fun _=>Nat.le_refl _) a0
 have h1:=h.1
 have h2:=h.2.1
 unfold Jz
 rw[iK aOy h (by omega) (fun rec k i hi hP=>by
  obtain⟨p1,p2,x,p3,_⟩:=hP
  have p2:k+1≤4611686018427387904:=by simpa[fP] using p2
  have e:a0[i]=k:=p3
  simp only[bH hi,cond_true,aH hi,e,bne_self_eq_false,beq_self_eq_true,Bool.not_true,cond_false,bd_s,aM p1 p2,aD (show(3:Int)≠(0:Int) by omega)];rfl) (fun rec k=>by simp only[bJ,cond_false])]
 rfl
theorem aFc (a0:List D.Site)(a1:Int)(h:bO (bL gD) (aG cZ) a0 a1):Eg a0 a1=some (a1+((aG cZ a0:Nat):Int)):=by
 have hlen:=jI bB8 a0
 have h1:=h.1
 have h2:=h.2.1
 unfold Eg
 rw[iK xD h (by omega) (fun rec k i hi hP=>by
  clear h hlen h1 h2
  obtain⟨p1,p2,x,p3,p4⟩:=hP
  rw[←p4] at p2
  unfold cZ at p2
  have b0:0≤k:=by omega
  have d0:k+1≤4611686018427387904:=by omega
  have z0:k≤4611686018427387904:=by omega
  have b1:0≤k+1:=by omega
  have d1:k+1+((aG aS x.Accounts:Nat):Int)≤4611686018427387904:=by omega
  have t1:decide (k+1+((aG aS x.Accounts:Nat):Int)<0)=false:=decide_eq_false (by omega)
  have b2:0≤k+1+((aG aS x.Accounts:Nat):Int):=by omega
  have d2:k+1+((aG aS x.Accounts:Nat):Int)+1≤4611686018427387904:=by omega
  have b3:0≤k+1+((aG aS x.Accounts:Nat):Int)+1:=by omega
  have d3:k+1+((aG aS x.Accounts:Nat):Int)+1+1≤4611686018427387904:=by omega
  have b4:0≤k+1+((aG aS x.Accounts:Nat):Int)+1+1:=by omega
  have d4:k+1+((aG aS x.Accounts:Nat):Int)+1+1+((aG aZ x.Book.Open:Nat):Int)≤4611686018427387904:=by omega
  have t4:decide (k+1+((aG aS x.Accounts:Nat):Int)+1+1+((aG aZ x.Book.Open:Nat):Int)<0)=false:=decide_eq_false (by omega)
  have b5:0≤k+1+((aG aS x.Accounts:Nat):Int)+1+1+((aG aZ x.Book.Open:Nat):Int):=by omega
  have d5:k+1+((aG aS x.Accounts:Nat):Int)+1+1+((aG aZ x.Book.Open:Nat):Int)+((aG fP x.Logins:Nat):Int)≤4611686018427387904:=by omega
  have t5:decide (k+1+((aG aS x.Accounts:Nat):Int)+1+1+((aG aZ x.Book.Open:Nat):Int)+((aG fP x.Logins:Nat):Int)<0)=false:=decide_eq_false (by omega)
  have nn:k+1+((aG aS x.Accounts:Nat):Int)+1+1+((aG aZ x.Book.Open:Nat):Int)+((aG fP x.Logins:Nat):Int)=k+((cZ x:Nat):Int):=by unfold cZ;omega
  have e0:a0[i].Name=(Ea k):=by rw[p3];simp only[gD]
  have s0:=aJn (k:=k) b0 z0
  have w0:IntKind.i64.wrap (k+1)=k+1:=aM b0 d0
  have f1:=bP mK x.Accounts (k+1) b1 d1
  have e1:a0[i].Accounts=(bL dO x.Accounts (k+1)).1:=by rw[p3];simp only[gD,w0]
  have m1:=f1.1
  have c1:aG aS a0[i].Accounts=aG aS x.Accounts:=by rw[e1];exact f1.2
  have h1:bO (bL dO) (aG aS) a0[i].Accounts (k+1):=fE b1 d1 e1 c1
  have e2:a0[i].Book.Seed=(k+1+((aG aS x.Accounts:Nat):Int)):=by rw[p3];simp only[gD,w0,m1]
  have w2:IntKind.i64.wrap (k+1+((aG aS x.Accounts:Nat):Int)+1)=k+1+((aG aS x.Accounts:Nat):Int)+1:=aM b2 d2
  have e3:a0[i].Book.Next=(k+1+((aG aS x.Accounts:Nat):Int)+1):=by rw[p3];simp only[gD,w0,m1,w2]
  have w3:IntKind.i64.wrap (k+1+((aG aS x.Accounts:Nat):Int)+1+1)=k+1+((aG aS x.Accounts:Nat):Int)+1+1:=aM b3 d3
  have f4:=bP kF x.Book.Open (k+1+((aG aS x.Accounts:Nat):Int)+1+1) b4 d4
  have e4:a0[i].Book.Open=(bL dF x.Book.Open (k+1+((aG aS x.Accounts:Nat):Int)+1+1)).1:=by rw[p3];simp only[gD,w0,m1,w2,w3]
  have m4:=f4.1
  have c4:aG aZ a0[i].Book.Open=aG aZ x.Book.Open:=by rw[e4];exact f4.2
  have h4:bO (bL dF) (aG aZ) a0[i].Book.Open (k+1+((aG aS x.Accounts:Nat):Int)+1+1):=fE b4 d4 e4 c4
  have f5:=bP aOy x.Logins (k+1+((aG aS x.Accounts:Nat):Int)+1+1+((aG aZ x.Book.Open:Nat):Int)) b5 d5
  have e5:a0[i].Logins=(bL mkI x.Logins (k+1+((aG aS x.Accounts:Nat):Int)+1+1+((aG aZ x.Book.Open:Nat):Int))).1:=by rw[p3];simp only[gD,w0,m1,w2,w3,m4]
  have m5:=f5.1
  have c5:aG fP a0[i].Logins=aG fP x.Logins:=by rw[e5];exact f5.2
  have h5:bO (bL mkI) (aG fP) a0[i].Logins (k+1+((aG aS x.Accounts:Nat):Int)+1+1+((aG aZ x.Book.Open:Nat):Int)):=fE b5 d5 e5 c5
  simp only[bH hi,cond_true,aH hi,s0,e0,w0,aD h1,c1,t1,e2,w2,e3,w3,aD h4,c4,t4,aD h5,c5,t5,bne_self_eq_false,beq_self_eq_true,Bool.not_true,cond_false,bd_s,dW,gd_T]
  rw[←p4,←nn]) (fun rec k=>by simp only[bJ,cond_false])]
 rfl
theorem C9 (a0:List D.aAN)(a1:Int)(h:bO (bL eP) (aG bQ) a0 a1):xJ a0 a1=some (a1+((aG bQ a0:Nat):Int)):=by
 have hlen:=jI aX0 a0
 have h1:=h.1
 have h2:=h.2.1
 unfold xJ
 rw[iK oI h (by omega) (fun rec k i hi hP=>by
  clear h hlen h1 h2
  obtain⟨p1,p2,x,p3,p4⟩:=hP
  rw[←p4] at p2
  unfold bQ at p2
  have b0:0≤k:=by omega
  have d0:k+1≤4611686018427387904:=by omega
  have b1:0≤k+1:=by omega
  have d1:k+1+1≤4611686018427387904:=by omega
  have b2:0≤k+1+1:=by omega
  have d2:k+1+1+1≤4611686018427387904:=by omega
  have b3:0≤k+1+1+1:=by omega
  have d3:k+1+1+1+1≤4611686018427387904:=by omega
  have b4:0≤k+1+1+1+1:=by omega
  have d4:k+1+1+1+1+1≤4611686018427387904:=by omega
  have nn:k+1+1+1+1+1=k+((bQ x:Nat):Int):=by unfold bQ;omega
  have e0:a0[i].aAO.Index=k:=by rw[p3];simp only[eP]
  have w0:IntKind.i64.wrap (k+1)=k+1:=aM b0 d0
  have e1:a0[i].aAO.Value=(k+1):=by rw[p3];simp only[eP,w0]
  have w1:IntKind.i64.wrap (k+1+1)=k+1+1:=aM b1 d1
  have e2:a0[i].Epoch=(k+1+1):=by rw[p3];simp only[eP,w0,w1]
  have w2:IntKind.i64.wrap (k+1+1+1)=k+1+1+1:=aM b2 d2
  have e3:a0[i].Guesses=(k+1+1+1):=by rw[p3];simp only[eP,w0,w1,w2]
  have w3:IntKind.i64.wrap (k+1+1+1+1)=k+1+1+1+1:=aM b3 d3
  have e4:a0[i].Limit=(k+1+1+1+1):=by rw[p3];simp only[eP,w0,w1,w2,w3]
  have w4:IntKind.i64.wrap (k+1+1+1+1+1)=k+1+1+1+1+1:=aM b4 d4
  simp only[bH hi,cond_true,aH hi,e0,w0,e1,w1,e2,w2,e3,w3,e4,w4,bne_self_eq_false,beq_self_eq_true,Bool.not_true,cond_false,bd_s,dW,gd_T]
  rw[←p4,←nn]) (fun rec k=>by simp only[bJ,cond_false])]
 rfl
theorem Gq (a0:List D.aAD)(a1:Int)(h:bO (bL bN) (aG aV) a0 a1):oL a0 a1=some (a1+((aG aV a0:Nat):Int)):=by
 have hlen:=jI aEn a0
 have h1:=h.1
 have h2:=h.2.1
 unfold oL
 rw[iK jO h (by omega) (fun rec k i hi hP=>by
  clear h hlen h1 h2
  obtain⟨p1,p2,x,p3,p4⟩:=hP
  rw[←p4] at p2
  unfold aV at p2
  have b0:0≤k:=by omega
  have d0:k+1≤4611686018427387904:=by omega
  have b1:0≤k+1:=by omega
  have d1:k+1+1≤4611686018427387904:=by omega
  have b2:0≤k+1+1:=by omega
  have d2:k+1+1+1≤4611686018427387904:=by omega
  have b3:0≤k+1+1+1:=by omega
  have d3:k+1+1+1+1≤4611686018427387904:=by omega
  have b4:0≤k+1+1+1+1:=by omega
  have d4:k+1+1+1+1+1≤4611686018427387904:=by omega
  have b5:0≤k+1+1+1+1+1:=by omega
  have d5:k+1+1+1+1+1+((aG bQ x.Saved:Nat):Int)≤4611686018427387904:=by omega
  have t5:decide (k+1+1+1+1+1+((aG bQ x.Saved:Nat):Int)<0)=false:=decide_eq_false (by omega)
  have b6:0≤k+1+1+1+1+1+((aG bQ x.Saved:Nat):Int):=by omega
  have d6:k+1+1+1+1+1+((aG bQ x.Saved:Nat):Int)+1≤4611686018427387904:=by omega
  have nn:k+1+1+1+1+1+((aG bQ x.Saved:Nat):Int)+1=k+((aV x:Nat):Int):=by unfold aV;omega
  have e0:a0[i].State.aAO.Index=k:=by rw[p3];simp only[bN]
  have w0:IntKind.i64.wrap (k+1)=k+1:=aM b0 d0
  have e1:a0[i].State.aAO.Value=(k+1):=by rw[p3];simp only[bN,w0]
  have w1:IntKind.i64.wrap (k+1+1)=k+1+1:=aM b1 d1
  have e2:a0[i].State.Epoch=(k+1+1):=by rw[p3];simp only[bN,w0,w1]
  have w2:IntKind.i64.wrap (k+1+1+1)=k+1+1+1:=aM b2 d2
  have e3:a0[i].State.Guesses=(k+1+1+1):=by rw[p3];simp only[bN,w0,w1,w2]
  have w3:IntKind.i64.wrap (k+1+1+1+1)=k+1+1+1+1:=aM b3 d3
  have e4:a0[i].State.Limit=(k+1+1+1+1):=by rw[p3];simp only[bN,w0,w1,w2,w3]
  have w4:IntKind.i64.wrap (k+1+1+1+1+1)=k+1+1+1+1+1:=aM b4 d4
  have f5:=bP oI x.Saved (k+1+1+1+1+1) b5 d5
  have e5:a0[i].Saved=(bL eP x.Saved (k+1+1+1+1+1)).1:=by rw[p3];simp only[bN,w0,w1,w2,w3,w4]
  have m5:=f5.1
  have c5:aG bQ a0[i].Saved=aG bQ x.Saved:=by rw[e5];exact f5.2
  have h5:bO (bL eP) (aG bQ) a0[i].Saved (k+1+1+1+1+1):=fE b5 d5 e5 c5
  have e6:a0[i].Monotonic=(k+1+1+1+1+1+((aG bQ x.Saved:Nat):Int)):=by rw[p3];simp only[bN,w0,w1,w2,w3,w4,m5]
  have w6:IntKind.i64.wrap (k+1+1+1+1+1+((aG bQ x.Saved:Nat):Int)+1)=k+1+1+1+1+1+((aG bQ x.Saved:Nat):Int)+1:=aM b6 d6
  simp only[bH hi,cond_true,aH hi,e0,w0,e1,w1,e2,w2,e3,w3,e4,w4,aD h5,c5,t5,e6,w6,bne_self_eq_false,beq_self_eq_true,Bool.not_true,cond_false,bd_s,dW,gd_T]
  rw[←p4,←nn]) (fun rec k=>by simp only[bJ,cond_false])]
 rfl
theorem D5 (a0:List D.aAM)(a1:Int)(h:bO (bL dZ) (aG bZ) a0 a1):xK a0 a1=some (a1+((aG bZ a0:Nat):Int)):=by
 have hlen:=jI aX2 a0
 have h1:=h.1
 have h2:=h.2.1
 unfold xK
 rw[iK lU h (by omega) (fun rec k i hi hP=>by
  clear h hlen h1 h2
  obtain⟨p1,p2,x,p3,p4⟩:=hP
  rw[←p4] at p2
  unfold bZ at p2
  have b0:0≤k:=by omega
  have d0:k+1≤4611686018427387904:=by omega
  have b1:0≤k+1:=by omega
  have d1:k+1+1≤4611686018427387904:=by omega
  have b2:0≤k+1+1:=by omega
  have d2:k+1+1+1≤4611686018427387904:=by omega
  have b3:0≤k+1+1+1:=by omega
  have d3:k+1+1+1+1≤4611686018427387904:=by omega
  have nn:k+1+1+1+1=k+((bZ x:Nat):Int):=by unfold bZ;omega
  have e0:a0[i].Kind=k:=by rw[p3];simp only[dZ]
  have w0:IntKind.i64.wrap (k+1)=k+1:=aM b0 d0
  have e1:a0[i].aAG=(k+1):=by rw[p3];simp only[dZ,w0]
  have w1:IntKind.i64.wrap (k+1+1)=k+1+1:=aM b1 d1
  have e2:a0[i].Time=(k+1+1):=by rw[p3];simp only[dZ,w0,w1]
  have w2:IntKind.i64.wrap (k+1+1+1)=k+1+1+1:=aM b2 d2
  have e3:a0[i].Seen=((k+1+1+1).tmod 3==0):=by rw[p3];simp only[dZ,w0,w1,w2]
  have w3:IntKind.i64.wrap (k+1+1+1+1)=k+1+1+1+1:=aM b3 d3
  simp only[bH hi,cond_true,aH hi,e0,w0,e1,w1,e2,w2,e3,w3,bne_self_eq_false,beq_self_eq_true,Bool.not_true,cond_false,bd_s,dW,gd_T]
  rw[←p4,←nn]) (fun rec k=>by simp only[bJ,cond_false])]
 rfl
theorem D6 (a0:D.aAK)(k:Int)(h:bO fI bF a0 k):xL a0 k=some (k+((bF a0:Nat):Int)):=by
 obtain⟨p1,p2,x,p3,p4⟩:=h
 rw[←p4] at p2
 unfold bF at p2
 have b0:0≤k:=by omega
 have d0:k+(((aG bZ) x.Notices:Nat):Int)≤4611686018427387904:=by omega
 have t0:decide (k+(((aG bZ) x.Notices:Nat):Int)<0)=false:=decide_eq_false (by omega)
 have nn:k+(((aG bZ) x.Notices:Nat):Int)=k+((bF x:Nat):Int):=by simp only[bF]<;>omega
 have f0:=(bP lU) x.Notices k b0 d0
 have e0:a0.Notices=((bL dZ) x.Notices k).1:=by rw[p3];simp only[fI]
 have m0:=f0.1
 have c0:(aG bZ) a0.Notices=(aG bZ) x.Notices:=by rw[e0];exact f0.2
 have h0:bO (bL dZ) (aG bZ) a0.Notices k:=fE b0 d0 e0 c0
 unfold xL
 simp only[aD h0,c0,t0,cond_false,bd_s]
 rw[←p4,←nn]
theorem aFd (a0:D.World)(k:Int)(h:bO dG eG a0 k):Eh a0 k=some (k+((eG a0:Nat):Int)):=by
 obtain⟨p1,p2,x,p3,p4⟩:=h
 rw[←p4] at p2
 unfold eG at p2
 have b0:0≤k:=by first|omega|(simp only[bB,bF];omega)
 have d0:k+(((aG aT) x.Devices:Nat):Int)≤4611686018427387904:=by first|omega|(simp only[bB,bF];omega)
 have t0:decide (k+(((aG aT) x.Devices:Nat):Int)<0)=false:=decide_eq_false (by first|omega|(simp only[bB,bF];omega))
 have b1:0≤k+(((aG aT) x.Devices:Nat):Int):=by first|omega|(simp only[bB,bF];omega)
 have d1:k+(((aG aT) x.Devices:Nat):Int)+(((aG fP) x.Stolen:Nat):Int)≤4611686018427387904:=by first|omega|(simp only[bB,bF];omega)
 have t1:decide (k+(((aG aT) x.Devices:Nat):Int)+(((aG fP) x.Stolen:Nat):Int)<0)=false:=decide_eq_false (by first|omega|(simp only[bB,bF];omega))
 have b2:0≤k+(((aG aT) x.Devices:Nat):Int)+(((aG fP) x.Stolen:Nat):Int):=by first|omega|(simp only[bB,bF];omega)
 have d2:k+(((aG aT) x.Devices:Nat):Int)+(((aG fP) x.Stolen:Nat):Int)+((bB x.aAH:Nat):Int)≤4611686018427387904:=by first|omega|(simp only[bB,bF];omega)
 have t2:decide (k+(((aG aT) x.Devices:Nat):Int)+(((aG fP) x.Stolen:Nat):Int)+((bB x.aAH:Nat):Int)<0)=false:=decide_eq_false (by first|omega|(simp only[bB,bF];omega))
 have b3:0≤k+(((aG aT) x.Devices:Nat):Int)+(((aG fP) x.Stolen:Nat):Int)+((bB x.aAH:Nat):Int):=by first|omega|(simp only[bB,bF];omega)
 have d3:k+(((aG aT) x.Devices:Nat):Int)+(((aG fP) x.Stolen:Nat):Int)+((bB x.aAH:Nat):Int)+(((aG cZ) x.Sites:Nat):Int)≤4611686018427387904:=by first|omega|(simp only[bB,bF];omega)
 have t3:decide (k+(((aG aT) x.Devices:Nat):Int)+(((aG fP) x.Stolen:Nat):Int)+((bB x.aAH:Nat):Int)+(((aG cZ) x.Sites:Nat):Int)<0)=false:=decide_eq_false (by first|omega|(simp only[bB,bF];omega))
 have b4:0≤k+(((aG aT) x.Devices:Nat):Int)+(((aG fP) x.Stolen:Nat):Int)+((bB x.aAH:Nat):Int)+(((aG cZ) x.Sites:Nat):Int):=by first|omega|(simp only[bB,bF];omega)
 have d4:k+(((aG aT) x.Devices:Nat):Int)+(((aG fP) x.Stolen:Nat):Int)+((bB x.aAH:Nat):Int)+(((aG cZ) x.Sites:Nat):Int)+(((aG aV) x.Hosts:Nat):Int)≤4611686018427387904:=by first|omega|(simp only[bB,bF];omega)
 have t4:decide (k+(((aG aT) x.Devices:Nat):Int)+(((aG fP) x.Stolen:Nat):Int)+((bB x.aAH:Nat):Int)+(((aG cZ) x.Sites:Nat):Int)+(((aG aV) x.Hosts:Nat):Int)<0)=false:=decide_eq_false (by first|omega|(simp only[bB,bF];omega))
 have b5:0≤k+(((aG aT) x.Devices:Nat):Int)+(((aG fP) x.Stolen:Nat):Int)+((bB x.aAH:Nat):Int)+(((aG cZ) x.Sites:Nat):Int)+(((aG aV) x.Hosts:Nat):Int):=by first|omega|(simp only[bB,bF];omega)
 have d5:k+(((aG aT) x.Devices:Nat):Int)+(((aG fP) x.Stolen:Nat):Int)+((bB x.aAH:Nat):Int)+(((aG cZ) x.Sites:Nat):Int)+(((aG aV) x.Hosts:Nat):Int)+((bF x.Mail:Nat):Int)≤4611686018427387904:=by first|omega|(simp only[bB,bF];omega)
 have t5:decide (k+(((aG aT) x.Devices:Nat):Int)+(((aG fP) x.Stolen:Nat):Int)+((bB x.aAH:Nat):Int)+(((aG cZ) x.Sites:Nat):Int)+(((aG aV) x.Hosts:Nat):Int)+((bF x.Mail:Nat):Int)<0)=false:=decide_eq_false (by first|omega|(simp only[bB,bF];omega))
 have nn:k+(((aG aT) x.Devices:Nat):Int)+(((aG fP) x.Stolen:Nat):Int)+((bB x.aAH:Nat):Int)+(((aG cZ) x.Sites:Nat):Int)+(((aG aV) x.Hosts:Nat):Int)+((bF x.Mail:Nat):Int)=k+((eG x:Nat):Int):=by simp only[eG,bB,bF]<;>omega
 have f0:=(bP oG) x.Devices k b0 d0
 have e0:a0.Devices=((bL cK) x.Devices k).1:=by rw[p3];simp only[dG]
 have m0:=f0.1
 have c0:(aG aT) a0.Devices=(aG aT) x.Devices:=by rw[e0];exact f0.2
 have h0:bO (bL cK) (aG aT) a0.Devices k:=fE b0 d0 e0 c0
 have f1:=(bP aOz) x.Stolen (k+(((aG aT) x.Devices:Nat):Int)) b1 d1
 have e1:a0.Stolen=((bL mkB) x.Stolen (k+(((aG aT) x.Devices:Nat):Int))).1:=by rw[p3];simp only[dG,m0]
 have m1:=f1.1
 have c1:(aG fP) a0.Stolen=(aG fP) x.Stolen:=by rw[e1];exact f1.2
 have h1:bO (bL mkB) (aG fP) a0.Stolen (k+(((aG aT) x.Devices:Nat):Int)):=fE b1 d1 e1 c1
 have f2:=bAk x.aAH (k+(((aG aT) x.Devices:Nat):Int)+(((aG fP) x.Stolen:Nat):Int)) b2 d2
 have e2:a0.aAH=(gX x.aAH (k+(((aG aT) x.Devices:Nat):Int)+(((aG fP) x.Stolen:Nat):Int))).1:=by rw[p3];simp only[dG,gX,m0,m1]
 have m2:=f2.1
 simp only[gX,m0,m1] at m2
 have c2:bB a0.aAH=bB x.aAH:=by rw[e2];exact f2.2
 have h2:bO gX bB a0.aAH (k+(((aG aT) x.Devices:Nat):Int)+(((aG fP) x.Stolen:Nat):Int)):=fE b2 d2 e2 c2
 have f3:=(bP xD) x.Sites (k+(((aG aT) x.Devices:Nat):Int)+(((aG fP) x.Stolen:Nat):Int)+((bB x.aAH:Nat):Int)) b3 d3
 have e3:a0.Sites=((bL gD) x.Sites (k+(((aG aT) x.Devices:Nat):Int)+(((aG fP) x.Stolen:Nat):Int)+((bB x.aAH:Nat):Int))).1:=by rw[p3];simp only[dG,m0,m1,m2]
 have m3:=f3.1
 have c3:(aG cZ) a0.Sites=(aG cZ) x.Sites:=by rw[e3];exact f3.2
 have h3:bO (bL gD) (aG cZ) a0.Sites (k+(((aG aT) x.Devices:Nat):Int)+(((aG fP) x.Stolen:Nat):Int)+((bB x.aAH:Nat):Int)):=fE b3 d3 e3 c3
 have f4:=(bP jO) x.Hosts (k+(((aG aT) x.Devices:Nat):Int)+(((aG fP) x.Stolen:Nat):Int)+((bB x.aAH:Nat):Int)+(((aG cZ) x.Sites:Nat):Int)) b4 d4
 have e4:a0.Hosts=((bL bN) x.Hosts (k+(((aG aT) x.Devices:Nat):Int)+(((aG fP) x.Stolen:Nat):Int)+((bB x.aAH:Nat):Int)+(((aG cZ) x.Sites:Nat):Int))).1:=by rw[p3];simp only[dG,m0,m1,m2,m3]
 have m4:=f4.1
 have c4:(aG aV) a0.Hosts=(aG aV) x.Hosts:=by rw[e4];exact f4.2
 have h4:bO (bL bN) (aG aV) a0.Hosts (k+(((aG aT) x.Devices:Nat):Int)+(((aG fP) x.Stolen:Nat):Int)+((bB x.aAH:Nat):Int)+(((aG cZ) x.Sites:Nat):Int)):=fE b4 d4 e4 c4
 have f5:=aTr x.Mail (k+(((aG aT) x.Devices:Nat):Int)+(((aG fP) x.Stolen:Nat):Int)+((bB x.aAH:Nat):Int)+(((aG cZ) x.Sites:Nat):Int)+(((aG aV) x.Hosts:Nat):Int)) b5 d5
 have e5:a0.Mail=(fI x.Mail (k+(((aG aT) x.Devices:Nat):Int)+(((aG fP) x.Stolen:Nat):Int)+((bB x.aAH:Nat):Int)+(((aG cZ) x.Sites:Nat):Int)+(((aG aV) x.Hosts:Nat):Int))).1:=by rw[p3];simp only[dG,fI,m0,m1,m2,m3,m4]
 have m5:=f5.1
 simp only[fI,m0,m1,m2,m3,m4] at m5
 have c5:bF a0.Mail=bF x.Mail:=by rw[e5];exact f5.2
 have h5:bO fI bF a0.Mail (k+(((aG aT) x.Devices:Nat):Int)+(((aG fP) x.Stolen:Nat):Int)+((bB x.aAH:Nat):Int)+(((aG cZ) x.Sites:Nat):Int)+(((aG aV) x.Hosts:Nat):Int)):=fE b5 d5 e5 c5
 unfold Eh
 simp only[aD h0,c0,t0,aD h1,c1,t1,aD h2,c2,t2,aD h3,c3,t3,aD h4,c4,t4,aD h5,c5,t5,cond_false,bd_s]
 rw[←p4,←nn]
end
end Go.VK
