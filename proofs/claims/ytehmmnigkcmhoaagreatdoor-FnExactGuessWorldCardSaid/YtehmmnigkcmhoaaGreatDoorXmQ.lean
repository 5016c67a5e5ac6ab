import Derived.Test.YtehmmnigkcmhoaaGreatDoorXmM
/- Printed by wip/tools: models, walks, proofs. -/
set_option linter.unusedVariables false
set_option linter.unusedSimpArgs false
set_option maxRecDepth 100000
set_option maxHeartbeats 4000000
namespace Go.VK
open Go.RowKit Go.Proofs
noncomputable section
open EV (cB)
theorem Sa (a0:List D.aAD)(a1:Int)(h:fE (gW (fun _:D.aAD=>True)) a0 a1):sM a0 a1=some (dQ (a0.length) a1):=by
 obtain⟨h1,h3⟩:=h
 unfold sM
 exact Ai h1.1 h3
theorem aCq (a0:List D.Entry)(a1:Int)(h:fE (gW (fun _:D.Entry=>True)) a0 a1):Cy a0 a1=some (dQ (a0.length) a1):=by
 obtain⟨h1,h3⟩:=h
 unfold Cy
 exact Ai h1.1 h3
theorem aCr (a0:D.aAH)(a1:Int)(h:fE D.aAH.ok a0 a1):Cz a0 a1=some (dQ (a0.sz) a1):=by
 obtain⟨h1,h3⟩:=h
 unfold Cz
 have e:a0.sz=(a0.Entries.length):=by simp only[D.aAH.sz]<;>omega
 rw[e]
 rw[aG (show fE (gW (fun _:D.Entry=>True)) (a0.Entries) _ from⟨h1,h3⟩),bd_s]
 exact Cu h3
theorem aCs (a0:D.Device)(a1:Int)(h:fE D.Device.ok a0 a1):Da a0 a1=some (dQ (a0.sz) a1):=by
 obtain⟨h1,h3⟩:=h
 unfold Da
 have e:a0.sz=((a0.Log.length)+(a0.aAH.sz)):=by simp only[D.aAH.sz,D.Device.sz,D.aAO.sz]<;>omega
 rw[e]
 rw[aG (show fE (gW (fun _:D.aAD=>True)) (a0.Log) _ from⟨h1.1,h3⟩),bd_s]
 refine aK4 h3 (fun p1=> ?_)
 revert p1
 generalize dQ (a0.Log.length) a1=l1
 intro p1
 rw[aG (show fE D.aAH.ok (a0.aAH) _ from⟨h1.2,p1⟩),bd_s]
 exact Cu p1
theorem K4 (a0:List D.Device)(a1:Int)(h:fE (gW D.Device.ok) a0 a1):xG a0 a1=some (dQ (a0.length+(a0.map D.Device.sz).sum) a1):=by
 unfold xG
 exact J2 h (fun rec i left hi hp=>by simp only[bG hi,cond_true,aD hi,bd_s,aG hp]) (fun rec left=>by simp only[bH,cond_false])
theorem aG6 (a0:List Bool)(a1:Int)(h:fE (gW (fun _:Bool=>True)) a0 a1):Ig a0 a1=some (dQ (a0.length) a1):=by
 obtain⟨h1,h3⟩:=h
 unfold Ig
 exact Ai h1.1 h3
theorem aG7 (a0:List Int)(a1:Int)(h:fE (gW (fun _:Int=>True)) a0 a1):Ih a0 a1=some (dQ (a0.length) a1):=by
 obtain⟨h1,h3⟩:=h
 unfold Ih
 exact Ai h1.1 h3
theorem aPg (a0:D.Box)(a1:Int)(h:fE D.Box.ok a0 a1):Xi a0 a1=some (dQ (a0.sz) a1):=by
 obtain⟨h1,h3⟩:=h
 unfold Xi
 have e:a0.sz=(a0.Data.length):=by simp only[D.Box.sz]<;>omega
 rw[e]
 rw[aG (show fE (gW (fun _:Int=>True)) (a0.Data) _ from⟨h1,h3⟩),bd_s]
 exact Cu h3
theorem aK9 (a0:List D.Box)(a1:Int)(h:fE (gW D.Box.ok) a0 a1):Ql a0 a1=some (dQ (a0.length+(a0.map D.Box.sz).sum) a1):=by
 unfold Ql
 exact J2 h (fun rec i left hi hp=>by simp only[bG hi,cond_true,aD hi,bd_s,aG hp]) (fun rec left=>by simp only[bH,cond_false])
theorem Nh (a0:D.aAF)(a1:Int)(h:fE D.aAF.ok a0 a1):pR a0 a1=some (dQ (a0.sz) a1):=by
 obtain⟨h1,h3⟩:=h
 unfold pR
 have e:a0.sz=(a0.Boxes.length+(a0.Boxes.map D.Box.sz).sum):=by simp only[D.aAF.sz]<;>omega
 rw[e]
 rw[aG (show fE (gW D.Box.ok) (a0.Boxes) _ from⟨h1,h3⟩),bd_s]
 exact Cu h3
theorem Es (a0:D.aAB)(a1:Int)(h:fE D.aAB.ok a0 a1):mP a0 a1=some (dQ (a0.sz) a1):=by
 obtain⟨h1,h3⟩:=h
 unfold mP
 have e:a0.sz=(a0.Data.length):=by simp only[D.aAB.sz]<;>omega
 rw[e]
 rw[aG (show fE (gW (fun _:Int=>True)) (a0.Data) _ from⟨h1,h3⟩),bd_s]
 exact Cu h3
theorem Ap (a0:List D.aAB)(a1:Int)(h:fE (gW D.aAB.ok) a0 a1):lK a0 a1=some (dQ (a0.length+(a0.map D.aAB.sz).sum) a1):=by
 unfold lK
 exact J2 h (fun rec i left hi hp=>by simp only[bG hi,cond_true,aD hi,bd_s,aG hp]) (fun rec left=>by simp only[bH,cond_false])
theorem aG8 (a0:D.aAJ)(a1:Int)(h:fE D.aAJ.ok a0 a1):Ii a0 a1=some (dQ (a0.sz) a1):=by
 obtain⟨h1,h3⟩:=h
 unfold Ii
 have e:a0.sz=((a0.Log.length)+((a0.Boxes.sz)+(a0.History.length+(a0.History.map D.aAB.sz).sum))):=by simp only[D.aAJ.sz,D.aAF.sz]<;>omega
 rw[e]
 rw[aG (show fE (gW (fun _:D.aAD=>True)) (a0.Log) _ from⟨h1.1,h3⟩),bd_s]
 refine aK4 h3 (fun p1=> ?_)
 revert p1
 generalize dQ (a0.Log.length) a1=l1
 intro p1
 rw[aG (show fE D.aAF.ok (a0.Boxes) _ from⟨h1.2.1,p1⟩),bd_s]
 refine aK4 p1 (fun p2=> ?_)
 revert p2
 generalize dQ (a0.Boxes.sz) l1=l2
 intro p2
 rw[aG (show fE (gW D.aAB.ok) (a0.History) _ from⟨h1.2.2,p2⟩),bd_s]
 exact Cu p2
theorem Ki (a0:List D.aAG)(a1:Int)(h:fE (gW (fun _:D.aAG=>True)) a0 a1):oI a0 a1=some (dQ (a0.length) a1):=by
 obtain⟨h1,h3⟩:=h
 unfold oI
 exact Ai h1.1 h3
theorem K5 (a0:D.aAE)(a1:Int)(h:fE D.aAE.ok a0 a1):xH a0 a1=some (dQ (a0.sz) a1):=by
 obtain⟨h1,h3⟩:=h
 unfold xH
 have e:a0.sz=(a0.Credentials.length):=by simp only[D.aAE.sz]<;>omega
 rw[e]
 rw[aG (show fE (gW (fun _:D.aAG=>True)) (a0.Credentials) _ from⟨h1,h3⟩),bd_s]
 exact Cu h3
theorem Xo (a0:List D.aAE)(a1:Int)(h:fE (gW D.aAE.ok) a0 a1):vB a0 a1=some (dQ (a0.length+(a0.map D.aAE.sz).sum) a1):=by
 unfold vB
 exact J2 h (fun rec i left hi hp=>by simp only[bG hi,cond_true,aD hi,bd_s,aG hp]) (fun rec left=>by simp only[bH,cond_false])
theorem Ni (a0:List D.aAK)(a1:Int)(h:fE (gW (fun _:D.aAK=>True)) a0 a1):pU a0 a1=some (dQ (a0.length) a1):=by
 obtain⟨h1,h3⟩:=h
 unfold pU
 exact Ai h1.1 h3
theorem Aq (a0:D.aAC)(a1:Int)(h:fE D.aAC.ok a0 a1):lL a0 a1=some (dQ (a0.sz) a1):=by
 obtain⟨h1,h3⟩:=h
 unfold lL
 have e:a0.sz=(a0.Open.length):=by simp only[D.aAC.sz]<;>omega
 rw[e]
 rw[aG (show fE (gW (fun _:D.aAK=>True)) (a0.Open) _ from⟨h1,h3⟩),bd_s]
 exact Cu h3
theorem aLa (a0:List Int)(a1:Int)(h:fE (gW (fun _:Int=>True)) a0 a1):Qm a0 a1=some (dQ (a0.length) a1):=by
 obtain⟨h1,h3⟩:=h
 unfold Qm
 exact Ai h1.1 h3
theorem aLb (a0:D.Site)(a1:Int)(h:fE D.Site.ok a0 a1):Qn a0 a1=some (dQ (a0.sz) a1):=by
 obtain⟨h1,h3⟩:=h
 unfold Qn
 have e:a0.sz=((a0.Name.size)+((a0.Accounts.length+(a0.Accounts.map D.aAE.sz).sum)+((a0.Book.sz)+(a0.Logins.length)))):=by simp only[D.aAC.sz,D.Site.sz]<;>omega
 rw[e]
 have w0:IntKind.i64.wrap (a1-((a0.Name).size:Int))=a1-((a0.Name).size:Int):=by have:=h3.1;have:=h3.2;have:(a0.Name).size≤9223372036854775807:=h1.1;exact bN (by omega) (by omega)
 rw[w0]
 refine bC0 h3 (fun p1=> ?_)
 revert p1
 generalize a1-((a0.Name).size:Int)=l1
 intro p1
 rw[aG (show fE (gW D.aAE.ok) (a0.Accounts) _ from⟨h1.2.1,p1⟩),bd_s]
 refine aK4 p1 (fun p2=> ?_)
 revert p2
 generalize dQ (a0.Accounts.length+(a0.Accounts.map D.aAE.sz).sum) l1=l2
 intro p2
 rw[aG (show fE D.aAC.ok (a0.Book) _ from⟨h1.2.2.1,p2⟩),bd_s]
 refine aK4 p2 (fun p3=> ?_)
 revert p3
 generalize dQ (a0.Book.sz) l2=l3
 intro p3
 rw[aG (show fE (gW (fun _:Int=>True)) (a0.Logins) _ from⟨h1.2.2.2,p3⟩),bd_s]
 exact Cu p3
theorem aG9 (a0:List D.Site)(a1:Int)(h:fE (gW D.Site.ok) a0 a1):Ij a0 a1=some (dQ (a0.length+(a0.map D.Site.sz).sum) a1):=by
 unfold Ij
 exact J2 h (fun rec i left hi hp=>by simp only[bG hi,cond_true,aD hi,bd_s,aG hp]) (fun rec left=>by simp only[bH,cond_false])
theorem K6 (a0:List D.aAL)(a1:Int)(h:fE (gW (fun _:D.aAL=>True)) a0 a1):xI a0 a1=some (dQ (a0.length) a1):=by
 obtain⟨h1,h3⟩:=h
 unfold xI
 exact Ai h1.1 h3
theorem Nj (a0:D.aAA)(a1:Int)(h:fE D.aAA.ok a0 a1):pV a0 a1=some (dQ (a0.sz) a1):=by
 obtain⟨h1,h3⟩:=h
 unfold pV
 have e:a0.sz=(a0.Saved.length):=by simp only[D.aAL.sz,D.aAA.sz,D.aAN.sz]<;>omega
 rw[e]
 rw[aG (show fE (gW (fun _:D.aAL=>True)) (a0.Saved) _ from⟨h1,h3⟩),bd_s]
 exact Cu h3
theorem Kj (a0:List D.aAA)(a1:Int)(h:fE (gW D.aAA.ok) a0 a1):oJ a0 a1=some (dQ (a0.length+(a0.map D.aAA.sz).sum) a1):=by
 unfold oJ
 exact J2 h (fun rec i left hi hp=>by simp only[bG hi,cond_true,aD hi,bd_s,aG hp]) (fun rec left=>by simp only[bH,cond_false])
theorem K7 (a0:List D.aAM)(a1:Int)(h:fE (gW (fun _:D.aAM=>True)) a0 a1):xJ a0 a1=some (dQ (a0.length) a1):=by
 obtain⟨h1,h3⟩:=h
 unfold xJ
 exact Ai h1.1 h3
theorem K8 (a0:D.aAI)(a1:Int)(h:fE D.aAI.ok a0 a1):xK a0 a1=some (dQ (a0.sz) a1):=by
 obtain⟨h1,h3⟩:=h
 unfold xK
 have e:a0.sz=(a0.Notices.length):=by simp only[D.aAI.sz]<;>omega
 rw[e]
 rw[aG (show fE (gW (fun _:D.aAM=>True)) (a0.Notices) _ from⟨h1,h3⟩),bd_s]
 exact Cu h3
theorem aHa (a0:D.World)(a1:Int)(h:fE D.World.ok a0 a1):Ik a0 a1=some (dQ (a0.sz) a1):=by
 obtain⟨h1,h3⟩:=h
 unfold Ik
 have e:a0.sz=((a0.Devices.length+(a0.Devices.map D.Device.sz).sum)+((a0.Stolen.length)+((a0.aAJ.sz)+((a0.Sites.length+(a0.Sites.map D.Site.sz).sum)+((a0.Hosts.length+(a0.Hosts.map D.aAA.sz).sum)+(a0.Mail.sz)))))):=by simp only[D.aAJ.sz,D.aAF.sz,D.aAI.sz,D.aAQ.sz,D.World.sz]<;>omega
 rw[e]
 rw[aG (show fE (gW D.Device.ok) (a0.Devices) _ from⟨h1.1,h3⟩),bd_s]
 refine aK4 h3 (fun p1=> ?_)
 revert p1
 generalize dQ (a0.Devices.length+(a0.Devices.map D.Device.sz).sum) a1=l1
 intro p1
 rw[aG (show fE (gW (fun _:Bool=>True)) (a0.Stolen) _ from⟨h1.2.1,p1⟩),bd_s]
 refine aK4 p1 (fun p2=> ?_)
 revert p2
 generalize dQ (a0.Stolen.length) l1=l2
 intro p2
 rw[aG (show fE D.aAJ.ok (a0.aAJ) _ from⟨h1.2.2.1,p2⟩),bd_s]
 refine aK4 p2 (fun p3=> ?_)
 revert p3
 generalize dQ (a0.aAJ.sz) l2=l3
 intro p3
 rw[aG (show fE (gW D.Site.ok) (a0.Sites) _ from⟨h1.2.2.2.1,p3⟩),bd_s]
 refine aK4 p3 (fun p4=> ?_)
 revert p4
 generalize dQ (a0.Sites.length+(a0.Sites.map D.Site.sz).sum) l3=l4
 intro p4
 rw[aG (show fE (gW D.aAA.ok) (a0.Hosts) _ from⟨h1.2.2.2.2.1,p4⟩),bd_s]
 refine aK4 p4 (fun p5=> ?_)
 revert p5
 generalize dQ (a0.Hosts.length+(a0.Hosts.map D.aAA.sz).sum) l4=l5
 intro p5
 rw[aG (show fE D.aAI.ok (a0.Mail) _ from⟨h1.2.2.2.2.2,p5⟩),bd_s]
 exact Cu p5
theorem Xp (a0:D.aAO):vC a0=some (a0):=by
 unfold vC
 rfl
theorem Xq (a0:D.aAD):vD a0=some (a0):=by
 unfold vD
 rfl
theorem Sb (a0:List D.aAD)(h:a0.length≤1048576):sN a0=some (a0):=by
 unfold sN
 rw[aG (kN (by omega)),fT bJ (by omega) (fun rec i out ho hi=>by
  simp only[bG hi,cond_true,aD hi,aD (show i<out.length by omega),bd_s,bJ]) (fun rec out=>by simp only[bH,cond_false])]
 rfl
theorem aHb (a0:D.Entry):Im a0=some (a0):=by
 unfold Im
 rfl
theorem aCt (a0:List D.Entry)(h:a0.length≤1048576):Db a0=some (a0):=by
 unfold Db
 rw[aG (kN (by omega)),fT bJ (by omega) (fun rec i out ho hi=>by
  simp only[bG hi,cond_true,aD hi,aD (show i<out.length by omega),bd_s,bJ]) (fun rec out=>by simp only[bH,cond_false])]
 rfl
theorem aCu (a0:D.aAH)(h:a0.sz≤1048576):Dc a0=some (a0):=by
 unfold Dc
 simp only[D.aAH.sz] at h
 try simp only[bd_s]
 rw[aG (by first|omega|(simp only[D.aAH.sz];omega))]
 rfl
theorem aCv (a0:D.Device)(h:a0.sz≤1048576):De a0=some (a0):=by
 unfold De
 simp only[D.aAH.sz,D.Device.sz,D.aAO.sz] at h
 try simp only[bd_s]
 rw[aG (by first|omega|(simp only[D.aAH.sz,D.Device.sz,D.aAO.sz];omega))]
 try simp only[bd_s]
 rw[aG (by first|omega|(simp only[D.aAH.sz,D.Device.sz,D.aAO.sz];omega))]
 rfl
theorem K9 (a0:List D.Device)(h:a0.length+(a0.map D.Device.sz).sum≤1048576):xL a0=some (a0):=by
 unfold xL
 rw[aG (kN (by omega)),fT bJ (by omega) (fun rec i out ho hi=>by
  have hz:=dA (f:=D.Device.sz) hi
  simp only[bG hi,cond_true,aD hi,aD (show i<out.length by omega),bd_s,bJ,aG (show a0[i].sz≤1048576 by omega)]) (fun rec out=>by simp only[bH,cond_false])]
 rfl
theorem aHc (a0:List Bool)(h:a0.length≤1048576):Io a0=some (a0):=by
 unfold Io
 rw[aG (kN (by omega)),fT bJ (by omega) (fun rec i out ho hi=>by
  simp only[bG hi,cond_true,aD hi,aD (show i<out.length by omega),bd_s,bJ]) (fun rec out=>by simp only[bH,cond_false])]
 rfl
theorem aHd (a0:List Int)(h:a0.length≤1048576):Ip a0=some (a0):=by
 unfold Ip
 rw[aG (kN (by omega)),fT bJ (by omega) (fun rec i out ho hi=>by
  simp only[bG hi,cond_true,aD hi,aD (show i<out.length by omega),bd_s,bJ]) (fun rec out=>by simp only[bH,cond_false])]
 rfl
theorem aPh (a0:D.Box)(h:a0.sz≤1048576):Xj a0=some (a0):=by
 unfold Xj
 simp only[D.Box.sz] at h
 try simp only[bd_s]
 rw[aG (by first|omega|(simp only[D.Box.sz];omega))]
 rfl
theorem aLc (a0:List D.Box)(h:a0.length+(a0.map D.Box.sz).sum≤1048576):Qo a0=some (a0):=by
 unfold Qo
 rw[aG (kN (by omega)),fT bJ (by omega) (fun rec i out ho hi=>by
  have hz:=dA (f:=D.Box.sz) hi
  simp only[bG hi,cond_true,aD hi,aD (show i<out.length by omega),bd_s,bJ,aG (show a0[i].sz≤1048576 by omega)]) (fun rec out=>by simp only[bH,cond_false])]
 rfl
theorem Nk (a0:D.aAF)(h:a0.sz≤1048576):pW a0=some (a0):=by
 unfold pW
 simp only[D.aAF.sz] at h
 try simp only[bd_s]
 rw[aG (by first|omega|(simp only[D.aAF.sz];omega))]
 rfl
theorem Et (a0:D.aAB)(h:a0.sz≤1048576):mQ a0=some (a0):=by
 unfold mQ
 simp only[D.aAB.sz] at h
 try simp only[bd_s]
 rw[aG (by first|omega|(simp only[D.aAB.sz];omega))]
 rfl
theorem Ar (a0:List D.aAB)(h:a0.length+(a0.map D.aAB.sz).sum≤1048576):lM a0=some (a0):=by
 unfold lM
 rw[aG (kN (by omega)),fT bJ (by omega) (fun rec i out ho hi=>by
  have hz:=dA (f:=D.aAB.sz) hi
  simp only[bG hi,cond_true,aD hi,aD (show i<out.length by omega),bd_s,bJ,aG (show a0[i].sz≤1048576 by omega)]) (fun rec out=>by simp only[bH,cond_false])]
 rfl
theorem aHe (a0:D.aAJ)(h:a0.sz≤1048576):Iq a0=some (a0):=by
 unfold Iq
 simp only[D.aAJ.sz,D.aAF.sz] at h
 try simp only[bd_s]
 rw[aG (by first|omega|(simp only[D.aAJ.sz,D.aAF.sz];omega))]
 try simp only[bd_s]
 rw[aG (by first|omega|(simp only[D.aAJ.sz,D.aAF.sz];omega))]
 try simp only[bd_s]
 rw[aG (by first|omega|(simp only[D.aAJ.sz,D.aAF.sz];omega))]
 rfl
theorem Nl (a0:D.aAG):pX a0=some (a0):=by
 unfold pX
 rfl
theorem Kk (a0:List D.aAG)(h:a0.length≤1048576):oK a0=some (a0):=by
 unfold oK
 rw[aG (kN (by omega)),fT bJ (by omega) (fun rec i out ho hi=>by
  simp only[bG hi,cond_true,aD hi,aD (show i<out.length by omega),bd_s,bJ]) (fun rec out=>by simp only[bH,cond_false])]
 rfl
theorem L6 (a0:D.aAE)(h:a0.sz≤1048576):xM a0=some (a0):=by
 unfold xM
 simp only[D.aAE.sz] at h
 try simp only[bd_s]
 rw[aG (by first|omega|(simp only[D.aAE.sz];omega))]
 rfl
theorem Xr (a0:List D.aAE)(h:a0.length+(a0.map D.aAE.sz).sum≤1048576):vE a0=some (a0):=by
 unfold vE
 rw[aG (kN (by omega)),fT bJ (by omega) (fun rec i out ho hi=>by
  have hz:=dA (f:=D.aAE.sz) hi
  simp only[bG hi,cond_true,aD hi,aD (show i<out.length by omega),bd_s,bJ,aG (show a0[i].sz≤1048576 by omega)]) (fun rec out=>by simp only[bH,cond_false])]
 rfl
theorem Sc (a0:D.aAK):sO a0=some (a0):=by
 unfold sO
 rfl
theorem Nn (a0:List D.aAK)(h:a0.length≤1048576):pY a0=some (a0):=by
 unfold pY
 rw[aG (kN (by omega)),fT bJ (by omega) (fun rec i out ho hi=>by
  simp only[bG hi,cond_true,aD hi,aD (show i<out.length by omega),bd_s,bJ]) (fun rec out=>by simp only[bH,cond_false])]
 rfl
theorem Au (a0:D.aAC)(h:a0.sz≤1048576):lN a0=some (a0):=by
 unfold lN
 simp only[D.aAC.sz] at h
 try simp only[bd_s]
 rw[aG (by first|omega|(simp only[D.aAC.sz];omega))]
 rfl
theorem aLd (a0:List Int)(h:a0.length≤1048576):Qp a0=some (a0):=by
 unfold Qp
 rw[aG (kN (by omega)),fT bJ (by omega) (fun rec i out ho hi=>by
  simp only[bG hi,cond_true,aD hi,aD (show i<out.length by omega),bd_s,bJ]) (fun rec out=>by simp only[bH,cond_false])]
 rfl
theorem aLe (a0:D.Site)(h:a0.sz≤1048576):Qq a0=some (a0):=by
 unfold Qq
 simp only[D.aAC.sz,D.Site.sz] at h
 try simp only[bd_s]
 rw[aG (by first|omega|(simp only[D.aAC.sz,D.Site.sz];omega))]
 try simp only[bd_s]
 rw[aG (by first|omega|(simp only[D.aAC.sz,D.Site.sz];omega))]
 try simp only[bd_s]
 rw[aG (by first|omega|(simp only[D.aAC.sz,D.Site.sz];omega))]
 rfl
theorem aHf (a0:List D.Site)(h:a0.length+(a0.map D.Site.sz).sum≤1048576):Ir a0=some (a0):=by
 unfold Ir
 rw[aG (kN (by omega)),fT bJ (by omega) (fun rec i out ho hi=>by
  have hz:=dA (f:=D.Site.sz) hi
  simp only[bG hi,cond_true,aD hi,aD (show i<out.length by omega),bd_s,bJ,aG (show a0[i].sz≤1048576 by omega)]) (fun rec out=>by simp only[bH,cond_false])]
 rfl
theorem aHg (a0:D.aAQ):Iu a0=some (a0):=by
 unfold Iu
 rfl
theorem aHh (a0:D.aAN):Iw a0=some (a0):=by
 unfold Iw
 rfl
theorem aCw (a0:D.aAL):Df a0=some (a0):=by
 unfold Df
 rfl
theorem L8 (a0:List D.aAL)(h:a0.length≤1048576):xN a0=some (a0):=by
 unfold xN
 rw[aG (kN (by omega)),fT bJ (by omega) (fun rec i out ho hi=>by
  simp only[bG hi,cond_true,aD hi,aD (show i<out.length by omega),bd_s,bJ]) (fun rec out=>by simp only[bH,cond_false])]
 rfl
theorem Np (a0:D.aAA)(h:a0.sz≤1048576):qA a0=some (a0):=by
 unfold qA
 simp only[D.aAL.sz,D.aAA.sz,D.aAN.sz] at h
 try simp only[bd_s]
 rw[aG (by first|omega|(simp only[D.aAL.sz,D.aAA.sz,D.aAN.sz];omega))]
 rfl
theorem Kl (a0:List D.aAA)(h:a0.length+(a0.map D.aAA.sz).sum≤1048576):oL a0=some (a0):=by
 unfold oL
 rw[aG (kN (by omega)),fT bJ (by omega) (fun rec i out ho hi=>by
  have hz:=dA (f:=D.aAA.sz) hi
  simp only[bG hi,cond_true,aD hi,aD (show i<out.length by omega),bd_s,bJ,aG (show a0[i].sz≤1048576 by omega)]) (fun rec out=>by simp only[bH,cond_false])]
 rfl
theorem aCx (a0:D.aAM):Dh a0=some (a0):=by
 unfold Dh
 rfl
theorem L9 (a0:List D.aAM)(h:a0.length≤1048576):xO a0=some (a0):=by
 unfold xO
 rw[aG (kN (by omega)),fT bJ (by omega) (fun rec i out ho hi=>by
  simp only[bG hi,cond_true,aD hi,aD (show i<out.length by omega),bd_s,bJ]) (fun rec out=>by simp only[bH,cond_false])]
 rfl
theorem M0 (a0:D.aAI)(h:a0.sz≤1048576):xP a0=some (a0):=by
 unfold xP
 simp only[D.aAI.sz] at h
 try simp only[bd_s]
 rw[aG (by first|omega|(simp only[D.aAI.sz];omega))]
 rfl
theorem aHi (a0:D.World)(h:a0.sz≤1048576):Iy a0=some (a0):=by
 unfold Iy
 simp only[D.aAJ.sz,D.aAF.sz,D.aAI.sz,D.aAQ.sz,D.World.sz] at h
 try simp only[bd_s]
 rw[aG (by first|omega|(simp only[D.aAJ.sz,D.aAF.sz,D.aAI.sz,D.aAQ.sz,D.World.sz];omega))]
 try simp only[bd_s]
 rw[aG (by first|omega|(simp only[D.aAJ.sz,D.aAF.sz,D.aAI.sz,D.aAQ.sz,D.World.sz];omega))]
 try simp only[bd_s]
 rw[aG (by first|omega|(simp only[D.aAJ.sz,D.aAF.sz,D.aAI.sz,D.aAQ.sz,D.World.sz];omega))]
 try simp only[bd_s]
 rw[aG (by first|omega|(simp only[D.aAJ.sz,D.aAF.sz,D.aAI.sz,D.aAQ.sz,D.World.sz];omega))]
 try simp only[bd_s]
 rw[aG (by first|omega|(simp only[D.aAJ.sz,D.aAF.sz,D.aAI.sz,D.aAQ.sz,D.World.sz];omega))]
 try simp only[bd_s]
 rw[aG (by first|omega|(simp only[D.aAJ.sz,D.aAF.sz,D.aAI.sz,D.aAQ.sz,D.World.sz];omega))]
 rfl
theorem Xt (a0:D.aAO)(a1:D.aAO)(h:dK (0) a0 a1):vU a0 a1=some (true):=by
 obtain⟨rfl,hz⟩:=h
 unfold vU
 simp only[beq_self_eq_true,bne_self_eq_false,Bool.not_true,Bool.not_false,cond_true,cond_false,bd_s,nx_r]
theorem Xu (a0:D.aAD)(a1:D.aAD)(h:dK (0) a0 a1):vV a0 a1=some (true):=by
 obtain⟨rfl,hz⟩:=h
 unfold vV
 simp only[beq_self_eq_true,bne_self_eq_false,Bool.not_true,Bool.not_false,cond_true,cond_false,bd_s,nx_r]
theorem Sd (a0:List D.aAD)(a1:List D.aAD)(h:dK (a0.length) a0 a1):tL a0 a1=some (true):=by
 obtain⟨rfl,hz⟩:=h
 unfold tL
 rw[kM (a:=a0) (by omega) (fun rec i hi=>by
  simp only[bG hi,aD hi,aG (show dK (0) a0[i] a0[i] from⟨rfl,by omega⟩),beq_self_eq_true,bne_self_eq_false,Bool.not_true,Bool.not_false,cond_true,cond_false,bd_s,nx_r]) (fun rec=>by simp only[bH,cond_false])]
 simp only[beq_self_eq_true,bne_self_eq_false,Bool.not_true,Bool.not_false,cond_true,cond_false,bd_s,nx_r]
theorem aHj (a0:D.Entry)(a1:D.Entry)(h:dK (0) a0 a1):Jv a0 a1=some (true):=by
 obtain⟨rfl,hz⟩:=h
 unfold Jv
 simp only[beq_self_eq_true,bne_self_eq_false,Bool.not_true,Bool.not_false,cond_true,cond_false,bd_s,nx_r]
theorem aCy (a0:List D.Entry)(a1:List D.Entry)(h:dK (a0.length) a0 a1):Dy a0 a1=some (true):=by
 obtain⟨rfl,hz⟩:=h
 unfold Dy
 rw[kM (a:=a0) (by omega) (fun rec i hi=>by
  simp only[bG hi,aD hi,aG (show dK (0) a0[i] a0[i] from⟨rfl,by omega⟩),beq_self_eq_true,bne_self_eq_false,Bool.not_true,Bool.not_false,cond_true,cond_false,bd_s,nx_r]) (fun rec=>by simp only[bH,cond_false])]
 simp only[beq_self_eq_true,bne_self_eq_false,Bool.not_true,Bool.not_false,cond_true,cond_false,bd_s,nx_r]
theorem aCz (a0:D.aAH)(a1:D.aAH)(h:dK (a0.sz) a0 a1):Dz a0 a1=some (true):=by
 obtain⟨rfl,hz⟩:=h
 unfold Dz
 simp only[D.aAH.sz] at hz
 simp only[beq_self_eq_true,bne_self_eq_false,Bool.not_true,Bool.not_false,cond_true,cond_false,bd_s,nx_r,aG (show dK (a0.Entries.length) a0.Entries a0.Entries from⟨rfl,by omega⟩)]
theorem aC0 (a0:D.Device)(a1:D.Device)(h:dK (a0.sz) a0 a1):Ea a0 a1=some (true):=by
 obtain⟨rfl,hz⟩:=h
 unfold Ea
 simp only[D.aAH.sz,D.Device.sz,D.aAO.sz] at hz
 simp only[beq_self_eq_true,bne_self_eq_false,Bool.not_true,Bool.not_false,cond_true,cond_false,bd_s,nx_r,aG (show dK (0) a0.Store a0.Store from⟨rfl,by omega⟩),aG (show dK (a0.Log.length) a0.Log a0.Log from⟨rfl,by omega⟩),aG (show dK (a0.aAH.sz) a0.aAH a0.aAH from⟨rfl,by simp only[D.aAH.sz];omega⟩)]
theorem M3 (a0:List D.Device)(a1:List D.Device)(h:dK (a0.length+(a0.map D.Device.sz).sum) a0 a1):yQ a0 a1=some (true):=by
 obtain⟨rfl,hz⟩:=h
 unfold yQ
 rw[kM (a:=a0) (by omega) (fun rec i hi=>by
  have hs:=dA (f:=D.Device.sz) hi
  simp only[bG hi,aD hi,aG (show dK (a0[i].sz) a0[i] a0[i] from⟨rfl,by omega⟩),beq_self_eq_true,bne_self_eq_false,Bool.not_true,Bool.not_false,cond_true,cond_false,bd_s,nx_r]) (fun rec=>by simp only[bH,cond_false])]
 simp only[beq_self_eq_true,bne_self_eq_false,Bool.not_true,Bool.not_false,cond_true,cond_false,bd_s,nx_r]
theorem aHk (a0:List Bool)(a1:List Bool)(h:dK (a0.length) a0 a1):Jw a0 a1=some (true):=by
 obtain⟨rfl,hz⟩:=h
 unfold Jw
 rw[kM (a:=a0) (by omega) (fun rec i hi=>by
  simp only[bG hi,aD hi,beq_self_eq_true,bne_self_eq_false,Bool.not_true,Bool.not_false,cond_true,cond_false,bd_s,nx_r]) (fun rec=>by simp only[bH,cond_false])]
 simp only[beq_self_eq_true,bne_self_eq_false,Bool.not_true,Bool.not_false,cond_true,cond_false,bd_s,nx_r]
theorem aHl (a0:List Int)(a1:List Int)(h:dK (a0.length) a0 a1):Jy a0 a1=some (true):=by
 obtain⟨rfl,hz⟩:=h
 unfold Jy
 rw[kM (a:=a0) (by omega) (fun rec i hi=>by
  simp only[bG hi,aD hi,beq_self_eq_true,bne_self_eq_false,Bool.not_true,Bool.not_false,cond_true,cond_false,bd_s,nx_r]) (fun rec=>by simp only[bH,cond_false])]
 simp only[beq_self_eq_true,bne_self_eq_false,Bool.not_true,Bool.not_false,cond_true,cond_false,bd_s,nx_r]
theorem aPi (a0:D.Box)(a1:D.Box)(h:dK (a0.sz) a0 a1):Xn a0 a1=some (true):=by
 obtain⟨rfl,hz⟩:=h
 unfold Xn
 simp only[D.Box.sz] at hz
 simp only[beq_self_eq_true,bne_self_eq_false,Bool.not_true,Bool.not_false,cond_true,cond_false,bd_s,nx_r,aG (show dK (a0.Data.length) a0.Data a0.Data from⟨rfl,by omega⟩)]
theorem aLf (a0:List D.Box)(a1:List D.Box)(h:dK (a0.length+(a0.map D.Box.sz).sum) a0 a1):Qy a0 a1=some (true):=by
 obtain⟨rfl,hz⟩:=h
 unfold Qy
 rw[kM (a:=a0) (by omega) (fun rec i hi=>by
  have hs:=dA (f:=D.Box.sz) hi
  simp only[bG hi,aD hi,aG (show dK (a0[i].sz) a0[i] a0[i] from⟨rfl,by omega⟩),beq_self_eq_true,bne_self_eq_false,Bool.not_true,Bool.not_false,cond_true,cond_false,bd_s,nx_r]) (fun rec=>by simp only[bH,cond_false])]
 simp only[beq_self_eq_true,bne_self_eq_false,Bool.not_true,Bool.not_false,cond_true,cond_false,bd_s,nx_r]
theorem Nq (a0:D.aAF)(a1:D.aAF)(h:dK (a0.sz) a0 a1):qH a0 a1=some (true):=by
 obtain⟨rfl,hz⟩:=h
 unfold qH
 simp only[D.aAF.sz] at hz
 simp only[beq_self_eq_true,bne_self_eq_false,Bool.not_true,Bool.not_false,cond_true,cond_false,bd_s,nx_r,aG (show dK (a0.Boxes.length+(a0.Boxes.map D.Box.sz).sum) a0.Boxes a0.Boxes from⟨rfl,by omega⟩)]
theorem Eu (a0:D.aAB)(a1:D.aAB)(h:dK (a0.sz) a0 a1):nD a0 a1=some (true):=by
 obtain⟨rfl,hz⟩:=h
 unfold nD
 simp only[D.aAB.sz] at hz
 simp only[beq_self_eq_true,bne_self_eq_false,Bool.not_true,Bool.not_false,cond_true,cond_false,bd_s,nx_r,aG (show dK (a0.Data.length) a0.Data a0.Data from⟨rfl,by omega⟩)]
theorem Av (a0:List D.aAB)(a1:List D.aAB)(h:dK (a0.length+(a0.map D.aAB.sz).sum) a0 a1):lX a0 a1=some (true):=by
 obtain⟨rfl,hz⟩:=h
 unfold lX
 rw[kM (a:=a0) (by omega) (fun rec i hi=>by
  have hs:=dA (f:=D.aAB.sz) hi
  simp only[bG hi,aD hi,aG (show dK (a0[i].sz) a0[i] a0[i] from⟨rfl,by omega⟩),beq_self_eq_true,bne_self_eq_false,Bool.not_true,Bool.not_false,cond_true,cond_false,bd_s,nx_r]) (fun rec=>by simp only[bH,cond_false])]
 simp only[beq_self_eq_true,bne_self_eq_false,Bool.not_true,Bool.not_false,cond_true,cond_false,bd_s,nx_r]
theorem aHm (a0:D.aAJ)(a1:D.aAJ)(h:dK (a0.sz) a0 a1):Jz a0 a1=some (true):=by
 obtain⟨rfl,hz⟩:=h
 unfold Jz
 simp only[D.aAJ.sz,D.aAF.sz] at hz
 simp only[beq_self_eq_true,bne_self_eq_false,Bool.not_true,Bool.not_false,cond_true,cond_false,bd_s,nx_r,aG (show dK (a0.Log.length) a0.Log a0.Log from⟨rfl,by omega⟩),aG (show dK (a0.Boxes.sz) a0.Boxes a0.Boxes from⟨rfl,by simp only[D.aAF.sz];omega⟩),aG (show dK (a0.History.length+(a0.History.map D.aAB.sz).sum) a0.History a0.History from⟨rfl,by omega⟩)]
theorem Nr (a0:D.aAG)(a1:D.aAG)(h:dK (0) a0 a1):qI a0 a1=some (true):=by
 obtain⟨rfl,hz⟩:=h
 unfold qI
 simp only[beq_self_eq_true,bne_self_eq_false,Bool.not_true,Bool.not_false,cond_true,cond_false,bd_s,nx_r]
theorem Km (a0:List D.aAG)(a1:List D.aAG)(h:dK (a0.length) a0 a1):oQ a0 a1=some (true):=by
 obtain⟨rfl,hz⟩:=h
 unfold oQ
 rw[kM (a:=a0) (by omega) (fun rec i hi=>by
  simp only[bG hi,aD hi,aG (show dK (0) a0[i] a0[i] from⟨rfl,by omega⟩),beq_self_eq_true,bne_self_eq_false,Bool.not_true,Bool.not_false,cond_true,cond_false,bd_s,nx_r]) (fun rec=>by simp only[bH,cond_false])]
 simp only[beq_self_eq_true,bne_self_eq_false,Bool.not_true,Bool.not_false,cond_true,cond_false,bd_s,nx_r]
theorem M4 (a0:D.aAE)(a1:D.aAE)(h:dK (a0.sz) a0 a1):yR a0 a1=some (true):=by
 obtain⟨rfl,hz⟩:=h
 unfold yR
 simp only[D.aAE.sz] at hz
 simp only[beq_self_eq_true,bne_self_eq_false,Bool.not_true,Bool.not_false,cond_true,cond_false,bd_s,nx_r,aG (show dK (a0.Credentials.length) a0.Credentials a0.Credentials from⟨rfl,by omega⟩)]
theorem Xv (a0:List D.aAE)(a1:List D.aAE)(h:dK (a0.length+(a0.map D.aAE.sz).sum) a0 a1):vW a0 a1=some (true):=by
 obtain⟨rfl,hz⟩:=h
 unfold vW
 rw[kM (a:=a0) (by omega) (fun rec i hi=>by
  have hs:=dA (f:=D.aAE.sz) hi
  simp only[bG hi,aD hi,aG (show dK (a0[i].sz) a0[i] a0[i] from⟨rfl,by omega⟩),beq_self_eq_true,bne_self_eq_false,Bool.not_true,Bool.not_false,cond_true,cond_false,bd_s,nx_r]) (fun rec=>by simp only[bH,cond_false])]
 simp only[beq_self_eq_true,bne_self_eq_false,Bool.not_true,Bool.not_false,cond_true,cond_false,bd_s,nx_r]
theorem Sg (a0:D.aAK)(a1:D.aAK)(h:dK (0) a0 a1):tN a0 a1=some (true):=by
 obtain⟨rfl,hz⟩:=h
 unfold tN
 simp only[beq_self_eq_true,bne_self_eq_false,Bool.not_true,Bool.not_false,cond_true,cond_false,bd_s,nx_r]
theorem Ns (a0:List D.aAK)(a1:List D.aAK)(h:dK (a0.length) a0 a1):qJ a0 a1=some (true):=by
 obtain⟨rfl,hz⟩:=h
 unfold qJ
 rw[kM (a:=a0) (by omega) (fun rec i hi=>by
  simp only[bG hi,aD hi,aG (show dK (0) a0[i] a0[i] from⟨rfl,by omega⟩),beq_self_eq_true,bne_self_eq_false,Bool.not_true,Bool.not_false,cond_true,cond_false,bd_s,nx_r]) (fun rec=>by simp only[bH,cond_false])]
 simp only[beq_self_eq_true,bne_self_eq_false,Bool.not_true,Bool.not_false,cond_true,cond_false,bd_s,nx_r]
theorem Aw (a0:D.aAC)(a1:D.aAC)(h:dK (a0.sz) a0 a1):lY a0 a1=some (true):=by
 obtain⟨rfl,hz⟩:=h
 unfold lY
 simp only[D.aAC.sz] at hz
 simp only[beq_self_eq_true,bne_self_eq_false,Bool.not_true,Bool.not_false,cond_true,cond_false,bd_s,nx_r,aG (show dK (a0.Open.length) a0.Open a0.Open from⟨rfl,by omega⟩)]
theorem aLg (a0:List Int)(a1:List Int)(h:dK (a0.length) a0 a1):Qz a0 a1=some (true):=by
 obtain⟨rfl,hz⟩:=h
 unfold Qz
 rw[kM (a:=a0) (by omega) (fun rec i hi=>by
  simp only[bG hi,aD hi,beq_self_eq_true,bne_self_eq_false,Bool.not_true,Bool.not_false,cond_true,cond_false,bd_s,nx_r]) (fun rec=>by simp only[bH,cond_false])]
 simp only[beq_self_eq_true,bne_self_eq_false,Bool.not_true,Bool.not_false,cond_true,cond_false,bd_s,nx_r]
theorem aLh (a0:D.Site)(a1:D.Site)(h:dK (a0.sz) a0 a1):Ra a0 a1=some (true):=by
 obtain⟨rfl,hz⟩:=h
 unfold Ra
 simp only[D.aAC.sz,D.Site.sz] at hz
 simp only[beq_self_eq_true,bne_self_eq_false,Bool.not_true,Bool.not_false,cond_true,cond_false,bd_s,nx_r,aG (show dK (a0.Accounts.length+(a0.Accounts.map D.aAE.sz).sum) a0.Accounts a0.Accounts from⟨rfl,by omega⟩),aG (show dK (a0.Book.sz) a0.Book a0.Book from⟨rfl,by simp only[D.aAC.sz];omega⟩),aG (show dK (a0.Logins.length) a0.Logins a0.Logins from⟨rfl,by omega⟩)]
theorem aHn (a0:List D.Site)(a1:List D.Site)(h:dK (a0.length+(a0.map D.Site.sz).sum) a0 a1):Ka a0 a1=some (true):=by
 obtain⟨rfl,hz⟩:=h
 unfold Ka
 rw[kM (a:=a0) (by omega) (fun rec i hi=>by
  have hs:=dA (f:=D.Site.sz) hi
  simp only[bG hi,aD hi,aG (show dK (a0[i].sz) a0[i] a0[i] from⟨rfl,by omega⟩),beq_self_eq_true,bne_self_eq_false,Bool.not_true,Bool.not_false,cond_true,cond_false,bd_s,nx_r]) (fun rec=>by simp only[bH,cond_false])]
 simp only[beq_self_eq_true,bne_self_eq_false,Bool.not_true,Bool.not_false,cond_true,cond_false,bd_s,nx_r]
theorem aHo (a0:D.aAQ)(a1:D.aAQ)(h:dK (0) a0 a1):Kb a0 a1=some (true):=by
 obtain⟨rfl,hz⟩:=h
 unfold Kb
 simp only[beq_self_eq_true,bne_self_eq_false,Bool.not_true,Bool.not_false,cond_true,cond_false,bd_s,nx_r]
theorem aHp (a0:D.aAN)(a1:D.aAN)(h:dK (0) a0 a1):Kc a0 a1=some (true):=by
 obtain⟨rfl,hz⟩:=h
 unfold Kc
 simp only[beq_self_eq_true,bne_self_eq_false,Bool.not_true,Bool.not_false,cond_true,cond_false,bd_s,nx_r]
theorem aC1 (a0:D.aAL)(a1:D.aAL)(h:dK (0) a0 a1):Eb a0 a1=some (true):=by
 obtain⟨rfl,hz⟩:=h
 unfold Eb
 simp only[beq_self_eq_true,bne_self_eq_false,Bool.not_true,Bool.not_false,cond_true,cond_false,bd_s,nx_r,aG (show dK (0) a0.aAN a0.aAN from⟨rfl,by omega⟩)]
theorem M5 (a0:List D.aAL)(a1:List D.aAL)(h:dK (a0.length) a0 a1):yS a0 a1=some (true):=by
 obtain⟨rfl,hz⟩:=h
 unfold yS
 rw[kM (a:=a0) (by omega) (fun rec i hi=>by
  simp only[bG hi,aD hi,aG (show dK (0) a0[i] a0[i] from⟨rfl,by omega⟩),beq_self_eq_true,bne_self_eq_false,Bool.not_true,Bool.not_false,cond_true,cond_false,bd_s,nx_r]) (fun rec=>by simp only[bH,cond_false])]
 simp only[beq_self_eq_true,bne_self_eq_false,Bool.not_true,Bool.not_false,cond_true,cond_false,bd_s,nx_r]
theorem Nt (a0:D.aAA)(a1:D.aAA)(h:dK (a0.sz) a0 a1):qK a0 a1=some (true):=by
 obtain⟨rfl,hz⟩:=h
 unfold qK
 simp only[D.aAL.sz,D.aAA.sz,D.aAN.sz] at hz
 simp only[beq_self_eq_true,bne_self_eq_false,Bool.not_true,Bool.not_false,cond_true,cond_false,bd_s,nx_r,aG (show dK (0) a0.State a0.State from⟨rfl,by omega⟩),aG (show dK (a0.Saved.length) a0.Saved a0.Saved from⟨rfl,by omega⟩)]
theorem Kn (a0:List D.aAA)(a1:List D.aAA)(h:dK (a0.length+(a0.map D.aAA.sz).sum) a0 a1):oU a0 a1=some (true):=by
 obtain⟨rfl,hz⟩:=h
 unfold oU
 rw[kM (a:=a0) (by omega) (fun rec i hi=>by
  have hs:=dA (f:=D.aAA.sz) hi
  simp only[bG hi,aD hi,aG (show dK (a0[i].sz) a0[i] a0[i] from⟨rfl,by omega⟩),beq_self_eq_true,bne_self_eq_false,Bool.not_true,Bool.not_false,cond_true,cond_false,bd_s,nx_r]) (fun rec=>by simp only[bH,cond_false])]
 simp only[beq_self_eq_true,bne_self_eq_false,Bool.not_true,Bool.not_false,cond_true,cond_false,bd_s,nx_r]
theorem aC2 (a0:D.aAM)(a1:D.aAM)(h:dK (0) a0 a1):Ec a0 a1=some (true):=by
 obtain⟨rfl,hz⟩:=h
 unfold Ec
 simp only[beq_self_eq_true,bne_self_eq_false,Bool.not_true,Bool.not_false,cond_true,cond_false,bd_s,nx_r]
theorem M6 (a0:List D.aAM)(a1:List D.aAM)(h:dK (a0.length) a0 a1):yT a0 a1=some (true):=by
 obtain⟨rfl,hz⟩:=h
 unfold yT
 rw[kM (a:=a0) (by omega) (fun rec i hi=>by
  simp only[bG hi,aD hi,aG (show dK (0) a0[i] a0[i] from⟨rfl,by omega⟩),beq_self_eq_true,bne_self_eq_false,Bool.not_true,Bool.not_false,cond_true,cond_false,bd_s,nx_r]) (fun rec=>by simp only[bH,cond_false])]
 simp only[beq_self_eq_true,bne_self_eq_false,Bool.not_true,Bool.not_false,cond_true,cond_false,bd_s,nx_r]
theorem M7 (a0:D.aAI)(a1:D.aAI)(h:dK (a0.sz) a0 a1):yU a0 a1=some (true):=by
 obtain⟨rfl,hz⟩:=h
 unfold yU
 simp only[D.aAI.sz] at hz
 simp only[beq_self_eq_true,bne_self_eq_false,Bool.not_true,Bool.not_false,cond_true,cond_false,bd_s,nx_r,aG (show dK (a0.Notices.length) a0.Notices a0.Notices from⟨rfl,by omega⟩)]
theorem aHq (a0:D.World)(a1:D.World)(h:dK (a0.sz) a0 a1):Ke a0 a1=some (true):=by
 obtain⟨rfl,hz⟩:=h
 unfold Ke
 simp only[D.aAJ.sz,D.aAF.sz,D.aAI.sz,D.aAQ.sz,D.World.sz] at hz
 simp only[beq_self_eq_true,bne_self_eq_false,Bool.not_true,Bool.not_false,cond_true,cond_false,bd_s,nx_r,aG (show dK (a0.Devices.length+(a0.Devices.map D.Device.sz).sum) a0.Devices a0.Devices from⟨rfl,by omega⟩),aG (show dK (a0.Stolen.length) a0.Stolen a0.Stolen from⟨rfl,by omega⟩),aG (show dK (a0.aAJ.sz) a0.aAJ a0.aAJ from⟨rfl,by simp only[D.aAJ.sz,D.aAF.sz];omega⟩),aG (show dK (a0.Sites.length+(a0.Sites.map D.Site.sz).sum) a0.Sites a0.Sites from⟨rfl,by omega⟩),aG (show dK (0) a0.aAQ a0.aAQ from⟨rfl,by omega⟩),aG (show dK (a0.Hosts.length+(a0.Hosts.map D.aAA.sz).sum) a0.Hosts a0.Hosts from⟨rfl,by omega⟩),aG (show dK (a0.Mail.sz) a0.Mail a0.Mail from⟨rfl,by simp only[D.aAI.sz];omega⟩)]
theorem Ko (a0:List D.aAD)(a1:Int)(h:iG (a0.length) (aA aF a0) a1):oV a0 a1=some (aX aO a0 a1):=by
 obtain⟨hs,h0,h1⟩:=h
 unfold oV
 rw[fU dX h0 h1 (by omega) (fun rec k i l hi hi0 hx hk0 hk1=>by
  unfold aF at hk1
  obtain⟨k0,q0⟩:∃z,z=IntKind.i64.wrap (k+1):=⟨_,rfl⟩
  have g0:k0=k+1:=q0.trans (aH (by omega) (by omega))
  obtain⟨k1,q1⟩:∃z,z=IntKind.i64.wrap (k0+1):=⟨_,rfl⟩
  have g1:k1=k0+1:=q1.trans (aH (by omega) (by omega))
  obtain⟨k2,q2⟩:∃z,z=IntKind.i64.wrap (k1+1):=⟨_,rfl⟩
  have g2:k2=k1+1:=q2.trans (aH (by omega) (by omega))
  obtain⟨k3,q3⟩:∃z,z=IntKind.i64.wrap (k2+1):=⟨_,rfl⟩
  have g3:k3=k2+1:=q3.trans (aH (by omega) (by omega))
  obtain⟨k4,q4⟩:∃z,z=IntKind.i64.wrap (k3+1):=⟨_,rfl⟩
  have g4:k4=k3+1:=q4.trans (aH (by omega) (by omega))
  obtain⟨k5,q5⟩:∃z,z=IntKind.i64.wrap (k4+1):=⟨_,rfl⟩
  have g5:k5=k4+1:=q5.trans (aH (by omega) (by omega))
  simp only[bG hi,cond_true,aD hi,hx,kJ hi,aD (show i<(l.set i _).length by simpa using hi),List.set_set,List.getElem_set_self,bd_s,bJ,dD,gd_T,aO,←q0,←q1,←q2,←q3,←q4,←q5]) (fun rec k l=>by simp only[bH,cond_false])]
 rfl
theorem Xw (a0:List D.Entry)(a1:Int)(h:iG (a0.length) (aA bY a0) a1):vX a0 a1=some (aX eP a0 a1):=by
 obtain⟨hs,h0,h1⟩:=h
 unfold vX
 rw[fU oW h0 h1 (by omega) (fun rec k i l hi hi0 hx hk0 hk1=>by
  unfold bY at hk1
  obtain⟨k0,q0⟩:∃z,z=IntKind.i64.wrap (k+1):=⟨_,rfl⟩
  have g0:k0=k+1:=q0.trans (aH (by omega) (by omega))
  obtain⟨k1,q1⟩:∃z,z=IntKind.i64.wrap (k0+1):=⟨_,rfl⟩
  have g1:k1=k0+1:=q1.trans (aH (by omega) (by omega))
  obtain⟨k2,q2⟩:∃z,z=IntKind.i64.wrap (k1+1):=⟨_,rfl⟩
  have g2:k2=k1+1:=q2.trans (aH (by omega) (by omega))
  obtain⟨k3,q3⟩:∃z,z=IntKind.i64.wrap (k2+1):=⟨_,rfl⟩
  have g3:k3=k2+1:=q3.trans (aH (by omega) (by omega))
  simp only[bG hi,cond_true,aD hi,hx,kJ hi,aD (show i<(l.set i _).length by simpa using hi),List.set_set,List.getElem_set_self,bd_s,bJ,dD,gd_T,eP,←q0,←q1,←q2,←q3]) (fun rec k l=>by simp only[bH,cond_false])]
 rfl
theorem Si (a0:List D.Device)(a1:Int)(h:iG (a0.length+(a0.map D.Device.sz).sum) (aA aL a0) a1):tO a0 a1=some (aX bP a0 a1):=by
 obtain⟨hs,h0,h1⟩:=h
 unfold tO
 rw[fU lZ h0 h1 (by omega) (fun rec k i l hi hi0 hx hk0 hk1=>by
  have hz:=dA (f:=D.Device.sz) hi0
  simp only[D.aAH.sz,D.Device.sz,D.aAO.sz] at hz
  unfold aL at hk1
  obtain⟨k0,q0⟩:∃z,z=IntKind.i64.wrap (k+1):=⟨_,rfl⟩
  have g0:k0=k+1:=q0.trans (aH (by omega) (by omega))
  obtain⟨k1,q1⟩:∃z,z=IntKind.i64.wrap (k0+1):=⟨_,rfl⟩
  have g1:k1=k0+1:=q1.trans (aH (by omega) (by omega))
  obtain⟨k2,q2⟩:∃z,z=IntKind.i64.wrap (k1+1):=⟨_,rfl⟩
  have g2:k2=k1+1:=q2.trans (aH (by omega) (by omega))
  obtain⟨k3,q3⟩:∃z,z=IntKind.i64.wrap (k2+1):=⟨_,rfl⟩
  have g3:k3=k2+1:=q3.trans (aH (by omega) (by omega))
  have p4:iG (a0[i].Log.length) (aA aF a0[i].Log) k3:=⟨by omega,by omega,by omega⟩
  have f4:=bD dX a0[i].Log k3 (by omega) (by omega)
  obtain⟨k4,q4⟩:∃z,z=(aX aO a0[i].Log k3).2:=⟨_,rfl⟩
  have g4:k4=k3+aA aF a0[i].Log:=q4.trans f4.1
  obtain⟨k5,q5⟩:∃z,z=IntKind.i64.wrap (k4+1):=⟨_,rfl⟩
  have g5:k5=k4+1:=q5.trans (aH (by omega) (by omega))
  obtain⟨k6,q6⟩:∃z,z=IntKind.i64.wrap (k5+1):=⟨_,rfl⟩
  have g6:k6=k5+1:=q6.trans (aH (by omega) (by omega))
  obtain⟨k7,q7⟩:∃z,z=IntKind.i64.wrap (k6+1):=⟨_,rfl⟩
  have g7:k7=k6+1:=q7.trans (aH (by omega) (by omega))
  have p8:iG (a0[i].aAH.Entries.length) (aA bY a0[i].aAH.Entries) k7:=⟨by omega,by omega,by omega⟩
  have f8:=bD oW a0[i].aAH.Entries k7 (by omega) (by omega)
  obtain⟨k8,q8⟩:∃z,z=(aX eP a0[i].aAH.Entries k7).2:=⟨_,rfl⟩
  have g8:k8=k7+aA bY a0[i].aAH.Entries:=q8.trans f8.1
  simp only[bG hi,cond_true,aD hi,hx,kJ hi,aD (show i<(l.set i _).length by simpa using hi),List.set_set,List.getElem_set_self,bd_s,bJ,dD,gd_T,bP,←q0,←q1,←q2,←q3,←q4,←q5,←q6,←q7,←q8,aG p4,aG p8]) (fun rec k l=>by simp only[bH,cond_false])]
 rfl
theorem M8 (a0:List Bool)(a1:Int)(h:iG (a0.length) (aA eF a0) a1):yX a0 a1=some (aX mkB a0 a1):=by
 obtain⟨hs,h0,h1⟩:=h
 unfold yX
 rw[fU aGz h0 h1 (by omega) (fun rec k i l hi hi0 hx hk0 hk1=>by
  simp only[bG hi,cond_true,aD hi,bd_s,bJ,dD,gd_T,mkB]) (fun rec k l=>by simp only[bH,cond_false])]
 rfl
theorem M9 (a0:List Int)(a1:Int)(h:iG (a0.length) (aA eF a0) a1):yY a0 a1=some (aX mkU a0 a1):=by
 obtain⟨hs,h0,h1⟩:=h
 unfold yY
 rw[fU Ie h0 h1 (by omega) (fun rec k i l hi hi0 hx hk0 hk1=>by
  simp only[bG hi,cond_true,aD hi,bd_s,bJ,dD,gd_T,mkU]) (fun rec k l=>by simp only[bH,cond_false])]
 rfl
theorem aC3 (a0:List D.Box)(a1:Int)(h:iG (a0.length+(a0.map D.Box.sz).sum) (aA dP a0) a1):Ed a0 a1=some (aX dY a0 a1):=by
 obtain⟨hs,h0,h1⟩:=h
 unfold Ed
 rw[fU jU h0 h1 (by omega) (fun rec k i l hi hi0 hx hk0 hk1=>by
  have hz:=dA (f:=D.Box.sz) hi0
  simp only[D.Box.sz] at hz
  unfold dP at hk1
  obtain⟨k0,q0⟩:∃z,z=IntKind.i64.wrap (k+1):=⟨_,rfl⟩
  have g0:k0=k+1:=q0.trans (aH (by omega) (by omega))
  obtain⟨k1,q1⟩:∃z,z=IntKind.i64.wrap (k0+1):=⟨_,rfl⟩
  have g1:k1=k0+1:=q1.trans (aH (by omega) (by omega))
  have p2:iG (a0[i].Data.length) (aA eF a0[i].Data) k1:=⟨by omega,by omega,by omega⟩
  have f2:=bD Ie a0[i].Data k1 (by omega) (by omega)
  obtain⟨k2,q2⟩:∃z,z=(aX mkU a0[i].Data k1).2:=⟨_,rfl⟩
  have g2:k2=k1+aA eF a0[i].Data:=q2.trans f2.1
  obtain⟨k3,q3⟩:∃z,z=IntKind.i64.wrap (k2+1):=⟨_,rfl⟩
  have g3:k3=k2+1:=q3.trans (aH (by omega) (by omega))
  simp only[bG hi,cond_true,aD hi,hx,kJ hi,aD (show i<(l.set i _).length by simpa using hi),List.set_set,List.getElem_set_self,bd_s,bJ,dD,gd_T,dY,←q0,←q1,←q2,←q3,aG p2]) (fun rec k l=>by simp only[bH,cond_false])]
 rfl
theorem Ew (a0:D.aAF)(a1:Int)(h:iG (a0.sz) (aJ a0) a1):nE a0 a1=some (cO a0 a1):=by
 obtain⟨hs,h0,h1⟩:=h
 unfold aJ at h1
 simp only[D.aAF.sz] at hs
 unfold nE cO
 rw[aG (show iG _ _ _ from⟨by omega,by omega,by omega⟩)]
 have f0:=bD jU a0.Boxes a1 (by omega) (by omega)
 obtain⟨k0,q0⟩:∃z,z=(aX dY a0.Boxes a1).2:=⟨_,rfl⟩
 have g0:k0=a1+aA dP a0.Boxes:=q0.trans f0.1
 simp only[bd_s,←q0]
theorem wI (a0:List D.aAB)(a1:Int)(h:iG (a0.length+(a0.map D.aAB.sz).sum) (aA aI a0) a1):kD a0 a1=some (aX aT a0 a1):=by
 obtain⟨hs,h0,h1⟩:=h
 unfold kD
 rw[fU dZ h0 h1 (by omega) (fun rec k i l hi hi0 hx hk0 hk1=>by
  have hz:=dA (f:=D.aAB.sz) hi0
  simp only[D.aAB.sz] at hz
  unfold aI at hk1
  obtain⟨k0,q0⟩:∃z,z=IntKind.i64.wrap (k+1):=⟨_,rfl⟩
  have g0:k0=k+1:=q0.trans (aH (by omega) (by omega))
  obtain⟨k1,q1⟩:∃z,z=IntKind.i64.wrap (k0+1):=⟨_,rfl⟩
  have g1:k1=k0+1:=q1.trans (aH (by omega) (by omega))
  have p2:iG (a0[i].Data.length) (aA eF a0[i].Data) k1:=⟨by omega,by omega,by omega⟩
  have f2:=bD Ie a0[i].Data k1 (by omega) (by omega)
  obtain⟨k2,q2⟩:∃z,z=(aX mkU a0[i].Data k1).2:=⟨_,rfl⟩
  have g2:k2=k1+aA eF a0[i].Data:=q2.trans f2.1
  obtain⟨k3,q3⟩:∃z,z=IntKind.i64.wrap (k2+1):=⟨_,rfl⟩
  have g3:k3=k2+1:=q3.trans (aH (by omega) (by omega))
  simp only[bG hi,cond_true,aD hi,hx,kJ hi,aD (show i<(l.set i _).length by simpa using hi),List.set_set,List.getElem_set_self,bd_s,bJ,dD,gd_T,aT,←q0,←q1,←q2,←q3,aG p2]) (fun rec k l=>by simp only[bH,cond_false])]
 rfl
theorem N7 (a0:D.aAJ)(a1:Int)(h:iG (a0.sz) (aR a0) a1):yZ a0 a1=some (fG a0 a1):=by
 obtain⟨hs,h0,h1⟩:=h
 unfold aR at h1
 simp only[D.aAJ.sz,D.aAF.sz] at hs
 unfold yZ fG
 rw[aG (show iG _ _ _ from⟨by omega,by omega,by omega⟩)]
 have f0:=bD dX a0.Log a1 (by omega) (by omega)
 obtain⟨k0,q0⟩:∃z,z=(aX aO a0.Log a1).2:=⟨_,rfl⟩
 have g0:k0=a1+aA aF a0.Log:=q0.trans f0.1
 simp only[bd_s,←q0]
 rw[aG (show iG _ _ _ from⟨by simp only[D.aAF.sz];omega,by omega,by unfold aJ;omega⟩)]
 simp only[bd_s,cO]
 have f1:=bD jU a0.Boxes.Boxes k0 (by omega) (by omega)
 obtain⟨k1,q1⟩:∃z,z=(aX dY a0.Boxes.Boxes k0).2:=⟨_,rfl⟩
 have g1:k1=k0+aA dP a0.Boxes.Boxes:=q1.trans f1.1
 simp only[←q1]
 rw[aG (show iG _ _ _ from⟨by omega,by omega,by omega⟩)]
 have f2:=bD dZ a0.History k1 (by omega) (by omega)
 obtain⟨k2,q2⟩:∃z,z=(aX aT a0.History k1).2:=⟨_,rfl⟩
 have g2:k2=k1+aA aI a0.History:=q2.trans f2.1
 simp only[bd_s,←q2]
theorem Ay (a0:List D.aAG)(a1:Int)(h:iG (a0.length) (aA aS a0) a1):mD a0 a1=some (aX bR a0 a1):=by
 obtain⟨hs,h0,h1⟩:=h
 unfold mD
 rw[fU iB h0 h1 (by omega) (fun rec k i l hi hi0 hx hk0 hk1=>by
  unfold aS at hk1
  obtain⟨k0,q0⟩:∃z,z=IntKind.i64.wrap (k+1):=⟨_,rfl⟩
  have g0:k0=k+1:=q0.trans (aH (by omega) (by omega))
  obtain⟨k1,q1⟩:∃z,z=IntKind.i64.wrap (k0+1):=⟨_,rfl⟩
  have g1:k1=k0+1:=q1.trans (aH (by omega) (by omega))
  obtain⟨k2,q2⟩:∃z,z=IntKind.i64.wrap (k1+1):=⟨_,rfl⟩
  have g2:k2=k1+1:=q2.trans (aH (by omega) (by omega))
  obtain⟨k3,q3⟩:∃z,z=IntKind.i64.wrap (k2+1):=⟨_,rfl⟩
  have g3:k3=k2+1:=q3.trans (aH (by omega) (by omega))
  simp only[bG hi,cond_true,aD hi,hx,kJ hi,aD (show i<(l.set i _).length by simpa using hi),List.set_set,List.getElem_set_self,bd_s,bJ,dD,gd_T,bR,←q0,←q1,←q2,←q3]) (fun rec k l=>by simp only[bH,cond_false])]
 rfl
theorem Nu (a0:List D.aAE)(a1:Int)(h:iG (a0.length+(a0.map D.aAE.sz).sum) (aA aK a0) a1):qL a0 a1=some (aX cK a0 a1):=by
 obtain⟨hs,h0,h1⟩:=h
 unfold qL
 rw[fU kE h0 h1 (by omega) (fun rec k i l hi hi0 hx hk0 hk1=>by
  have hz:=dA (f:=D.aAE.sz) hi0
  simp only[D.aAE.sz] at hz
  unfold aK at hk1
  obtain⟨k0,q0⟩:∃z,z=IntKind.i64.wrap (k+1):=⟨_,rfl⟩
  have g0:k0=k+1:=q0.trans (aH (by omega) (by omega))
  obtain⟨k1,q1⟩:∃z,z=IntKind.i64.wrap (k0+1):=⟨_,rfl⟩
  have g1:k1=k0+1:=q1.trans (aH (by omega) (by omega))
  have p2:iG (a0[i].Credentials.length) (aA aS a0[i].Credentials) k1:=⟨by omega,by omega,by omega⟩
  have f2:=bD iB a0[i].Credentials k1 (by omega) (by omega)
  obtain⟨k2,q2⟩:∃z,z=(aX bR a0[i].Credentials k1).2:=⟨_,rfl⟩
  have g2:k2=k1+aA aS a0[i].Credentials:=q2.trans f2.1
  simp only[bG hi,cond_true,aD hi,hx,kJ hi,aD (show i<(l.set i _).length by simpa using hi),List.set_set,List.getElem_set_self,bd_s,bJ,dD,gd_T,cK,←q0,←q1,←q2,aG p2]) (fun rec k l=>by simp only[bH,cond_false])]
 rfl
theorem Ex (a0:List D.aAK)(a1:Int)(h:iG (a0.length) (aA aQ a0) a1):nG a0 a1=some (aX bW a0 a1):=by
 obtain⟨hs,h0,h1⟩:=h
 unfold nG
 rw[fU iP h0 h1 (by omega) (fun rec k i l hi hi0 hx hk0 hk1=>by
  unfold aQ at hk1
  obtain⟨k0,q0⟩:∃z,z=IntKind.i64.wrap (k+1):=⟨_,rfl⟩
  have g0:k0=k+1:=q0.trans (aH (by omega) (by omega))
  obtain⟨k1,q1⟩:∃z,z=IntKind.i64.wrap (k0+1):=⟨_,rfl⟩
  have g1:k1=k0+1:=q1.trans (aH (by omega) (by omega))
  obtain⟨k2,q2⟩:∃z,z=IntKind.i64.wrap (k1+1):=⟨_,rfl⟩
  have g2:k2=k1+1:=q2.trans (aH (by omega) (by omega))
  simp only[bG hi,cond_true,aD hi,hx,kJ hi,aD (show i<(l.set i _).length by simpa using hi),List.set_set,List.getElem_set_self,bd_s,bJ,dD,gd_T,bW,←q0,←q1,←q2]) (fun rec k l=>by simp only[bH,cond_false])]
 rfl
theorem aC4 (a0:List Int)(a1:Int)(h:iG (a0.length) (aA eF a0) a1):Ee a0 a1=some (aX mkI a0 a1):=by
 obtain⟨hs,h0,h1⟩:=h
 unfold Ee
 rw[fU aGy h0 h1 (by omega) (fun rec k i l hi hi0 hx hk0 hk1=>by
  simp only[bG hi,cond_true,aD hi,bd_s,bJ,dD,gd_T,mkI]) (fun rec k l=>by simp only[bH,cond_false])]
 rfl
theorem N8 (a0:List D.Site)(a1:Int)(h:iG (a0.length+(a0.map D.Site.sz).sum) (aA bS a0) a1):zB a0 a1=some (aX eQ a0 a1):=by
 obtain⟨hs,h0,h1⟩:=h
 unfold zB
 rw[fU tQ h0 h1 (by omega) (fun rec k i l hi hi0 hx hk0 hk1=>by
  have hz:=dA (f:=D.Site.sz) hi0
  simp only[D.aAC.sz,D.Site.sz] at hz
  unfold bS at hk1
  have t0:eT k=some (zA k):=aB6 (by omega) (by omega)
  obtain⟨k0,q0⟩:∃z,z=IntKind.i64.wrap (k+1):=⟨_,rfl⟩
  have g0:k0=k+1:=q0.trans (aH (by omega) (by omega))
  have p1:iG (a0[i].Accounts.length+(a0[i].Accounts.map D.aAE.sz).sum) (aA aK a0[i].Accounts) k0:=⟨by omega,by omega,by omega⟩
  have f1:=bD kE a0[i].Accounts k0 (by omega) (by omega)
  obtain⟨k1,q1⟩:∃z,z=(aX cK a0[i].Accounts k0).2:=⟨_,rfl⟩
  have g1:k1=k0+aA aK a0[i].Accounts:=q1.trans f1.1
  obtain⟨k2,q2⟩:∃z,z=IntKind.i64.wrap (k1+1):=⟨_,rfl⟩
  have g2:k2=k1+1:=q2.trans (aH (by omega) (by omega))
  obtain⟨k3,q3⟩:∃z,z=IntKind.i64.wrap (k2+1):=⟨_,rfl⟩
  have g3:k3=k2+1:=q3.trans (aH (by omega) (by omega))
  have p4:iG (a0[i].Book.Open.length) (aA aQ a0[i].Book.Open) k3:=⟨by omega,by omega,by omega⟩
  have f4:=bD iP a0[i].Book.Open k3 (by omega) (by omega)
  obtain⟨k4,q4⟩:∃z,z=(aX bW a0[i].Book.Open k3).2:=⟨_,rfl⟩
  have g4:k4=k3+aA aQ a0[i].Book.Open:=q4.trans f4.1
  have p5:iG (a0[i].Logins.length) (aA eF a0[i].Logins) k4:=⟨by omega,by omega,by omega⟩
  have f5:=bD aGy a0[i].Logins k4 (by omega) (by omega)
  obtain⟨k5,q5⟩:∃z,z=(aX mkI a0[i].Logins k4).2:=⟨_,rfl⟩
  have g5:k5=k4+aA eF a0[i].Logins:=q5.trans f5.1
  simp only[bG hi,cond_true,aD hi,hx,kJ hi,aD (show i<(l.set i _).length by simpa using hi),List.set_set,List.getElem_set_self,bd_s,bJ,dD,gd_T,eQ,←q0,←q1,←q2,←q3,←q4,←q5,t0,aG p1,aG p4,aG p5]) (fun rec k l=>by simp only[bH,cond_false])]
 rfl
theorem Sj (a0:List D.aAL)(a1:Int)(h:iG (a0.length) (aA bE a0) a1):tT a0 a1=some (aX dM a0 a1):=by
 obtain⟨hs,h0,h1⟩:=h
 unfold tT
 rw[fU mE h0 h1 (by omega) (fun rec k i l hi hi0 hx hk0 hk1=>by
  unfold bE at hk1
  obtain⟨k0,q0⟩:∃z,z=IntKind.i64.wrap (k+1):=⟨_,rfl⟩
  have g0:k0=k+1:=q0.trans (aH (by omega) (by omega))
  obtain⟨k1,q1⟩:∃z,z=IntKind.i64.wrap (k0+1):=⟨_,rfl⟩
  have g1:k1=k0+1:=q1.trans (aH (by omega) (by omega))
  obtain⟨k2,q2⟩:∃z,z=IntKind.i64.wrap (k1+1):=⟨_,rfl⟩
  have g2:k2=k1+1:=q2.trans (aH (by omega) (by omega))
  obtain⟨k3,q3⟩:∃z,z=IntKind.i64.wrap (k2+1):=⟨_,rfl⟩
  have g3:k3=k2+1:=q3.trans (aH (by omega) (by omega))
  obtain⟨k4,q4⟩:∃z,z=IntKind.i64.wrap (k3+1):=⟨_,rfl⟩
  have g4:k4=k3+1:=q4.trans (aH (by omega) (by omega))
  simp only[bG hi,cond_true,aD hi,hx,kJ hi,aD (show i<(l.set i _).length by simpa using hi),List.set_set,List.getElem_set_self,bd_s,bJ,dD,gd_T,dM,←q0,←q1,←q2,←q3,←q4]) (fun rec k l=>by simp only[bH,cond_false])]
 rfl
theorem Az (a0:List D.aAA)(a1:Int)(h:iG (a0.length+(a0.map D.aAA.sz).sum) (aA aN a0) a1):mF a0 a1=some (aX bB a0 a1):=by
 obtain⟨hs,h0,h1⟩:=h
 unfold mF
 rw[fU iC h0 h1 (by omega) (fun rec k i l hi hi0 hx hk0 hk1=>by
  have hz:=dA (f:=D.aAA.sz) hi0
  simp only[D.aAL.sz,D.aAA.sz,D.aAN.sz] at hz
  unfold aN at hk1
  obtain⟨k0,q0⟩:∃z,z=IntKind.i64.wrap (k+1):=⟨_,rfl⟩
  have g0:k0=k+1:=q0.trans (aH (by omega) (by omega))
  obtain⟨k1,q1⟩:∃z,z=IntKind.i64.wrap (k0+1):=⟨_,rfl⟩
  have g1:k1=k0+1:=q1.trans (aH (by omega) (by omega))
  obtain⟨k2,q2⟩:∃z,z=IntKind.i64.wrap (k1+1):=⟨_,rfl⟩
  have g2:k2=k1+1:=q2.trans (aH (by omega) (by omega))
  obtain⟨k3,q3⟩:∃z,z=IntKind.i64.wrap (k2+1):=⟨_,rfl⟩
  have g3:k3=k2+1:=q3.trans (aH (by omega) (by omega))
  obtain⟨k4,q4⟩:∃z,z=IntKind.i64.wrap (k3+1):=⟨_,rfl⟩
  have g4:k4=k3+1:=q4.trans (aH (by omega) (by omega))
  have p5:iG (a0[i].Saved.length) (aA bE a0[i].Saved) k4:=⟨by omega,by omega,by omega⟩
  have f5:=bD mE a0[i].Saved k4 (by omega) (by omega)
  obtain⟨k5,q5⟩:∃z,z=(aX dM a0[i].Saved k4).2:=⟨_,rfl⟩
  have g5:k5=k4+aA bE a0[i].Saved:=q5.trans f5.1
  obtain⟨k6,q6⟩:∃z,z=IntKind.i64.wrap (k5+1):=⟨_,rfl⟩
  have g6:k6=k5+1:=q6.trans (aH (by omega) (by omega))
  simp only[bG hi,cond_true,aD hi,hx,kJ hi,aD (show i<(l.set i _).length by simpa using hi),List.set_set,List.getElem_set_self,bd_s,bJ,dD,gd_T,bB,←q0,←q1,←q2,←q3,←q4,←q5,←q6,aG p5]) (fun rec k l=>by simp only[bH,cond_false])]
 rfl
theorem Sk (a0:List D.aAM)(a1:Int)(h:iG (a0.length) (aA bM a0) a1):tV a0 a1=some (aX dF a0 a1):=by
 obtain⟨hs,h0,h1⟩:=h
 unfold tV
 rw[fU jV h0 h1 (by omega) (fun rec k i l hi hi0 hx hk0 hk1=>by
  unfold bM at hk1
  obtain⟨k0,q0⟩:∃z,z=IntKind.i64.wrap (k+1):=⟨_,rfl⟩
  have g0:k0=k+1:=q0.trans (aH (by omega) (by omega))
  obtain⟨k1,q1⟩:∃z,z=IntKind.i64.wrap (k0+1):=⟨_,rfl⟩
  have g1:k1=k0+1:=q1.trans (aH (by omega) (by omega))
  obtain⟨k2,q2⟩:∃z,z=IntKind.i64.wrap (k1+1):=⟨_,rfl⟩
  have g2:k2=k1+1:=q2.trans (aH (by omega) (by omega))
  obtain⟨k3,q3⟩:∃z,z=IntKind.i64.wrap (k2+1):=⟨_,rfl⟩
  have g3:k3=k2+1:=q3.trans (aH (by omega) (by omega))
  simp only[bG hi,cond_true,aD hi,hx,kJ hi,aD (show i<(l.set i _).length by simpa using hi),List.set_set,List.getElem_set_self,bd_s,bJ,dD,gd_T,dF,←q0,←q1,←q2,←q3]) (fun rec k l=>by simp only[bH,cond_false])]
 rfl
theorem Sl (a0:D.aAI)(a1:Int)(h:iG (a0.sz) (aU a0) a1):tX a0 a1=some (eD a0 a1):=by
 obtain⟨hs,h0,h1⟩:=h
 unfold aU at h1
 simp only[D.aAI.sz] at hs
 unfold tX eD
 rw[aG (show iG _ _ _ from⟨by omega,by omega,by omega⟩)]
 have f0:=bD jV a0.Notices a1 (by omega) (by omega)
 obtain⟨k0,q0⟩:∃z,z=(aX dF a0.Notices a1).2:=⟨_,rfl⟩
 have g0:k0=a1+aA bM a0.Notices:=q0.trans f0.1
 simp only[bd_s,←q0]
theorem N9 (a0:D.World)(a1:Int)(h:iG (a0.sz) (dJ a0) a1):zC a0 a1=some (bX a0 a1):=by
 obtain⟨hs,h0,h1⟩:=h
 unfold dJ at h1
 simp only[D.aAJ.sz,D.aAF.sz,D.aAI.sz,D.aAQ.sz,D.World.sz] at hs
 unfold zC bX
 rw[aG (show iG _ _ _ from⟨by omega,by omega,by omega⟩)]
 have f0:=bD lZ a0.Devices a1 (by omega) (by omega)
 obtain⟨k0,q0⟩:∃z,z=(aX bP a0.Devices a1).2:=⟨_,rfl⟩
 have g0:k0=a1+aA aL a0.Devices:=q0.trans f0.1
 simp only[bd_s,←q0]
 rw[aG (show iG _ _ _ from⟨by omega,by omega,by omega⟩)]
 have f1:=bD aGz a0.Stolen k0 (by omega) (by omega)
 obtain⟨k1,q1⟩:∃z,z=(aX mkB a0.Stolen k0).2:=⟨_,rfl⟩
 have g1:k1=k0+aA eF a0.Stolen:=q1.trans f1.1
 simp only[bd_s,←q1]
 rw[aG (show iG _ _ _ from⟨by simp only[D.aAJ.sz,D.aAF.sz];omega,by omega,by unfold aR;omega⟩)]
 simp only[bd_s,fG]
 have f2:=bD dX a0.aAJ.Log k1 (by omega) (by omega)
 obtain⟨k2,q2⟩:∃z,z=(aX aO a0.aAJ.Log k1).2:=⟨_,rfl⟩
 have g2:k2=k1+aA aF a0.aAJ.Log:=q2.trans f2.1
 simp only[←q2]
 have f3:=bD jU a0.aAJ.Boxes.Boxes k2 (by omega) (by omega)
 obtain⟨k3,q3⟩:∃z,z=(aX dY a0.aAJ.Boxes.Boxes k2).2:=⟨_,rfl⟩
 have g3:k3=k2+aA dP a0.aAJ.Boxes.Boxes:=q3.trans f3.1
 simp only[←q3]
 have f4:=bD dZ a0.aAJ.History k3 (by omega) (by omega)
 obtain⟨k4,q4⟩:∃z,z=(aX aT a0.aAJ.History k3).2:=⟨_,rfl⟩
 have g4:k4=k3+aA aI a0.aAJ.History:=q4.trans f4.1
 simp only[←q4]
 rw[aG (show iG _ _ _ from⟨by omega,by omega,by omega⟩)]
 have f5:=bD tQ a0.Sites k4 (by omega) (by omega)
 obtain⟨k5,q5⟩:∃z,z=(aX eQ a0.Sites k4).2:=⟨_,rfl⟩
 have g5:k5=k4+aA bS a0.Sites:=q5.trans f5.1
 simp only[bd_s,←q5]
 rw[aG (show iG _ _ _ from⟨by omega,by omega,by omega⟩)]
 have f6:=bD iC a0.Hosts k5 (by omega) (by omega)
 obtain⟨k6,q6⟩:∃z,z=(aX bB a0.Hosts k5).2:=⟨_,rfl⟩
 have g6:k6=k5+aA aN a0.Hosts:=q6.trans f6.1
 simp only[bd_s,←q6]
 rw[aG (show iG _ _ _ from⟨by simp only[D.aAI.sz];omega,by omega,by unfold aU;omega⟩)]
 simp only[bd_s,eD]
theorem Kq (a0:List D.aAD)(a1:Int)(h:bC (aX aO) (aA aF) a0 a1):oZ a0 a1=some (a1+((aA aF a0:Nat):Int)):=by
 have hlen:=gU aG5 a0
 have h1:=h.1
 have h2:=h.2.1
 unfold oZ
 rw[fV dX h (by omega) (fun rec k i hi hP=>by
  clear h hlen h1 h2
  obtain⟨p1,p2,x,p3,p4⟩:=hP
  rw[←p4] at p2
  unfold aF at p2
  have b0:0≤k:=by omega
  have d0:k+1≤4611686018427387904:=by omega
  have b1:0≤k+1:=by omega
  have d1:k+1+1≤4611686018427387904:=by omega
  have b2:0≤k+1+1:=by omega
  have d2:k+1+1+1≤4611686018427387904:=by omega
  have b3:0≤k+1+1+1:=by omega
  have d3:k+1+1+1+1≤4611686018427387904:=by omega
  have b4:0≤k+1+1+1+1:=by omega
  have d4:k+1+1+1+1+1≤4611686018427387904:=by omega
  have b5:0≤k+1+1+1+1+1:=by omega
  have d5:k+1+1+1+1+1+1≤4611686018427387904:=by omega
  have nn:k+1+1+1+1+1+1=k+((aF x:Nat):Int):=by unfold aF;omega
  have e0:a0[i].Index=k:=by rw[p3];simp only[aO]
  have w0:IntKind.i64.wrap (k+1)=k+1:=aH b0 d0
  have e1:a0[i].Kind=(k+1):=by rw[p3];simp only[aO,w0]
  have w1:IntKind.i64.wrap (k+1+1)=k+1+1:=aH b1 d1
  have e2:a0[i].Device=(k+1+1):=by rw[p3];simp only[aO,w0,w1]
  have w2:IntKind.i64.wrap (k+1+1+1)=k+1+1+1:=aH b2 d2
  have e3:a0[i].By=(k+1+1+1):=by rw[p3];simp only[aO,w0,w1,w2]
  have w3:IntKind.i64.wrap (k+1+1+1+1)=k+1+1+1+1:=aH b3 d3
  have e4:a0[i].Previous=(k+1+1+1+1):=by rw[p3];simp only[aO,w0,w1,w2,w3]
  have w4:IntKind.i64.wrap (k+1+1+1+1+1)=k+1+1+1+1+1:=aH b4 d4
  have e5:a0[i].Signature=(k+1+1+1+1+1):=by rw[p3];simp only[aO,w0,w1,w2,w3,w4]
  have w5:IntKind.i64.wrap (k+1+1+1+1+1+1)=k+1+1+1+1+1+1:=aH b5 d5
  simp only[bG hi,cond_true,aD hi,e0,w0,e1,w1,e2,w2,e3,w3,e4,w4,e5,w5,bne_self_eq_false,beq_self_eq_true,Bool.not_true,cond_false,bd_s,dD,gd_T]
  rw[←p4,←nn]) (fun rec k=>by simp only[bH,cond_false])]
 rfl
theorem Xx (a0:List D.Entry)(a1:Int)(h:bC (aX eP) (aA bY) a0 a1):vY a0 a1=some (a1+((aA bY a0:Nat):Int)):=by
 have hlen:=gU aRk a0
 have h1:=h.1
 have h2:=h.2.1
 unfold vY
 rw[fV oW h (by omega) (fun rec k i hi hP=>by
  clear h hlen h1 h2
  obtain⟨p1,p2,x,p3,p4⟩:=hP
  rw[←p4] at p2
  unfold bY at p2
  have b0:0≤k:=by omega
  have d0:k+1≤4611686018427387904:=by omega
  have b1:0≤k+1:=by omega
  have d1:k+1+1≤4611686018427387904:=by omega
  have b2:0≤k+1+1:=by omega
  have d2:k+1+1+1≤4611686018427387904:=by omega
  have b3:0≤k+1+1+1:=by omega
  have d3:k+1+1+1+1≤4611686018427387904:=by omega
  have nn:k+1+1+1+1=k+((bY x:Nat):Int):=by unfold bY;omega
  have e0:a0[i].Site=k:=by rw[p3];simp only[eP]
  have w0:IntKind.i64.wrap (k+1)=k+1:=aH b0 d0
  have e1:a0[i].Handle=(k+1):=by rw[p3];simp only[eP,w0]
  have w1:IntKind.i64.wrap (k+1+1)=k+1+1:=aH b1 d1
  have e2:a0[i].Version=(k+1+1):=by rw[p3];simp only[eP,w0,w1]
  have w2:IntKind.i64.wrap (k+1+1+1)=k+1+1+1:=aH b2 d2
  have e3:a0[i].Deleted=((k+1+1+1).tmod 3==0):=by rw[p3];simp only[eP,w0,w1,w2]
  have w3:IntKind.i64.wrap (k+1+1+1+1)=k+1+1+1+1:=aH b3 d3
  simp only[bG hi,cond_true,aD hi,e0,w0,e1,w1,e2,w2,e3,w3,bne_self_eq_false,beq_self_eq_true,Bool.not_true,cond_false,bd_s,dD,gd_T]
  rw[←p4,←nn]) (fun rec k=>by simp only[bH,cond_false])]
 rfl
theorem Sm (a0:List D.Device)(a1:Int)(h:bC (aX bP) (aA aL) a0 a1):tY a0 a1=some (a1+((aA aL a0:Nat):Int)):=by
 have hlen:=gU aPa a0
 have h1:=h.1
 have h2:=h.2.1
 unfold tY
 rw[fV lZ h (by omega) (fun rec k i hi hP=>by
  clear h hlen h1 h2
  obtain⟨p1,p2,x,p3,p4⟩:=hP
  rw[←p4] at p2
  unfold aL at p2
  have b0:0≤k:=by omega
  have d0:k+1≤4611686018427387904:=by omega
  have b1:0≤k+1:=by omega
  have d1:k+1+1≤4611686018427387904:=by omega
  have b2:0≤k+1+1:=by omega
  have d2:k+1+1+1≤4611686018427387904:=by omega
  have b3:0≤k+1+1+1:=by omega
  have d3:k+1+1+1+1≤4611686018427387904:=by omega
  have b4:0≤k+1+1+1+1:=by omega
  have d4:k+1+1+1+1+((aA aF x.Log:Nat):Int)≤4611686018427387904:=by omega
  have t4:decide (k+1+1+1+1+((aA aF x.Log:Nat):Int)<0)=false:=decide_eq_false (by omega)
  have b5:0≤k+1+1+1+1+((aA aF x.Log:Nat):Int):=by omega
  have d5:k+1+1+1+1+((aA aF x.Log:Nat):Int)+1≤4611686018427387904:=by omega
  have b6:0≤k+1+1+1+1+((aA aF x.Log:Nat):Int)+1:=by omega
  have d6:k+1+1+1+1+((aA aF x.Log:Nat):Int)+1+1≤4611686018427387904:=by omega
  have b7:0≤k+1+1+1+1+((aA aF x.Log:Nat):Int)+1+1:=by omega
  have d7:k+1+1+1+1+((aA aF x.Log:Nat):Int)+1+1+1≤4611686018427387904:=by omega
  have b8:0≤k+1+1+1+1+((aA aF x.Log:Nat):Int)+1+1+1:=by omega
  have d8:k+1+1+1+1+((aA aF x.Log:Nat):Int)+1+1+1+((aA bY x.aAH.Entries:Nat):Int)≤4611686018427387904:=by omega
  have t8:decide (k+1+1+1+1+((aA aF x.Log:Nat):Int)+1+1+1+((aA bY x.aAH.Entries:Nat):Int)<0)=false:=decide_eq_false (by omega)
  have nn:k+1+1+1+1+((aA aF x.Log:Nat):Int)+1+1+1+((aA bY x.aAH.Entries:Nat):Int)=k+((aL x:Nat):Int):=by unfold aL;omega
  have e0:a0[i].Store.Vendor=k:=by rw[p3];simp only[bP]
  have w0:IntKind.i64.wrap (k+1)=k+1:=aH b0 d0
  have e1:a0[i].Store.Serial=(k+1):=by rw[p3];simp only[bP,w0]
  have w1:IntKind.i64.wrap (k+1+1)=k+1+1:=aH b1 d1
  have e2:a0[i].Store.Seed=(k+1+1):=by rw[p3];simp only[bP,w0,w1]
  have w2:IntKind.i64.wrap (k+1+1+1)=k+1+1+1:=aH b2 d2
  have e3:a0[i].Store.Counter=(k+1+1+1):=by rw[p3];simp only[bP,w0,w1,w2]
  have w3:IntKind.i64.wrap (k+1+1+1+1)=k+1+1+1+1:=aH b3 d3
  have f4:=bD dX x.Log (k+1+1+1+1) b4 d4
  have e4:a0[i].Log=(aX aO x.Log (k+1+1+1+1)).1:=by rw[p3];simp only[bP,w0,w1,w2,w3]
  have m4:=f4.1
  have c4:aA aF a0[i].Log=aA aF x.Log:=by rw[e4];exact f4.2
  have h4:bC (aX aO) (aA aF) a0[i].Log (k+1+1+1+1):=dW b4 d4 e4 c4
  have e5:a0[i].Key=(k+1+1+1+1+((aA aF x.Log:Nat):Int)):=by rw[p3];simp only[bP,w0,w1,w2,w3,m4]
  have w5:IntKind.i64.wrap (k+1+1+1+1+((aA aF x.Log:Nat):Int)+1)=k+1+1+1+1+((aA aF x.Log:Nat):Int)+1:=aH b5 d5
  have e6:a0[i].Epoch=(k+1+1+1+1+((aA aF x.Log:Nat):Int)+1):=by rw[p3];simp only[bP,w0,w1,w2,w3,m4,w5]
  have w6:IntKind.i64.wrap (k+1+1+1+1+((aA aF x.Log:Nat):Int)+1+1)=k+1+1+1+1+((aA aF x.Log:Nat):Int)+1+1:=aH b6 d6
  have e7:a0[i].Version=(k+1+1+1+1+((aA aF x.Log:Nat):Int)+1+1):=by rw[p3];simp only[bP,w0,w1,w2,w3,m4,w5,w6]
  have w7:IntKind.i64.wrap (k+1+1+1+1+((aA aF x.Log:Nat):Int)+1+1+1)=k+1+1+1+1+((aA aF x.Log:Nat):Int)+1+1+1:=aH b7 d7
  have f8:=bD oW x.aAH.Entries (k+1+1+1+1+((aA aF x.Log:Nat):Int)+1+1+1) b8 d8
  have e8:a0[i].aAH.Entries=(aX eP x.aAH.Entries (k+1+1+1+1+((aA aF x.Log:Nat):Int)+1+1+1)).1:=by rw[p3];simp only[bP,w0,w1,w2,w3,m4,w5,w6,w7]
  have m8:=f8.1
  have c8:aA bY a0[i].aAH.Entries=aA bY x.aAH.Entries:=by rw[e8];exact f8.2
  have h8:bC (aX eP) (aA bY) a0[i].aAH.Entries (k+1+1+1+1+((aA aF x.Log:Nat):Int)+1+1+1):=dW b8 d8 e8 c8
  simp only[bG hi,cond_true,aD hi,e0,w0,e1,w1,e2,w2,e3,w3,aG h4,c4,t4,e5,w5,e6,w6,e7,w7,aG h8,c8,t8,bne_self_eq_false,beq_self_eq_true,Bool.not_true,cond_false,bd_s,dD,gd_T]
  rw[←p4,←nn]) (fun rec k=>by simp only[bH,cond_false])]
 rfl
theorem O0 (a0:List Bool)(a1:Int)(h:bC (aX mkB) (aA eF) a0 a1):zD a0 a1=some (a1+((aA eF a0:Nat):Int)):=by
 have hlen:=gU (c:=eF) (fun _=>Nat.le_refl _) a0
 have h1:=h.1
 have h2:=h.2.1
 unfold zD
 rw[fV aGz h (by omega) (fun rec k i hi hP=>by
  obtain⟨p1,p2,x,p3,_⟩:=hP
  have p2:k+1≤4611686018427387904:=by simpa[eF] using p2
  have e:a0[i]=(k.tmod 3==0):=p3
  simp only[bG hi,cond_true,aD hi,e,bne_self_eq_false,beq_self_eq_true,Bool.not_true,cond_false,bd_s,aH p1 p2,aG (show(3:Int)≠(0:Int) by omega)];rfl) (fun rec k=>by simp only[bH,cond_false])]
 rfl
theorem O1 (a0:List Int)(a1:Int)(h:bC (aX mkU) (aA eF) a0 a1):zF a0 a1=some (a1+((aA eF a0:Nat):Int)):=by
 have hlen:=gU (c:=eF) (fun _=>Nat.le_refl _) a0
 have h1:=h.1
 have h2:=h.2.1
 unfold zF
 rw[fV Ie h (by omega) (fun rec k i hi hP=>by
  obtain⟨p1,p2,x,p3,_⟩:=hP
  have p2:k+1≤4611686018427387904:=by simpa[eF] using p2
  have e:a0[i]=IntKind.u8.wrap k:=p3
  simp only[bG hi,cond_true,aD hi,e,bne_self_eq_false,beq_self_eq_true,Bool.not_true,cond_false,bd_s,aH p1 p2,aG (show(3:Int)≠(0:Int) by omega)];rfl) (fun rec k=>by simp only[bH,cond_false])]
 rfl
theorem aC5 (a0:List D.Box)(a1:Int)(h:bC (aX dY) (aA dP) a0 a1):Ef a0 a1=some (a1+((aA dP a0:Nat):Int)):=by
 have hlen:=gU aV2 a0
 have h1:=h.1
 have h2:=h.2.1
 unfold Ef
 rw[fV jU h (by omega) (fun rec k i hi hP=>by
  clear h hlen h1 h2
  obtain⟨p1,p2,x,p3,p4⟩:=hP
  rw[←p4] at p2
  unfold dP at p2
  have b0:0≤k:=by omega
  have d0:k+1≤4611686018427387904:=by omega
  have b1:0≤k+1:=by omega
  have d1:k+1+1≤4611686018427387904:=by omega
  have b2:0≤k+1+1:=by omega
  have d2:k+1+1+((aA eF x.Data:Nat):Int)≤4611686018427387904:=by omega
  have t2:decide (k+1+1+((aA eF x.Data:Nat):Int)<0)=false:=decide_eq_false (by omega)
  have b3:0≤k+1+1+((aA eF x.Data:Nat):Int):=by omega
  have d3:k+1+1+((aA eF x.Data:Nat):Int)+1≤4611686018427387904:=by omega
  have nn:k+1+1+((aA eF x.Data:Nat):Int)+1=k+((dP x:Nat):Int):=by unfold dP;omega
  have e0:a0[i].To=k:=by rw[p3];simp only[dY]
  have w0:IntKind.i64.wrap (k+1)=k+1:=aH b0 d0
  have e1:a0[i].Ephemeral=(k+1):=by rw[p3];simp only[dY,w0]
  have w1:IntKind.i64.wrap (k+1+1)=k+1+1:=aH b1 d1
  have f2:=bD Ie x.Data (k+1+1) b2 d2
  have e2:a0[i].Data=(aX mkU x.Data (k+1+1)).1:=by rw[p3];simp only[dY,w0,w1]
  have m2:=f2.1
  have c2:aA eF a0[i].Data=aA eF x.Data:=by rw[e2];exact f2.2
  have h2:bC (aX mkU) (aA eF) a0[i].Data (k+1+1):=dW b2 d2 e2 c2
  have e3:a0[i].MAC=(k+1+1+((aA eF x.Data:Nat):Int)):=by rw[p3];simp only[dY,w0,w1,m2]
  have w3:IntKind.i64.wrap (k+1+1+((aA eF x.Data:Nat):Int)+1)=k+1+1+((aA eF x.Data:Nat):Int)+1:=aH b3 d3
  simp only[bG hi,cond_true,aD hi,e0,w0,e1,w1,aG h2,c2,t2,e3,w3,bne_self_eq_false,beq_self_eq_true,Bool.not_true,cond_false,bd_s,dD,gd_T]
  rw[←p4,←nn]) (fun rec k=>by simp only[bH,cond_false])]
 rfl
theorem Ey (a0:D.aAF)(k:Int)(h:bC cO aJ a0 k):nH a0 k=some (k+((aJ a0:Nat):Int)):=by
 obtain⟨p1,p2,x,p3,p4⟩:=h
 rw[←p4] at p2
 unfold aJ at p2
 have b0:0≤k:=by omega
 have d0:k+(((aA dP) x.Boxes:Nat):Int)≤4611686018427387904:=by omega
 have t0:decide (k+(((aA dP) x.Boxes:Nat):Int)<0)=false:=decide_eq_false (by omega)
 have nn:k+(((aA dP) x.Boxes:Nat):Int)=k+((aJ x:Nat):Int):=by simp only[aJ]<;>omega
 have f0:=(bD jU) x.Boxes k b0 d0
 have e0:a0.Boxes=((aX dY) x.Boxes k).1:=by rw[p3];simp only[cO]
 have m0:=f0.1
 have c0:(aA dP) a0.Boxes=(aA dP) x.Boxes:=by rw[e0];exact f0.2
 have h0:bC (aX dY) (aA dP) a0.Boxes k:=dW b0 d0 e0 c0
 unfold nH
 simp only[aG h0,c0,t0,cond_false,bd_s]
 rw[←p4,←nn]
theorem wJ (a0:List D.aAB)(a1:Int)(h:bC (aX aT) (aA aI) a0 a1):kF a0 a1=some (a1+((aA aI a0:Nat):Int)):=by
 have hlen:=gU Ry a0
 have h1:=h.1
 have h2:=h.2.1
 unfold kF
 rw[fV dZ h (by omega) (fun rec k i hi hP=>by
  clear h hlen h1 h2
  obtain⟨p1,p2,x,p3,p4⟩:=hP
  rw[←p4] at p2
  unfold aI at p2
  have b0:0≤k:=by omega
  have d0:k+1≤4611686018427387904:=by omega
  have b1:0≤k+1:=by omega
  have d1:k+1+1≤4611686018427387904:=by omega
  have b2:0≤k+1+1:=by omega
  have d2:k+1+1+((aA eF x.Data:Nat):Int)≤4611686018427387904:=by omega
  have t2:decide (k+1+1+((aA eF x.Data:Nat):Int)<0)=false:=decide_eq_false (by omega)
  have b3:0≤k+1+1+((aA eF x.Data:Nat):Int):=by omega
  have d3:k+1+1+((aA eF x.Data:Nat):Int)+1≤4611686018427387904:=by omega
  have nn:k+1+1+((aA eF x.Data:Nat):Int)+1=k+((aI x:Nat):Int):=by unfold aI;omega
  have e0:a0[i].Epoch=k:=by rw[p3];simp only[aT]
  have w0:IntKind.i64.wrap (k+1)=k+1:=aH b0 d0
  have e1:a0[i].Version=(k+1):=by rw[p3];simp only[aT,w0]
  have w1:IntKind.i64.wrap (k+1+1)=k+1+1:=aH b1 d1
  have f2:=bD Ie x.Data (k+1+1) b2 d2
  have e2:a0[i].Data=(aX mkU x.Data (k+1+1)).1:=by rw[p3];simp only[aT,w0,w1]
  have m2:=f2.1
  have c2:aA eF a0[i].Data=aA eF x.Data:=by rw[e2];exact f2.2
  have h2:bC (aX mkU) (aA eF) a0[i].Data (k+1+1):=dW b2 d2 e2 c2
  have e3:a0[i].MAC=(k+1+1+((aA eF x.Data:Nat):Int)):=by rw[p3];simp only[aT,w0,w1,m2]
  have w3:IntKind.i64.wrap (k+1+1+((aA eF x.Data:Nat):Int)+1)=k+1+1+((aA eF x.Data:Nat):Int)+1:=aH b3 d3
  simp only[bG hi,cond_true,aD hi,e0,w0,e1,w1,aG h2,c2,t2,e3,w3,bne_self_eq_false,beq_self_eq_true,Bool.not_true,cond_false,bd_s,dD,gd_T]
  rw[←p4,←nn]) (fun rec k=>by simp only[bH,cond_false])]
 rfl
theorem O3 (a0:D.aAJ)(k:Int)(h:bC fG aR a0 k):zG a0 k=some (k+((aR a0:Nat):Int)):=by
 obtain⟨p1,p2,x,p3,p4⟩:=h
 rw[←p4] at p2
 unfold aR at p2
 have b0:0≤k:=by first|omega|(simp only[aJ];omega)
 have d0:k+(((aA aF) x.Log:Nat):Int)≤4611686018427387904:=by first|omega|(simp only[aJ];omega)
 have t0:decide (k+(((aA aF) x.Log:Nat):Int)<0)=false:=decide_eq_false (by first|omega|(simp only[aJ];omega))
 have b1:0≤k+(((aA aF) x.Log:Nat):Int):=by first|omega|(simp only[aJ];omega)
 have d1:k+(((aA aF) x.Log:Nat):Int)+((aJ x.Boxes:Nat):Int)≤4611686018427387904:=by first|omega|(simp only[aJ];omega)
 have t1:decide (k+(((aA aF) x.Log:Nat):Int)+((aJ x.Boxes:Nat):Int)<0)=false:=decide_eq_false (by first|omega|(simp only[aJ];omega))
 have b2:0≤k+(((aA aF) x.Log:Nat):Int)+((aJ x.Boxes:Nat):Int):=by first|omega|(simp only[aJ];omega)
 have d2:k+(((aA aF) x.Log:Nat):Int)+((aJ x.Boxes:Nat):Int)+(((aA aI) x.History:Nat):Int)≤4611686018427387904:=by first|omega|(simp only[aJ];omega)
 have t2:decide (k+(((aA aF) x.Log:Nat):Int)+((aJ x.Boxes:Nat):Int)+(((aA aI) x.History:Nat):Int)<0)=false:=decide_eq_false (by first|omega|(simp only[aJ];omega))
 have nn:k+(((aA aF) x.Log:Nat):Int)+((aJ x.Boxes:Nat):Int)+(((aA aI) x.History:Nat):Int)=k+((aR x:Nat):Int):=by simp only[aR,aJ]<;>omega
 have f0:=(bD dX) x.Log k b0 d0
 have e0:a0.Log=((aX aO) x.Log k).1:=by rw[p3];simp only[fG]
 have m0:=f0.1
 have c0:(aA aF) a0.Log=(aA aF) x.Log:=by rw[e0];exact f0.2
 have h0:bC (aX aO) (aA aF) a0.Log k:=dW b0 d0 e0 c0
 have f1:=J6 x.Boxes (k+(((aA aF) x.Log:Nat):Int)) b1 d1
 have e1:a0.Boxes=(cO x.Boxes (k+(((aA aF) x.Log:Nat):Int))).1:=by rw[p3];simp only[fG,cO,m0]
 have m1:=f1.1
 simp only[cO,m0] at m1
 have c1:aJ a0.Boxes=aJ x.Boxes:=by rw[e1];exact f1.2
 have h1:bC cO aJ a0.Boxes (k+(((aA aF) x.Log:Nat):Int)):=dW b1 d1 e1 c1
 have f2:=(bD dZ) x.History (k+(((aA aF) x.Log:Nat):Int)+((aJ x.Boxes:Nat):Int)) b2 d2
 have e2:a0.History=((aX aT) x.History (k+(((aA aF) x.Log:Nat):Int)+((aJ x.Boxes:Nat):Int))).1:=by rw[p3];simp only[fG,m0,m1]
 have m2:=f2.1
 have c2:(aA aI) a0.History=(aA aI) x.History:=by rw[e2];exact f2.2
 have h2:bC (aX aT) (aA aI) a0.History (k+(((aA aF) x.Log:Nat):Int)+((aJ x.Boxes:Nat):Int)):=dW b2 d2 e2 c2
 unfold zG
 simp only[aG h0,c0,t0,aG h1,c1,t1,aG h2,c2,t2,cond_false,bd_s]
 rw[←p4,←nn]
theorem Ba (a0:List D.aAG)(a1:Int)(h:bC (aX bR) (aA aS) a0 a1):mG a0 a1=some (a1+((aA aS a0:Nat):Int)):=by
 have hlen:=gU J7 a0
 have h1:=h.1
 have h2:=h.2.1
 unfold mG
 rw[fV iB h (by omega) (fun rec k i hi hP=>by
  clear h hlen h1 h2
  obtain⟨p1,p2,x,p3,p4⟩:=hP
  rw[←p4] at p2
  unfold aS at p2
  have b0:0≤k:=by omega
  have d0:k+1≤4611686018427387904:=by omega
  have b1:0≤k+1:=by omega
  have d1:k+1+1≤4611686018427387904:=by omega
  have b2:0≤k+1+1:=by omega
  have d2:k+1+1+1≤4611686018427387904:=by omega
  have b3:0≤k+1+1+1:=by omega
  have d3:k+1+1+1+1≤4611686018427387904:=by omega
  have nn:k+1+1+1+1=k+((aS x:Nat):Int):=by unfold aS;omega
  have e0:a0[i].Handle=k:=by rw[p3];simp only[bR]
  have w0:IntKind.i64.wrap (k+1)=k+1:=aH b0 d0
  have e1:a0[i].Public=(k+1):=by rw[p3];simp only[bR,w0]
  have w1:IntKind.i64.wrap (k+1+1)=k+1+1:=aH b1 d1
  have e2:a0[i].Counter=(k+1+1):=by rw[p3];simp only[bR,w0,w1]
  have w2:IntKind.i64.wrap (k+1+1+1)=k+1+1+1:=aH b2 d2
  have e3:a0[i].Cut=((k+1+1+1).tmod 3==0):=by rw[p3];simp only[bR,w0,w1,w2]
  have w3:IntKind.i64.wrap (k+1+1+1+1)=k+1+1+1+1:=aH b3 d3
  simp only[bG hi,cond_true,aD hi,e0,w0,e1,w1,e2,w2,e3,w3,bne_self_eq_false,beq_self_eq_true,Bool.not_true,cond_false,bd_s,dD,gd_T]
  rw[←p4,←nn]) (fun rec k=>by simp only[bH,cond_false])]
 rfl
theorem Nv (a0:List D.aAE)(a1:Int)(h:bC (aX cK) (aA aK) a0 a1):qM a0 a1=some (a1+((aA aK a0:Nat):Int)):=by
 have hlen:=gU aK6 a0
 have h1:=h.1
 have h2:=h.2.1
 unfold qM
 rw[fV kE h (by omega) (fun rec k i hi hP=>by
  clear h hlen h1 h2
  obtain⟨p1,p2,x,p3,p4⟩:=hP
  rw[←p4] at p2
  unfold aK at p2
  have b0:0≤k:=by omega
  have d0:k+1≤4611686018427387904:=by omega
  have b1:0≤k+1:=by omega
  have d1:k+1+1≤4611686018427387904:=by omega
  have b2:0≤k+1+1:=by omega
  have d2:k+1+1+((aA aS x.Credentials:Nat):Int)≤4611686018427387904:=by omega
  have t2:decide (k+1+1+((aA aS x.Credentials:Nat):Int)<0)=false:=decide_eq_false (by omega)
  have nn:k+1+1+((aA aS x.Credentials:Nat):Int)=k+((aK x:Nat):Int):=by unfold aK;omega
  have e0:a0[i].Id=k:=by rw[p3];simp only[cK]
  have w0:IntKind.i64.wrap (k+1)=k+1:=aH b0 d0
  have e1:a0[i].Minimum=(k+1):=by rw[p3];simp only[cK,w0]
  have w1:IntKind.i64.wrap (k+1+1)=k+1+1:=aH b1 d1
  have f2:=bD iB x.Credentials (k+1+1) b2 d2
  have e2:a0[i].Credentials=(aX bR x.Credentials (k+1+1)).1:=by rw[p3];simp only[cK,w0,w1]
  have m2:=f2.1
  have c2:aA aS a0[i].Credentials=aA aS x.Credentials:=by rw[e2];exact f2.2
  have h2:bC (aX bR) (aA aS) a0[i].Credentials (k+1+1):=dW b2 d2 e2 c2
  simp only[bG hi,cond_true,aD hi,e0,w0,e1,w1,aG h2,c2,t2,bne_self_eq_false,beq_self_eq_true,Bool.not_true,cond_false,bd_s,dD,gd_T]
  rw[←p4,←nn]) (fun rec k=>by simp only[bH,cond_false])]
 rfl
theorem Ez (a0:List D.aAK)(a1:Int)(h:bC (aX bW) (aA aQ) a0 a1):nI a0 a1=some (a1+((aA aQ a0:Nat):Int)):=by
 have hlen:=gU aCo a0
 have h1:=h.1
 have h2:=h.2.1
 unfold nI
 rw[fV iP h (by omega) (fun rec k i hi hP=>by
  clear h hlen h1 h2
  obtain⟨p1,p2,x,p3,p4⟩:=hP
  rw[←p4] at p2
  unfold aQ at p2
  have b0:0≤k:=by omega
  have d0:k+1≤4611686018427387904:=by omega
  have b1:0≤k+1:=by omega
  have d1:k+1+1≤4611686018427387904:=by omega
  have b2:0≤k+1+1:=by omega
  have d2:k+1+1+1≤4611686018427387904:=by omega
  have nn:k+1+1+1=k+((aQ x:Nat):Int):=by unfold aQ;omega
  have e0:a0[i].Id=k:=by rw[p3];simp only[bW]
  have w0:IntKind.i64.wrap (k+1)=k+1:=aH b0 d0
  have e1:a0[i].aAE=(k+1):=by rw[p3];simp only[bW,w0]
  have w1:IntKind.i64.wrap (k+1+1)=k+1+1:=aH b1 d1
  have e2:a0[i].Until=(k+1+1):=by rw[p3];simp only[bW,w0,w1]
  have w2:IntKind.i64.wrap (k+1+1+1)=k+1+1+1:=aH b2 d2
  simp only[bG hi,cond_true,aD hi,e0,w0,e1,w1,e2,w2,bne_self_eq_false,beq_self_eq_true,Bool.not_true,cond_false,bd_s,dD,gd_T]
  rw[←p4,←nn]) (fun rec k=>by simp only[bH,cond_false])]
 rfl
theorem aC6 (a0:List Int)(a1:Int)(h:bC (aX mkI) (aA eF) a0 a1):Eg a0 a1=some (a1+((aA eF a0:Nat):Int)):=by
 have hlen:=gU (c:=eF) (fun _=>Nat.le_refl _) a0
 have h1:=h.1
 have h2:=h.2.1
 unfold Eg
 rw[fV aGy h (by omega) (fun rec k i hi hP=>by
  obtain⟨p1,p2,x,p3,_⟩:=hP
  have p2:k+1≤4611686018427387904:=by simpa[eF] using p2
  have e:a0[i]=k:=p3
  simp only[bG hi,cond_true,aD hi,e,bne_self_eq_false,beq_self_eq_true,Bool.not_true,cond_false,bd_s,aH p1 p2,aG (show(3:Int)≠(0:Int) by omega)];rfl) (fun rec k=>by simp only[bH,cond_false])]
 rfl
theorem O4 (a0:List D.Site)(a1:Int)(h:bC (aX eQ) (aA bS) a0 a1):zH a0 a1=some (a1+((aA bS a0:Nat):Int)):=by
 have hlen:=gU aS0 a0
 have h1:=h.1
 have h2:=h.2.1
 unfold zH
 rw[fV tQ h (by omega) (fun rec k i hi hP=>by
  clear h hlen h1 h2
  obtain⟨p1,p2,x,p3,p4⟩:=hP
  rw[←p4] at p2
  unfold bS at p2
  have b0:0≤k:=by omega
  have d0:k+1≤4611686018427387904:=by omega
  have z0:k≤4611686018427387904:=by omega
  have b1:0≤k+1:=by omega
  have d1:k+1+((aA aK x.Accounts:Nat):Int)≤4611686018427387904:=by omega
  have t1:decide (k+1+((aA aK x.Accounts:Nat):Int)<0)=false:=decide_eq_false (by omega)
  have b2:0≤k+1+((aA aK x.Accounts:Nat):Int):=by omega
  have d2:k+1+((aA aK x.Accounts:Nat):Int)+1≤4611686018427387904:=by omega
  have b3:0≤k+1+((aA aK x.Accounts:Nat):Int)+1:=by omega
  have d3:k+1+((aA aK x.Accounts:Nat):Int)+1+1≤4611686018427387904:=by omega
  have b4:0≤k+1+((aA aK x.Accounts:Nat):Int)+1+1:=by omega
  have d4:k+1+((aA aK x.Accounts:Nat):Int)+1+1+((aA aQ x.Book.Open:Nat):Int)≤4611686018427387904:=by omega
  have t4:decide (k+1+((aA aK x.Accounts:Nat):Int)+1+1+((aA aQ x.Book.Open:Nat):Int)<0)=false:=decide_eq_false (by omega)
  have b5:0≤k+1+((aA aK x.Accounts:Nat):Int)+1+1+((aA aQ x.Book.Open:Nat):Int):=by omega
  have d5:k+1+((aA aK x.Accounts:Nat):Int)+1+1+((aA aQ x.Book.Open:Nat):Int)+((aA eF x.Logins:Nat):Int)≤4611686018427387904:=by omega
  have t5:decide (k+1+((aA aK x.Accounts:Nat):Int)+1+1+((aA aQ x.Book.Open:Nat):Int)+((aA eF x.Logins:Nat):Int)<0)=false:=decide_eq_false (by omega)
  have nn:k+1+((aA aK x.Accounts:Nat):Int)+1+1+((aA aQ x.Book.Open:Nat):Int)+((aA eF x.Logins:Nat):Int)=k+((bS x:Nat):Int):=by unfold bS;omega
  have e0:a0[i].Name=(zA k):=by rw[p3];simp only[eQ]
  have s0:=aB6 (k:=k) b0 z0
  have w0:IntKind.i64.wrap (k+1)=k+1:=aH b0 d0
  have f1:=bD kE x.Accounts (k+1) b1 d1
  have e1:a0[i].Accounts=(aX cK x.Accounts (k+1)).1:=by rw[p3];simp only[eQ,w0]
  have m1:=f1.1
  have c1:aA aK a0[i].Accounts=aA aK x.Accounts:=by rw[e1];exact f1.2
  have h1:bC (aX cK) (aA aK) a0[i].Accounts (k+1):=dW b1 d1 e1 c1
  have e2:a0[i].Book.Seed=(k+1+((aA aK x.Accounts:Nat):Int)):=by rw[p3];simp only[eQ,w0,m1]
  have w2:IntKind.i64.wrap (k+1+((aA aK x.Accounts:Nat):Int)+1)=k+1+((aA aK x.Accounts:Nat):Int)+1:=aH b2 d2
  have e3:a0[i].Book.Next=(k+1+((aA aK x.Accounts:Nat):Int)+1):=by rw[p3];simp only[eQ,w0,m1,w2]
  have w3:IntKind.i64.wrap (k+1+((aA aK x.Accounts:Nat):Int)+1+1)=k+1+((aA aK x.Accounts:Nat):Int)+1+1:=aH b3 d3
  have f4:=bD iP x.Book.Open (k+1+((aA aK x.Accounts:Nat):Int)+1+1) b4 d4
  have e4:a0[i].Book.Open=(aX bW x.Book.Open (k+1+((aA aK x.Accounts:Nat):Int)+1+1)).1:=by rw[p3];simp only[eQ,w0,m1,w2,w3]
  have m4:=f4.1
  have c4:aA aQ a0[i].Book.Open=aA aQ x.Book.Open:=by rw[e4];exact f4.2
  have h4:bC (aX bW) (aA aQ) a0[i].Book.Open (k+1+((aA aK x.Accounts:Nat):Int)+1+1):=dW b4 d4 e4 c4
  have f5:=bD aGy x.Logins (k+1+((aA aK x.Accounts:Nat):Int)+1+1+((aA aQ x.Book.Open:Nat):Int)) b5 d5
  have e5:a0[i].Logins=(aX mkI x.Logins (k+1+((aA aK x.Accounts:Nat):Int)+1+1+((aA aQ x.Book.Open:Nat):Int))).1:=by rw[p3];simp only[eQ,w0,m1,w2,w3,m4]
  have m5:=f5.1
  have c5:aA eF a0[i].Logins=aA eF x.Logins:=by rw[e5];exact f5.2
  have h5:bC (aX mkI) (aA eF) a0[i].Logins (k+1+((aA aK x.Accounts:Nat):Int)+1+1+((aA aQ x.Book.Open:Nat):Int)):=dW b5 d5 e5 c5
  simp only[bG hi,cond_true,aD hi,s0,e0,w0,aG h1,c1,t1,e2,w2,e3,w3,aG h4,c4,t4,aG h5,c5,t5,bne_self_eq_false,beq_self_eq_true,Bool.not_true,cond_false,bd_s,dD,gd_T]
  rw[←p4,←nn]) (fun rec k=>by simp only[bH,cond_false])]
 rfl
theorem Sq (a0:List D.aAL)(a1:Int)(h:bC (aX dM) (aA bE) a0 a1):tZ a0 a1=some (a1+((aA bE a0:Nat):Int)):=by
 have hlen:=gU aPc a0
 have h1:=h.1
 have h2:=h.2.1
 unfold tZ
 rw[fV mE h (by omega) (fun rec k i hi hP=>by
  clear h hlen h1 h2
  obtain⟨p1,p2,x,p3,p4⟩:=hP
  rw[←p4] at p2
  unfold bE at p2
  have b0:0≤k:=by omega
  have d0:k+1≤4611686018427387904:=by omega
  have b1:0≤k+1:=by omega
  have d1:k+1+1≤4611686018427387904:=by omega
  have b2:0≤k+1+1:=by omega
  have d2:k+1+1+1≤4611686018427387904:=by omega
  have b3:0≤k+1+1+1:=by omega
  have d3:k+1+1+1+1≤4611686018427387904:=by omega
  have b4:0≤k+1+1+1+1:=by omega
  have d4:k+1+1+1+1+1≤4611686018427387904:=by omega
  have nn:k+1+1+1+1+1=k+((bE x:Nat):Int):=by unfold bE;omega
  have e0:a0[i].aAN.Index=k:=by rw[p3];simp only[dM]
  have w0:IntKind.i64.wrap (k+1)=k+1:=aH b0 d0
  have e1:a0[i].aAN.Value=(k+1):=by rw[p3];simp only[dM,w0]
  have w1:IntKind.i64.wrap (k+1+1)=k+1+1:=aH b1 d1
  have e2:a0[i].Epoch=(k+1+1):=by rw[p3];simp only[dM,w0,w1]
  have w2:IntKind.i64.wrap (k+1+1+1)=k+1+1+1:=aH b2 d2
  have e3:a0[i].Guesses=(k+1+1+1):=by rw[p3];simp only[dM,w0,w1,w2]
  have w3:IntKind.i64.wrap (k+1+1+1+1)=k+1+1+1+1:=aH b3 d3
  have e4:a0[i].Limit=(k+1+1+1+1):=by rw[p3];simp only[dM,w0,w1,w2,w3]
  have w4:IntKind.i64.wrap (k+1+1+1+1+1)=k+1+1+1+1+1:=aH b4 d4
  simp only[bG hi,cond_true,aD hi,e0,w0,e1,w1,e2,w2,e3,w3,e4,w4,bne_self_eq_false,beq_self_eq_true,Bool.not_true,cond_false,bd_s,dD,gd_T]
  rw[←p4,←nn]) (fun rec k=>by simp only[bH,cond_false])]
 rfl
theorem Bb (a0:List D.aAA)(a1:Int)(h:bC (aX bB) (aA aN) a0 a1):mH a0 a1=some (a1+((aA aN a0:Nat):Int)):=by
 have hlen:=gU J9 a0
 have h1:=h.1
 have h2:=h.2.1
 unfold mH
 rw[fV iC h (by omega) (fun rec k i hi hP=>by
  clear h hlen h1 h2
  obtain⟨p1,p2,x,p3,p4⟩:=hP
  rw[←p4] at p2
  unfold aN at p2
  have b0:0≤k:=by omega
  have d0:k+1≤4611686018427387904:=by omega
  have b1:0≤k+1:=by omega
  have d1:k+1+1≤4611686018427387904:=by omega
  have b2:0≤k+1+1:=by omega
  have d2:k+1+1+1≤4611686018427387904:=by omega
  have b3:0≤k+1+1+1:=by omega
  have d3:k+1+1+1+1≤4611686018427387904:=by omega
  have b4:0≤k+1+1+1+1:=by omega
  have d4:k+1+1+1+1+1≤4611686018427387904:=by omega
  have b5:0≤k+1+1+1+1+1:=by omega
  have d5:k+1+1+1+1+1+((aA bE x.Saved:Nat):Int)≤4611686018427387904:=by omega
  have t5:decide (k+1+1+1+1+1+((aA bE x.Saved:Nat):Int)<0)=false:=decide_eq_false (by omega)
  have b6:0≤k+1+1+1+1+1+((aA bE x.Saved:Nat):Int):=by omega
  have d6:k+1+1+1+1+1+((aA bE x.Saved:Nat):Int)+1≤4611686018427387904:=by omega
  have nn:k+1+1+1+1+1+((aA bE x.Saved:Nat):Int)+1=k+((aN x:Nat):Int):=by unfold aN;omega
  have e0:a0[i].State.aAN.Index=k:=by rw[p3];simp only[bB]
  have w0:IntKind.i64.wrap (k+1)=k+1:=aH b0 d0
  have e1:a0[i].State.aAN.Value=(k+1):=by rw[p3];simp only[bB,w0]
  have w1:IntKind.i64.wrap (k+1+1)=k+1+1:=aH b1 d1
  have e2:a0[i].State.Epoch=(k+1+1):=by rw[p3];simp only[bB,w0,w1]
  have w2:IntKind.i64.wrap (k+1+1+1)=k+1+1+1:=aH b2 d2
  have e3:a0[i].State.Guesses=(k+1+1+1):=by rw[p3];simp only[bB,w0,w1,w2]
  have w3:IntKind.i64.wrap (k+1+1+1+1)=k+1+1+1+1:=aH b3 d3
  have e4:a0[i].State.Limit=(k+1+1+1+1):=by rw[p3];simp only[bB,w0,w1,w2,w3]
  have w4:IntKind.i64.wrap (k+1+1+1+1+1)=k+1+1+1+1+1:=aH b4 d4
  have f5:=bD mE x.Saved (k+1+1+1+1+1) b5 d5
  have e5:a0[i].Saved=(aX dM x.Saved (k+1+1+1+1+1)).1:=by rw[p3];simp only[bB,w0,w1,w2,w3,w4]
  have m5:=f5.1
  have c5:aA bE a0[i].Saved=aA bE x.Saved:=by rw[e5];exact f5.2
  have h5:bC (aX dM) (aA bE) a0[i].Saved (k+1+1+1+1+1):=dW b5 d5 e5 c5
  have e6:a0[i].Monotonic=(k+1+1+1+1+1+((aA bE x.Saved:Nat):Int)):=by rw[p3];simp only[bB,w0,w1,w2,w3,w4,m5]
  have w6:IntKind.i64.wrap (k+1+1+1+1+1+((aA bE x.Saved:Nat):Int)+1)=k+1+1+1+1+1+((aA bE x.Saved:Nat):Int)+1:=aH b6 d6
  simp only[bG hi,cond_true,aD hi,e0,w0,e1,w1,e2,w2,e3,w3,e4,w4,aG h5,c5,t5,e6,w6,bne_self_eq_false,beq_self_eq_true,Bool.not_true,cond_false,bd_s,dD,gd_T]
  rw[←p4,←nn]) (fun rec k=>by simp only[bH,cond_false])]
 rfl
theorem Sr (a0:List D.aAM)(a1:Int)(h:bC (aX dF) (aA bM) a0 a1):uA a0 a1=some (a1+((aA bM a0:Nat):Int)):=by
 have hlen:=gU aPe a0
 have h1:=h.1
 have h2:=h.2.1
 unfold uA
 rw[fV jV h (by omega) (fun rec k i hi hP=>by
  clear h hlen h1 h2
  obtain⟨p1,p2,x,p3,p4⟩:=hP
  rw[←p4] at p2
  unfold bM at p2
  have b0:0≤k:=by omega
  have d0:k+1≤4611686018427387904:=by omega
  have b1:0≤k+1:=by omega
  have d1:k+1+1≤4611686018427387904:=by omega
  have b2:0≤k+1+1:=by omega
  have d2:k+1+1+1≤4611686018427387904:=by omega
  have b3:0≤k+1+1+1:=by omega
  have d3:k+1+1+1+1≤4611686018427387904:=by omega
  have nn:k+1+1+1+1=k+((bM x:Nat):Int):=by unfold bM;omega
  have e0:a0[i].Kind=k:=by rw[p3];simp only[dF]
  have w0:IntKind.i64.wrap (k+1)=k+1:=aH b0 d0
  have e1:a0[i].aAE=(k+1):=by rw[p3];simp only[dF,w0]
  have w1:IntKind.i64.wrap (k+1+1)=k+1+1:=aH b1 d1
  have e2:a0[i].Time=(k+1+1):=by rw[p3];simp only[dF,w0,w1]
  have w2:IntKind.i64.wrap (k+1+1+1)=k+1+1+1:=aH b2 d2
  have e3:a0[i].Seen=((k+1+1+1).tmod 3==0):=by rw[p3];simp only[dF,w0,w1,w2]
  have w3:IntKind.i64.wrap (k+1+1+1+1)=k+1+1+1+1:=aH b3 d3
  simp only[bG hi,cond_true,aD hi,e0,w0,e1,w1,e2,w2,e3,w3,bne_self_eq_false,beq_self_eq_true,Bool.not_true,cond_false,bd_s,dD,gd_T]
  rw[←p4,←nn]) (fun rec k=>by simp only[bH,cond_false])]
 rfl
theorem Su (a0:D.aAI)(k:Int)(h:bC eD aU a0 k):uB a0 k=some (k+((aU a0:Nat):Int)):=by
 obtain⟨p1,p2,x,p3,p4⟩:=h
 rw[←p4] at p2
 unfold aU at p2
 have b0:0≤k:=by omega
 have d0:k+(((aA bM) x.Notices:Nat):Int)≤4611686018427387904:=by omega
 have t0:decide (k+(((aA bM) x.Notices:Nat):Int)<0)=false:=decide_eq_false (by omega)
 have nn:k+(((aA bM) x.Notices:Nat):Int)=k+((aU x:Nat):Int):=by simp only[aU]<;>omega
 have f0:=(bD jV) x.Notices k b0 d0
 have e0:a0.Notices=((aX dF) x.Notices k).1:=by rw[p3];simp only[eD]
 have m0:=f0.1
 have c0:(aA bM) a0.Notices=(aA bM) x.Notices:=by rw[e0];exact f0.2
 have h0:bC (aX dF) (aA bM) a0.Notices k:=dW b0 d0 e0 c0
 unfold uB
 simp only[aG h0,c0,t0,cond_false,bd_s]
 rw[←p4,←nn]
theorem O5 (a0:D.World)(k:Int)(h:bC bX dJ a0 k):zI a0 k=some (k+((dJ a0:Nat):Int)):=by
 obtain⟨p1,p2,x,p3,p4⟩:=h
 rw[←p4] at p2
 unfold dJ at p2
 have b0:0≤k:=by first|omega|(simp only[aR,aU];omega)
 have d0:k+(((aA aL) x.Devices:Nat):Int)≤4611686018427387904:=by first|omega|(simp only[aR,aU];omega)
 have t0:decide (k+(((aA aL) x.Devices:Nat):Int)<0)=false:=decide_eq_false (by first|omega|(simp only[aR,aU];omega))
 have b1:0≤k+(((aA aL) x.Devices:Nat):Int):=by first|omega|(simp only[aR,aU];omega)
 have d1:k+(((aA aL) x.Devices:Nat):Int)+(((aA eF) x.Stolen:Nat):Int)≤4611686018427387904:=by first|omega|(simp only[aR,aU];omega)
 have t1:decide (k+(((aA aL) x.Devices:Nat):Int)+(((aA eF) x.Stolen:Nat):Int)<0)=false:=decide_eq_false (by first|omega|(simp only[aR,aU];omega))
 have b2:0≤k+(((aA aL) x.Devices:Nat):Int)+(((aA eF) x.Stolen:Nat):Int):=by first|omega|(simp only[aR,aU];omega)
 have d2:k+(((aA aL) x.Devices:Nat):Int)+(((aA eF) x.Stolen:Nat):Int)+((aR x.aAJ:Nat):Int)≤4611686018427387904:=by first|omega|(simp only[aR,aU];omega)
 have t2:decide (k+(((aA aL) x.Devices:Nat):Int)+(((aA eF) x.Stolen:Nat):Int)+((aR x.aAJ:Nat):Int)<0)=false:=decide_eq_false (by first|omega|(simp only[aR,aU];omega))
 have b3:0≤k+(((aA aL) x.Devices:Nat):Int)+(((aA eF) x.Stolen:Nat):Int)+((aR x.aAJ:Nat):Int):=by first|omega|(simp only[aR,aU];omega)
 have d3:k+(((aA aL) x.Devices:Nat):Int)+(((aA eF) x.Stolen:Nat):Int)+((aR x.aAJ:Nat):Int)+(((aA bS) x.Sites:Nat):Int)≤4611686018427387904:=by first|omega|(simp only[aR,aU];omega)
 have t3:decide (k+(((aA aL) x.Devices:Nat):Int)+(((aA eF) x.Stolen:Nat):Int)+((aR x.aAJ:Nat):Int)+(((aA bS) x.Sites:Nat):Int)<0)=false:=decide_eq_false (by first|omega|(simp only[aR,aU];omega))
 have b4:0≤k+(((aA aL) x.Devices:Nat):Int)+(((aA eF) x.Stolen:Nat):Int)+((aR x.aAJ:Nat):Int)+(((aA bS) x.Sites:Nat):Int):=by first|omega|(simp only[aR,aU];omega)
 have d4:k+(((aA aL) x.Devices:Nat):Int)+(((aA eF) x.Stolen:Nat):Int)+((aR x.aAJ:Nat):Int)+(((aA bS) x.Sites:Nat):Int)+(((aA aN) x.Hosts:Nat):Int)≤4611686018427387904:=by first|omega|(simp only[aR,aU];omega)
 have t4:decide (k+(((aA aL) x.Devices:Nat):Int)+(((aA eF) x.Stolen:Nat):Int)+((aR x.aAJ:Nat):Int)+(((aA bS) x.Sites:Nat):Int)+(((aA aN) x.Hosts:Nat):Int)<0)=false:=decide_eq_false (by first|omega|(simp only[aR,aU];omega))
 have b5:0≤k+(((aA aL) x.Devices:Nat):Int)+(((aA eF) x.Stolen:Nat):Int)+((aR x.aAJ:Nat):Int)+(((aA bS) x.Sites:Nat):Int)+(((aA aN) x.Hosts:Nat):Int):=by first|omega|(simp only[aR,aU];omega)
 have d5:k+(((aA aL) x.Devices:Nat):Int)+(((aA eF) x.Stolen:Nat):Int)+((aR x.aAJ:Nat):Int)+(((aA bS) x.Sites:Nat):Int)+(((aA aN) x.Hosts:Nat):Int)+((aU x.Mail:Nat):Int)≤4611686018427387904:=by first|omega|(simp only[aR,aU];omega)
 have t5:decide (k+(((aA aL) x.Devices:Nat):Int)+(((aA eF) x.Stolen:Nat):Int)+((aR x.aAJ:Nat):Int)+(((aA bS) x.Sites:Nat):Int)+(((aA aN) x.Hosts:Nat):Int)+((aU x.Mail:Nat):Int)<0)=false:=decide_eq_false (by first|omega|(simp only[aR,aU];omega))
 have nn:k+(((aA aL) x.Devices:Nat):Int)+(((aA eF) x.Stolen:Nat):Int)+((aR x.aAJ:Nat):Int)+(((aA bS) x.Sites:Nat):Int)+(((aA aN) x.Hosts:Nat):Int)+((aU x.Mail:Nat):Int)=k+((dJ x:Nat):Int):=by simp only[dJ,aR,aU]<;>omega
 have f0:=(bD lZ) x.Devices k b0 d0
 have e0:a0.Devices=((aX bP) x.Devices k).1:=by rw[p3];simp only[bX]
 have m0:=f0.1
 have c0:(aA aL) a0.Devices=(aA aL) x.Devices:=by rw[e0];exact f0.2
 have h0:bC (aX bP) (aA aL) a0.Devices k:=dW b0 d0 e0 c0
 have f1:=(bD aGz) x.Stolen (k+(((aA aL) x.Devices:Nat):Int)) b1 d1
 have e1:a0.Stolen=((aX mkB) x.Stolen (k+(((aA aL) x.Devices:Nat):Int))).1:=by rw[p3];simp only[bX,m0]
 have m1:=f1.1
 have c1:(aA eF) a0.Stolen=(aA eF) x.Stolen:=by rw[e1];exact f1.2
 have h1:bC (aX mkB) (aA eF) a0.Stolen (k+(((aA aL) x.Devices:Nat):Int)):=dW b1 d1 e1 c1
 have f2:=aRm x.aAJ (k+(((aA aL) x.Devices:Nat):Int)+(((aA eF) x.Stolen:Nat):Int)) b2 d2
 have e2:a0.aAJ=(fG x.aAJ (k+(((aA aL) x.Devices:Nat):Int)+(((aA eF) x.Stolen:Nat):Int))).1:=by rw[p3];simp only[bX,fG,m0,m1]
 have m2:=f2.1
 simp only[fG,m0,m1] at m2
 have c2:aR a0.aAJ=aR x.aAJ:=by rw[e2];exact f2.2
 have h2:bC fG aR a0.aAJ (k+(((aA aL) x.Devices:Nat):Int)+(((aA eF) x.Stolen:Nat):Int)):=dW b2 d2 e2 c2
 have f3:=(bD tQ) x.Sites (k+(((aA aL) x.Devices:Nat):Int)+(((aA eF) x.Stolen:Nat):Int)+((aR x.aAJ:Nat):Int)) b3 d3
 have e3:a0.Sites=((aX eQ) x.Sites (k+(((aA aL) x.Devices:Nat):Int)+(((aA eF) x.Stolen:Nat):Int)+((aR x.aAJ:Nat):Int))).1:=by rw[p3];simp only[bX,m0,m1,m2]
 have m3:=f3.1
 have c3:(aA bS) a0.Sites=(aA bS) x.Sites:=by rw[e3];exact f3.2
 have h3:bC (aX eQ) (aA bS) a0.Sites (k+(((aA aL) x.Devices:Nat):Int)+(((aA eF) x.Stolen:Nat):Int)+((aR x.aAJ:Nat):Int)):=dW b3 d3 e3 c3
 have f4:=(bD iC) x.Hosts (k+(((aA aL) x.Devices:Nat):Int)+(((aA eF) x.Stolen:Nat):Int)+((aR x.aAJ:Nat):Int)+(((aA bS) x.Sites:Nat):Int)) b4 d4
 have e4:a0.Hosts=((aX bB) x.Hosts (k+(((aA aL) x.Devices:Nat):Int)+(((aA eF) x.Stolen:Nat):Int)+((aR x.aAJ:Nat):Int)+(((aA bS) x.Sites:Nat):Int))).1:=by rw[p3];simp only[bX,m0,m1,m2,m3]
 have m4:=f4.1
 have c4:(aA aN) a0.Hosts=(aA aN) x.Hosts:=by rw[e4];exact f4.2
 have h4:bC (aX bB) (aA aN) a0.Hosts (k+(((aA aL) x.Devices:Nat):Int)+(((aA eF) x.Stolen:Nat):Int)+((aR x.aAJ:Nat):Int)+(((aA bS) x.Sites:Nat):Int)):=dW b4 d4 e4 c4
 have f5:=aK8 x.Mail (k+(((aA aL) x.Devices:Nat):Int)+(((aA eF) x.Stolen:Nat):Int)+((aR x.aAJ:Nat):Int)+(((aA bS) x.Sites:Nat):Int)+(((aA aN) x.Hosts:Nat):Int)) b5 d5
 have e5:a0.Mail=(eD x.Mail (k+(((aA aL) x.Devices:Nat):Int)+(((aA eF) x.Stolen:Nat):Int)+((aR x.aAJ:Nat):Int)+(((aA bS) x.Sites:Nat):Int)+(((aA aN) x.Hosts:Nat):Int))).1:=by rw[p3];simp only[bX,eD,m0,m1,m2,m3,m4]
 have m5:=f5.1
 simp only[eD,m0,m1,m2,m3,m4] at m5
 have c5:aU a0.Mail=aU x.Mail:=by rw[e5];exact f5.2
 have h5:bC eD aU a0.Mail (k+(((aA aL) x.Devices:Nat):Int)+(((aA eF) x.Stolen:Nat):Int)+((aR x.aAJ:Nat):Int)+(((aA bS) x.Sites:Nat):Int)+(((aA aN) x.Hosts:Nat):Int)):=dW b5 d5 e5 c5
 unfold zI
 simp only[aG h0,c0,t0,aG h1,c1,t1,aG h2,c2,t2,aG h3,c3,t3,aG h4,c4,t4,aG h5,c5,t5,cond_false,bd_s]
 rw[←p4,←nn]
end
end Go.VK
