import Derived.Test.YtajiimgjfnnjlaaGreatDoorXkM
/- Printed by wip/tools: models, walks, proofs. -/
set_option linter.unusedVariables false
set_option linter.unusedSimpArgs false
set_option maxRecDepth 100000
set_option maxHeartbeats 4000000
namespace Go.VK
open Go.RowKit Go.Proofs
noncomputable section
open EV (bK)
theorem Pb (a0:List D.aAE)(a1:Int)(h:cO (eG (fun _:D.aAE=>True)) a0 a1):qF a0 a1=some (bP (a0.length) a1):=by
 obtain⟨h1,h3⟩:=h
 unfold qF
 exact xL h1.1 h3
theorem P5 (a0:List D.Entry)(a1:Int)(h:cO (eG (fun _:D.Entry=>True)) a0 a1):yU a0 a1=some (bP (a0.length) a1):=by
 obtain⟨h1,h3⟩:=h
 unfold yU
 exact xL h1.1 h3
theorem P6 (a0:D.aAN)(a1:Int)(h:cO D.aAN.ok a0 a1):yX a0 a1=some (bP (a0.sz) a1):=by
 obtain⟨h1,h3⟩:=h
 unfold yX
 have e:a0.sz=(a0.Entries.length):=by simp only[D.aAN.sz]<;>omega
 rw[e]
 rw[aC (show cO (eG (fun _:D.Entry=>True)) (a0.Entries) _ from⟨h1,h3⟩),bd_s]
 exact yQ h3
theorem P7 (a0:D.Device)(a1:Int)(h:cO D.Device.ok a0 a1):yY a0 a1=some (bP (a0.sz) a1):=by
 obtain⟨h1,h3⟩:=h
 unfold yY
 have e:a0.sz=((a0.Log.length)+(a0.aAN.sz)):=by simp only[D.aAN.sz,D.Device.sz,D.aAL.sz]<;>omega
 rw[e]
 rw[aC (show cO (eG (fun _:D.aAE=>True)) (a0.Log) _ from⟨h1.1,h3⟩),bd_s]
 refine aF0 h3 (fun p1=> ?_)
 revert p1
 generalize bP (a0.Log.length) a1=l1
 intro p1
 rw[aC (show cO D.aAN.ok (a0.aAN) _ from⟨h1.2,p1⟩),bd_s]
 exact yQ p1
theorem Yi (a0:List D.Device)(a1:Int)(h:cO (eG D.Device.ok) a0 a1):uR a0 a1=some (bP (a0.length+(a0.map D.Device.sz).sum) a1):=by
 unfold uR
 exact Xy h (fun rec i left hi hp=>by simp only[bB hi,cond_true,aD hi,bd_s,aC hp]) (fun rec left=>by simp only[bC,cond_false])
theorem aCe (a0:List Bool)(a1:Int)(h:cO (eG (fun _:Bool=>True)) a0 a1):Dp a0 a1=some (bP (a0.length) a1):=by
 obtain⟨h1,h3⟩:=h
 unfold Dp
 exact xL h1.1 h3
theorem aCf (a0:List Int)(a1:Int)(h:cO (eG (fun _:Int=>True)) a0 a1):Dq a0 a1=some (bP (a0.length) a1):=by
 obtain⟨h1,h3⟩:=h
 unfold Dq
 exact xL h1.1 h3
theorem aJ1 (a0:D.Box)(a1:Int)(h:cO D.Box.ok a0 a1):Uc a0 a1=some (bP (a0.sz) a1):=by
 obtain⟨h1,h3⟩:=h
 unfold Uc
 have e:a0.sz=(a0.Data.length):=by simp only[D.Box.sz]<;>omega
 rw[e]
 rw[aC (show cO (eG (fun _:Int=>True)) (a0.Data) _ from⟨h1,h3⟩),bd_s]
 exact yQ h3
theorem aF5 (a0:List D.Box)(a1:Int)(h:cO (eG D.Box.ok) a0 a1):Nf a0 a1=some (bP (a0.length+(a0.map D.Box.sz).sum) a1):=by
 unfold Nf
 exact Xy h (fun rec i left hi hp=>by simp only[bB hi,cond_true,aD hi,bd_s,aC hp]) (fun rec left=>by simp only[bC,cond_false])
theorem Jo (a0:D.aAF)(a1:Int)(h:cO D.aAF.ok a0 a1):nJ a0 a1=some (bP (a0.sz) a1):=by
 obtain⟨h1,h3⟩:=h
 unfold nJ
 have e:a0.sz=(a0.Boxes.length+(a0.Boxes.map D.Box.sz).sum):=by simp only[D.aAF.sz]<;>omega
 rw[e]
 rw[aC (show cO (eG D.Box.ok) (a0.Boxes) _ from⟨h1,h3⟩),bd_s]
 exact yQ h3
theorem Ak (a0:D.aAB)(a1:Int)(h:cO D.aAB.ok a0 a1):kG a0 a1=some (bP (a0.sz) a1):=by
 obtain⟨h1,h3⟩:=h
 unfold kG
 have e:a0.sz=(a0.Data.length):=by simp only[D.aAB.sz]<;>omega
 rw[e]
 rw[aC (show cO (eG (fun _:Int=>True)) (a0.Data) _ from⟨h1,h3⟩),bd_s]
 exact yQ h3
theorem xQ (a0:List D.aAB)(a1:Int)(h:cO (eG D.aAB.ok) a0 a1):jR a0 a1=some (bP (a0.length+(a0.map D.aAB.sz).sum) a1):=by
 unfold jR
 exact Xy h (fun rec i left hi hp=>by simp only[bB hi,cond_true,aD hi,bd_s,aC hp]) (fun rec left=>by simp only[bC,cond_false])
theorem aCg (a0:D.aAO)(a1:Int)(h:cO D.aAO.ok a0 a1):Dt a0 a1=some (bP (a0.sz) a1):=by
 obtain⟨h1,h3⟩:=h
 unfold Dt
 have e:a0.sz=((a0.Log.length)+((a0.Boxes.sz)+(a0.History.length+(a0.History.map D.aAB.sz).sum))):=by simp only[D.aAO.sz,D.aAF.sz]<;>omega
 rw[e]
 rw[aC (show cO (eG (fun _:D.aAE=>True)) (a0.Log) _ from⟨h1.1,h3⟩),bd_s]
 refine aF0 h3 (fun p1=> ?_)
 revert p1
 generalize bP (a0.Log.length) a1=l1
 intro p1
 rw[aC (show cO D.aAF.ok (a0.Boxes) _ from⟨h1.2.1,p1⟩),bd_s]
 refine aF0 p1 (fun p2=> ?_)
 revert p2
 generalize bP (a0.Boxes.sz) l1=l2
 intro p2
 rw[aC (show cO (eG D.aAB.ok) (a0.History) _ from⟨h1.2.2,p2⟩),bd_s]
 exact yQ p2
theorem Fu (a0:List D.aAH)(a1:Int)(h:cO (eG (fun _:D.aAH=>True)) a0 a1):lW a0 a1=some (bP (a0.length) a1):=by
 obtain⟨h1,h3⟩:=h
 unfold lW
 exact xL h1.1 h3
theorem Yj (a0:D.aAD)(a1:Int)(h:cO D.aAD.ok a0 a1):uS a0 a1=some (bP (a0.sz) a1):=by
 obtain⟨h1,h3⟩:=h
 unfold uS
 have e:a0.sz=(a0.Credentials.length):=by simp only[D.aAD.sz]<;>omega
 rw[e]
 rw[aC (show cO (eG (fun _:D.aAH=>True)) (a0.Credentials) _ from⟨h1,h3⟩),bd_s]
 exact yQ h3
theorem Uj (a0:List D.aAD)(a1:Int)(h:cO (eG D.aAD.ok) a0 a1):sQ a0 a1=some (bP (a0.length+(a0.map D.aAD.sz).sum) a1):=by
 unfold sQ
 exact Xy h (fun rec i left hi hp=>by simp only[bB hi,cond_true,aD hi,bd_s,aC hp]) (fun rec left=>by simp only[bC,cond_false])
theorem Jp (a0:List D.aAG)(a1:Int)(h:cO (eG (fun _:D.aAG=>True)) a0 a1):nK a0 a1=some (bP (a0.length) a1):=by
 obtain⟨h1,h3⟩:=h
 unfold nK
 exact xL h1.1 h3
theorem xR (a0:D.aAA)(a1:Int)(h:cO D.aAA.ok a0 a1):jS a0 a1=some (bP (a0.sz) a1):=by
 obtain⟨h1,h3⟩:=h
 unfold jS
 have e:a0.sz=(a0.Open.length):=by simp only[D.aAA.sz]<;>omega
 rw[e]
 rw[aC (show cO (eG (fun _:D.aAG=>True)) (a0.Open) _ from⟨h1,h3⟩),bd_s]
 exact yQ h3
theorem aF6 (a0:List Int)(a1:Int)(h:cO (eG (fun _:Int=>True)) a0 a1):Ng a0 a1=some (bP (a0.length) a1):=by
 obtain⟨h1,h3⟩:=h
 unfold Ng
 exact xL h1.1 h3
theorem aF7 (a0:D.Site)(a1:Int)(h:cO D.Site.ok a0 a1):Nh a0 a1=some (bP (a0.sz) a1):=by
 obtain⟨h1,h3⟩:=h
 unfold Nh
 have e:a0.sz=((a0.Name.size)+((a0.Accounts.length+(a0.Accounts.map D.aAD.sz).sum)+((a0.Book.sz)+(a0.Logins.length)))):=by simp only[D.aAA.sz,D.Site.sz]<;>omega
 rw[e]
 have w0:IntKind.i64.wrap (a1-((a0.Name).size:Int))=a1-((a0.Name).size:Int):=by have:=h3.1;have:=h3.2;have:(a0.Name).size≤9223372036854775807:=h1.1;exact bA (by omega) (by omega)
 rw[w0]
 refine aWo h3 (fun p1=> ?_)
 revert p1
 generalize a1-((a0.Name).size:Int)=l1
 intro p1
 rw[aC (show cO (eG D.aAD.ok) (a0.Accounts) _ from⟨h1.2.1,p1⟩),bd_s]
 refine aF0 p1 (fun p2=> ?_)
 revert p2
 generalize bP (a0.Accounts.length+(a0.Accounts.map D.aAD.sz).sum) l1=l2
 intro p2
 rw[aC (show cO D.aAA.ok (a0.Book) _ from⟨h1.2.2.1,p2⟩),bd_s]
 refine aF0 p2 (fun p3=> ?_)
 revert p3
 generalize bP (a0.Book.sz) l2=l3
 intro p3
 rw[aC (show cO (eG (fun _:Int=>True)) (a0.Logins) _ from⟨h1.2.2.2,p3⟩),bd_s]
 exact yQ p3
theorem aCh (a0:List D.Site)(a1:Int)(h:cO (eG D.Site.ok) a0 a1):Du a0 a1=some (bP (a0.length+(a0.map D.Site.sz).sum) a1):=by
 unfold Du
 exact Xy h (fun rec i left hi hp=>by simp only[bB hi,cond_true,aD hi,bd_s,aC hp]) (fun rec left=>by simp only[bC,cond_false])
theorem Yk (a0:List D.aAQ)(a1:Int)(h:cO (eG (fun _:D.aAQ=>True)) a0 a1):uT a0 a1=some (bP (a0.length) a1):=by
 obtain⟨h1,h3⟩:=h
 unfold uT
 exact xL h1.1 h3
theorem Jq (a0:D.aAC)(a1:Int)(h:cO D.aAC.ok a0 a1):nL a0 a1=some (bP (a0.sz) a1):=by
 obtain⟨h1,h3⟩:=h
 unfold nL
 have e:a0.sz=(a0.Saved.length):=by simp only[D.aAQ.sz,D.aAC.sz,D.aAT.sz]<;>omega
 rw[e]
 rw[aC (show cO (eG (fun _:D.aAQ=>True)) (a0.Saved) _ from⟨h1,h3⟩),bd_s]
 exact yQ h3
theorem Fv (a0:List D.aAC)(a1:Int)(h:cO (eG D.aAC.ok) a0 a1):lX a0 a1=some (bP (a0.length+(a0.map D.aAC.sz).sum) a1):=by
 unfold lX
 exact Xy h (fun rec i left hi hp=>by simp only[bB hi,cond_true,aD hi,bd_s,aC hp]) (fun rec left=>by simp only[bC,cond_false])
theorem Yl (a0:List D.aAM)(a1:Int)(h:cO (eG (fun _:D.aAM=>True)) a0 a1):uU a0 a1=some (bP (a0.length) a1):=by
 obtain⟨h1,h3⟩:=h
 unfold uU
 exact xL h1.1 h3
theorem Ym (a0:D.aAI)(a1:Int)(h:cO D.aAI.ok a0 a1):uV a0 a1=some (bP (a0.sz) a1):=by
 obtain⟨h1,h3⟩:=h
 unfold uV
 have e:a0.sz=(a0.Notices.length):=by simp only[D.aAI.sz]<;>omega
 rw[e]
 rw[aC (show cO (eG (fun _:D.aAM=>True)) (a0.Notices) _ from⟨h1,h3⟩),bd_s]
 exact yQ h3
theorem aCi (a0:D.World)(a1:Int)(h:cO D.World.ok a0 a1):Dv a0 a1=some (bP (a0.sz) a1):=by
 obtain⟨h1,h3⟩:=h
 unfold Dv
 have e:a0.sz=((a0.Devices.length+(a0.Devices.map D.Device.sz).sum)+((a0.Stolen.length)+((a0.aAO.sz)+((a0.Sites.length+(a0.Sites.map D.Site.sz).sum)+((a0.Hosts.length+(a0.Hosts.map D.aAC.sz).sum)+(a0.Mail.sz)))))):=by simp only[D.aAO.sz,D.aAF.sz,D.aAI.sz,D.aAR.sz,D.World.sz]<;>omega
 rw[e]
 rw[aC (show cO (eG D.Device.ok) (a0.Devices) _ from⟨h1.1,h3⟩),bd_s]
 refine aF0 h3 (fun p1=> ?_)
 revert p1
 generalize bP (a0.Devices.length+(a0.Devices.map D.Device.sz).sum) a1=l1
 intro p1
 rw[aC (show cO (eG (fun _:Bool=>True)) (a0.Stolen) _ from⟨h1.2.1,p1⟩),bd_s]
 refine aF0 p1 (fun p2=> ?_)
 revert p2
 generalize bP (a0.Stolen.length) l1=l2
 intro p2
 rw[aC (show cO D.aAO.ok (a0.aAO) _ from⟨h1.2.2.1,p2⟩),bd_s]
 refine aF0 p2 (fun p3=> ?_)
 revert p3
 generalize bP (a0.aAO.sz) l2=l3
 intro p3
 rw[aC (show cO (eG D.Site.ok) (a0.Sites) _ from⟨h1.2.2.2.1,p3⟩),bd_s]
 refine aF0 p3 (fun p4=> ?_)
 revert p4
 generalize bP (a0.Sites.length+(a0.Sites.map D.Site.sz).sum) l3=l4
 intro p4
 rw[aC (show cO (eG D.aAC.ok) (a0.Hosts) _ from⟨h1.2.2.2.2.1,p4⟩),bd_s]
 refine aF0 p4 (fun p5=> ?_)
 revert p5
 generalize bP (a0.Hosts.length+(a0.Hosts.map D.aAC.sz).sum) l4=l5
 intro p5
 rw[aC (show cO D.aAI.ok (a0.Mail) _ from⟨h1.2.2.2.2.2,p5⟩),bd_s]
 exact yQ p5
theorem Uk (a0:D.aAL):sS a0=some (a0):=by
 unfold sS
 rfl
theorem Ul (a0:D.aAE):sU a0=some (a0):=by
 unfold sU
 rfl
theorem Pd (a0:List D.aAE)(h:a0.length≤1048576):qG a0=some (a0):=by
 unfold qG
 rw[aC (iL (by omega)),dF bD (by omega) (fun rec i out ho hi=>by
  simp only[bB hi,cond_true,aD hi,aD (show i<out.length by omega),bd_s,bD]) (fun rec out=>by simp only[bC,cond_false])]
 rfl
theorem aCj (a0:D.Entry):Dw a0=some (a0):=by
 unfold Dw
 rfl
theorem P8 (a0:List D.Entry)(h:a0.length≤1048576):yZ a0=some (a0):=by
 unfold yZ
 rw[aC (iL (by omega)),dF bD (by omega) (fun rec i out ho hi=>by
  simp only[bB hi,cond_true,aD hi,aD (show i<out.length by omega),bd_s,bD]) (fun rec out=>by simp only[bC,cond_false])]
 rfl
theorem P9 (a0:D.aAN)(h:a0.sz≤1048576):zA a0=some (a0):=by
 unfold zA
 simp only[D.aAN.sz] at h
 try simp only[bd_s]
 rw[aC (by first|omega|(simp only[D.aAN.sz];omega))]
 rfl
theorem Q0 (a0:D.Device)(h:a0.sz≤1048576):zB a0=some (a0):=by
 unfold zB
 simp only[D.aAN.sz,D.Device.sz,D.aAL.sz] at h
 try simp only[bd_s]
 rw[aC (by first|omega|(simp only[D.aAN.sz,D.Device.sz,D.aAL.sz];omega))]
 try simp only[bd_s]
 rw[aC (by first|omega|(simp only[D.aAN.sz,D.Device.sz,D.aAL.sz];omega))]
 rfl
theorem Yo (a0:List D.Device)(h:a0.length+(a0.map D.Device.sz).sum≤1048576):uW a0=some (a0):=by
 unfold uW
 rw[aC (iL (by omega)),dF bD (by omega) (fun rec i out ho hi=>by
  have hz:=bL (f:=D.Device.sz) hi
  simp only[bB hi,cond_true,aD hi,aD (show i<out.length by omega),bd_s,bD,aC (show a0[i].sz≤1048576 by omega)]) (fun rec out=>by simp only[bC,cond_false])]
 rfl
theorem aCk (a0:List Bool)(h:a0.length≤1048576):Dx a0=some (a0):=by
 unfold Dx
 rw[aC (iL (by omega)),dF bD (by omega) (fun rec i out ho hi=>by
  simp only[bB hi,cond_true,aD hi,aD (show i<out.length by omega),bd_s,bD]) (fun rec out=>by simp only[bC,cond_false])]
 rfl
theorem aCl (a0:List Int)(h:a0.length≤1048576):Dy a0=some (a0):=by
 unfold Dy
 rw[aC (iL (by omega)),dF bD (by omega) (fun rec i out ho hi=>by
  simp only[bB hi,cond_true,aD hi,aD (show i<out.length by omega),bd_s,bD]) (fun rec out=>by simp only[bC,cond_false])]
 rfl
theorem aJ2 (a0:D.Box)(h:a0.sz≤1048576):Ud a0=some (a0):=by
 unfold Ud
 simp only[D.Box.sz] at h
 try simp only[bd_s]
 rw[aC (by first|omega|(simp only[D.Box.sz];omega))]
 rfl
theorem aF8 (a0:List D.Box)(h:a0.length+(a0.map D.Box.sz).sum≤1048576):Ni a0=some (a0):=by
 unfold Ni
 rw[aC (iL (by omega)),dF bD (by omega) (fun rec i out ho hi=>by
  have hz:=bL (f:=D.Box.sz) hi
  simp only[bB hi,cond_true,aD hi,aD (show i<out.length by omega),bd_s,bD,aC (show a0[i].sz≤1048576 by omega)]) (fun rec out=>by simp only[bC,cond_false])]
 rfl
theorem Jr (a0:D.aAF)(h:a0.sz≤1048576):nM a0=some (a0):=by
 unfold nM
 simp only[D.aAF.sz] at h
 try simp only[bd_s]
 rw[aC (by first|omega|(simp only[D.aAF.sz];omega))]
 rfl
theorem Al (a0:D.aAB)(h:a0.sz≤1048576):kH a0=some (a0):=by
 unfold kH
 simp only[D.aAB.sz] at h
 try simp only[bd_s]
 rw[aC (by first|omega|(simp only[D.aAB.sz];omega))]
 rfl
theorem xS (a0:List D.aAB)(h:a0.length+(a0.map D.aAB.sz).sum≤1048576):jT a0=some (a0):=by
 unfold jT
 rw[aC (iL (by omega)),dF bD (by omega) (fun rec i out ho hi=>by
  have hz:=bL (f:=D.aAB.sz) hi
  simp only[bB hi,cond_true,aD hi,aD (show i<out.length by omega),bd_s,bD,aC (show a0[i].sz≤1048576 by omega)]) (fun rec out=>by simp only[bC,cond_false])]
 rfl
theorem aCm (a0:D.aAO)(h:a0.sz≤1048576):Dz a0=some (a0):=by
 unfold Dz
 simp only[D.aAO.sz,D.aAF.sz] at h
 try simp only[bd_s]
 rw[aC (by first|omega|(simp only[D.aAO.sz,D.aAF.sz];omega))]
 try simp only[bd_s]
 rw[aC (by first|omega|(simp only[D.aAO.sz,D.aAF.sz];omega))]
 try simp only[bd_s]
 rw[aC (by first|omega|(simp only[D.aAO.sz,D.aAF.sz];omega))]
 rfl
theorem Js (a0:D.aAH):nN a0=some (a0):=by
 unfold nN
 rfl
theorem Fw (a0:List D.aAH)(h:a0.length≤1048576):lY a0=some (a0):=by
 unfold lY
 rw[aC (iL (by omega)),dF bD (by omega) (fun rec i out ho hi=>by
  simp only[bB hi,cond_true,aD hi,aD (show i<out.length by omega),bd_s,bD]) (fun rec out=>by simp only[bC,cond_false])]
 rfl
theorem Yp (a0:D.aAD)(h:a0.sz≤1048576):uX a0=some (a0):=by
 unfold uX
 simp only[D.aAD.sz] at h
 try simp only[bd_s]
 rw[aC (by first|omega|(simp only[D.aAD.sz];omega))]
 rfl
theorem Um (a0:List D.aAD)(h:a0.length+(a0.map D.aAD.sz).sum≤1048576):sW a0=some (a0):=by
 unfold sW
 rw[aC (iL (by omega)),dF bD (by omega) (fun rec i out ho hi=>by
  have hz:=bL (f:=D.aAD.sz) hi
  simp only[bB hi,cond_true,aD hi,aD (show i<out.length by omega),bd_s,bD,aC (show a0[i].sz≤1048576 by omega)]) (fun rec out=>by simp only[bC,cond_false])]
 rfl
theorem Pe (a0:D.aAG):qH a0=some (a0):=by
 unfold qH
 rfl
theorem Jt (a0:List D.aAG)(h:a0.length≤1048576):nO a0=some (a0):=by
 unfold nO
 rw[aC (iL (by omega)),dF bD (by omega) (fun rec i out ho hi=>by
  simp only[bB hi,cond_true,aD hi,aD (show i<out.length by omega),bd_s,bD]) (fun rec out=>by simp only[bC,cond_false])]
 rfl
theorem xU (a0:D.aAA)(h:a0.sz≤1048576):jU a0=some (a0):=by
 unfold jU
 simp only[D.aAA.sz] at h
 try simp only[bd_s]
 rw[aC (by first|omega|(simp only[D.aAA.sz];omega))]
 rfl
theorem aF9 (a0:List Int)(h:a0.length≤1048576):Nj a0=some (a0):=by
 unfold Nj
 rw[aC (iL (by omega)),dF bD (by omega) (fun rec i out ho hi=>by
  simp only[bB hi,cond_true,aD hi,aD (show i<out.length by omega),bd_s,bD]) (fun rec out=>by simp only[bC,cond_false])]
 rfl
theorem aGa (a0:D.Site)(h:a0.sz≤1048576):Nk a0=some (a0):=by
 unfold Nk
 simp only[D.aAA.sz,D.Site.sz] at h
 try simp only[bd_s]
 rw[aC (by first|omega|(simp only[D.aAA.sz,D.Site.sz];omega))]
 try simp only[bd_s]
 rw[aC (by first|omega|(simp only[D.aAA.sz,D.Site.sz];omega))]
 try simp only[bd_s]
 rw[aC (by first|omega|(simp only[D.aAA.sz,D.Site.sz];omega))]
 rfl
theorem aCn (a0:List D.Site)(h:a0.length+(a0.map D.Site.sz).sum≤1048576):Ea a0=some (a0):=by
 unfold Ea
 rw[aC (iL (by omega)),dF bD (by omega) (fun rec i out ho hi=>by
  have hz:=bL (f:=D.Site.sz) hi
  simp only[bB hi,cond_true,aD hi,aD (show i<out.length by omega),bd_s,bD,aC (show a0[i].sz≤1048576 by omega)]) (fun rec out=>by simp only[bC,cond_false])]
 rfl
theorem aCo (a0:D.aAR):Eb a0=some (a0):=by
 unfold Eb
 rfl
theorem aCp (a0:D.aAT):Ec a0=some (a0):=by
 unfold Ec
 rfl
theorem Q3 (a0:D.aAQ):zC a0=some (a0):=by
 unfold zC
 rfl
theorem Yq (a0:List D.aAQ)(h:a0.length≤1048576):uY a0=some (a0):=by
 unfold uY
 rw[aC (iL (by omega)),dF bD (by omega) (fun rec i out ho hi=>by
  simp only[bB hi,cond_true,aD hi,aD (show i<out.length by omega),bd_s,bD]) (fun rec out=>by simp only[bC,cond_false])]
 rfl
theorem Ju (a0:D.aAC)(h:a0.sz≤1048576):nP a0=some (a0):=by
 unfold nP
 simp only[D.aAQ.sz,D.aAC.sz,D.aAT.sz] at h
 try simp only[bd_s]
 rw[aC (by first|omega|(simp only[D.aAQ.sz,D.aAC.sz,D.aAT.sz];omega))]
 rfl
theorem Fx (a0:List D.aAC)(h:a0.length+(a0.map D.aAC.sz).sum≤1048576):lZ a0=some (a0):=by
 unfold lZ
 rw[aC (iL (by omega)),dF bD (by omega) (fun rec i out ho hi=>by
  have hz:=bL (f:=D.aAC.sz) hi
  simp only[bB hi,cond_true,aD hi,aD (show i<out.length by omega),bd_s,bD,aC (show a0[i].sz≤1048576 by omega)]) (fun rec out=>by simp only[bC,cond_false])]
 rfl
theorem Q4 (a0:D.aAM):zD a0=some (a0):=by
 unfold zD
 rfl
theorem Yr (a0:List D.aAM)(h:a0.length≤1048576):uZ a0=some (a0):=by
 unfold uZ
 rw[aC (iL (by omega)),dF bD (by omega) (fun rec i out ho hi=>by
  simp only[bB hi,cond_true,aD hi,aD (show i<out.length by omega),bd_s,bD]) (fun rec out=>by simp only[bC,cond_false])]
 rfl
theorem Yt (a0:D.aAI)(h:a0.sz≤1048576):vB a0=some (a0):=by
 unfold vB
 simp only[D.aAI.sz] at h
 try simp only[bd_s]
 rw[aC (by first|omega|(simp only[D.aAI.sz];omega))]
 rfl
theorem aCq (a0:D.World)(h:a0.sz≤1048576):Ed a0=some (a0):=by
 unfold Ed
 simp only[D.aAO.sz,D.aAF.sz,D.aAI.sz,D.aAR.sz,D.World.sz] at h
 try simp only[bd_s]
 rw[aC (by first|omega|(simp only[D.aAO.sz,D.aAF.sz,D.aAI.sz,D.aAR.sz,D.World.sz];omega))]
 try simp only[bd_s]
 rw[aC (by first|omega|(simp only[D.aAO.sz,D.aAF.sz,D.aAI.sz,D.aAR.sz,D.World.sz];omega))]
 try simp only[bd_s]
 rw[aC (by first|omega|(simp only[D.aAO.sz,D.aAF.sz,D.aAI.sz,D.aAR.sz,D.World.sz];omega))]
 try simp only[bd_s]
 rw[aC (by first|omega|(simp only[D.aAO.sz,D.aAF.sz,D.aAI.sz,D.aAR.sz,D.World.sz];omega))]
 try simp only[bd_s]
 rw[aC (by first|omega|(simp only[D.aAO.sz,D.aAF.sz,D.aAI.sz,D.aAR.sz,D.World.sz];omega))]
 try simp only[bd_s]
 rw[aC (by first|omega|(simp only[D.aAO.sz,D.aAF.sz,D.aAI.sz,D.aAR.sz,D.World.sz];omega))]
 rfl
theorem Uo (a0:D.aAL)(a1:D.aAL)(h:bJ (0) a0 a1):tV a0 a1=some (true):=by
 obtain⟨rfl,hz⟩:=h
 unfold tV
 simp only[beq_self_eq_true,bne_self_eq_false,Bool.not_true,Bool.not_false,cond_true,cond_false,bd_s,nx_r]
theorem Uq (a0:D.aAE)(a1:D.aAE)(h:bJ (0) a0 a1):tX a0 a1=some (true):=by
 obtain⟨rfl,hz⟩:=h
 unfold tX
 simp only[beq_self_eq_true,bne_self_eq_false,Bool.not_true,Bool.not_false,cond_true,cond_false,bd_s,nx_r]
theorem Pf (a0:List D.aAE)(a1:List D.aAE)(h:bJ (a0.length) a0 a1):rF a0 a1=some (true):=by
 obtain⟨rfl,hz⟩:=h
 unfold rF
 rw[iK (a:=a0) (by omega) (fun rec i hi=>by
  simp only[bB hi,aD hi,aC (show bJ (0) a0[i] a0[i] from⟨rfl,by omega⟩),beq_self_eq_true,bne_self_eq_false,Bool.not_true,Bool.not_false,cond_true,cond_false,bd_s,nx_r]) (fun rec=>by simp only[bC,cond_false])]
 simp only[beq_self_eq_true,bne_self_eq_false,Bool.not_true,Bool.not_false,cond_true,cond_false,bd_s,nx_r]
theorem aCr (a0:D.Entry)(a1:D.Entry)(h:bJ (0) a0 a1):Fe a0 a1=some (true):=by
 obtain⟨rfl,hz⟩:=h
 unfold Fe
 simp only[beq_self_eq_true,bne_self_eq_false,Bool.not_true,Bool.not_false,cond_true,cond_false,bd_s,nx_r]
theorem Q5 (a0:List D.Entry)(a1:List D.Entry)(h:bJ (a0.length) a0 a1):zW a0 a1=some (true):=by
 obtain⟨rfl,hz⟩:=h
 unfold zW
 rw[iK (a:=a0) (by omega) (fun rec i hi=>by
  simp only[bB hi,aD hi,aC (show bJ (0) a0[i] a0[i] from⟨rfl,by omega⟩),beq_self_eq_true,bne_self_eq_false,Bool.not_true,Bool.not_false,cond_true,cond_false,bd_s,nx_r]) (fun rec=>by simp only[bC,cond_false])]
 simp only[beq_self_eq_true,bne_self_eq_false,Bool.not_true,Bool.not_false,cond_true,cond_false,bd_s,nx_r]
theorem Q6 (a0:D.aAN)(a1:D.aAN)(h:bJ (a0.sz) a0 a1):zX a0 a1=some (true):=by
 obtain⟨rfl,hz⟩:=h
 unfold zX
 simp only[D.aAN.sz] at hz
 simp only[beq_self_eq_true,bne_self_eq_false,Bool.not_true,Bool.not_false,cond_true,cond_false,bd_s,nx_r,aC (show bJ (a0.Entries.length) a0.Entries a0.Entries from⟨rfl,by omega⟩)]
theorem Q7 (a0:D.Device)(a1:D.Device)(h:bJ (a0.sz) a0 a1):zY a0 a1=some (true):=by
 obtain⟨rfl,hz⟩:=h
 unfold zY
 simp only[D.aAN.sz,D.Device.sz,D.aAL.sz] at hz
 simp only[beq_self_eq_true,bne_self_eq_false,Bool.not_true,Bool.not_false,cond_true,cond_false,bd_s,nx_r,aC (show bJ (0) a0.Store a0.Store from⟨rfl,by omega⟩),aC (show bJ (a0.Log.length) a0.Log a0.Log from⟨rfl,by omega⟩),aC (show bJ (a0.aAN.sz) a0.aAN a0.aAN from⟨rfl,by simp only[D.aAN.sz];omega⟩)]
theorem Yu (a0:List D.Device)(a1:List D.Device)(h:bJ (a0.length+(a0.map D.Device.sz).sum) a0 a1):vT a0 a1=some (true):=by
 obtain⟨rfl,hz⟩:=h
 unfold vT
 rw[iK (a:=a0) (by omega) (fun rec i hi=>by
  have hs:=bL (f:=D.Device.sz) hi
  simp only[bB hi,aD hi,aC (show bJ (a0[i].sz) a0[i] a0[i] from⟨rfl,by omega⟩),beq_self_eq_true,bne_self_eq_false,Bool.not_true,Bool.not_false,cond_true,cond_false,bd_s,nx_r]) (fun rec=>by simp only[bC,cond_false])]
 simp only[beq_self_eq_true,bne_self_eq_false,Bool.not_true,Bool.not_false,cond_true,cond_false,bd_s,nx_r]
theorem aCs (a0:List Bool)(a1:List Bool)(h:bJ (a0.length) a0 a1):Ff a0 a1=some (true):=by
 obtain⟨rfl,hz⟩:=h
 unfold Ff
 rw[iK (a:=a0) (by omega) (fun rec i hi=>by
  simp only[bB hi,aD hi,beq_self_eq_true,bne_self_eq_false,Bool.not_true,Bool.not_false,cond_true,cond_false,bd_s,nx_r]) (fun rec=>by simp only[bC,cond_false])]
 simp only[beq_self_eq_true,bne_self_eq_false,Bool.not_true,Bool.not_false,cond_true,cond_false,bd_s,nx_r]
theorem aCt (a0:List Int)(a1:List Int)(h:bJ (a0.length) a0 a1):Fg a0 a1=some (true):=by
 obtain⟨rfl,hz⟩:=h
 unfold Fg
 rw[iK (a:=a0) (by omega) (fun rec i hi=>by
  simp only[bB hi,aD hi,beq_self_eq_true,bne_self_eq_false,Bool.not_true,Bool.not_false,cond_true,cond_false,bd_s,nx_r]) (fun rec=>by simp only[bC,cond_false])]
 simp only[beq_self_eq_true,bne_self_eq_false,Bool.not_true,Bool.not_false,cond_true,cond_false,bd_s,nx_r]
theorem aJ3 (a0:D.Box)(a1:D.Box)(h:bJ (a0.sz) a0 a1):Ui a0 a1=some (true):=by
 obtain⟨rfl,hz⟩:=h
 unfold Ui
 simp only[D.Box.sz] at hz
 simp only[beq_self_eq_true,bne_self_eq_false,Bool.not_true,Bool.not_false,cond_true,cond_false,bd_s,nx_r,aC (show bJ (a0.Data.length) a0.Data a0.Data from⟨rfl,by omega⟩)]
theorem aGb (a0:List D.Box)(a1:List D.Box)(h:bJ (a0.length+(a0.map D.Box.sz).sum) a0 a1):Nv a0 a1=some (true):=by
 obtain⟨rfl,hz⟩:=h
 unfold Nv
 rw[iK (a:=a0) (by omega) (fun rec i hi=>by
  have hs:=bL (f:=D.Box.sz) hi
  simp only[bB hi,aD hi,aC (show bJ (a0[i].sz) a0[i] a0[i] from⟨rfl,by omega⟩),beq_self_eq_true,bne_self_eq_false,Bool.not_true,Bool.not_false,cond_true,cond_false,bd_s,nx_r]) (fun rec=>by simp only[bC,cond_false])]
 simp only[beq_self_eq_true,bne_self_eq_false,Bool.not_true,Bool.not_false,cond_true,cond_false,bd_s,nx_r]
theorem Jv (a0:D.aAF)(a1:D.aAF)(h:bJ (a0.sz) a0 a1):nZ a0 a1=some (true):=by
 obtain⟨rfl,hz⟩:=h
 unfold nZ
 simp only[D.aAF.sz] at hz
 simp only[beq_self_eq_true,bne_self_eq_false,Bool.not_true,Bool.not_false,cond_true,cond_false,bd_s,nx_r,aC (show bJ (a0.Boxes.length+(a0.Boxes.map D.Box.sz).sum) a0.Boxes a0.Boxes from⟨rfl,by omega⟩)]
theorem Ao (a0:D.aAB)(a1:D.aAB)(h:bJ (a0.sz) a0 a1):kU a0 a1=some (true):=by
 obtain⟨rfl,hz⟩:=h
 unfold kU
 simp only[D.aAB.sz] at hz
 simp only[beq_self_eq_true,bne_self_eq_false,Bool.not_true,Bool.not_false,cond_true,cond_false,bd_s,nx_r,aC (show bJ (a0.Data.length) a0.Data a0.Data from⟨rfl,by omega⟩)]
theorem xV (a0:List D.aAB)(a1:List D.aAB)(h:bJ (a0.length+(a0.map D.aAB.sz).sum) a0 a1):jY a0 a1=some (true):=by
 obtain⟨rfl,hz⟩:=h
 unfold jY
 rw[iK (a:=a0) (by omega) (fun rec i hi=>by
  have hs:=bL (f:=D.aAB.sz) hi
  simp only[bB hi,aD hi,aC (show bJ (a0[i].sz) a0[i] a0[i] from⟨rfl,by omega⟩),beq_self_eq_true,bne_self_eq_false,Bool.not_true,Bool.not_false,cond_true,cond_false,bd_s,nx_r]) (fun rec=>by simp only[bC,cond_false])]
 simp only[beq_self_eq_true,bne_self_eq_false,Bool.not_true,Bool.not_false,cond_true,cond_false,bd_s,nx_r]
theorem aCu (a0:D.aAO)(a1:D.aAO)(h:bJ (a0.sz) a0 a1):Fh a0 a1=some (true):=by
 obtain⟨rfl,hz⟩:=h
 unfold Fh
 simp only[D.aAO.sz,D.aAF.sz] at hz
 simp only[beq_self_eq_true,bne_self_eq_false,Bool.not_true,Bool.not_false,cond_true,cond_false,bd_s,nx_r,aC (show bJ (a0.Log.length) a0.Log a0.Log from⟨rfl,by omega⟩),aC (show bJ (a0.Boxes.sz) a0.Boxes a0.Boxes from⟨rfl,by simp only[D.aAF.sz];omega⟩),aC (show bJ (a0.History.length+(a0.History.map D.aAB.sz).sum) a0.History a0.History from⟨rfl,by omega⟩)]
theorem Jw (a0:D.aAH)(a1:D.aAH)(h:bJ (0) a0 a1):oC a0 a1=some (true):=by
 obtain⟨rfl,hz⟩:=h
 unfold oC
 simp only[beq_self_eq_true,bne_self_eq_false,Bool.not_true,Bool.not_false,cond_true,cond_false,bd_s,nx_r]
theorem Fy (a0:List D.aAH)(a1:List D.aAH)(h:bJ (a0.length) a0 a1):mP a0 a1=some (true):=by
 obtain⟨rfl,hz⟩:=h
 unfold mP
 rw[iK (a:=a0) (by omega) (fun rec i hi=>by
  simp only[bB hi,aD hi,aC (show bJ (0) a0[i] a0[i] from⟨rfl,by omega⟩),beq_self_eq_true,bne_self_eq_false,Bool.not_true,Bool.not_false,cond_true,cond_false,bd_s,nx_r]) (fun rec=>by simp only[bC,cond_false])]
 simp only[beq_self_eq_true,bne_self_eq_false,Bool.not_true,Bool.not_false,cond_true,cond_false,bd_s,nx_r]
theorem Yv (a0:D.aAD)(a1:D.aAD)(h:bJ (a0.sz) a0 a1):vU a0 a1=some (true):=by
 obtain⟨rfl,hz⟩:=h
 unfold vU
 simp only[D.aAD.sz] at hz
 simp only[beq_self_eq_true,bne_self_eq_false,Bool.not_true,Bool.not_false,cond_true,cond_false,bd_s,nx_r,aC (show bJ (a0.Credentials.length) a0.Credentials a0.Credentials from⟨rfl,by omega⟩)]
theorem Ur (a0:List D.aAD)(a1:List D.aAD)(h:bJ (a0.length+(a0.map D.aAD.sz).sum) a0 a1):tY a0 a1=some (true):=by
 obtain⟨rfl,hz⟩:=h
 unfold tY
 rw[iK (a:=a0) (by omega) (fun rec i hi=>by
  have hs:=bL (f:=D.aAD.sz) hi
  simp only[bB hi,aD hi,aC (show bJ (a0[i].sz) a0[i] a0[i] from⟨rfl,by omega⟩),beq_self_eq_true,bne_self_eq_false,Bool.not_true,Bool.not_false,cond_true,cond_false,bd_s,nx_r]) (fun rec=>by simp only[bC,cond_false])]
 simp only[beq_self_eq_true,bne_self_eq_false,Bool.not_true,Bool.not_false,cond_true,cond_false,bd_s,nx_r]
theorem Pg (a0:D.aAG)(a1:D.aAG)(h:bJ (0) a0 a1):rG a0 a1=some (true):=by
 obtain⟨rfl,hz⟩:=h
 unfold rG
 simp only[beq_self_eq_true,bne_self_eq_false,Bool.not_true,Bool.not_false,cond_true,cond_false,bd_s,nx_r]
theorem Jy (a0:List D.aAG)(a1:List D.aAG)(h:bJ (a0.length) a0 a1):oD a0 a1=some (true):=by
 obtain⟨rfl,hz⟩:=h
 unfold oD
 rw[iK (a:=a0) (by omega) (fun rec i hi=>by
  simp only[bB hi,aD hi,aC (show bJ (0) a0[i] a0[i] from⟨rfl,by omega⟩),beq_self_eq_true,bne_self_eq_false,Bool.not_true,Bool.not_false,cond_true,cond_false,bd_s,nx_r]) (fun rec=>by simp only[bC,cond_false])]
 simp only[beq_self_eq_true,bne_self_eq_false,Bool.not_true,Bool.not_false,cond_true,cond_false,bd_s,nx_r]
theorem xW (a0:D.aAA)(a1:D.aAA)(h:bJ (a0.sz) a0 a1):jZ a0 a1=some (true):=by
 obtain⟨rfl,hz⟩:=h
 unfold jZ
 simp only[D.aAA.sz] at hz
 simp only[beq_self_eq_true,bne_self_eq_false,Bool.not_true,Bool.not_false,cond_true,cond_false,bd_s,nx_r,aC (show bJ (a0.Open.length) a0.Open a0.Open from⟨rfl,by omega⟩)]
theorem aGc (a0:List Int)(a1:List Int)(h:bJ (a0.length) a0 a1):Nw a0 a1=some (true):=by
 obtain⟨rfl,hz⟩:=h
 unfold Nw
 rw[iK (a:=a0) (by omega) (fun rec i hi=>by
  simp only[bB hi,aD hi,beq_self_eq_true,bne_self_eq_false,Bool.not_true,Bool.not_false,cond_true,cond_false,bd_s,nx_r]) (fun rec=>by simp only[bC,cond_false])]
 simp only[beq_self_eq_true,bne_self_eq_false,Bool.not_true,Bool.not_false,cond_true,cond_false,bd_s,nx_r]
theorem aGd (a0:D.Site)(a1:D.Site)(h:bJ (a0.sz) a0 a1):Ny a0 a1=some (true):=by
 obtain⟨rfl,hz⟩:=h
 unfold Ny
 simp only[D.aAA.sz,D.Site.sz] at hz
 simp only[beq_self_eq_true,bne_self_eq_false,Bool.not_true,Bool.not_false,cond_true,cond_false,bd_s,nx_r,aC (show bJ (a0.Accounts.length+(a0.Accounts.map D.aAD.sz).sum) a0.Accounts a0.Accounts from⟨rfl,by omega⟩),aC (show bJ (a0.Book.sz) a0.Book a0.Book from⟨rfl,by simp only[D.aAA.sz];omega⟩),aC (show bJ (a0.Logins.length) a0.Logins a0.Logins from⟨rfl,by omega⟩)]
theorem aCv (a0:List D.Site)(a1:List D.Site)(h:bJ (a0.length+(a0.map D.Site.sz).sum) a0 a1):Fj a0 a1=some (true):=by
 obtain⟨rfl,hz⟩:=h
 unfold Fj
 rw[iK (a:=a0) (by omega) (fun rec i hi=>by
  have hs:=bL (f:=D.Site.sz) hi
  simp only[bB hi,aD hi,aC (show bJ (a0[i].sz) a0[i] a0[i] from⟨rfl,by omega⟩),beq_self_eq_true,bne_self_eq_false,Bool.not_true,Bool.not_false,cond_true,cond_false,bd_s,nx_r]) (fun rec=>by simp only[bC,cond_false])]
 simp only[beq_self_eq_true,bne_self_eq_false,Bool.not_true,Bool.not_false,cond_true,cond_false,bd_s,nx_r]
theorem aCw (a0:D.aAR)(a1:D.aAR)(h:bJ (0) a0 a1):Fp a0 a1=some (true):=by
 obtain⟨rfl,hz⟩:=h
 unfold Fp
 simp only[beq_self_eq_true,bne_self_eq_false,Bool.not_true,Bool.not_false,cond_true,cond_false,bd_s,nx_r]
theorem aCx (a0:D.aAT)(a1:D.aAT)(h:bJ (0) a0 a1):Fq a0 a1=some (true):=by
 obtain⟨rfl,hz⟩:=h
 unfold Fq
 simp only[beq_self_eq_true,bne_self_eq_false,Bool.not_true,Bool.not_false,cond_true,cond_false,bd_s,nx_r]
theorem Q8 (a0:D.aAQ)(a1:D.aAQ)(h:bJ (0) a0 a1):zZ a0 a1=some (true):=by
 obtain⟨rfl,hz⟩:=h
 unfold zZ
 simp only[beq_self_eq_true,bne_self_eq_false,Bool.not_true,Bool.not_false,cond_true,cond_false,bd_s,nx_r,aC (show bJ (0) a0.aAT a0.aAT from⟨rfl,by omega⟩)]
theorem Yw (a0:List D.aAQ)(a1:List D.aAQ)(h:bJ (a0.length) a0 a1):vV a0 a1=some (true):=by
 obtain⟨rfl,hz⟩:=h
 unfold vV
 rw[iK (a:=a0) (by omega) (fun rec i hi=>by
  simp only[bB hi,aD hi,aC (show bJ (0) a0[i] a0[i] from⟨rfl,by omega⟩),beq_self_eq_true,bne_self_eq_false,Bool.not_true,Bool.not_false,cond_true,cond_false,bd_s,nx_r]) (fun rec=>by simp only[bC,cond_false])]
 simp only[beq_self_eq_true,bne_self_eq_false,Bool.not_true,Bool.not_false,cond_true,cond_false,bd_s,nx_r]
theorem Jz (a0:D.aAC)(a1:D.aAC)(h:bJ (a0.sz) a0 a1):oF a0 a1=some (true):=by
 obtain⟨rfl,hz⟩:=h
 unfold oF
 simp only[D.aAQ.sz,D.aAC.sz,D.aAT.sz] at hz
 simp only[beq_self_eq_true,bne_self_eq_false,Bool.not_true,Bool.not_false,cond_true,cond_false,bd_s,nx_r,aC (show bJ (0) a0.State a0.State from⟨rfl,by omega⟩),aC (show bJ (a0.Saved.length) a0.Saved a0.Saved from⟨rfl,by omega⟩)]
theorem Ga (a0:List D.aAC)(a1:List D.aAC)(h:bJ (a0.length+(a0.map D.aAC.sz).sum) a0 a1):mQ a0 a1=some (true):=by
 obtain⟨rfl,hz⟩:=h
 unfold mQ
 rw[iK (a:=a0) (by omega) (fun rec i hi=>by
  have hs:=bL (f:=D.aAC.sz) hi
  simp only[bB hi,aD hi,aC (show bJ (a0[i].sz) a0[i] a0[i] from⟨rfl,by omega⟩),beq_self_eq_true,bne_self_eq_false,Bool.not_true,Bool.not_false,cond_true,cond_false,bd_s,nx_r]) (fun rec=>by simp only[bC,cond_false])]
 simp only[beq_self_eq_true,bne_self_eq_false,Bool.not_true,Bool.not_false,cond_true,cond_false,bd_s,nx_r]
theorem Q9 (a0:D.aAM)(a1:D.aAM)(h:bJ (0) a0 a1):Aa a0 a1=some (true):=by
 obtain⟨rfl,hz⟩:=h
 unfold Aa
 simp only[beq_self_eq_true,bne_self_eq_false,Bool.not_true,Bool.not_false,cond_true,cond_false,bd_s,nx_r]
theorem Yx (a0:List D.aAM)(a1:List D.aAM)(h:bJ (a0.length) a0 a1):vW a0 a1=some (true):=by
 obtain⟨rfl,hz⟩:=h
 unfold vW
 rw[iK (a:=a0) (by omega) (fun rec i hi=>by
  simp only[bB hi,aD hi,aC (show bJ (0) a0[i] a0[i] from⟨rfl,by omega⟩),beq_self_eq_true,bne_self_eq_false,Bool.not_true,Bool.not_false,cond_true,cond_false,bd_s,nx_r]) (fun rec=>by simp only[bC,cond_false])]
 simp only[beq_self_eq_true,bne_self_eq_false,Bool.not_true,Bool.not_false,cond_true,cond_false,bd_s,nx_r]
theorem Yy (a0:D.aAI)(a1:D.aAI)(h:bJ (a0.sz) a0 a1):vX a0 a1=some (true):=by
 obtain⟨rfl,hz⟩:=h
 unfold vX
 simp only[D.aAI.sz] at hz
 simp only[beq_self_eq_true,bne_self_eq_false,Bool.not_true,Bool.not_false,cond_true,cond_false,bd_s,nx_r,aC (show bJ (a0.Notices.length) a0.Notices a0.Notices from⟨rfl,by omega⟩)]
theorem aCy (a0:D.World)(a1:D.World)(h:bJ (a0.sz) a0 a1):Fs a0 a1=some (true):=by
 obtain⟨rfl,hz⟩:=h
 unfold Fs
 simp only[D.aAO.sz,D.aAF.sz,D.aAI.sz,D.aAR.sz,D.World.sz] at hz
 simp only[beq_self_eq_true,bne_self_eq_false,Bool.not_true,Bool.not_false,cond_true,cond_false,bd_s,nx_r,aC (show bJ (a0.Devices.length+(a0.Devices.map D.Device.sz).sum) a0.Devices a0.Devices from⟨rfl,by omega⟩),aC (show bJ (a0.Stolen.length) a0.Stolen a0.Stolen from⟨rfl,by omega⟩),aC (show bJ (a0.aAO.sz) a0.aAO a0.aAO from⟨rfl,by simp only[D.aAO.sz,D.aAF.sz];omega⟩),aC (show bJ (a0.Sites.length+(a0.Sites.map D.Site.sz).sum) a0.Sites a0.Sites from⟨rfl,by omega⟩),aC (show bJ (0) a0.aAR a0.aAR from⟨rfl,by omega⟩),aC (show bJ (a0.Hosts.length+(a0.Hosts.map D.aAC.sz).sum) a0.Hosts a0.Hosts from⟨rfl,by omega⟩),aC (show bJ (a0.Mail.sz) a0.Mail a0.Mail from⟨rfl,by simp only[D.aAI.sz];omega⟩)]
end
end Go.VK
