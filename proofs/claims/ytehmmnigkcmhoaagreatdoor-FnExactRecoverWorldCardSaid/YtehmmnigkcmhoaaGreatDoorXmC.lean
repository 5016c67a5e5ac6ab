import Derived.Test.YtehmmnigkcmhoaaGreatDoorXmH
import Derived.Test.YtehmmnigkcmhoaaGreatDoorXmL
import Derived.Test.YtehmmnigkcmhoaaGreatDoorXmQ
import Derived.Test.YtehmmnigkcmhoaaGreatDoorXmPy
/- Printed by wip/tools: models, walks, proofs. -/
set_option linter.unusedVariables false
set_option linter.unusedSimpArgs false
set_option maxRecDepth 100000
set_option maxHeartbeats 4000000
namespace Go.VK
open Go.RowKit Go.Proofs Tryz
noncomputable section
def i6:EV.Kd:= .int .i64
def aDd:EV.An:=(.s .n (.s .n (.s (.jx ⟨[(4,2),(5,16)],[],[],[]⟩ (.s .n (.s (.l ⟨[(4,2),(5,16)],[.nat (.s 5)],[],[]⟩ FUEL (.s .n (.s (.s (.s (.r none (od 10 [8])) .n) .n) .n))) .n))) .n)))
def aVv:EV.An:=(.s .n (.s .n (.s .n (.s (.jx ⟨[(1,1),(2,2),(6,14)],[.dat (.s 1) i6],[],[]⟩ (.s .n (.s (.l ⟨[(1,1),(2,2),(6,14)],[.dat (.s 1) i6, .nat (.s 5)],[],[]⟩ FUEL .n) .n))) .n))))
def aUa:EV.An:=(.s .n (.s (.s (.s (.r none (od 9 [])) .n) .n) .n))
def bBy:EV.An:=(.s .n (.s .n (.s (.jx ⟨[(4,2),(5,15)],[],[],[]⟩ (.s .n (.s (.l ⟨[(4,2),(5,15)],[.nat (.s 5)],[],[]⟩ FUEL aUa) .n))) .n)))
def bBz:EV.An:=(.s .n (.s (.jx ⟨[(1,1),(2,46)],[.dat (.s 1) i6],[],[]⟩ (.s .n (.s (.l ⟨[(1,1),(2,46)],[.dat (.s 1) i6, .nat (.s 5)],[],[]⟩ FUEL .n) .n))) .n))
def bC3:EV.An:=(.s .n (.s .n (.s (.j ⟨[(0,2),(3,16)],[.dat (.s 5) i6],[],[]⟩ (.s (.l ⟨[(0,2),(3,16)],[.dat (.s 0) i6, .dat (.s 1) i6, .dat (.s 5) i6],[],[]⟩ FUEL (.s .n (.s (.s (.j ⟨[(5,1),(2,7)],[.dat (.s 5) i6],[],[]⟩ .n) .n) .n))) .n)) .n)))
def aZo:EV.An:=(.s .n (.s .n (.s (.s (.s .n (.r (some 5) (od 8 [3,4,5,6,7]))) .n) .n)))
def aZp:EV.An:=(.s .n (.s (.s (.r (some 9) (od 12 [7,8,9,10,11])) .n) .n))
def bC4:EV.An:=(.s (.r none [(0,true),(1,true),(2,true),(4,true),(5,true),(3,false),(6,false),(7,false),(8,true),(9,true),(10,true),(11,true),(12,true)]) .n)
def bC5:EV.An:=(.s .n (.s (.s (.s (.r none [(0,true),(1,true),(2,true),(3,true),(5,true),(6,true),(7,true),(8,true),(4,false),(9,false),(10,true)]) .n) .n) .n))
def bC6:EV.An:=(.s .n (.s (.jx ⟨[(1,1),(2,44)],[.dat (.s 1) i6],[],[]⟩ (.s .n (.s (.l ⟨[(1,1),(2,44)],[.dat (.s 1) i6, .nat (.s 5)],[],[]⟩ FUEL .n) .n))) .n))
def aZ9:EV.An:=(.s .n (.s (.jx ⟨[(1,1),(2,35)],[.dat (.s 1) i6],[],[]⟩ (.s .n (.s (.l ⟨[(1,1),(2,35)],[.dat (.s 1) i6, .nat (.s 5)],[],[]⟩ FUEL .n) .n))) .n))
def bAa:EV.An:=(.s .n (.s (.y true none (some 9) [(0,true),(1,true),(2,true),(3,true),(5,true),(6,true),(4,false),(7,false),(8,false),(9,false)]) .n))
def aX3:EV.An:=(.s .n (.s (.s (.rj 4 ⟨[(8,5)],[.dat (.s 12) .bool],[],[]⟩ .n) .n) .n))
def bAb:EV.An:=(.y false (some 7) (some 8) [(0,true),(1,true),(3,true),(4,true),(2,false),(5,false),(6,true),(7,false),(8,false)])
def bAc:EV.An:=(.s .n (.s (.s (.s .n (.s (.rj 5 ⟨[(21,28)],[.dat (.s 48) .bool],[],[]⟩ (.r none (od 32 [2,7,13]))) .n)) .n) .n))
def bAd:EV.An:=(.s .n (.s (.s (.r none [(0,true),(1,true),(2,true),(4,true),(5,true),(3,false),(6,true)]) .n) .n))
def bAe:EV.An:=(.s .n (.s .n (.s (.rj 3 ⟨[(6,1),(5,7)],[.dat (.s 6) .bool],[],[]⟩ .n) .n)))
def bAf:EV.An:=(.s .n (.s (.s (.rj 4 ⟨[(8,10)],[.dat (.s 17) .bool],[],[]⟩ .n) .n) .n))
def bAg:EV.An:=(.s .n (.s (.rj 5 ⟨[(2,1),(4,17)],[.dat (.s 2) .bool],[],[]⟩ .n) .n))
def bAh:EV.An:=(.s .n (.s (.rj 4 ⟨[(6,1),(3,5)],[.dat (.s 6) .bool],[],[]⟩ .n) .n))
def bAi:EV.An:=(.s .n (.s (.rj 3 ⟨[(2,1),(2,5)],[.dat (.s 2) .bool],[],[]⟩ .n) .n))
def Tq:SU:=⟨[.sl 230,i6],[i6],false,false,fun(a:(List D.aAD)×Int)=>gd (fE (gX (fun _:D.aAD=>True)) a.1 a.2) (some (dQ (a.1.length) a.2))⟩
theorem uE:OK 60 Tq:=mkS .n [.tmp 4] aC func60 ntmps60 (fun a _=>aB (Sa a.1 a.2)) (fun _=>by kernel_rfl)
def aDe:SU:=⟨[.sl 303,i6],[i6],false,false,fun(a:(List D.Entry)×Int)=>gd (fE (gX (fun _:D.Entry=>True)) a.1 a.2) (some (dQ (a.1.length) a.2))⟩
theorem aDf:OK 214 aDe:=mkS .n [.tmp 4] aC func214 ntmps214 (fun a _=>aB (aCj a.1 a.2)) (fun _=>by kernel_rfl)
def aDg:SU:=⟨[.st 108,i6],[i6],false,false,fun(a:D.aAH×Int)=>gd (fE D.aAH.ok a.1 a.2) (some (dQ (a.1.sz) a.2))⟩
theorem aDh:OK 136 aDg:=mkS .n [.tmp 4] (gc aDf aC) func136 ntmps136 (fun a _=>aB (aCk a.1 a.2)) (fun _=>by kernel_rfl)
def aDi:SU:=⟨[.st 110,i6],[i6],false,false,fun(a:D.Device×Int)=>gd (fE D.Device.ok a.1 a.2) (some (dQ (a.1.sz) a.2))⟩
theorem aDj:OK 59 aDi:=mkS .n [.tmp 4] (gc uE (gc aDh aC)) func59 ntmps59 (fun a _=>aB (aCl a.1 a.2)) (fun _=>by kernel_rfl)
def R5:SU:=⟨[.sl 110,i6],[i6],false,false,fun(a:(List D.Device)×Int)=>gd (fE (gX D.Device.ok) a.1 a.2) (some (dQ (a.1.length+(a.1.map D.Device.sz).sum) a.2))⟩
theorem R6:OK 17 R5:=mkS aVv [.tmp 4] (gc aDj aC) func17 ntmps17 (fun a _=>aB (J5 a.1 a.2)) (fun _=>by kernel_rfl)
def aH9:SU:=⟨[.sl 4,i6],[i6],false,false,fun(a:(List Bool)×Int)=>gd (fE (gX (fun _:Bool=>True)) a.1 a.2) (some (dQ (a.1.length) a.2))⟩
theorem aIa:OK 18 aH9:=mkS .n [.tmp 4] aC func18 ntmps18 (fun a _=>aB (aGx a.1 a.2)) (fun _=>by kernel_rfl)
def aIb:SU:=⟨[.sl 5,i6],[i6],false,false,fun(a:(List Int)×Int)=>gd (fE (gX (fun _:Int=>True)) a.1 a.2) (some (dQ (a.1.length) a.2))⟩
theorem Kv:OK 216 aIb:=mkS .n [.tmp 4] aC func216 ntmps216 (fun a _=>aB (aGy a.1 a.2)) (fun _=>by kernel_rfl)
def aPd:SU:=⟨[.st 268,i6],[i6],false,false,fun(a:D.Box×Int)=>gd (fE D.Box.ok a.1 a.2) (some (dQ (a.1.sz) a.2))⟩
theorem aPe:OK 215 aPd:=mkS .n [.tmp 4] (gc Kv aC) func215 ntmps215 (fun a _=>aB (aO6 a.1 a.2)) (fun _=>by kernel_rfl)
def aLi:SU:=⟨[.sl 268,i6],[i6],false,false,fun(a:(List D.Box)×Int)=>gd (fE (gX D.Box.ok) a.1 a.2) (some (dQ (a.1.length+(a.1.map D.Box.sz).sum) a.2))⟩
theorem aLj:OK 137 aLi:=mkS aVv [.tmp 4] (gc aPe aC) func137 ntmps137 (fun a _=>aB (aK0 a.1 a.2)) (fun _=>by kernel_rfl)
def Od:SU:=⟨[.st 27,i6],[i6],false,false,fun(a:D.aAF×Int)=>gd (fE D.aAF.ok a.1 a.2) (some (dQ (a.1.sz) a.2))⟩
theorem Oe:OK 61 Od:=mkS .n [.tmp 4] (gc aLj aC) func61 ntmps61 (fun a _=>aB (Nf a.1 a.2)) (fun _=>by kernel_rfl)
def Fp:SU:=⟨[.st 200,i6],[i6],false,false,fun(a:D.aAB×Int)=>gd (fE D.aAB.ok a.1 a.2) (some (dQ (a.1.sz) a.2))⟩
theorem Fq:OK 138 Fp:=mkS .n [.tmp 4] (gc Kv aC) func138 ntmps138 (fun a _=>aB (Ep a.1 a.2)) (fun _=>by kernel_rfl)
def Bc:SU:=⟨[.sl 200,i6],[i6],false,false,fun(a:(List D.aAB)×Int)=>gd (fE (gX D.aAB.ok) a.1 a.2) (some (dQ (a.1.length+(a.1.map D.aAB.sz).sum) a.2))⟩
theorem Bd:OK 62 Bc:=mkS aVv [.tmp 4] (gc Fq aC) func62 ntmps62 (fun a _=>aB (Aj a.1 a.2)) (fun _=>by kernel_rfl)
def aIc:SU:=⟨[.st 30,i6],[i6],false,false,fun(a:D.aAJ×Int)=>gd (fE D.aAJ.ok a.1 a.2) (some (dQ (a.1.sz) a.2))⟩
theorem aId:OK 19 aIc:=mkS .n [.tmp 4] (gc uE (gc Oe (gc Bd aC))) func19 ntmps19 (fun a _=>aB (aGz a.1 a.2)) (fun _=>by kernel_rfl)
def Kw:SU:=⟨[.sl 315,i6],[i6],false,false,fun(a:(List D.aAG)×Int)=>gd (fE (gX (fun _:D.aAG=>True)) a.1 a.2) (some (dQ (a.1.length) a.2))⟩
theorem Ky:OK 261 Kw:=mkS .n [.tmp 4] aC func261 ntmps261 (fun a _=>aB (Kg a.1 a.2)) (fun _=>by kernel_rfl)
def R7:SU:=⟨[.st 272,i6],[i6],false,false,fun(a:D.aAE×Int)=>gd (fE D.aAE.ok a.1 a.2) (some (dQ (a.1.sz) a.2))⟩
theorem R8:OK 217 R7:=mkS .n [.tmp 4] (gc Ky aC) func217 ntmps217 (fun a _=>aB (J6 a.1 a.2)) (fun _=>by kernel_rfl)
def Yt:SU:=⟨[.sl 272,i6],[i6],false,false,fun(a:(List D.aAE)×Int)=>gd (fE (gX D.aAE.ok) a.1 a.2) (some (dQ (a.1.length+(a.1.map D.aAE.sz).sum) a.2))⟩
theorem Yu:OK 139 Yt:=mkS aVv [.tmp 4] (gc R8 aC) func139 ntmps139 (fun a _=>aB (Xn a.1 a.2)) (fun _=>by kernel_rfl)
def Og:SU:=⟨[.sl 306,i6],[i6],false,false,fun(a:(List D.aAK)×Int)=>gd (fE (gX (fun _:D.aAK=>True)) a.1 a.2) (some (dQ (a.1.length) a.2))⟩
theorem Oh:OK 218 Og:=mkS .n [.tmp 4] aC func218 ntmps218 (fun a _=>aB (Ng a.1 a.2)) (fun _=>by kernel_rfl)
def Be:SU:=⟨[.st 118,i6],[i6],false,false,fun(a:D.aAC×Int)=>gd (fE D.aAC.ok a.1 a.2) (some (dQ (a.1.sz) a.2))⟩
theorem Bf:OK 140 Be:=mkS .n [.tmp 4] (gc Oh aC) func140 ntmps140 (fun a _=>aB (Ak a.1 a.2)) (fun _=>by kernel_rfl)
def aLk:SU:=⟨[.sl 3,i6],[i6],false,false,fun(a:(List Int)×Int)=>gd (fE (gX (fun _:Int=>True)) a.1 a.2) (some (dQ (a.1.length) a.2))⟩
theorem aLl:OK 141 aLk:=mkS .n [.tmp 4] aC func141 ntmps141 (fun a _=>aB (aK1 a.1 a.2)) (fun _=>by kernel_rfl)
def aLm:SU:=⟨[.st 120,i6],[i6],false,false,fun(a:D.Site×Int)=>gd (fE D.Site.ok a.1 a.2) (some (dQ (a.1.sz) a.2))⟩
theorem aLn:OK 63 aLm:=mkS .n [.tmp 4] (gc Yu (gc Bf (gc aLl aC))) func63 ntmps63 (fun a _=>aB (aK2 a.1 a.2)) (fun _=>by kernel_rfl)
def aIe:SU:=⟨[.sl 120,i6],[i6],false,false,fun(a:(List D.Site)×Int)=>gd (fE (gX D.Site.ok) a.1 a.2) (some (dQ (a.1.length+(a.1.map D.Site.sz).sum) a.2))⟩
theorem aIf:OK 20 aIe:=mkS aVv [.tmp 4] (gc aLn aC) func20 ntmps20 (fun a _=>aB (aG0 a.1 a.2)) (fun _=>by kernel_rfl)
def R9:SU:=⟨[.sl 125,i6],[i6],false,false,fun(a:(List D.aAL)×Int)=>gd (fE (gX (fun _:D.aAL=>True)) a.1 a.2) (some (dQ (a.1.length) a.2))⟩
theorem S9:OK 142 R9:=mkS .n [.tmp 4] aC func142 ntmps142 (fun a _=>aB (J7 a.1 a.2)) (fun _=>by kernel_rfl)
def Oi:SU:=⟨[.st 128,i6],[i6],false,false,fun(a:D.aAA×Int)=>gd (fE D.aAA.ok a.1 a.2) (some (dQ (a.1.sz) a.2))⟩
theorem Oj:OK 64 Oi:=mkS .n [.tmp 4] (gc S9 aC) func64 ntmps64 (fun a _=>aB (Nh a.1 a.2)) (fun _=>by kernel_rfl)
def La:SU:=⟨[.sl 128,i6],[i6],false,false,fun(a:(List D.aAA)×Int)=>gd (fE (gX D.aAA.ok) a.1 a.2) (some (dQ (a.1.length+(a.1.map D.aAA.sz).sum) a.2))⟩
theorem Lb:OK 21 La:=mkS aVv [.tmp 4] (gc Oj aC) func21 ntmps21 (fun a _=>aB (Kh a.1 a.2)) (fun _=>by kernel_rfl)
def T9:SU:=⟨[.sl 238,i6],[i6],false,false,fun(a:(List D.aAM)×Int)=>gd (fE (gX (fun _:D.aAM=>True)) a.1 a.2) (some (dQ (a.1.length) a.2))⟩
theorem U0:OK 65 T9:=mkS .n [.tmp 4] aC func65 ntmps65 (fun a _=>aB (J8 a.1 a.2)) (fun _=>by kernel_rfl)
def U1:SU:=⟨[.st 37,i6],[i6],false,false,fun(a:D.aAI×Int)=>gd (fE D.aAI.ok a.1 a.2) (some (dQ (a.1.sz) a.2))⟩
theorem U2:OK 22 U1:=mkS .n [.tmp 4] (gc U0 aC) func22 ntmps22 (fun a _=>aB (J9 a.1 a.2)) (fun _=>by kernel_rfl)
def aIg:SU:=⟨[.st 39,i6],[i6],false,false,fun(a:D.World×Int)=>gd (fE D.World.ok a.1 a.2) (some (dQ (a.1.sz) a.2))⟩
theorem aIh:OK 5 aIg:=mkS .n [.tmp 4] (gc R6 (gc aIa (gc aId (gc aIf (gc Lb (gc U2 aC)))))) func5 ntmps5 (fun a _=>aB (aG1 a.1 a.2)) (fun _=>by kernel_rfl)
def Yv:SU:=⟨[.st 105],[.st 130],false,false,fun(a:D.aAO)=>some (a)⟩
theorem Yw:OK 164 Yv:=mkS .n [.cell 2 130] aC func164 ntmps164 (fun a _=>(Xo a).trans) (fun _=>by kernel_rfl)
def Yx:SU:=⟨[.st 230],[.st 222],false,false,fun(a:D.aAD)=>some (a)⟩
theorem Yy:OK 166 Yx:=mkS .n [.cell 2 222] aC func166 ntmps166 (fun a _=>(Xp a).trans) (fun _=>by kernel_rfl)
def Tt:SU:=⟨[.sl 230],[.sl 222],true,false,fun(a:(List D.aAD))=>gd (a.length≤1048576) (some (a))⟩
theorem uF:OK 89 Tt:=mkS (.s .n (.s .n (.s (.j ⟨[(4,1),(3,14)],[.ti 0 222 true],[],[]⟩ (.s .n (.s (.l ⟨[(4,1),(3,14)],[.nat (.s 4), .ti 0 222 true],[],[]⟩ FUEL .n) .n))) .n))) [.tmp 2] (gc Yy aC) func89 ntmps89 (fun(a:(List D.aAD)) _=>aB (Sb a)) (fun _=>by kernel_rfl)
def aIi:SU:=⟨[.st 303],[.st 259],false,false,fun(a:D.Entry)=>some (a)⟩
theorem aIj:OK 268 aIi:=mkS .n [.cell 2 259] aC func268 ntmps268 (fun a _=>(aG2 a).trans) (fun _=>by kernel_rfl)
def aDk:SU:=⟨[.sl 303],[.sl 259],true,false,fun(a:(List D.Entry))=>gd (a.length≤1048576) (some (a))⟩
theorem aDl:OK 231 aDk:=mkS (.s .n (.s .n (.s (.j ⟨[(4,1),(3,14)],[.ti 0 259 true],[],[]⟩ (.s .n (.s (.l ⟨[(4,1),(3,14)],[.nat (.s 4), .ti 0 259 true],[],[]⟩ FUEL .n) .n))) .n))) [.tmp 2] (gc aIj aC) func231 ntmps231 (fun(a:(List D.Entry)) _=>aB (aCm a)) (fun _=>by kernel_rfl)
def aDm:SU:=⟨[.st 108],[.st 133],true,false,fun(a:D.aAH)=>gd (a.sz≤1048576) (some (a))⟩
theorem aDn:OK 165 aDm:=mkS .n [.cell 2 133] (gc aDl aC) func165 ntmps165 (fun(a:D.aAH) _=>aB (aCn a)) (fun _=>by kernel_rfl)
def aDo:SU:=⟨[.st 110],[.st 135],true,false,fun(a:D.Device)=>gd (a.sz≤1048576) (some (a))⟩
theorem aDp:OK 88 aDo:=mkS .n [.cell 2 135] (gc Yw (gc uF (gc aDn aC))) func88 ntmps88 (fun(a:D.Device) _=>aB (aCo a)) (fun _=>by kernel_rfl)
def U3:SU:=⟨[.sl 110],[.sl 135],true,false,fun(a:(List D.Device))=>gd (a.length+(a.map D.Device.sz).sum≤1048576) (some (a))⟩
theorem U4:OK 28 U3:=mkS (.s .n (.s .n (.s (.j ⟨[(4,1),(3,14)],[.ti 0 135 true],[],[]⟩ (.s .n (.s (.l ⟨[(4,1),(3,14)],[.nat (.s 4), .ti 0 135 true],[],[]⟩ FUEL .n) .n))) .n))) [.tmp 2] (gc aDp aC) func28 ntmps28 (fun(a:(List D.Device)) _=>aB (K3 a)) (fun _=>by kernel_rfl)
def aIk:SU:=⟨[.sl 4],[.sl 4],true,false,fun(a:(List Bool))=>gd (a.length≤1048576) (some (a))⟩
theorem aIl:OK 29 aIk:=mkS (.s .n (.s .n (.s (.j ⟨[(4,1),(3,13)],[.ti 0 4 true],[],[]⟩ (.s .n (.s (.l ⟨[(4,1),(3,13)],[.nat (.s 4), .ti 0 4 true],[],[]⟩ FUEL .n) .n))) .n))) [.tmp 2] aC func29 ntmps29 (fun(a:(List Bool)) _=>aB (aG3 a)) (fun _=>by kernel_rfl)
def aIm:SU:=⟨[.sl 5],[.sl 5],true,false,fun(a:(List Int))=>gd (a.length≤1048576) (some (a))⟩
theorem Lc:OK 233 aIm:=mkS (.s .n (.s .n (.s (.j ⟨[(4,1),(3,13)],[.ti 0 5 true],[],[]⟩ (.s .n (.s (.l ⟨[(4,1),(3,13)],[.nat (.s 4), .ti 0 5 true],[],[]⟩ FUEL .n) .n))) .n))) [.tmp 2] aC func233 ntmps233 (fun(a:(List Int)) _=>aB (aG4 a)) (fun _=>by kernel_rfl)
def aPf:SU:=⟨[.st 268],[.st 274],true,false,fun(a:D.Box)=>gd (a.sz≤1048576) (some (a))⟩
theorem aPg:OK 232 aPf:=mkS .n [.cell 2 274] (gc Lc aC) func232 ntmps232 (fun(a:D.Box) _=>aB (aO7 a)) (fun _=>by kernel_rfl)
def aLo:SU:=⟨[.sl 268],[.sl 274],true,false,fun(a:(List D.Box))=>gd (a.length+(a.map D.Box.sz).sum≤1048576) (some (a))⟩
theorem aLp:OK 167 aLo:=mkS (.s .n (.s .n (.s (.j ⟨[(4,1),(3,14)],[.ti 0 274 true],[],[]⟩ (.s .n (.s (.l ⟨[(4,1),(3,14)],[.nat (.s 4), .ti 0 274 true],[],[]⟩ FUEL .n) .n))) .n))) [.tmp 2] (gc aPg aC) func167 ntmps167 (fun(a:(List D.Box)) _=>aB (aK3 a)) (fun _=>by kernel_rfl)
def Ol:SU:=⟨[.st 27],[.st 46],true,false,fun(a:D.aAF)=>gd (a.sz≤1048576) (some (a))⟩
theorem Om:OK 90 Ol:=mkS .n [.cell 2 46] (gc aLp aC) func90 ntmps90 (fun(a:D.aAF) _=>aB (Ni a)) (fun _=>by kernel_rfl)
def Fs:SU:=⟨[.st 200],[.st 207],true,false,fun(a:D.aAB)=>gd (a.sz≤1048576) (some (a))⟩
theorem Fu:OK 168 Fs:=mkS .n [.cell 2 207] (gc Lc aC) func168 ntmps168 (fun(a:D.aAB) _=>aB (Er a)) (fun _=>by kernel_rfl)
def Bg:SU:=⟨[.sl 200],[.sl 207],true,false,fun(a:(List D.aAB))=>gd (a.length+(a.map D.aAB.sz).sum≤1048576) (some (a))⟩
theorem Bh:OK 91 Bg:=mkS (.s .n (.s .n (.s (.j ⟨[(4,1),(3,14)],[.ti 0 207 true],[],[]⟩ (.s .n (.s (.l ⟨[(4,1),(3,14)],[.nat (.s 4), .ti 0 207 true],[],[]⟩ FUEL .n) .n))) .n))) [.tmp 2] (gc Fu aC) func91 ntmps91 (fun(a:(List D.aAB)) _=>aB (Al a)) (fun _=>by kernel_rfl)
def aIn:SU:=⟨[.st 30],[.st 49],true,false,fun(a:D.aAJ)=>gd (a.sz≤1048576) (some (a))⟩
theorem aIo:OK 30 aIn:=mkS .n [.cell 2 49] (gc uF (gc Om (gc Bh aC))) func30 ntmps30 (fun(a:D.aAJ) _=>aB (aG5 a)) (fun _=>by kernel_rfl)
def Oo:SU:=⟨[.st 315],[.st 276],false,false,fun(a:D.aAG)=>some (a)⟩
theorem Oq:OK 280 Oo:=mkS .n [.cell 2 276] aC func280 ntmps280 (fun a _=>(Nj a).trans) (fun _=>by kernel_rfl)
def Ld:SU:=⟨[.sl 315],[.sl 276],true,false,fun(a:(List D.aAG))=>gd (a.length≤1048576) (some (a))⟩
theorem Lg:OK 269 Ld:=mkS (.s .n (.s .n (.s (.j ⟨[(4,1),(3,14)],[.ti 0 276 true],[],[]⟩ (.s .n (.s (.l ⟨[(4,1),(3,14)],[.nat (.s 4), .ti 0 276 true],[],[]⟩ FUEL .n) .n))) .n))) [.tmp 2] (gc Oq aC) func269 ntmps269 (fun(a:(List D.aAG)) _=>aB (Ki a)) (fun _=>by kernel_rfl)
def U5:SU:=⟨[.st 272],[.st 211],true,false,fun(a:D.aAE)=>gd (a.sz≤1048576) (some (a))⟩
theorem U6:OK 234 U5:=mkS .n [.cell 2 211] (gc Lg aC) func234 ntmps234 (fun(a:D.aAE) _=>aB (K4 a)) (fun _=>by kernel_rfl)
def Yz:SU:=⟨[.sl 272],[.sl 211],true,false,fun(a:(List D.aAE))=>gd (a.length+(a.map D.aAE.sz).sum≤1048576) (some (a))⟩
theorem Za:OK 169 Yz:=mkS (.s .n (.s .n (.s (.j ⟨[(4,1),(3,14)],[.ti 0 211 true],[],[]⟩ (.s .n (.s (.l ⟨[(4,1),(3,14)],[.nat (.s 4), .ti 0 211 true],[],[]⟩ FUEL .n) .n))) .n))) [.tmp 2] (gc U6 aC) func169 ntmps169 (fun(a:(List D.aAE)) _=>aB (Xq a)) (fun _=>by kernel_rfl)
def Tu:SU:=⟨[.st 306],[.st 264],false,false,fun(a:D.aAK)=>some (a)⟩
theorem Tv:OK 270 Tu:=mkS .n [.cell 2 264] aC func270 ntmps270 (fun a _=>(Sc a).trans) (fun _=>by kernel_rfl)
def Ot:SU:=⟨[.sl 306],[.sl 264],true,false,fun(a:(List D.aAK))=>gd (a.length≤1048576) (some (a))⟩
theorem Ou:OK 235 Ot:=mkS (.s .n (.s .n (.s (.j ⟨[(4,1),(3,14)],[.ti 0 264 true],[],[]⟩ (.s .n (.s (.l ⟨[(4,1),(3,14)],[.nat (.s 4), .ti 0 264 true],[],[]⟩ FUEL .n) .n))) .n))) [.tmp 2] (gc Tv aC) func235 ntmps235 (fun(a:(List D.aAK)) _=>aB (Nk a)) (fun _=>by kernel_rfl)
def Bi:SU:=⟨[.st 118],[.st 141],true,false,fun(a:D.aAC)=>gd (a.sz≤1048576) (some (a))⟩
theorem Bj:OK 170 Bi:=mkS .n [.cell 2 141] (gc Ou aC) func170 ntmps170 (fun(a:D.aAC) _=>aB (Ao a)) (fun _=>by kernel_rfl)
def aLq:SU:=⟨[.sl 3],[.sl 3],true,false,fun(a:(List Int))=>gd (a.length≤1048576) (some (a))⟩
theorem Rb:OK 8 aLq:=mkS (.s .n (.s .n (.s (.j ⟨[(4,1),(3,13)],[.ti 0 3 true],[],[]⟩ (.s .n (.s (.l ⟨[(4,1),(3,13)],[.nat (.s 4), .ti 0 3 true],[],[]⟩ FUEL .n) .n))) .n))) [.tmp 2] aC func8 ntmps8 (fun(a:(List Int)) _=>aB (aK4 a)) (fun _=>by kernel_rfl)
def aLr:SU:=⟨[.st 120],[.st 143],true,false,fun(a:D.Site)=>gd (a.sz≤1048576) (some (a))⟩
theorem aLs:OK 92 aLr:=mkS .n [.cell 2 143] (gc Za (gc Bj (gc Rb aC))) func92 ntmps92 (fun(a:D.Site) _=>aB (aK5 a)) (fun _=>by kernel_rfl)
def aIp:SU:=⟨[.sl 120],[.sl 143],true,false,fun(a:(List D.Site))=>gd (a.length+(a.map D.Site.sz).sum≤1048576) (some (a))⟩
theorem aIq:OK 31 aIp:=mkS (.s .n (.s .n (.s (.j ⟨[(4,1),(3,14)],[.ti 0 143 true],[],[]⟩ (.s .n (.s (.l ⟨[(4,1),(3,14)],[.nat (.s 4), .ti 0 143 true],[],[]⟩ FUEL .n) .n))) .n))) [.tmp 2] (gc aLs aC) func31 ntmps31 (fun(a:(List D.Site)) _=>aB (aG6 a)) (fun _=>by kernel_rfl)
def aIr:SU:=⟨[.st 33],[.st 51],false,false,fun(a:D.aAQ)=>some (a)⟩
theorem aIs:OK 32 aIr:=mkS .n [.cell 2 51] aC func32 ntmps32 (fun a _=>(aG7 a).trans) (fun _=>by kernel_rfl)
def aIt:SU:=⟨[.st 123],[.st 168],false,false,fun(a:D.aAN)=>some (a)⟩
theorem aIu:OK 236 aIt:=mkS .n [.cell 2 168] aC func236 ntmps236 (fun a _=>(aG8 a).trans) (fun _=>by kernel_rfl)
def aDq:SU:=⟨[.st 125],[.st 170],false,false,fun(a:D.aAL)=>some (a)⟩
theorem Ed:OK 171 aDq:=mkS .n [.cell 2 170] (gc aIu aC) func171 ntmps171 (fun a _=>(aCp a).trans) (fun _=>by kernel_rfl)
def U7:SU:=⟨[.sl 125],[.sl 170],true,false,fun(a:(List D.aAL))=>gd (a.length≤1048576) (some (a))⟩
theorem U8:OK 172 U7:=mkS (.s .n (.s .n (.s (.j ⟨[(4,1),(3,14)],[.ti 0 170 true],[],[]⟩ (.s .n (.s (.l ⟨[(4,1),(3,14)],[.nat (.s 4), .ti 0 170 true],[],[]⟩ FUEL .n) .n))) .n))) [.tmp 2] (gc Ed aC) func172 ntmps172 (fun(a:(List D.aAL)) _=>aB (K5 a)) (fun _=>by kernel_rfl)
def Ov:SU:=⟨[.st 128],[.st 173],true,false,fun(a:D.aAA)=>gd (a.sz≤1048576) (some (a))⟩
theorem Ox:OK 93 Ov:=mkS .n [.cell 2 173] (gc Ed (gc U8 aC)) func93 ntmps93 (fun(a:D.aAA) _=>aB (Nl a)) (fun _=>by kernel_rfl)
def Lh:SU:=⟨[.sl 128],[.sl 173],true,false,fun(a:(List D.aAA))=>gd (a.length+(a.map D.aAA.sz).sum≤1048576) (some (a))⟩
theorem Li:OK 33 Lh:=mkS (.s .n (.s .n (.s (.j ⟨[(4,1),(3,14)],[.ti 0 173 true],[],[]⟩ (.s .n (.s (.l ⟨[(4,1),(3,14)],[.nat (.s 4), .ti 0 173 true],[],[]⟩ FUEL .n) .n))) .n))) [.tmp 2] (gc Ox aC) func33 ntmps33 (fun(a:(List D.aAA)) _=>aB (Kj a)) (fun _=>by kernel_rfl)
def aDr:SU:=⟨[.st 238],[.st 219],false,false,fun(a:D.aAM)=>some (a)⟩
theorem aDs:OK 173 aDr:=mkS .n [.cell 2 219] aC func173 ntmps173 (fun a _=>(aCq a).trans) (fun _=>by kernel_rfl)
def U9:SU:=⟨[.sl 238],[.sl 219],true,false,fun(a:(List D.aAM))=>gd (a.length≤1048576) (some (a))⟩
theorem V3:OK 94 U9:=mkS (.s .n (.s .n (.s (.j ⟨[(4,1),(3,14)],[.ti 0 219 true],[],[]⟩ (.s .n (.s (.l ⟨[(4,1),(3,14)],[.nat (.s 4), .ti 0 219 true],[],[]⟩ FUEL .n) .n))) .n))) [.tmp 2] (gc aDs aC) func94 ntmps94 (fun(a:(List D.aAM)) _=>aB (K6 a)) (fun _=>by kernel_rfl)
def V4:SU:=⟨[.st 37],[.st 55],true,false,fun(a:D.aAI)=>gd (a.sz≤1048576) (some (a))⟩
theorem V5:OK 34 V4:=mkS .n [.cell 2 55] (gc V3 aC) func34 ntmps34 (fun(a:D.aAI) _=>aB (K7 a)) (fun _=>by kernel_rfl)
def aIv:SU:=⟨[.st 39],[.st 57],true,false,fun(a:D.World)=>gd (a.sz≤1048576) (some (a))⟩
theorem aIw:OK 7 aIv:=mkS .n [.cell 2 57] (gc U4 (gc aIl (gc aIo (gc aIq (gc aIs (gc Li (gc V5 aC))))))) func7 ntmps7 (fun(a:D.World) _=>aB (aG9 a)) (fun _=>by kernel_rfl)
def aIx:SU:=⟨[.sl 222],[.sl 222],true,false,fun(a:(List D.aAD))=>gd (a.length≤34359738368) (some (a))⟩
theorem Lj:OK 143 aIx:=mkS .n [.tmp 2] aC func143 ntmps143 (fun(a:(List D.aAD)) _=>aB (aHl a)) (fun _=>by kernel_rfl)
def aIy:SU:=⟨[.st 133],[.st 133],true,false,fun(a:D.aAH)=>gd (a.sz≤34359738368) (some (a))⟩
theorem aIz:OK 144 aIy:=mkS .n [.cell 2 133] aC func144 ntmps144 (fun(a:D.aAH) _=>aB (aHk a)) (fun _=>by kernel_rfl)
def aI0:SU:=⟨[.st 135],[.st 135],true,false,fun(a:D.Device)=>gd (a.sz≤34359738368) (some (a))⟩
theorem aI1:OK 66 aI0:=mkS .n [.cell 2 135] (gc Lj (gc aIz aC)) func66 ntmps66 (fun(a:D.Device) _=>aB (aHn a)) (fun _=>by kernel_rfl)
def aI2:SU:=⟨[.st 46],[.st 46],true,false,fun(a:D.aAF)=>gd (a.sz≤34359738368) (some (a))⟩
theorem aI3:OK 145 aI2:=mkS (.s .n (.s .n (.s (.j ⟨[(4,2),(3,27)],[.nt (.c 2 1) 274 true],[],[]⟩ (.s .n (.s (.l ⟨[(4,2),(3,27)],[.nat (.s 4), .nt (.c 2 1) 274 true],[],[]⟩ FUEL .n) .n))) .n))) [.cell 2 46] aC func145 ntmps145 (fun(a:D.aAF) _=>aB (aHo a)) (fun _=>by kernel_rfl)
def aI4:SU:=⟨[.st 207],[.st 207],true,false,fun(a:D.aAB)=>gd (a.sz≤34359738368) (some (a))⟩
theorem aI5:OK 146 aI4:=mkS .n [.cell 2 207] aC func146 ntmps146 (fun(a:D.aAB) _=>aB (aHp a)) (fun _=>by kernel_rfl)
def aI6:SU:=⟨[.st 49],[.st 49],true,false,fun(a:D.aAJ)=>gd (a.sz≤34359738368) (some (a))⟩
theorem aI7:OK 67 aI6:=mkS (.s .n (.s bAb (.s (.j ⟨[(4,1),(7,18)],[.nt (.c 4 3) 207 true],[],[]⟩ (.s .n (.s (.l ⟨[(4,1),(7,18)],[.nat (.s 4), .nt (.c 4 3) 207 true],[],[]⟩ FUEL aZp) .n))) .n))) [.cell 2 49] (gc Lj (gc aI3 (gc aI5 aC))) func67 ntmps67 (fun(a:D.aAJ) _=>aB (aHq a)) (fun _=>by kernel_rfl)
def aI8:SU:=⟨[.st 211],[.st 211],true,false,fun(a:D.aAE)=>gd (a.sz≤34359738368) (some (a))⟩
theorem aI9:OK 147 aI8:=mkS .n [.cell 2 211] aC func147 ntmps147 (fun(a:D.aAE) _=>aB (aHr a)) (fun _=>by kernel_rfl)
def aJa:SU:=⟨[.st 141],[.st 141],true,false,fun(a:D.aAC)=>gd (a.sz≤34359738368) (some (a))⟩
theorem aJb:OK 148 aJa:=mkS .n [.cell 2 141] aC func148 ntmps148 (fun(a:D.aAC) _=>aB (aHs a)) (fun _=>by kernel_rfl)
def aJc:SU:=⟨[.st 143],[.st 143],true,false,fun(a:D.Site)=>gd (a.sz≤34359738368) (some (a))⟩
theorem aJd:OK 68 aJc:=mkS (.s .n (.s .n (.s .n (.s (.j ⟨[(4,1),(3,18)],[.tr (.c 2 1) 3 211 true],[],[]⟩ (.s .n (.s (.l ⟨[(4,1),(3,18)],[.nat (.s 4), .tr (.c 2 1) 3 211 true],[],[]⟩ FUEL aZp) .n))) .n)))) [.cell 2 143] (gc aI9 (gc aJb aC)) func68 ntmps68 (fun(a:D.Site) _=>aB (aHt a)) (fun _=>by kernel_rfl)
def aJe:SU:=⟨[.st 173],[.st 173],true,false,fun(a:D.aAA)=>gd (a.sz≤34359738368) (some (a))⟩
theorem Ll:OK 149 aJe:=mkS .n [.cell 2 173] aC func149 ntmps149 (fun(a:D.aAA) _=>aB (aHu a)) (fun _=>by kernel_rfl)
def aDt:SU:=⟨[.sl 173],[.sl 173],true,false,fun(a:(List D.aAA))=>gd (uL D.aAA.sz a≤34359738368) (some (a))⟩
theorem pM:OK 69 aDt:=mkS (.s .n (.s .n (.s (.j ⟨[(3,2),(1,14)],[.tr (.s 3) 0 173 true],[],[]⟩ (.s .n (.s (.l ⟨[(3,2),(1,14)],[.tr (.s 3) 0 173 true, .nat (.s 4)],[],[]⟩ FUEL .n) .n))) .n))) [.tmp 2] (gc Ll aC) func69 ntmps69 (fun(a:(List D.aAA)) _=>aB (aC3 a)) (fun _=>by kernel_rfl)
def aJf:SU:=⟨[.st 55],[.st 55],true,false,fun(a:D.aAI)=>gd (a.sz≤34359738368) (some (a))⟩
theorem Lm:OK 70 aJf:=mkS .n [.cell 2 55] aC func70 ntmps70 (fun(a:D.aAI) _=>aB (aHv a)) (fun _=>by kernel_rfl)
def aJg:SU:=⟨[.st 57],[.st 57],true,false,fun(a:D.World)=>gd (a.sz≤34359738368) (some (a))⟩
theorem aJh:OK 23 aJg:=mkS (.s .n (.s .n (.s .n (.s (.j ⟨[(4,1),(4,18)],[.tr (.c 2 2) 3 135 true],[],[]⟩ (.s .n (.s (.l ⟨[(4,1),(4,18)],[.nat (.s 4), .tr (.c 2 2) 3 135 true],[],[]⟩ FUEL aZp) .n))) (.s .n (.s .n (.s .n (.s (.j ⟨[(5,1),(32,18)],[.tr (.c 2 8) 8 143 true],[],[]⟩ (.s .n (.s (.l ⟨[(5,1),(32,18)],[.nat (.s 5), .tr (.c 2 8) 8 143 true],[],[]⟩ FUEL aZp) .n))) .n)))))))) [.cell 2 57] (gc aI1 (gc aI7 (gc aJd (gc pM (gc Lm aC))))) func23 ntmps23 (fun(a:D.World) _=>aB (aHw a)) (fun _=>by kernel_rfl)
def aRj:SU:=⟨[i6,i6,i6],[.bool],false,false,fun(a:Int×Int×Int)=>some (cZ a.1 a.2.1 a.2.2)⟩
theorem dB:OK 73 aRj:=mkS bAh [.tmp 6] aC func73 ntmps73 (fun a _=>(aRd a.1 a.2.1 a.2.2).trans) (fun _=>by kernel_rfl)
def aJi:SU:=⟨[i6,i6],[i6],false,false,fun(a:Int×Int)=>lQ a.1 a.2⟩
theorem aJj:OK 262 aJi:=mkS bC3 [.tmp 4] aC func262 ntmps262 (fun _ _=>id) (fun _=>by kernel_rfl)
def Zb:SU:=⟨[i6],[.bool],false,false,fun(a:Int)=>some (mK a)⟩
theorem jA:OK 76 Zb:=mkS .n [.tmp 2] (gc dB aC) func76 ntmps76 (fun a _=>(Xx a).trans) (fun _=>by kernel_rfl)
def V6:SU:=⟨[i6],[i6],false,false,fun(a:Int)=>some (Mw a)⟩
theorem V7:OK 263 V6:=mkS .n [.tmp 2] (gc jA aC) func263 ntmps263 (fun a _=>(O4 a).trans) (fun _=>by kernel_rfl)
def Zc:SU:=⟨[i6],[i6],false,false,fun(a:Int)=>some (jM a)⟩
theorem wD:OK 219 Zc:=mkS .n [.tmp 2] (gc dB (gc aJj (gc V7 aC))) func219 ntmps219 (fun a _=>(Yd a).trans) (fun _=>by kernel_rfl)
def Fv:SU:=⟨[.st 211],[.bool],false,false,fun(a:D.aAE)=>gd (a.sz≤34359738368) (some (fB a))⟩
theorem Fw:OK 150 Fv:=mkS (.s .n (.s (.jx ⟨[(2,62)],[],[],[]⟩ (.s .n (.s (.l ⟨[(2,62)],[.nat (.s 3)],[],[]⟩ FUEL (.s .n (.s (.jx ⟨[(2,1),(1,2),(7,51)],[],[],[]⟩ (.s (.s .n (.s (.s (.rj 5 ⟨[(22,28)],[.dat (.s 49) .bool],[],[]⟩ (.r none (od 32 [2,23,29]))) .n) (.s .n (.s (.l ⟨[(2,1),(2,1),(44,14)],[.nat (.s 5)],[],[]⟩ FUEL aUa) .n)))) .n)) .n))) .n))) (.s (.rj 4 ⟨[(2,1),(64,11)],[.dat (.s 2) .bool],[],[]⟩ .n) .n))) [.tmp 2] (gc dB (gc wD aC)) func150 ntmps150 (fun(a:D.aAE) _=>aB (Fb a)) (fun _=>by kernel_rfl)
def aDu:SU:=⟨[.str],[.sl 9],true,false,fun(a:ByteArray)=>gd (a.size≤34359738368) (some (bA a))⟩
theorem Ee:OK 221 aDu:=mkS (.s .n (.s .n (.s .n (.s (.j ⟨[(3,3),(1,25)],[.tr (.s 3) 0 9 true],[],[]⟩ (.s .n (.s (.l ⟨[(3,3),(1,25)],[.tr (.s 3) 0 9 true, .dat (.s 4) i6, .dat (.s 5) i6],[],[]⟩ FUEL (.s .n (.s (.j ⟨[(3,2),(8,19)],[.tr (.s 3) 0 9 true, .dat (.s 4) i6],[],[]⟩ (.s (.s (.rj 5 ⟨[(17,6)],[.dat (.s 22) .bool],[],[]⟩ .n) .n) .n)) .n))) .n))) .n)))) [.tmp 2] aC func221 ntmps221 (fun(a:ByteArray) _=>aB (aC7 a)) (fun _=>by kernel_rfl)
def aJk:SU:=⟨[.str],[.bool],false,false,fun(a:ByteArray)=>gd (a.size≤34359738368) (some (oF a))⟩
theorem aJl:OK 264 aJk:=mkS (.s .n (.s (.jx ⟨[(2,39)],[],[],[]⟩ (.s .n (.s (.l ⟨[(2,39)],[.nat (.s 3)],[],[]⟩ FUEL (.s .n (.s (.s (.s (.rj 5 ⟨[(4,1),(10,24)],[.dat (.s 4) .bool],[],[]⟩ .n) .n) .n) .n))) .n))) (.s (.rj 4 ⟨[(2,1),(41,13)],[.dat (.s 2) .bool],[],[]⟩ .n) .n))) [.tmp 2] (gc dB aC) func264 ntmps264 (fun(a:ByteArray) _=>aB (aH1 a)) (fun _=>by kernel_rfl)
def aLt:SU:=⟨[.str],[.bool],false,false,fun(a:ByteArray)=>gd (a.size≤34359738368) (some (gB a))⟩
theorem aLu:OK 220 aLt:=mkS (.s .n (.s .n (.s (.jx ⟨[(2,1),(1,1),(2,12)],[],[],[]⟩ (.s .n (.s (.l ⟨[(2,1),(1,1),(2,12)],[.nat (.s 4)],[],[]⟩ FUEL .n) .n))) .n))) [.tmp 2] (gc Ee (gc aJl aC)) func220 ntmps220 (fun(a:ByteArray) _=>aB (aLc a)) (fun _=>by kernel_rfl)
def aJm:SU:=⟨[.str,i6],[.st 143],true,false,fun(a:ByteArray×Int)=>gd (a.1.size≤34359738368) (some (sI a.1 a.2))⟩
theorem aJn:OK 151 aJm:=mkS (.s .n (.s (.s (.rj 4 ⟨[(8,11)],[.dat (.s 18) .bool],[],[]⟩ .n) .n) .n)) [.cell 4 143] (gc aLu (gc Ee (gc jA aC))) func151 ntmps151 (fun a _=>aB (aH2 a.1 a.2)) (fun _=>by kernel_rfl)
def Tw:SU:=⟨[.st 141],[.bool],false,false,fun(a:D.aAC)=>gd (a.sz≤34359738368) (some (lH a))⟩
theorem Tx:OK 152 Tw:=mkS (.s .n (.s (.jx ⟨[(2,50)],[],[],[]⟩ (.s .n (.s (.l ⟨[(2,50)],[.nat (.s 3)],[],[]⟩ FUEL (.s .n (.s (.s (.s .n (.s (.rj 8 ⟨[(24,28)],[.dat (.s 51) .bool],[],[]⟩ (.r none (od 35 [5,26,32]))) .n)) .n) .n))) .n))) (.s (.rj 4 ⟨[(2,1),(52,6)],[.dat (.s 2) .bool],[],[]⟩ .n) .n))) [.tmp 2] (gc dB aC) func152 ntmps152 (fun(a:D.aAC) _=>aB (Ta a)) (fun _=>by kernel_rfl)
def Ty:SU:=⟨[.st 143],[.bool],false,false,fun(a:D.Site)=>gd (a.sz≤34359738368) (some (lI a))⟩
theorem Tz:OK 71 Ty:=mkS (.s .n (.s (.jx ⟨[(2,36)],[],[],[]⟩ (.s .n (.s (.l ⟨[(2,36)],[.nat (.s 3)],[],[]⟩ FUEL (.s .n (.s (.s (.s (.rj 8 ⟨[(18,20)],[.dat (.s 37) .bool],[],[]⟩ (.r none (od 27 [5]))) .n) .n) .n))) .n))) (.s (.rj 9 ⟨[(2,1),(43,11)],[.dat (.s 2) .bool],[],[]⟩ .n) .n))) [.tmp 2] (gc Fw (gc aJn (gc Tx aC))) func71 ntmps71 (fun(a:D.Site) _=>aB (Tf a)) (fun _=>by kernel_rfl)
def aDv:SU:=⟨[i6],[.str],false,false,fun(a:Int)=>some (gY a)⟩
theorem aDw:OK 72 aDv:=mkS .n [.tmp 2] aC func72 ntmps72 (fun a _=>(aC5 a).trans) (fun _=>by kernel_rfl)
def Fx:SU:=⟨[.st 55],[.bool],false,false,fun(a:D.aAI)=>gd (a.sz≤34359738368) (some (dU a))⟩
theorem nJ:OK 74 Fx:=mkS (.s .n (.s (.jx ⟨[(2,47)],[],[],[]⟩ (.s .n (.s (.l ⟨[(2,47)],[.nat (.s 3)],[],[]⟩ FUEL bAc) .n))) .n)) [.tmp 2] (gc dB aC) func74 ntmps74 (fun(a:D.aAI) _=>aB (Ez a)) (fun _=>by kernel_rfl)
def aLv:SU:=⟨[.sl 3,i6],[.bool],false,false,fun(a:(List Int)×Int)=>gd (a.1.length≤1099511627776) (some (jD a.1 a.2))⟩
theorem Rc:OK 223 aLv:=mkS (.s .n (.s (.jx ⟨[(4,14)],[],[],[]⟩ (.s .n (.s (.l ⟨[(4,14)],[.nat (.s 5)],[],[]⟩ FUEL .n) .n))) .n)) [.tmp 4] aC func223 ntmps223 (fun a _=>aB (aLa a.1 a.2)) (fun _=>by kernel_rfl)
def V8:SU:=⟨[.sl 222],[.sl 3],true,false,fun(a:(List D.aAD))=>gd (a.length≤34359738368) (some (bF a))⟩
theorem V9:OK 222 V8:=mkS (.s .n (.s .n (.s (.j ⟨[(3,5),(1,56)],[.tr (.s 3) 0 3 true],[],[]⟩ (.s .n (.s (.l ⟨[(3,5),(1,56)],[.tr (.s 3) 0 3 true, .nat (.s 4)],[],[]⟩ FUEL (.s .n (.s (.j ⟨[(3,1),(1,3),(7,50)],[.tr (.s 3) 0 3 true],[],[]⟩ (.s (.s .n (.s (.s (.rj 7 ⟨[(20,1),(6,6)],[.dat (.s 20) .bool],[],[]⟩ .n) (.s .n (.s .n (.s (.s .n (.s (.j ⟨[(6,2),(37,19)],[.tr (.s 6) 1 3 true],[],[]⟩ (.s .n (.s (.l ⟨[(6,2),(37,19)],[.tr (.s 6) 1 3 true, .nat (.s 7)],[],[]⟩ FUEL (.s .n (.s (.j ⟨[(6,1),(44,13)],[.tr (.s 6) 1 3 true],[],[]⟩ .n) .n))) .n))) .n)) .n)))) .n)) .n)) .n))) .n))) .n))) [.tmp 2] (gc Rc aC) func222 ntmps222 (fun(a:(List D.aAD)) _=>aB (O5 a)) (fun _=>by kernel_rfl)
def aSx:SU:=⟨[i6,i6],[i6],false,false,fun(a:Int×Int)=>some (bW a.1 a.2)⟩
theorem kR:OK 80 aSx:=mkS .n [.tmp 4] (gc dB aC) func80 ntmps80 (fun a _=>(aSt a.1 a.2).trans) (fun _=>by kernel_rfl)
def aRk:SU:=⟨[.sl 3],[i6],false,false,fun(a:(List Int))=>gd (a.length≤1099511627776) (some (wP a))⟩
theorem aB1:OK 154 aRk:=mkS (.s .n (.s .n (.s (.j ⟨[(3,18)],[.dat (.s 3) i6],[],[]⟩ (.s .n (.s (.l ⟨[(3,18)],[.dat (.s 3) i6, .nat (.s 4)],[],[]⟩ FUEL .n) .n))) .n))) [.tmp 2] (gc kR aC) func154 ntmps154 (fun(a:(List Int)) _=>aB (aRe a)) (fun _=>by kernel_rfl)
def W9:SU:=⟨[.st 222],[i6],false,false,fun(a:D.aAD)=>some (dH a)⟩
theorem zF:OK 226 W9:=mkS .n [.tmp 2] (gc aB1 aC) func226 ntmps226 (fun a _=>(P7 a).trans) (fun _=>by kernel_rfl)
def aJo:SU:=⟨[.sl 222],[i6],false,false,fun(a:(List D.aAD))=>gd (a.length≤34359738368) (some (gL a))⟩
theorem aJp:OK 224 aJo:=mkS .n [.tmp 2] (gc zF aC) func224 ntmps224 (fun(a:(List D.aAD)) _=>aB (aHy a)) (fun _=>by kernel_rfl)
def X3:SU:=⟨[i6, .sl 3],[i6],false,false,fun(a:Int×(List Int))=>gd (a.2.length≤34359738368) (some (fI a.1 a.2))⟩
theorem iE:OK 78 X3:=mkS .n [.tmp 4] (gc aB1 aC) func78 ntmps78 (fun a _=>aB (N9 a.1 a.2)) (fun _=>by kernel_rfl)
def Ua:SU:=⟨[i6, .sl 3],[i6],false,false,fun(a:Int×(List Int))=>gd (a.2.length≤34359738300) (some (Xb a.1 a.2))⟩
theorem Ub:OK 265 Ua:=mkS .n [.tmp 4] (gc jA (gc iE aC)) func265 ntmps265 (fun a _=>aB (Sy a.1 a.2)) (fun _=>by kernel_rfl)
def Bn:SU:=⟨[i6, .sl 3,i6],[.bool],false,false,fun(a:Int×(List Int)×Int)=>gd (a.2.1.length≤34359738300) (some (iZ a.1 a.2.1 a.2.2))⟩
theorem Bo:OK 225 Bn:=mkS bAe [.tmp 6] (gc wD (gc Ub aC)) func225 ntmps225 (fun a _=>aB (Ay a.1 a.2.1 a.2.2)) (fun _=>by kernel_rfl)
def aJq:SU:=⟨[.sl 222, .st 222],[.bool],false,false,fun(a:(List D.aAD)×D.aAD)=>gd (a.1.length≤34359738368) (some (nU a.1 a.2))⟩
theorem aJr:OK 153 aJq:=mkS (.s .n (.s .n (.s (.rj 5 ⟨[(6,1),(7,12)],[.dat (.s 6) .bool],[],[]⟩ .n) (.s (.s (.rj 6 ⟨[(31,22)],[.dat (.s 52) .bool],[],[]⟩ (.r none [(0,true),(1,true),(2,true),(3,true),(4,true),(5,true),(6,true),(7,true),(8,true),(9,false),(10,true),(11,true),(12,true),(13,true),(14,true),(15,true),(16,true),(17,true),(18,true),(19,true),(22,true),(23,true),(20,false),(21,false),(24,false),(25,true),(26,true)])) .n) (.s (.s .n (.s (.s (.rj 5 ⟨[(4,1),(55,5)],[.dat (.s 4) .bool],[],[]⟩ .n) .n) .n)) (.s (.jx ⟨[(4,1),(2,1),(57,22)],[],[],[]⟩ (.s .n (.s (.l ⟨[(4,1),(2,1),(57,22)],[.nat (.s 7)],[],[]⟩ FUEL (.s .n (.s (.s (.s (.rj 7 ⟨[(77,10)],[.dat (.s 86) .bool],[],[]⟩ (.r none (od 16 []))) .n) .n) .n))) .n))) (.s (.rj 4 ⟨[(4,1),(85,12)],[.dat (.s 4) .bool],[],[]⟩ .n) .n))))))) [.tmp 4] (gc V9 (gc Rc (gc aJp (gc zF (gc Bo aC))))) func153 ntmps153 (fun a _=>aB (aH3 a.1 a.2)) (fun _=>by kernel_rfl)
def X4:SU:=⟨[.sl 222],[.bool],false,false,fun(a:(List D.aAD))=>gd (a.length≤34359738368) (some (sH a))⟩
theorem X5:OK 75 X4:=mkS (.s .n (.s (.jx ⟨[(2,17)],[],[],[]⟩ (.s .n (.s (.l ⟨[(2,17)],[.nat (.s 3)],[],[]⟩ FUEL (.s .n (.s (.s (.s (.r none (od 9 [7])) .n) .n) .n))) .n))) .n)) [.tmp 2] (gc aJr (gc dB aC)) func75 ntmps75 (fun(a:(List D.aAD)) _=>aB (P9 a)) (fun _=>by kernel_rfl)
def Oy:SU:=⟨[.st 57],[.bool],false,false,fun(a:D.World)=>gd (a.sz≤34359738368) (some (iO a))⟩
theorem Oz:OK 24 Oy:=mkS (.s .n (.s (.jx ⟨[(2,27)],[],[],[]⟩ (.s .n (.s (.l ⟨[(2,27)],[.nat (.s 3)],[],[]⟩ FUEL (.s .n (.s (.s (.s (.rj 8 ⟨[(18,11)],[.dat (.s 28) .bool],[],[]⟩ (.r none (od 18 [5,15]))) .n) .n) .n))) .n))) (.s (.rj 4 ⟨[(2,1),(29,37)],[.dat (.s 2) .bool],[],[]⟩ .n) .n))) [.tmp 2] (gc Tz (gc aDw (gc dB (gc nJ (gc X5 (gc jA aC)))))) func24 ntmps24 (fun(a:D.World) _=>aB (Nu a)) (fun _=>by kernel_rfl)
def aSy:SU:=⟨[i6,i6],[i6],false,false,fun(a:Int×Int)=>some (aQ4 a.1 a.2)⟩
theorem aJs:OK 77 aSy:=mkS .n [.tmp 4] aC func77 ntmps77 (fun a _=>(aSv a.1 a.2).trans) (fun _=>by kernel_rfl)
def X6:SU:=⟨[i6, .sl 3],[i6],false,false,fun(a:Int×(List Int))=>gd (a.2.length≤34359738300) (some (lF a.1 a.2))⟩
theorem zG:OK 25 X6:=mkS .n [.tmp 4] (gc iE (gc aJs aC)) func25 ntmps25 (fun a _=>aB (O1 a.1 a.2)) (fun _=>by kernel_rfl)
def X7:SU:=⟨[.sl 173, .sl 3],[.bool],false,false,fun(a:(List D.aAA)×(List Int))=>gd (a.1.length≤34359738368∧a.2.length≤34359738368) (some (gM a.1 a.2))⟩
theorem X8:OK 79 X7:=mkS (.s .n (.s (.jx ⟨[(4,32)],[],[],[]⟩ (.s .n (.s (.l ⟨[(4,32)],[.nat (.s 5)],[],[]⟩ FUEL (.s .n (.s (.jx ⟨[(4,1),(1,1),(6,23)],[],[],[]⟩ (.s (.s .n (.s .n (.s (.l ⟨[(4,1),(1,1),(15,14)],[.nat (.s 6)],[],[]⟩ FUEL aUa) .n))) .n)) .n))) .n))) .n)) [.tmp 4] (gc dB aC) func79 ntmps79 (fun a _=>aB (R4 a.1 a.2)) (fun _=>by kernel_rfl)
def aPh:SU:=⟨[i6,i6],[i6],false,false,fun(a:Int×Int)=>lT a.1 a.2⟩
theorem Zd:OK 229 aPh:=mkS bC3 [.tmp 4] aC func229 ntmps229 (fun _ _=>id) (fun _=>by kernel_rfl)
def Fy:SU:=⟨[i6],[.bool],false,false,fun(a:Int)=>some (fZ a)⟩
theorem eZ:OK 158 Fy:=mkS bAi [.tmp 2] (gc dB (gc Zd aC)) func158 ntmps158 (fun a _=>(Ff a).trans) (fun _=>by kernel_rfl)
def aDx:SU:=⟨[i6,i6],[i6],false,false,fun(a:Int×Int)=>some (dO a.1 a.2)⟩
theorem iQ:OK 156 aDx:=mkS .n [.tmp 4] (gc eZ (gc kR (gc Zd aC))) func156 ntmps156 (fun a _=>(aC9 a.1 a.2).trans) (fun _=>by kernel_rfl)
def Uc:SU:=⟨[i6,i6],[i6],false,false,fun(a:Int×Int)=>some (Ah a.1 a.2)⟩
theorem Ud:OK 157 Uc:=mkS .n [.tmp 4] (gc iE (gc iQ aC)) func157 ntmps157 (fun a _=>(Ti a.1 a.2).trans) (fun _=>by kernel_rfl)
def Ze:SU:=⟨[i6,i6,i6],[i6],false,false,fun(a:Int×Int×Int)=>some (dI a.1 a.2.1 a.2.2)⟩
theorem Zg:OK 82 Ze:=mkS .n [.tmp 6] (gc kR (gc Ud (gc iQ aC))) func82 ntmps82 (fun a _=>(Ym a.1 a.2.1 a.2.2).trans) (fun _=>by kernel_rfl)
def X9:SU:=⟨[.sl 168],[.bool],false,false,fun(a:(List D.aAN))=>gd (a.length≤34359738368) (some (aGh a))⟩
theorem Y1:OK 279 X9:=mkS (.s .n (.s (.jx ⟨[(2,41)],[],[],[]⟩ (.s .n (.s (.l ⟨[(2,41)],[.nat (.s 3)],[],[]⟩ FUEL (.s .n (.s (.jx ⟨[(2,1),(1,1),(6,32)],[],[],[]⟩ (.s (.s (.s (.rj 8 ⟨[(18,9)],[.dat (.s 26) .bool],[],[]⟩ .n) .n) (.s .n (.s (.l ⟨[(2,1),(1,1),(22,16)],[.nat (.s 4)],[],[]⟩ FUEL (.s .n (.s (.s (.s (.r none (od 11 [])) .n) .n) .n))) .n))) .n)) .n))) .n))) .n)) [.tmp 2] (gc dB aC) func279 ntmps279 (fun(a:(List D.aAN)) _=>aB (Q3 a)) (fun _=>by kernel_rfl)
def Lp:SU:=⟨[.st 170],[.bool],false,false,fun(a:D.aAL)=>some (gZ a)⟩
theorem Lr:OK 266 Lp:=mkS bAg [.tmp 2] (gc Y1 (gc dB aC)) func266 ntmps266 (fun a _=>(Ko a).trans) (fun _=>by kernel_rfl)
def Ls:SU:=⟨[.st 168,i6],[i6],false,false,fun(a:D.aAN×Int)=>some (qY a.1 a.2)⟩
theorem Lt:OK 267 Ls:=mkS bAf [.tmp 4] (gc eZ (gc dB (gc iQ aC))) func267 ntmps267 (fun a _=>(Kr a.1 a.2).trans) (fun _=>by kernel_rfl)
def Y2:SU:=⟨[.st 170,i6],[.st 170,i6, .bool],false,false,fun(a:D.aAL×Int)=>some (gG a.1 a.2)⟩
theorem Y3:OK 227 Y2:=mkS (.s .n (.s (.s (.rj 4 ⟨[(11,16)],[.dat (.s 26) .bool],[],[]⟩ .n) .n) (.s .n (.s .n (.s (.r (some 5) (od 8 [4,5,6,7])) .n))))) [.cell 4 170, .tmp 5, .tmp 6] (gc Lr (gc eZ (gc Lt aC))) func227 ntmps227 (fun a _=>(Q7 a.1 a.2).trans) (fun _=>by kernel_rfl)
def aJt:SU:=⟨[.st 170],[i6],false,false,fun(a:D.aAL)=>some (vB a)⟩
theorem aJu:OK 228 aJt:=mkS .n [.tmp 2] aC func228 ntmps228 (fun a _=>(aH5 a).trans) (fun _=>by kernel_rfl)
def aLw:SU:=⟨[.sl 173, .sl 3,i6],[.sl 173, .sl 3, .sl 3],false,false,fun(a:(List D.aAA)×(List Int)×Int)=>gd ((uL D.aAA.sz a.1≤34000000000∧a.2.1.length≤100000000)∧gM a.1 a.2.1=true) (some (jU a.1 a.2.1 a.2.2))⟩
theorem aLx:OK 81 aLw:=mkS (.s .n (.s .n (.s .n (.s .n (.s (.j ⟨[(10,6),(4,38)],[.tr (.s 10) 1 3 true, .tr (.s 11) 2 3 true, .ti 0 173 false],[],[]⟩ (.s .n (.s (.l ⟨[(10,6),(4,38)],[.tr (.s 10) 1 3 true, .tr (.s 11) 2 3 true, .nat (.s 12), .ti 0 173 false],[],[]⟩ FUEL (.s .n (.s (.j ⟨[(10,2),(1,3),(10,32)],[.tr (.s 10) 1 3 true, .tr (.s 11) 2 3 true, .ti 0 173 false],[],[]⟩ (.s (.s (.il 8 (.s .n (.s .n (.s (.s (.rj 7 ⟨[(25,4)],[.dat (.s 28) .bool],[],[]⟩ (.r none [(0,true),(1,true),(3,true),(4,true),(2,false),(5,true),(6,true),(7,true),(8,true),(9,true)])) .n) (.s (.u [] [7,12] [(0,true),(2,true),(3,true),(5,true),(6,true),(9,true),(1,false),(4,false),(7,false),(8,false),(10,false),(11,false),(12,false),(13,false)]) .n)))) .n) (.s (.r (some 7) (od 8 [7])) .n)) .n)) .n))) .n))) .n))))) [.tmp 6, .tmp 7, .tmp 8] (gc pM (gc (sIl 155) (gc Y3 (gc aJu (gc Ll (gc (bCv 2000000) aC)))))) func81 ntmps81 (fun a _=>aB (aLh a.1 a.2.1 a.2.2)) (fun _=>by kernel_rfl)
def aPi:SU:=⟨[i6],[i6],false,false,fun(a:Int)=>some (bW a 1019)⟩
theorem aPj:OK 230 aPi:=mkS .n [.tmp 2] (gc kR aC) func230 ntmps230 (fun a _=>(aPc a).trans) (fun _=>by kernel_rfl)
def Bp:SU:=⟨[i6],[i6],false,false,fun(a:Int)=>some (mO a)⟩
theorem mI:OK 163 Bp:=mkS (.s .n (.s .n (.s (.jx ⟨[(2,1),(1,1),(2,10)],[],[],[]⟩ (.s .n (.s (.l ⟨[(2,1),(1,1),(2,10)],[.dat (.s 4) i6],[],[]⟩ FUEL .n) .n))) .n))) [.tmp 2] (gc kR aC) func163 ntmps163 (fun a _=>(Ba a).trans) (fun _=>by kernel_rfl)
def Ga:SU:=⟨[.sl 3,i6,i6],[i6],false,false,fun(a:(List Int)×Int×Int)=>gd (a.1.length≤34359738368) (some (pK a.1 a.2.1 a.2.2))⟩
theorem Gb:OK 160 Ga:=mkS (.s .n (.s .n (.s .n (.s (.jx ⟨[(6,6),(6,54)],[.dat (.s 7) i6],[],[]⟩ (.s .n (.s (.l ⟨[(6,6),(6,54)],[.dat (.s 7) i6, .nat (.s 8)],[],[]⟩ FUEL (.s .n (.s (.jx ⟨[(6,2),(1,3),(12,48)],[.dat (.s 7) i6],[],[]⟩ (.s (.s (.jx ⟨[(6,1),(2,1),(14,16)],[],[],[]⟩ (.s .n (.s (.l ⟨[(6,1),(2,1),(14,16)],[.nat (.s 9)],[],[]⟩ FUEL bC5) .n))) (.s .n (.s (.s (.r none [(0,true),(2,true),(3,true),(4,true),(5,true),(1,false),(6,false),(7,true),(8,false),(9,true)]) (.s (.r none [(0,true),(1,true),(2,true),(3,true),(5,true),(6,true),(7,true),(8,true),(4,false),(9,false),(10,true),(11,false),(12,true)]) .n)) .n))) .n)) .n))) .n))) .n)))) [.tmp 6] (gc dB (gc aPj (gc mI aC))) func160 ntmps160 (fun a _=>aB (Fh a.1 a.2.1 a.2.2)) (fun _=>by kernel_rfl)
def aDy:SU:=⟨[i6,i6],[i6],false,false,fun(a:Int×Int)=>some (fM a.1 a.2)⟩
theorem aDz:OK 159 aDy:=mkS aX3 [.tmp 4] (gc eZ aC) func159 ntmps159 (fun a _=>(aDb a.1 a.2).trans) (fun _=>by kernel_rfl)
def uQ:SU:=⟨[.sl 3, .sl 3],[i6, .bool],false,false,fun(a:(List Int)×(List Int))=>gd (a.1.length≤34359738368∧a.2.length≤34359738368) (some (iA a.1 a.2))⟩
theorem uR:OK 83 uQ:=mkS (.s .n (.s (.s (.rj 6 ⟨[(15,5)],[.dat (.s 19) .bool],[],[]⟩ .n) .n) (.s (.jx ⟨[(4,4),(12,34)],[],[],[]⟩ (.s .n (.s (.l ⟨[(4,4),(12,34)],[.nat (.s 6)],[],[]⟩ FUEL (.s .n (.s (.jx ⟨[(4,2),(1,1),(18,28)],[],[],[]⟩ (.s (.s (.s (.rj 7 ⟨[(32,8)],[.dat (.s 39) .bool],[],[]⟩ .n) .n) (.s .n (.s (.l ⟨[(4,2),(1,1),(32,14)],[.nat (.s 7)],[],[]⟩ FUEL aUa) .n))) .n)) .n))) .n))) (.s .n (.s (.j ⟨[(8,2),(44,16)],[.dat (.s 8) i6],[],[]⟩ (.s .n (.s (.l ⟨[(8,2),(44,16)],[.dat (.s 8) i6, .nat (.s 9)],[],[]⟩ FUEL (.s .n (.s (.s (.r none (od 11 [7,8,9])) .n) .n))) .n))) .n))))) [.tmp 4, .tmp 5] (gc dB (gc eZ (gc Gb (gc iQ (gc aDz aC))))) func83 ntmps83 (fun a _=>aB (uP a.1 a.2)) (fun _=>by kernel_rfl)
def Pb:SU:=⟨[i6,i6],[i6],false,false,fun(a:Int×Int)=>some (Qi a.1 a.2)⟩
theorem Pd:OK 86 Pb:=mkS .n [.tmp 4] (gc kR (gc mI (gc iQ aC))) func86 ntmps86 (fun a _=>(Nw a.1 a.2).trans) (fun _=>by kernel_rfl)
def Y4:SU:=⟨[i6,i6],[i6],false,false,fun(a:Int×Int)=>some (qW a.1 a.2)⟩
theorem Y5:OK 85 Y4:=mkS .n [.tmp 4] (gc iE (gc aJs aC)) func85 ntmps85 (fun a _=>(Q5 a.1 a.2).trans) (fun _=>by kernel_rfl)
def Zh:SU:=⟨[i6,i6],[i6],false,false,fun(a:Int×Int)=>some (qX a.1 a.2)⟩
theorem Zi:OK 161 Zh:=mkS .n [.tmp 4] (gc iE aC) func161 ntmps161 (fun a _=>(Yk a.1 a.2).trans) (fun _=>by kernel_rfl)
def aJv:SU:=⟨[i6,i6],[i6],false,false,fun(a:Int×Int)=>some (Xe a.1 a.2)⟩
theorem aJw:OK 162 aJv:=mkS .n [.tmp 4] (gc dB (gc zG aC)) func162 ntmps162 (fun a _=>(aH6 a.1 a.2).trans) (fun _=>by kernel_rfl)
def Y6:SU:=⟨[.st 51,i6],[i6, .bool],false,false,fun(a:D.aAQ×Int)=>some (wI a.1 a.2)⟩
theorem Y7:OK 84 Y6:=mkS bAd [.tmp 4, .tmp 5] (gc Zi (gc aJw aC)) func84 ntmps84 (fun a _=>(Q9 a.1 a.2).trans) (fun _=>by kernel_rfl)
def Zj:SU:=⟨[.st 51, .sl 173, .sl 3,i6,i6],[.sl 173,i6, .bool],false,false,fun(a:D.aAQ×(List D.aAA)×(List Int)×Int×Int)=>gd (uL D.aAA.sz a.2.1≤34000000000∧a.2.2.1.length≤100000000) (some (oH a.1 a.2.1 a.2.2.1 a.2.2.2.1 a.2.2.2.2))⟩
theorem Zk:OK 26 Zj:=mkS (.s .n (.s (.s (.rj 5 ⟨[(24,10)],[.dat (.s 33) .bool],[],[]⟩ .n) .n) (.s .n (.s .n (.s (.s (.rj 6 ⟨[(59,11)],[.dat (.s 69) .bool],[],[]⟩ .n) .n) bC4))))) [.tmp 10, .tmp 11, .tmp 12] (gc X8 (gc kR (gc dB (gc pM (gc Zg (gc aLx (gc uR (gc Pd (gc Y5 (gc Y7 aC)))))))))) func26 ntmps26 (fun a _=>aB (Yp a.1 a.2.1 a.2.2.1 a.2.2.2.1 a.2.2.2.2)) (fun _=>by kernel_rfl)
def Zl:SU:=⟨[.st 55,i6,i6,i6],[.st 55, .bool],true,false,fun(a:D.aAI×Int×Int×Int)=>gd (a.1.sz≤34359738300) (some (Hz a.1 a.2.1 a.2.2.1 a.2.2.2))⟩
theorem Zm:OK 87 Zl:=mkS (.s .n (.s .n (.s .n (.s (.j ⟨[(10,3),(12,26)],[.tr (.s 10) 2 219 true],[],[]⟩ (.s .n (.s (.s .n (.s (.j ⟨[(11,2),(15,13)],[.dat (.s 11) i6],[],[]⟩ (.s .n (.s (.l ⟨[(11,2),(18,10)],[.dat (.s 11) i6, .dat (.s 12) i6],[],[]⟩ FUEL (.s .n (.s (.j ⟨[(11,1),(23,6)],[.dat (.s 11) i6],[],[]⟩ .n) .n))) .n))) (.y true none (some 9) [(1,true),(2,true),(3,true),(5,true),(6,true),(7,true),(8,true),(0,false),(4,false),(9,false),(10,true)]))) .n))) (.s .n (.s (.s (.rj 4 ⟨[(56,5)],[.dat (.s 60) .bool],[],[]⟩ .n) .n) .n)))))) [.cell 8 55, .tmp 9] (gc nJ (gc Lm aC)) func87 ntmps87 (fun a _=>aB (Yh a.1 a.2.1 a.2.2.1 a.2.2.2)) (fun _=>by kernel_rfl)
def Pe:SU:=⟨[.st 57, .sl 3,i6],[.st 57,i6, .bool],false,false,fun(a:D.World×(List Int)×Int)=>gd (a.1.sz≤34000000000∧a.2.1.length≤100000000) (some (gH a.1 a.2.1 a.2.2))⟩
theorem Pf:OK 6 Pe:=mkS (.s .n (.s .n (.s .n (.s .n (.s .n (.s .n (.s (.il 0 (.s (.y false (some 13) (some 14) (od 16 [9,13,14])) .n) .n) .n))))))) [.cell 6 57, .tmp 7, .tmp 8] (gc aJh (gc Oz (gc zG (gc Zk (gc (sIl 27) (gc Zm aC)))))) func6 ntmps6 (fun a _=>aB (Oa a.1 a.2.1 a.2.2)) (fun _=>by kernel_rfl)
def aJx:SU:=⟨[.sl 222],[.sl 222],true,false,fun(a:(List D.aAD))=>gd (a.length≤34359738368) (some (a))⟩
theorem Lu:OK 174 aJx:=mkS .n [.tmp 2] aC func174 ntmps174 (fun(a:(List D.aAD)) _=>aB (aHm a)) (fun _=>by kernel_rfl)
def Y8:SU:=⟨[.sl 5],[.sl 5],true,false,fun(a:(List Int))=>gd (a.length≤34359738368) (some (a))⟩
theorem zH:OK 238 Y8:=mkS .n [.tmp 2] aC func238 ntmps238 (fun(a:(List Int)) _=>aB (O7 a)) (fun _=>by kernel_rfl)
def Y9:SU:=⟨[.sl 274],[.sl 274],true,false,fun(a:(List D.Box))=>gd (uL D.Box.sz a≤34359738368) (some (a))⟩
theorem Z0:OK 237 Y9:=mkS (.s .n (.s .n (.s (.j ⟨[(3,1),(1,1),(1,15)],[.tr (.s 3) 0 274 true],[],[]⟩ (.s .n (.s (.l ⟨[(3,1),(1,1),(3,13)],[.tr (.s 3) 0 274 true, .nat (.s 9)],[],[]⟩ FUEL .n) .n))) .n))) [.tmp 2] (gc zH aC) func237 ntmps237 (fun(a:(List D.Box)) _=>aB (O8 a)) (fun _=>by kernel_rfl)
def Gc:SU:=⟨[.st 46],[.st 46],true,false,fun(a:D.aAF)=>gd (a.sz≤34359738368) (some (a))⟩
theorem Gd:OK 175 Gc:=mkS (.s .n (.s (.r (some 6) (od 7 [4,6])) .n)) [.cell 2 46] (gc Z0 aC) func175 ntmps175 (fun(a:D.aAF) _=>aB (Ey a)) (fun _=>by kernel_rfl)
def Zn:SU:=⟨[.st 207],[.st 207],true,false,fun(a:D.aAB)=>gd (a.sz≤34359738368) (some (a))⟩
theorem Zo:OK 176 Zn:=mkS .n [.cell 2 207] (gc zH aC) func176 ntmps176 (fun(a:D.aAB) _=>aB (Yc a)) (fun _=>by kernel_rfl)
def Z4:SU:=⟨[.st 49],[.st 49],true,false,fun(a:D.aAJ)=>gd (a.sz≤34359738368) (some (a))⟩
theorem Z5:OK 95 Z4:=mkS (.s .n (.s bAb (.s (.j ⟨[(5,1),(7,15)],[.nt (.c 4 3) 207 true],[],[]⟩ (.s .n (.s (.l ⟨[(5,1),(10,12)],[.nat (.s 16), .nt (.c 4 3) 207 true],[],[]⟩ FUEL aZo) .n))) .n))) [.cell 2 49] (gc Lu (gc Gd (gc Zo aC))) func95 ntmps95 (fun(a:D.aAJ) _=>aB (O9 a)) (fun _=>by kernel_rfl)
def aD0:SU:=⟨[.st 173],[.st 173],true,false,fun(a:D.aAA)=>gd (a.sz≤34359738368) (some (a))⟩
theorem Ef:OK 177 aD0:=mkS .n [.cell 2 173] aC func177 ntmps177 (fun(a:D.aAA) _=>aB (aC2 a)) (fun _=>by kernel_rfl)
def Z6:SU:=⟨[.sl 173],[.sl 173],true,false,fun(a:(List D.aAA))=>gd (uL D.aAA.sz a≤34359738368) (some (a))⟩
theorem zI:OK 96 Z6:=mkS (.s .n (.s .n (.s (.j ⟨[(3,1),(1,1),(1,12)],[.tr (.s 3) 0 173 true],[],[]⟩ (.s .n (.s (.l ⟨[(3,1),(1,1),(3,10)],[.tr (.s 3) 0 173 true, .nat (.s 9)],[],[]⟩ FUEL .n) .n))) .n))) [.tmp 2] (gc Ef aC) func96 ntmps96 (fun(a:(List D.aAA)) _=>aB (P5 a)) (fun _=>by kernel_rfl)
def aD1:SU:=⟨[.st 55],[.st 55],true,false,fun(a:D.aAI)=>gd (a.sz≤34359738368) (some (a))⟩
theorem Eg:OK 97 aD1:=mkS .n [.cell 2 55] aC func97 ntmps97 (fun(a:D.aAI) _=>aB (aC4 a)) (fun _=>by kernel_rfl)
def Zp:SU:=⟨[.st 133],[.st 133],true,false,fun(a:D.aAH)=>gd (a.sz≤34359738368) (some (a))⟩
theorem Zq:OK 178 Zp:=mkS .n [.cell 2 133] aC func178 ntmps178 (fun(a:D.aAH) _=>aB (Xz a)) (fun _=>by kernel_rfl)
def Zr:SU:=⟨[.st 135],[.st 135],true,false,fun(a:D.Device)=>gd (a.sz≤34359738368) (some (a))⟩
theorem Zt:OK 98 Zr:=mkS .n [.cell 2 135] (gc Lu (gc Zq aC)) func98 ntmps98 (fun(a:D.Device) _=>aB (Ya a)) (fun _=>by kernel_rfl)
def aD2:SU:=⟨[.st 141],[.st 141],true,false,fun(a:D.aAC)=>gd (a.sz≤34359738368) (some (a))⟩
theorem aD3:OK 179 aD2:=mkS bAa [.cell 2 141] aC func179 ntmps179 (fun(a:D.aAC) _=>aB (aC0 a)) (fun _=>by kernel_rfl)
def aLy:SU:=⟨[.sl 3, .sl 40],[.sl 3],true,false,fun(a:(List Int)×(List (List Int)))=>gd (Hy a.1 a.2) (some (wY a.1 a.2))⟩
theorem nV:OK 109 aLy:=mkS (.s .n (.s .n (.s (.j ⟨[(5,1),(1,1),(3,10)],[.tr (.s 5) 0 3 true],[],[]⟩ (.s .n (.s (.l ⟨[(5,1),(1,1),(5,8)],[.tr (.s 5) 0 3 true, .nat (.s 13)],[],[]⟩ FUEL .n) .n))) .n))) [.tmp 4] aC func109 ntmps109 (fun a _=>aB (aK9 a.1 a.2)) (fun _=>by kernel_rfl)
def Ue:SU:=⟨[.st 211],[.st 211],true,false,fun(a:D.aAE)=>gd (a.sz≤34359738368) (some (a))⟩
theorem Uf:OK 180 Ue:=mkS bAa [.cell 2 211] aC func180 ntmps180 (fun(a:D.aAE) _=>aB (Sw a)) (fun _=>by kernel_rfl)
def aD4:SU:=⟨[.st 143],[.st 143],true,false,fun(a:D.Site)=>gd (a.sz≤34359738368) (some (a))⟩
theorem aD5:OK 99 aD4:=mkS (.s .n (.s (.y false (some 9) (some 10) [(0,true),(1,true),(2,true),(3,true),(5,true),(6,true),(4,false),(7,false),(8,true),(9,false),(10,false)]) (.s (.j ⟨[(5,1),(9,15)],[.nt (.c 4 1) 211 true],[],[]⟩ (.s .n (.s (.l ⟨[(5,1),(12,12)],[.nat (.s 18), .nt (.c 4 1) 211 true],[],[]⟩ FUEL aZo) .n))) .n))) [.cell 2 143] (gc aD3 (gc nV (gc Uf aC))) func99 ntmps99 (fun(a:D.Site) _=>aB (aC1 a)) (fun _=>by kernel_rfl)
def Z7:SU:=⟨[.st 57],[.st 57],true,false,fun(a:D.World)=>gd (a.sz≤34359738368) (some (a))⟩
theorem Z8:OK 35 Z7:=mkS (.s .n (.s (.y true (some 22) (some 23) [(0,true),(1,true),(2,true),(3,true),(5,true),(6,true),(8,true),(9,true),(11,true),(12,true),(13,true),(14,true),(16,true),(17,true),(18,true),(19,true),(4,false),(7,false),(10,false),(15,false),(20,false),(21,false),(22,false),(23,false)]) (.s (.j ⟨[(5,1),(24,15)],[.nt (.c 8 2) 135 true],[],[]⟩ (.s .n (.s (.l ⟨[(5,1),(27,12)],[.nat (.s 33), .nt (.c 8 2) 135 true],[],[]⟩ FUEL aZo) .n))) (.s (.j ⟨[(7,1),(37,15)],[.nt (.c 8 8) 143 true],[],[]⟩ (.s .n (.s (.l ⟨[(7,1),(40,12)],[.nat (.s 48), .nt (.c 8 8) 143 true],[],[]⟩ FUEL aZo) .n))) .n)))) [.cell 2 57] (gc Z5 (gc zI (gc Eg (gc Zt (gc aD5 aC))))) func35 ntmps35 (fun(a:D.World) _=>aB (P6 a)) (fun _=>by kernel_rfl)
def aJy:SU:=⟨[i6,i6,i6],[.bool],false,false,fun(a:Int×Int×Int)=>some (cZ a.1 a.2.1 a.2.2)⟩
theorem dR:OK 100 aJy:=mkS bAh [.tmp 6] aC func100 ntmps100 (fun a _=>(aHi a.1 a.2.1 a.2.2).trans) (fun _=>by kernel_rfl)
def aLz:SU:=⟨[.str],[.bool],false,false,fun(a:ByteArray)=>some (gB a)⟩
theorem Re:OK 239 aLz:=mkS (.s .n (.s .n (.s (.jx ⟨[(2,1),(1,3),(3,57)],[],[],[]⟩ (.s .n (.s (.l ⟨[(2,1),(1,3),(6,54)],[.nat (.s 13)],[],[]⟩ FUEL (.s .n (.s .n (.s (.jx ⟨[(2,1),(1,3),(8,51)],[],[],[]⟩ (.s (.s .n (.s (.s (.rj 4 ⟨[(20,18)],[.dat (.s 37) .bool],[],[]⟩ .n) .n) (.s .n (.s (.l ⟨[(2,1),(2,2),(31,28)],[.nat (.s 5)],[],[]⟩ FUEL (.s .n (.s (.s (.s .n (.s (.rj 3 ⟨[(49,17)],[.dat (.s 65) .bool],[],[]⟩ .n) .n)) .n) .n))) .n)))) .n)) .n)))) .n))) .n))) [.tmp 2] (gc Cs aC) func239 ntmps239 (fun a _=>(aLd a).trans) (fun _=>by kernel_rfl)
def Ug:SU:=⟨[.str],[.str],false,false,fun(a:ByteArray)=>some (aVm a)⟩
theorem Uh:OK 240 Ug:=mkS .n [.tmp 2] (gc Re (gc Cs (gc aGn aC))) func240 ntmps240 (fun a _=>(Td a).trans) (fun _=>by kernel_rfl)
def aL0:SU:=⟨[.str],[.bool],false,false,fun(a:ByteArray)=>gd (a.size≤9223372036854775807) (some (Mx a))⟩
theorem aL1:OK 241 aL0:=mkS (.s .n (.s (.jx ⟨[(2,12)],[],[],[]⟩ (.s .n (.s (.l ⟨[(2,12)],[.nat (.s 3)],[],[]⟩ FUEL .n) .n))) .n)) [.tmp 2] aC func241 ntmps241 (fun(a:ByteArray) _=>aB (aLe a)) (fun _=>by kernel_rfl)
def Zu:SU:=⟨[i6],[.bool],false,false,fun(a:Int)=>some (mK a)⟩
theorem jB:OK 105 Zu:=mkS .n [.tmp 2] (gc dR aC) func105 ntmps105 (fun a _=>(Xy a).trans) (fun _=>by kernel_rfl)
def Ui:SU:=⟨[.str,i6],[.bool],false,false,fun(a:ByteArray×Int)=>gd (a.1.size≤9223372036854775807) (some (jT a.1 a.2))⟩
theorem Uj:OK 181 Ui:=mkS (.s .n (.s (.rj 3 ⟨[(4,1),(2,13)],[.dat (.s 4) .bool],[],[]⟩ .n) .n)) [.tmp 4] (gc Re (gc Uh (gc aL1 (gc jB aC)))) func181 ntmps181 (fun a _=>aB (Te a.1 a.2)) (fun _=>by kernel_rfl)
def Uk:SU:=⟨[.st 141],[.bool],false,false,fun(a:D.aAC)=>gd (a.sz≤34359738368) (some (lH a))⟩
theorem Ul:OK 182 Uk:=mkS (.s .n (.s (.s (.rj 5 ⟨[(9,6)],[.dat (.s 14) .bool],[],[]⟩ .n) .n) (.s (.jx ⟨[(2,3),(10,44)],[],[],[]⟩ (.s .n (.s (.l ⟨[(2,3),(13,41)],[.nat (.s 18)],[],[]⟩ FUEL (.s .n (.s .n (.s (.s (.s .n (.s (.rj 8 ⟨[(30,28)],[.dat (.s 57) .bool],[],[]⟩ (.r none (od 35 [5,26,32]))) .n)) .n) .n)))) .n))) .n))) [.tmp 2] (gc dR aC) func182 ntmps182 (fun(a:D.aAC) _=>aB (Tc a)) (fun _=>by kernel_rfl)
def aPk:SU:=⟨[i6,i6,i6],[i6],false,false,fun(a:Int×Int×Int)=>eO a.1 a.2.1 a.2.2⟩
theorem qZ:OK 273 aPk:=mkS (.s .n (.s .n (.s .n (.s (.j ⟨[(0,2),(5,1),(5,17)],[.dat (.s 7) i6],[],[]⟩ (.s (.l ⟨[(0,2),(5,1),(5,17)],[.dat (.s 0) i6, .dat (.s 1) i6, .dat (.s 7) i6],[],[]⟩ FUEL (.s .n (.s (.s (.j ⟨[(7,1),(7,8)],[.dat (.s 7) i6],[],[]⟩ .n) .n) .n))) .n)) .n)))) [.tmp 6] aC func273 ntmps273 (fun _ _=>id) (fun _=>by kernel_rfl)
def Zv:SU:=⟨[i6],[i6],false,false,fun(a:Int)=>some (jM a)⟩
theorem wE:OK 242 Zv:=mkS .n [.tmp 2] (gc jB (gc qZ aC)) func242 ntmps242 (fun a _=>(Ye a).trans) (fun _=>by kernel_rfl)
def Gf:SU:=⟨[.st 211],[.bool],false,false,fun(a:D.aAE)=>gd (a.sz≤34359738368) (some (fB a))⟩
theorem Gg:OK 183 Gf:=mkS (.s .n (.s (.s (.rj 5 ⟨[(11,12)],[.dat (.s 22) .bool],[],[]⟩ .n) .n) (.s (.jx ⟨[(2,3),(1,1),(16,56)],[],[],[]⟩ (.s .n (.s (.l ⟨[(2,3),(1,1),(19,53)],[.nat (.s 26)],[],[]⟩ FUEL (.s .n (.s .n (.s (.jx ⟨[(2,3),(1,1),(21,50)],[],[],[]⟩ (.s (.s .n (.s (.s (.rj 5 ⟨[(35,28)],[.dat (.s 62) .bool],[],[]⟩ (.r none (od 32 [2,23,29]))) .n) (.s .n (.s (.l ⟨[(2,1),(3,1),(61,10)],[.nat (.s 68)],[],[]⟩ FUEL .n) .n)))) .n)) .n)))) .n))) .n))) [.tmp 2] (gc dR (gc wE aC)) func183 ntmps183 (fun(a:D.aAE) _=>aB (Fe a)) (fun _=>by kernel_rfl)
def Um:SU:=⟨[.st 143],[.bool],false,false,fun(a:D.Site)=>gd (a.sz≤34359738368) (some (lI a))⟩
theorem Uo:OK 101 Um:=mkS (.s .n (.s (.s (.rj 8 ⟨[(12,12)],[.dat (.s 23) .bool],[],[]⟩ .n) .n) (.s (.jx ⟨[(2,3),(19,28)],[],[],[]⟩ (.s .n (.s (.l ⟨[(2,3),(22,25)],[.nat (.s 27)],[],[]⟩ FUEL (.s .n (.s .n (.s (.s (.s .n (.s (.rj 4 ⟨[(35,16)],[.dat (.s 50) .bool],[],[]⟩ (.r none (od 19 [1]))) .n)) .n) .n)))) .n))) .n))) [.tmp 2] (gc Uj (gc Ul (gc Gg aC))) func101 ntmps101 (fun(a:D.Site) _=>aB (Tg a)) (fun _=>by kernel_rfl)
def aD6:SU:=⟨[i6],[.str],false,false,fun(a:Int)=>some (gY a)⟩
theorem aD7:OK 102 aD6:=mkS .n [.tmp 2] aC func102 ntmps102 (fun a _=>(aC6 a).trans) (fun _=>by kernel_rfl)
def Gh:SU:=⟨[.st 55],[.bool],false,false,fun(a:D.aAI)=>gd (a.sz≤34359738368) (some (dU a))⟩
theorem nK:OK 103 Gh:=mkS (.s .n (.s .n (.s (.jx ⟨[(2,3),(4,41)],[],[],[]⟩ (.s .n (.s (.l ⟨[(2,3),(7,38)],[.nat (.s 12)],[],[]⟩ FUEL (.s .n bAc)) .n))) .n))) [.tmp 2] (gc dR aC) func103 ntmps103 (fun(a:D.aAI) _=>aB (Fa a)) (fun _=>by kernel_rfl)
def aSz:SU:=⟨[.sl 3,i6],[.bool],false,false,fun(a:(List Int)×Int)=>gd (a.1.length≤1099511627776) (some (jD a.1 a.2))⟩
theorem Uq:OK 186 aSz:=mkS (.s .n (.s (.jx ⟨[(4,1),(1,11)],[],[],[]⟩ (.s .n (.s (.l ⟨[(4,1),(1,1),(2,8)],[.nat (.s 9)],[],[]⟩ FUEL .n) .n))) .n)) [.tmp 4] aC func186 ntmps186 (fun a _=>aB (aSw a.1 a.2)) (fun _=>by kernel_rfl)
def Z9:SU:=⟨[.sl 222],[.sl 3],true,false,fun(a:(List D.aAD))=>gd (a.length≤34359738368) (some (bF a))⟩
theorem aAa:OK 184 Z9:=mkS (.s .n (.s .n (.s (.j ⟨[(3,1),(1,2),(1,1),(1,40)],[.tr (.s 3) 0 3 true],[],[]⟩ (.s .n (.s (.l ⟨[(3,1),(1,2),(1,1),(3,38)],[.tr (.s 3) 0 3 true, .nat (.s 12)],[],[]⟩ FUEL (.s .n (.s .n (.s (.j ⟨[(3,1),(1,2),(1,1),(5,35)],[.tr (.s 3) 0 3 true],[],[]⟩ (.s (.s .n (.s .n (.s (.s .n (.s .n (.s .n (.s (.s .n (.s (.j ⟨[(6,1),(1,1),(24,15)],[.tr (.s 6) 2 3 true],[],[]⟩ (.s .n (.s (.l ⟨[(6,1),(1,1),(26,13)],[.tr (.s 6) 2 3 true, .nat (.s 35)],[],[]⟩ FUEL (.s .n (.s .n (.s (.j ⟨[(6,1),(1,1),(28,10)],[.tr (.s 6) 2 3 true],[],[]⟩ .n) .n)))) .n))) .n)) .n)))) .n))) .n)) .n)))) .n))) .n))) [.tmp 2] (gc Uq aC) func184 ntmps184 (fun(a:(List D.aAD)) _=>aB (O6 a)) (fun _=>by kernel_rfl)
def aS0:SU:=⟨[i6,i6],[i6],false,false,fun(a:Int×Int)=>some (bW a.1 a.2)⟩
theorem kS:OK 244 aS0:=mkS (.s .n (.s (.s (.rj 3 ⟨[(8,4)],[.dat (.s 11) .bool],[],[]⟩ .n) .n) (.s .n (.s (.j ⟨[(5,1),(9,5)],[.dat (.s 5) i6],[],[]⟩ .n) .n)))) [.tmp 4] aC func244 ntmps244 (fun a _=>(aSu a.1 a.2).trans) (fun _=>by kernel_rfl)
def aRl:SU:=⟨[.sl 3],[i6],false,false,fun(a:(List Int))=>gd (a.length≤1099511627776) (some (wP a))⟩
theorem aB2:OK 197 aRl:=mkS (.s .n (.s .n (.s (.j ⟨[(3,1),(1,15)],[.dat (.s 3) i6],[],[]⟩ (.s .n (.s (.l ⟨[(3,1),(1,1),(2,12)],[.dat (.s 3) i6, .nat (.s 8)],[],[]⟩ FUEL .n) .n))) .n))) [.tmp 2] (gc kS aC) func197 ntmps197 (fun(a:(List Int)) _=>aB (aRf a)) (fun _=>by kernel_rfl)
def aAb:SU:=⟨[.st 222],[i6],false,false,fun(a:D.aAD)=>some (dH a)⟩
theorem zJ:OK 189 aAb:=mkS .n [.tmp 2] (gc aB2 aC) func189 ntmps189 (fun a _=>(P8 a).trans) (fun _=>by kernel_rfl)
def aJz:SU:=⟨[.sl 222],[i6],false,false,fun(a:(List D.aAD))=>gd (a.length≤34359738368) (some (gL a))⟩
theorem aJ0:OK 185 aJz:=mkS .n [.tmp 2] (gc zJ aC) func185 ntmps185 (fun(a:(List D.aAD)) _=>aB (aHz a)) (fun _=>by kernel_rfl)
def Zw:SU:=⟨[.sl 222,i6],[.bool],false,false,fun(a:(List D.aAD)×Int)=>gd (a.1.length≤34359738368) (some (lG a.1 a.2))⟩
theorem Zx:OK 187 Zw:=mkS (.s .n (.s (.jx ⟨[(4,1),(1,17)],[],[],[]⟩ (.s .n (.s (.l ⟨[(4,1),(1,1),(2,14)],[.nat (.s 9)],[],[]⟩ FUEL (.s .n (.s .n (.s (.s (.s .n (.s (.rj 4 ⟨[(16,6)],[.dat (.s 21) .bool],[],[]⟩ .n) .n)) .n) .n)))) .n))) .n)) [.tmp 4] aC func187 ntmps187 (fun a _=>aB (Yf a.1 a.2)) (fun _=>by kernel_rfl)
def aAc:SU:=⟨[i6, .sl 3],[i6],false,false,fun(a:Int×(List Int))=>gd (a.2.length≤34359738368) (some (fI a.1 a.2))⟩
theorem iF:OK 108 aAc:=mkS .n [.tmp 4] (gc nV (gc aB2 aC)) func108 ntmps108 (fun a _=>aB (O0 a.1 a.2)) (fun _=>by kernel_rfl)
def Ur:SU:=⟨[i6, .sl 3],[i6],false,false,fun(a:Int×(List Int))=>gd (a.2.length≤34359738300) (some (Xb a.1 a.2))⟩
theorem Ut:OK 243 Ur:=mkS .n [.tmp 4] (gc jB (gc nV (gc iF aC))) func243 ntmps243 (fun a _=>aB (Sz a.1 a.2)) (fun _=>by kernel_rfl)
def Bq:SU:=⟨[i6, .sl 3,i6],[.bool],false,false,fun(a:Int×(List Int)×Int)=>gd (a.2.1.length≤34359738300) (some (iZ a.1 a.2.1 a.2.2))⟩
theorem Bt:OK 188 Bq:=mkS bAe [.tmp 6] (gc wE (gc Ut aC)) func188 ntmps188 (fun a _=>aB (Az a.1 a.2.1 a.2.2)) (fun _=>by kernel_rfl)
def aAd:SU:=⟨[.sl 222],[.bool],false,false,fun(a:(List D.aAD))=>gd (a.length≤34359738368) (some (sH a))⟩
theorem aAe:OK 104 aAd:=mkS (.s .n (.s (.s (.rj 4 ⟨[(10,5)],[.dat (.s 14) .bool],[],[]⟩ .n) .n) (.s (.jx ⟨[(2,5),(8,83)],[],[],[]⟩ (.s .n (.s (.l ⟨[(2,5),(10,81)],[.nat (.s 17)],[],[]⟩ FUEL (.s .n (.s .n (.s (.jx ⟨[(2,5),(12,78)],[],[],[]⟩ (.s (.s .n (.s .n (.s .n (.s (.s (.rj 5 ⟨[(31,26)],[.dat (.s 56) .bool],[],[]⟩ (.r none (od 30 [8,15]))) .n) (.s (.jx ⟨[(2,1),(54,31)],[],[],[]⟩ (.s .n (.s (.s .n (.s (.s (.rj 5 ⟨[(65,11)],[.dat (.s 75) .bool],[],[]⟩ .n) .n) (.s .n (.s (.s (.rj 6 ⟨[(83,5)],[.dat (.s 87) .bool],[],[]⟩ .n) .n) .n)))) .n))) (.s (.r none [(0,true),(1,true),(2,true),(5,true),(6,true),(3,false),(4,false),(7,false),(8,true)]) .n)))))) .n)) .n)))) .n))) .n))) [.tmp 2] (gc aAa (gc aJ0 (gc Uq (gc Zx (gc zJ (gc Bt aC)))))) func104 ntmps104 (fun(a:(List D.aAD)) _=>aB (Q0 a)) (fun _=>by kernel_rfl)
def Pg:SU:=⟨[.st 57],[.bool],false,false,fun(a:D.World)=>gd (a.sz≤34359738368) (some (iO a))⟩
theorem Ph:OK 36 Pg:=mkS (.s .n (.s (.s (.rj 5 ⟨[(9,22)],[.dat (.s 30) .bool],[],[]⟩ .n) .n) (.s (.jx ⟨[(2,3),(26,19)],[],[],[]⟩ (.s .n (.s (.l ⟨[(2,3),(29,16)],[.nat (.s 34)],[],[]⟩ FUEL (.s .n (.s .n (.s (.s (.s .n (.s (.rj 4 ⟨[(42,7)],[.dat (.s 48) .bool],[],[]⟩ (.r none (od 10 [1,7]))) .n)) .n) .n)))) .n))) (.s (.rj 4 ⟨[(2,1),(50,11)],[.dat (.s 2) .bool],[],[]⟩ .n) .n)))) [.tmp 2] (gc dR (gc Uo (gc aD7 (gc nK (gc aAe (gc jB aC)))))) func36 ntmps36 (fun(a:D.World) _=>aB (Nv a)) (fun _=>by kernel_rfl)
def aPl:SU:=⟨[i6],[i6],false,false,fun(a:Int)=>some (wH a)⟩
theorem Zy:OK 107 aPl:=mkS .n [.tmp 2] aC func107 ntmps107 (fun a _=>(aO9 a).trans) (fun _=>by kernel_rfl)
def aAf:SU:=⟨[i6, .sl 3],[i6],false,false,fun(a:Int×(List Int))=>gd (a.2.length≤34359738300) (some (lF a.1 a.2))⟩
theorem zK:OK 38 aAf:=mkS .n [.tmp 4] (gc nV (gc iF (gc Zy aC))) func38 ntmps38 (fun a _=>aB (O3 a.1 a.2)) (fun _=>by kernel_rfl)
def aL2:SU:=⟨[.sl 173, .sl 3,i6,i6],[.bool],false,false,fun(a:(List D.aAA)×(List Int)×Int×Int)=>gd (a.1.length≤34359738368∧a.2.1.length≤34359738368) (some (aGj a.1 a.2.1 a.2.2.1 a.2.2.2))⟩
theorem aL3:OK 190 aL2:=mkS (.s .n (.s (.jx ⟨[(8,26)],[],[],[]⟩ (.s .n (.s (.l ⟨[(8,3),(2,21)],[.nat (.s 13)],[],[]⟩ FUEL (.s .n (.s .n (.s (.s (.s .n (.s (.rj 3 ⟨[(20,13)],[.dat (.s 32) .bool],[],[]⟩ .n) .n)) .n) .n)))) .n))) (.s (.rj 4 ⟨[(8,1),(28,4)],[.dat (.s 8) .bool],[],[]⟩ .n) .n))) [.tmp 8] (gc Uq (gc kS (gc dR aC))) func190 ntmps190 (fun a _=>aB (aLg a.1 a.2.1 a.2.2.1 a.2.2.2)) (fun _=>by kernel_rfl)
def iY:SU:=⟨[i6],[.bool],false,false,fun(a:Int)=>some (fZ a)⟩
theorem dV:OK 249 iY:=mkS bAi [.tmp 2] (gc dR (gc qZ aC)) func249 ntmps249 (fun a _=>(Fg a).trans) (fun _=>by kernel_rfl)
def iR:SU:=⟨[i6,i6],[i6],false,false,fun(a:Int×Int)=>some (dO a.1 a.2)⟩
theorem iT:OK 245 iR:=mkS .n [.tmp 4] (gc dV (gc kS (gc qZ aC))) func245 ntmps245 (fun a _=>(aDa a.1 a.2).trans) (fun _=>by kernel_rfl)
def Uu:SU:=⟨[i6,i6],[i6],false,false,fun(a:Int×Int)=>some (Ah a.1 a.2)⟩
theorem Uv:OK 246 Uu:=mkS .n [.tmp 4] (gc iF (gc iT aC)) func246 ntmps246 (fun a _=>(Tj a.1 a.2).trans) (fun _=>by kernel_rfl)
def Zz:SU:=⟨[i6,i6,i6],[i6],false,false,fun(a:Int×Int×Int)=>some (dI a.1 a.2.1 a.2.2)⟩
theorem d9:OK 191 Zz:=mkS .n [.tmp 6] (gc kS (gc Uv (gc iT aC))) func191 ntmps191 (fun a _=>(Yo a.1 a.2.1 a.2.2).trans) (fun _=>by kernel_rfl)
def aD8:SU:=⟨[.st 170],[i6],false,false,fun(a:D.aAL)=>some (vB a)⟩
theorem aD9:OK 247 aD8:=mkS .n [.tmp 2] aC func247 ntmps247 (fun a _=>(aC8 a).trans) (fun _=>by kernel_rfl)
def aAg:SU:=⟨[.sl 168],[.bool],false,false,fun(a:(List D.aAN))=>some (aGh a)⟩
theorem aAh:OK 285 aAg:=mkS (.s .n (.s .n (.s .n (.s (.jx ⟨[(2,1),(2,1),(5,26)],[],[],[0]⟩ (.s .n (.s (.l ⟨[(2,1),(2,1),(7,24)],[.nat (.s 13), .dat (.c 0 0) .bool, .dat (.c 0 1) .bool, .dat (.c 0 2) .bool, .dat (.c 0 3) .bool, .dat (.c 0 4) .bool, .dat (.c 0 5) .bool, .dat (.c 0 6) .bool, .dat (.c 0 7) .bool],[],[]⟩ FUEL (.s .n (.s .n (.s (.s (.s .n (.s (.s (.rj 5 ⟨[(21,12)],[.dat (.s 32) .bool],[],[]⟩ .n) .n) .n)) .n) .n)))) .n))) .n)))) [.tmp 2] (gc dR aC) func285 ntmps285 (fun a _=>(Q4 a).trans) (fun _=>by kernel_rfl)
def Lv:SU:=⟨[.st 170],[.bool],false,false,fun(a:D.aAL)=>some (gZ a)⟩
theorem Lx:OK 274 Lv:=mkS bAg [.tmp 2] (gc aAh (gc dR aC)) func274 ntmps274 (fun a _=>(Kq a).trans) (fun _=>by kernel_rfl)
def Ma:SU:=⟨[.st 168,i6],[i6],false,false,fun(a:D.aAN×Int)=>some (qY a.1 a.2)⟩
theorem Mc:OK 275 Ma:=mkS bAf [.tmp 4] (gc dV (gc dR (gc iT aC))) func275 ntmps275 (fun a _=>(Kt a.1 a.2).trans) (fun _=>by kernel_rfl)
def aAi:SU:=⟨[.st 170,i6],[.st 170,i6, .bool],false,false,fun(a:D.aAL×Int)=>some (gG a.1 a.2)⟩
theorem aAj:OK 248 aAi:=mkS (.s .n (.s (.s (.rj 4 ⟨[(10,16)],[.dat (.s 25) .bool],[],[]⟩ .n) .n) (.s .n (.s (.r (some 5) (od 8 [4,5,6,7])) .n)))) [.cell 4 170, .tmp 5, .tmp 6] (gc Lx (gc dV (gc Mc aC))) func248 ntmps248 (fun a _=>(Q8 a.1 a.2).trans) (fun _=>by kernel_rfl)
def aJ1:SU:=⟨[.st 173,i6],[.st 173,i6, .bool],true,false,fun(a:D.aAA×Int)=>gd (a.1.sz≤34359738300) (some (jN a.1 a.2))⟩
theorem aJ2:OK 192 aJ1:=mkS (.s .n (.s .n (.s (.s (.r none [(0,true),(1,true),(3,true),(4,true),(2,false),(5,true)]) .n) (.s .n (.s .n (.s .n (.s (.j ⟨[(38,10)],[.tr (.c 3 5) 2 170 true],[],[]⟩ .n) .n))))))) [.cell 4 173, .tmp 5, .tmp 6] (gc Ef (gc aD9 (gc aAj aC))) func192 ntmps192 (fun a _=>aB (aH8 a.1 a.2)) (fun _=>by kernel_rfl)
def Bu:SU:=⟨[i6],[i6],false,false,fun(a:Int)=>some (mO a)⟩
theorem mJ:OK 254 Bu:=mkS .n [.tmp 2] (gc kS (gc qZ aC)) func254 ntmps254 (fun a _=>(Bb a).trans) (fun _=>by kernel_rfl)
def fA:SU:=⟨[.sl 3,i6,i6],[i6],false,false,fun(a:(List Int)×Int×Int)=>gd (a.1.length≤34359738368) (some (pK a.1 a.2.1 a.2.2))⟩
theorem Gi:OK 251 fA:=mkS (.s .n (.s (.s (.rj 3 ⟨[(15,6)],[.dat (.s 20) .bool],[],[]⟩ .n) .n) (.s (.jx ⟨[(6,3),(12,22)],[],[],[]⟩ (.s .n (.s (.l ⟨[(6,3),(14,20)],[.nat (.s 23)],[],[]⟩ FUEL (.s .n (.s .n (.s (.jx ⟨[(6,3),(16,17)],[],[],[]⟩ (.s (.s .n (.s .n (.s (.l ⟨[(6,1),(1,1),(17,16)],[.nat (.s 8)],[],[]⟩ FUEL bC5) .n))) .n)) .n)))) .n))) (.s .n (.s .n (.s (.j ⟨[(9,1),(1,2),(35,28)],[.dat (.s 9) i6],[],[]⟩ (.s .n (.s (.l ⟨[(9,1),(1,2),(37,26)],[.dat (.s 9) i6, .nat (.s 50)],[],[]⟩ FUEL (.s .n (.s .n (.s (.j ⟨[(9,1),(1,2),(39,23)],[.dat (.s 9) i6],[],[]⟩ .n) .n)))) .n))) .n)))))) [.tmp 6] (gc kS (gc mJ aC)) func251 ntmps251 (fun a _=>aB (Fj a.1 a.2.1 a.2.2)) (fun _=>by kernel_rfl)
def iU:SU:=⟨[i6,i6],[i6],false,false,fun(a:Int×Int)=>some (fM a.1 a.2)⟩
theorem aEa:OK 250 iU:=mkS aX3 [.tmp 4] (gc dV aC) func250 ntmps250 (fun a _=>(aDc a.1 a.2).trans) (fun _=>by kernel_rfl)
def dG:SU:=⟨[.sl 3, .sl 3],[i6, .bool],false,false,fun(a:(List Int)×(List Int))=>gd (a.1.length≤34359738368∧a.2.length≤34359738368) (some (iA a.1 a.2))⟩
theorem uG (args:Array Value)(w:World):(callFunc 193 args).run Tryz.prog w= .ok (.enter 193 args) w:=by kernel_rfl
theorem uh1 (a:Int):(EV.aY Yn iY.ar a).map EV.kD=[V.int IntKind.i64 a]:=by kernel_rfl
theorem rh1 (a:Int):gJ ((EV.aY Yn iY.rs (fZ a)).map EV.kD)= .bool (fZ a):=by kernel_rfl
theorem uh2 (a:Int×Int):(EV.aY Yn iR.ar a).map EV.kD=[V.int IntKind.i64 a.1,V.int IntKind.i64 a.2]:=by kernel_rfl
theorem rh2 (a:Int×Int):gJ ((EV.aY Yn iR.rs (dO a.1 a.2)).map EV.kD)=V.int IntKind.i64 (dO a.1 a.2):=by kernel_rfl
theorem uh3 (a:Int×Int):(EV.aY Yn iU.ar a).map EV.kD=[V.int IntKind.i64 a.1,V.int IntKind.i64 a.2]:=by kernel_rfl
theorem rh3 (a:Int×Int):gJ ((EV.aY Yn iU.rs (fM a.1 a.2)).map EV.kD)=V.int IntKind.i64 (fM a.1 a.2):=by kernel_rfl
theorem uh4 (a:List Int×Int×Int):(EV.aY Yn fA.ar a).map EV.kD=[.slice 1 (a.1.map iV),V.int IntKind.i64 a.2.1,V.int IntKind.i64 a.2.2]:=by kernel_rfl
theorem rh4 (a:List Int×Int×Int):gJ ((EV.aY Yn fA.rs (pK a.1 a.2.1 a.2.2)).map EV.kD)=V.int IntKind.i64 (pK a.1 a.2.1 a.2.2):=by kernel_rfl
theorem sh1 (a:Int):Spec Tryz.prog G0 249 [V.int IntKind.i64 a] (fun r=>r= .bool (fZ a)):=by
 have h:=(dV a (fZ a) rfl).1 rfl rfl
 rw[←uh1,←rh1];exact h
theorem sh2 (a b:Int):Spec Tryz.prog G0 245 [V.int IntKind.i64 a,V.int IntKind.i64 b] (fun r=>r=V.int IntKind.i64 (dO a b)):=by
 have h:=(iT (a,b) (dO a b) rfl).1 rfl rfl
 have e1:(EV.aY Yn iR.ar ((a,b):Int×Int)).map EV.kD=[V.int IntKind.i64 a,V.int IntKind.i64 b]:=uh2 (a,b)
 have e2:gJ ((EV.aY Yn iR.rs (dO a b)).map EV.kD)=V.int IntKind.i64 (dO a b):=rh2 (a,b)
 rw[←e1,←e2];exact h
theorem sh3 (a b:Int):Spec Tryz.prog G0 250 [V.int IntKind.i64 a,V.int IntKind.i64 b] (fun r=>r=V.int IntKind.i64 (fM a b)):=by
 have h:=(aEa (a,b) (fM a b) rfl).1 rfl rfl
 have e1:(EV.aY Yn iU.ar ((a,b):Int×Int)).map EV.kD=[V.int IntKind.i64 a,V.int IntKind.i64 b]:=uh3 (a,b)
 have e2:gJ ((EV.aY Yn iU.rs (fM a b)).map EV.kD)=V.int IntKind.i64 (fM a b):=rh3 (a,b)
 rw[←e1,←e2];exact h
theorem sh4 (l:List Int)(k a:Int)(hl:l.length≤34359738368):Spec Tryz.prog G0 251 [.slice 1 (l.map iV),V.int IntKind.i64 k,V.int IntKind.i64 a] (fun r=>r=V.int IntKind.i64 (pK l k a)):=by
 have h:=(Gi (l,k,a) (pK l k a) (aG hl)).1 rfl rfl
 have e1:(EV.aY Yn fA.ar ((l,k,a):List Int×Int×Int)).map EV.kD=[.slice 1 (l.map iV),V.int IntKind.i64 k,V.int IntKind.i64 a]:=uh4 (l,k,a)
 have e2:gJ ((EV.aY Yn fA.rs (pK l k a)).map EV.kD)=V.int IntKind.i64 (pK l k a):=rh4 (l,k,a)
 rw[←e1,←e2];exact h
theorem uS (a:List Int×List Int):(EV.aY Yn dG.ar a).map EV.kD=[.slice 1 (a.1.map iV), .slice 1 (a.2.map iV)]:=by kernel_rfl
theorem uT (a:List Int×List Int):gJ ((EV.aY Yn dG.rs (iA a.1 a.2)).map EV.kD)= .tup [V.int IntKind.i64 (iA a.1 a.2).1, .bool (iA a.1 a.2).2]:=by kernel_rfl
theorem uU (a:List Int×List Int)(r:EV.kV Un dG.rs)(hr:gd (a.1.length≤34359738368∧a.2.length≤34359738368) (some (iA a.1 a.2))=some r):Spec Tryz.prog G0 193 ((EV.aY Yn dG.ar a).map EV.kD) (fun v=>v=gJ ((EV.aY Yn dG.rs r).map EV.kD)):=by
 unfold gd at hr
 split at hr
 ·rename_i hp
  have e:=Option.some.inj hr
  subst e
  rw[uS,uT]
  exact aVs uG sh1 sh2 sh3 sh4 a.1 a.2 hp
 ·cases hr
theorem uV:EV.rU Tryz.prog G0 Yn 193 dG:=fun(a:List Int×List Int) r hr=>⟨fun _ _=>uU a r hr,fun _ h=>absurd (show false=true from h) Bool.false_ne_true,fun h=>absurd (show false=true from h) Bool.false_ne_true,fun h=>absurd (show false=true from h) Bool.false_ne_true⟩
def Pi:SU:=⟨[i6,i6],[i6],false,false,fun(a:Int×Int)=>some (Qi a.1 a.2)⟩
theorem Pj:OK 196 Pi:=mkS aX3 [.tmp 4] (gc dV (gc kS (gc mJ (gc iT aC)))) func196 ntmps196 (fun a _=>(Ny a.1 a.2).trans) (fun _=>by kernel_rfl)
def aAk:SU:=⟨[i6,i6],[i6],false,false,fun(a:Int×Int)=>some (qW a.1 a.2)⟩
theorem aAl:OK 195 aAk:=mkS .n [.tmp 4] (gc iF (gc Zy aC)) func195 ntmps195 (fun a _=>(Q6 a.1 a.2).trans) (fun _=>by kernel_rfl)
def o5:SU:=⟨[i6,i6],[i6],false,false,fun(a:Int×Int)=>some (qX a.1 a.2)⟩
theorem o6:OK 252 o5:=mkS .n [.tmp 4] (gc iF aC) func252 ntmps252 (fun a _=>(Yl a.1 a.2).trans) (fun _=>by kernel_rfl)
def aJ3:SU:=⟨[i6,i6],[i6],false,false,fun(a:Int×Int)=>some (Xe a.1 a.2)⟩
theorem aJ4:OK 253 aJ3:=mkS .n [.tmp 4] (gc dR (gc zK aC)) func253 ntmps253 (fun a _=>(aH7 a.1 a.2).trans) (fun _=>by kernel_rfl)
def aAm:SU:=⟨[.st 51,i6],[i6, .bool],false,false,fun(a:D.aAQ×Int)=>some (wI a.1 a.2)⟩
theorem aAn:OK 194 aAm:=mkS bAd [.tmp 4, .tmp 5] (gc o6 (gc aJ4 aC)) func194 ntmps194 (fun a _=>(R3 a.1 a.2).trans) (fun _=>by kernel_rfl)
def o7:SU:=⟨[.st 51, .sl 173, .sl 3,i6,i6],[.sl 173,i6, .bool, .bool],true,false,fun(a:D.aAQ×(List D.aAA)×(List Int)×Int×Int)=>gd (uL D.aAA.sz a.2.1≤34000000000∧a.2.2.1.length≤100000000) (some (aT1 a.1 a.2.1 a.2.2.1 a.2.2.2.1 a.2.2.2.2))⟩
theorem o8:OK 106 o7:=mkS (.s .n (.s .n (.s .n (.s .n (.s .n (.s .n (.s .n (.s (.j ⟨[(16,3),(1,4),(20,36)],[.tr (.s 16) 2 3 true, .tr (.s 17) 3 3 true, .dat (.s 18) .bool, .ti 1 173 true],[],[]⟩ (.s .n (.s (.l ⟨[(16,3),(1,4),(22,34)],[.tr (.s 16) 2 3 true, .tr (.s 17) 3 3 true, .dat (.s 18) .bool, .nat (.s 46), .ti 1 173 true],[],[]⟩ FUEL (.s .n (.s .n (.s (.s (.s .n (.s .n (.s .n (.s (.rj 2 ⟨[(18,1),(46,3)],[.dat (.s 18) .bool],[],[]⟩ .n) .n)))) .n) .n)))) .n))) (.s (.s (.rj 3 ⟨[(82,7)],[.dat (.s 88) .bool],[],[]⟩ .n) .n) (.s .n (.s .n bC4))))))))))) [.tmp 10, .tmp 11, .tmp 12, .tmp 13] (gc zI (gc aL3 (gc d9 (gc aJ2 (gc uV (gc Pj (gc aAl (gc aAn aC)))))))) func106 ntmps106 (fun a _=>aB (Yq a.1 a.2.1 a.2.2.1 a.2.2.2.1 a.2.2.2.2)) (fun _=>by kernel_rfl)
def o9:SU:=⟨[.st 51, .sl 173, .sl 3,i6,i6],[.sl 173,i6, .bool],true,false,fun(a:D.aAQ×(List D.aAA)×(List Int)×Int×Int)=>gd (uL D.aAA.sz a.2.1≤34000000000∧a.2.2.1.length≤100000000) (some (oH a.1 a.2.1 a.2.2.1 a.2.2.2.1 a.2.2.2.2))⟩
theorem p9:OK 37 o9:=mkS .n [.tmp 10, .tmp 11, .tmp 12] (gc o8 aC) func37 ntmps37 (fun a _=>aB (Yr a.1 a.2.1 a.2.2.1 a.2.2.2.1 a.2.2.2.2)) (fun _=>by kernel_rfl)
def q9:SU:=⟨[.st 55,i6,i6,i6],[.st 55, .bool],true,false,fun(a:D.aAI×Int×Int×Int)=>gd (a.1.sz≤34359738300) (some (Hz a.1 a.2.1 a.2.2.1 a.2.2.2))⟩
theorem r9:OK 110 q9:=mkS (.s .n (.s .n (.s .n (.s .n (.s (.j ⟨[(11,3),(16,29)],[.tr (.c 3 0) 2 219 true],[],[]⟩ (.s .n (.s (.s .n (.s (.j ⟨[(11,3),(20,12)],[.dat (.s 11) i6],[],[]⟩ (.s .n (.s (.l ⟨[(11,3),(23,9)],[.dat (.s 11) i6, .nat (.s 37)],[],[]⟩ FUEL .n) .n))) (.y true none (some 13) [(1,true),(2,true),(3,true),(4,true),(6,true),(7,true),(8,true),(9,true),(10,true),(0,false),(5,false),(11,false),(12,false),(13,false)]))) .n))) .n))))) [.cell 8 55, .tmp 9] (gc nK (gc Eg aC)) func110 ntmps110 (fun a _=>aB (Yg a.1 a.2.1 a.2.2.1 a.2.2.2)) (fun _=>by kernel_rfl)
def Pk:SU:=⟨[.st 57, .sl 3,i6],[.st 57,i6, .bool],true,false,fun(a:D.World×(List Int)×Int)=>gd (a.1.sz≤34000000000∧a.2.1.length≤100000000) (some (gH a.1 a.2.1 a.2.2))⟩
theorem Pm:OK 9 Pk:=mkS (.s .n (.s .n (.s .n (.s (.r none (od 22 [10,11,14])) (.s .n (.s (.il 1 .n .n) .n)))))) [.cell 6 57, .tmp 7, .tmp 8] (gc Z8 (gc Ph (gc zK (gc p9 (gc (sIl 39) (gc r9 aC)))))) func9 ntmps9 (fun a _=>aB (Oc a.1 a.2.1 a.2.2)) (fun _=>by kernel_rfl)
def w9:SU:=⟨[.st 130, .st 130],[.bool],false,false,fun(a:D.aAO×D.aAO)=>gd (dJ (0) a.1 a.2) (some true)⟩
theorem x8:OK 198 w9:=mkS .n [.tmp 4] aC func198 ntmps198 (fun a _=>aB (Xr a.1 a.2)) (fun _=>by kernel_rfl)
def x9:SU:=⟨[.st 222, .st 222],[.bool],false,false,fun(a:D.aAD×D.aAD)=>gd (dJ (0) a.1 a.2) (some true)⟩
theorem y5:OK 200 x9:=mkS .n [.tmp 4] aC func200 ntmps200 (fun a _=>aB (Xt a.1 a.2)) (fun _=>by kernel_rfl)
def Uw:SU:=⟨[.sl 222, .sl 222],[.bool],false,false,fun(a:(List D.aAD)×(List D.aAD))=>gd (dJ (a.1.length) a.1 a.2) (some true)⟩
theorem uH:OK 112 Uw:=mkS aDd [.tmp 4] (gc y5 aC) func112 ntmps112 (fun a _=>aB (Sd a.1 a.2)) (fun _=>by kernel_rfl)
def aJ5:SU:=⟨[.st 259, .st 259],[.bool],false,false,fun(a:D.Entry×D.Entry)=>gd (dJ (0) a.1 a.2) (some true)⟩
theorem aJ6:OK 276 aJ5:=mkS .n [.tmp 4] aC func276 ntmps276 (fun a _=>aB (aHa a.1 a.2)) (fun _=>by kernel_rfl)
def aEb:SU:=⟨[.sl 259, .sl 259],[.bool],false,false,fun(a:(List D.Entry)×(List D.Entry))=>gd (dJ (a.1.length) a.1 a.2) (some true)⟩
theorem aEc:OK 255 aEb:=mkS aDd [.tmp 4] (gc aJ6 aC) func255 ntmps255 (fun a _=>aB (aCr a.1 a.2)) (fun _=>by kernel_rfl)
def aEd:SU:=⟨[.st 133, .st 133],[.bool],false,false,fun(a:D.aAH×D.aAH)=>gd (dJ (a.1.sz) a.1 a.2) (some true)⟩
theorem aEe:OK 199 aEd:=mkS .n [.tmp 4] (gc aEc aC) func199 ntmps199 (fun a _=>aB (aCs a.1 a.2)) (fun _=>by kernel_rfl)
def aEf:SU:=⟨[.st 135, .st 135],[.bool],false,false,fun(a:D.Device×D.Device)=>gd (dJ (a.1.sz) a.1 a.2) (some true)⟩
theorem aEg:OK 111 aEf:=mkS .n [.tmp 4] (gc x8 (gc uH (gc aEe aC))) func111 ntmps111 (fun a _=>aB (aCt a.1 a.2)) (fun _=>by kernel_rfl)
def aAo:SU:=⟨[.sl 135, .sl 135],[.bool],false,false,fun(a:(List D.Device)×(List D.Device))=>gd (dJ (a.1.length+(a.1.map D.Device.sz).sum) a.1 a.2) (some true)⟩
theorem aAp:OK 40 aAo:=mkS aDd [.tmp 4] (gc aEg aC) func40 ntmps40 (fun a _=>aB (K8 a.1 a.2)) (fun _=>by kernel_rfl)
def aJ7:SU:=⟨[.sl 4, .sl 4],[.bool],false,false,fun(a:(List Bool)×(List Bool))=>gd (dJ (a.1.length) a.1 a.2) (some true)⟩
theorem aJ8:OK 41 aJ7:=mkS bBy [.tmp 4] aC func41 ntmps41 (fun a _=>aB (aHb a.1 a.2)) (fun _=>by kernel_rfl)
def aJ9:SU:=⟨[.sl 5, .sl 5],[.bool],false,false,fun(a:(List Int)×(List Int))=>gd (dJ (a.1.length) a.1 a.2) (some true)⟩
theorem Md:OK 257 aJ9:=mkS bBy [.tmp 4] aC func257 ntmps257 (fun a _=>aB (aHc a.1 a.2)) (fun _=>by kernel_rfl)
def aPm:SU:=⟨[.st 274, .st 274],[.bool],false,false,fun(a:D.Box×D.Box)=>gd (dJ (a.1.sz) a.1 a.2) (some true)⟩
theorem aPn:OK 256 aPm:=mkS .n [.tmp 4] (gc Md aC) func256 ntmps256 (fun a _=>aB (aO8 a.1 a.2)) (fun _=>by kernel_rfl)
def aL4:SU:=⟨[.sl 274, .sl 274],[.bool],false,false,fun(a:(List D.Box)×(List D.Box))=>gd (dJ (a.1.length+(a.1.map D.Box.sz).sum) a.1 a.2) (some true)⟩
theorem aL5:OK 201 aL4:=mkS aDd [.tmp 4] (gc aPn aC) func201 ntmps201 (fun a _=>aB (aK6 a.1 a.2)) (fun _=>by kernel_rfl)
def Pn:SU:=⟨[.st 46, .st 46],[.bool],false,false,fun(a:D.aAF×D.aAF)=>gd (dJ (a.1.sz) a.1 a.2) (some true)⟩
theorem Po:OK 113 Pn:=mkS .n [.tmp 4] (gc aL5 aC) func113 ntmps113 (fun a _=>aB (Nn a.1 a.2)) (fun _=>by kernel_rfl)
def Gj:SU:=⟨[.st 207, .st 207],[.bool],false,false,fun(a:D.aAB×D.aAB)=>gd (dJ (a.1.sz) a.1 a.2) (some true)⟩
theorem Gl:OK 202 Gj:=mkS .n [.tmp 4] (gc Md aC) func202 ntmps202 (fun a _=>aB (Es a.1 a.2)) (fun _=>by kernel_rfl)
def Bv:SU:=⟨[.sl 207, .sl 207],[.bool],false,false,fun(a:(List D.aAB)×(List D.aAB))=>gd (dJ (a.1.length+(a.1.map D.aAB.sz).sum) a.1 a.2) (some true)⟩
theorem Bw:OK 114 Bv:=mkS aDd [.tmp 4] (gc Gl aC) func114 ntmps114 (fun a _=>aB (Ap a.1 a.2)) (fun _=>by kernel_rfl)
def aKa:SU:=⟨[.st 49, .st 49],[.bool],false,false,fun(a:D.aAJ×D.aAJ)=>gd (dJ (a.1.sz) a.1 a.2) (some true)⟩
theorem aKb:OK 42 aKa:=mkS .n [.tmp 4] (gc uH (gc Po (gc Bw aC))) func42 ntmps42 (fun a _=>aB (aHd a.1 a.2)) (fun _=>by kernel_rfl)
def Pp:SU:=⟨[.st 276, .st 276],[.bool],false,false,fun(a:D.aAG×D.aAG)=>gd (dJ (0) a.1 a.2) (some true)⟩
theorem Pq:OK 286 Pp:=mkS .n [.tmp 4] aC func286 ntmps286 (fun a _=>aB (Np a.1 a.2)) (fun _=>by kernel_rfl)
def Me:SU:=⟨[.sl 276, .sl 276],[.bool],false,false,fun(a:(List D.aAG)×(List D.aAG))=>gd (dJ (a.1.length) a.1 a.2) (some true)⟩
theorem Mf:OK 277 Me:=mkS aDd [.tmp 4] (gc Pq aC) func277 ntmps277 (fun a _=>aB (Kk a.1 a.2)) (fun _=>by kernel_rfl)
def aAq:SU:=⟨[.st 211, .st 211],[.bool],false,false,fun(a:D.aAE×D.aAE)=>gd (dJ (a.1.sz) a.1 a.2) (some true)⟩
theorem aAr:OK 258 aAq:=mkS .n [.tmp 4] (gc Mf aC) func258 ntmps258 (fun a _=>aB (K9 a.1 a.2)) (fun _=>by kernel_rfl)
def y7:SU:=⟨[.sl 211, .sl 211],[.bool],false,false,fun(a:(List D.aAE)×(List D.aAE))=>gd (dJ (a.1.length+(a.1.map D.aAE.sz).sum) a.1 a.2) (some true)⟩
theorem y9:OK 203 y7:=mkS aDd [.tmp 4] (gc aAr aC) func203 ntmps203 (fun a _=>aB (Xu a.1 a.2)) (fun _=>by kernel_rfl)
def Ux:SU:=⟨[.st 264, .st 264],[.bool],false,false,fun(a:D.aAK×D.aAK)=>gd (dJ (0) a.1 a.2) (some true)⟩
theorem Uy:OK 278 Ux:=mkS .n [.tmp 4] aC func278 ntmps278 (fun a _=>aB (Sg a.1 a.2)) (fun _=>by kernel_rfl)
def Ps:SU:=⟨[.sl 264, .sl 264],[.bool],false,false,fun(a:(List D.aAK)×(List D.aAK))=>gd (dJ (a.1.length) a.1 a.2) (some true)⟩
theorem Pt:OK 259 Ps:=mkS aDd [.tmp 4] (gc Uy aC) func259 ntmps259 (fun a _=>aB (Nq a.1 a.2)) (fun _=>by kernel_rfl)
def Ca:SU:=⟨[.st 141, .st 141],[.bool],false,false,fun(a:D.aAC×D.aAC)=>gd (dJ (a.1.sz) a.1 a.2) (some true)⟩
theorem Cb:OK 204 Ca:=mkS .n [.tmp 4] (gc Pt aC) func204 ntmps204 (fun a _=>aB (Aq a.1 a.2)) (fun _=>by kernel_rfl)
def aL6:SU:=⟨[.sl 3, .sl 3],[.bool],false,false,fun(a:(List Int)×(List Int))=>gd (dJ (a.1.length) a.1 a.2) (some true)⟩
theorem Rf:OK 11 aL6:=mkS bBy [.tmp 4] aC func11 ntmps11 (fun a _=>aB (aK7 a.1 a.2)) (fun _=>by kernel_rfl)
def aL7:SU:=⟨[.st 143, .st 143],[.bool],false,false,fun(a:D.Site×D.Site)=>gd (dJ (a.1.sz) a.1 a.2) (some true)⟩
theorem aL8:OK 115 aL7:=mkS .n [.tmp 4] (gc y9 (gc Cb (gc Rf aC))) func115 ntmps115 (fun a _=>aB (aK8 a.1 a.2)) (fun _=>by kernel_rfl)
def aKc:SU:=⟨[.sl 143, .sl 143],[.bool],false,false,fun(a:(List D.Site)×(List D.Site))=>gd (dJ (a.1.length+(a.1.map D.Site.sz).sum) a.1 a.2) (some true)⟩
theorem aKd:OK 43 aKc:=mkS aDd [.tmp 4] (gc aL8 aC) func43 ntmps43 (fun a _=>aB (aHe a.1 a.2)) (fun _=>by kernel_rfl)
def aKe:SU:=⟨[.st 51, .st 51],[.bool],false,false,fun(a:D.aAQ×D.aAQ)=>gd (dJ (0) a.1 a.2) (some true)⟩
theorem aKf:OK 44 aKe:=mkS .n [.tmp 4] aC func44 ntmps44 (fun a _=>aB (aHf a.1 a.2)) (fun _=>by kernel_rfl)
def aKg:SU:=⟨[.st 168, .st 168],[.bool],false,false,fun(a:D.aAN×D.aAN)=>gd (dJ (0) a.1 a.2) (some true)⟩
theorem aKh:OK 260 aKg:=mkS .n [.tmp 4] aC func260 ntmps260 (fun a _=>aB (aHg a.1 a.2)) (fun _=>by kernel_rfl)
def aEh:SU:=⟨[.st 170, .st 170],[.bool],false,false,fun(a:D.aAL×D.aAL)=>gd (dJ (0) a.1 a.2) (some true)⟩
theorem Eh:OK 205 aEh:=mkS .n [.tmp 4] (gc aKh aC) func205 ntmps205 (fun a _=>aB (aCu a.1 a.2)) (fun _=>by kernel_rfl)
def aAs:SU:=⟨[.sl 170, .sl 170],[.bool],false,false,fun(a:(List D.aAL)×(List D.aAL))=>gd (dJ (a.1.length) a.1 a.2) (some true)⟩
theorem aAt:OK 206 aAs:=mkS aDd [.tmp 4] (gc Eh aC) func206 ntmps206 (fun a _=>aB (L6 a.1 a.2)) (fun _=>by kernel_rfl)
def Pv:SU:=⟨[.st 173, .st 173],[.bool],false,false,fun(a:D.aAA×D.aAA)=>gd (dJ (a.1.sz) a.1 a.2) (some true)⟩
theorem Pw:OK 116 Pv:=mkS .n [.tmp 4] (gc Eh (gc aAt aC)) func116 ntmps116 (fun a _=>aB (Nr a.1 a.2)) (fun _=>by kernel_rfl)
def Mg:SU:=⟨[.sl 173, .sl 173],[.bool],false,false,fun(a:(List D.aAA)×(List D.aAA))=>gd (dJ (a.1.length+(a.1.map D.aAA.sz).sum) a.1 a.2) (some true)⟩
theorem Mh:OK 45 Mg:=mkS aDd [.tmp 4] (gc Pw aC) func45 ntmps45 (fun a _=>aB (Kl a.1 a.2)) (fun _=>by kernel_rfl)
def aEi:SU:=⟨[.st 219, .st 219],[.bool],false,false,fun(a:D.aAM×D.aAM)=>gd (dJ (0) a.1 a.2) (some true)⟩
theorem aEj:OK 207 aEi:=mkS .n [.tmp 4] aC func207 ntmps207 (fun a _=>aB (aCv a.1 a.2)) (fun _=>by kernel_rfl)
def aAu:SU:=⟨[.sl 219, .sl 219],[.bool],false,false,fun(a:(List D.aAM)×(List D.aAM))=>gd (dJ (a.1.length) a.1 a.2) (some true)⟩
theorem aAv:OK 117 aAu:=mkS aDd [.tmp 4] (gc aEj aC) func117 ntmps117 (fun a _=>aB (L8 a.1 a.2)) (fun _=>by kernel_rfl)
def aAw:SU:=⟨[.st 55, .st 55],[.bool],false,false,fun(a:D.aAI×D.aAI)=>gd (dJ (a.1.sz) a.1 a.2) (some true)⟩
theorem aAx:OK 46 aAw:=mkS .n [.tmp 4] (gc aAv aC) func46 ntmps46 (fun a _=>aB (L9 a.1 a.2)) (fun _=>by kernel_rfl)
def aKi:SU:=⟨[.st 57, .st 57],[.bool],false,false,fun(a:D.World×D.World)=>gd (dJ (a.1.sz) a.1 a.2) (some true)⟩
theorem aKj:OK 10 aKi:=mkS .n [.tmp 4] (gc aAp (gc aJ8 (gc aKb (gc aKd (gc aKf (gc Mh (gc aAx aC))))))) func10 ntmps10 (fun a _=>aB (aHh a.1 a.2)) (fun _=>by kernel_rfl)
def Mi:SU:=⟨[.sl 222,i6],[.sl 222,i6],false,true,fun(a:(List D.aAD)×Int)=>gd (gU (a.1.length) (aA aF a.1) a.2) (some (aX aO a.1 a.2))⟩
theorem pE:OK 118 Mi:=mkW (.s .n (.s (.j ⟨[(1,1),(3,49)],[.dat (.s 1) i6, .ti 0 222 true],[],[]⟩ (.s .n (.s (.l ⟨[(1,1),(3,49)],[.dat (.s 1) i6, .nat (.s 5), .ti 0 222 true],[],[]⟩ FUEL .n) .n))) .n)) [.tmp 4] aC func118 ntmps118 (fun a _=>aB (Km a.1 a.2)) (fun _=>by kernel_rfl)
def A7:SU:=⟨[.sl 259,i6],[.sl 259,i6],false,true,fun(a:(List D.Entry)×Int)=>gd (gU (a.1.length) (aA bY a.1) a.2) (some (aX eP a.1 a.2))⟩
theorem A8:OK 119 A7:=mkW (.s .n (.s (.j ⟨[(1,1),(3,37)],[.dat (.s 1) i6, .ti 0 259 true],[],[]⟩ (.s .n (.s (.l ⟨[(1,1),(3,37)],[.dat (.s 1) i6, .nat (.s 5), .ti 0 259 true],[],[]⟩ FUEL .n) .n))) .n)) [.tmp 4] aC func119 ntmps119 (fun a _=>aB (Xv a.1 a.2)) (fun _=>by kernel_rfl)
def Uz:SU:=⟨[.sl 135,i6],[.sl 135,i6],false,true,fun(a:(List D.Device)×Int)=>gd (gU (a.1.length+(a.1.map D.Device.sz).sum) (aA aL a.1) a.2) (some (aX bN a.1 a.2))⟩
theorem Va:OK 47 Uz:=mkW (.s .n (.s (.j ⟨[(1,1),(3,75)],[.dat (.s 1) i6, .ti 0 135 true],[],[]⟩ (.s .n (.s (.l ⟨[(1,1),(3,75)],[.dat (.s 1) i6, .nat (.s 5), .ti 0 135 true],[],[]⟩ FUEL .n) .n))) .n)) [.tmp 4] (gc pE (gc A8 aC)) func47 ntmps47 (fun a _=>aB (Si a.1 a.2)) (fun _=>by kernel_rfl)
def aAy:SU:=⟨[.sl 4,i6],[.sl 4,i6],false,true,fun(a:(List Bool)×Int)=>gd (gU (a.1.length) (aA eF a.1) a.2) (some (aX mkB a.1 a.2))⟩
theorem aAz:OK 48 aAy:=mkW (.s .n (.s (.j ⟨[(1,1),(3,15)],[.dat (.s 1) i6, .ti 0 4 true],[],[]⟩ (.s .n (.s (.l ⟨[(1,1),(3,15)],[.dat (.s 1) i6, .nat (.s 5), .ti 0 4 true],[],[]⟩ FUEL .n) .n))) .n)) [.tmp 4] aC func48 ntmps48 (fun a _=>aB (M0 a.1 a.2)) (fun _=>by kernel_rfl)
def aA0:SU:=⟨[.sl 5,i6],[.sl 5,i6],false,true,fun(a:(List Int)×Int)=>gd (gU (a.1.length) (aA eF a.1) a.2) (some (aX mkU a.1 a.2))⟩
theorem zL:OK 209 aA0:=mkW (.s .n (.s (.j ⟨[(1,1),(3,14)],[.dat (.s 1) i6, .ti 0 5 true],[],[]⟩ (.s .n (.s (.l ⟨[(1,1),(3,14)],[.dat (.s 1) i6, .nat (.s 5), .ti 0 5 true],[],[]⟩ FUEL .n) .n))) .n)) [.tmp 4] aC func209 ntmps209 (fun a _=>aB (M3 a.1 a.2)) (fun _=>by kernel_rfl)
def aEk:SU:=⟨[.sl 274,i6],[.sl 274,i6],false,true,fun(a:(List D.Box)×Int)=>gd (gU (a.1.length+(a.1.map D.Box.sz).sum) (aA dP a.1) a.2) (some (aX dY a.1 a.2))⟩
theorem aEl:OK 208 aEk:=mkW (.s .n (.s (.j ⟨[(1,1),(3,35)],[.dat (.s 1) i6, .ti 0 274 true],[],[]⟩ (.s .n (.s (.l ⟨[(1,1),(3,35)],[.dat (.s 1) i6, .nat (.s 5), .ti 0 274 true],[],[]⟩ FUEL .n) .n))) .n)) [.tmp 4] (gc zL aC) func208 ntmps208 (fun a _=>aB (aCw a.1 a.2)) (fun _=>by kernel_rfl)
def Gm:SU:=⟨[.st 46,i6],[.st 46,i6],false,true,fun(a:D.aAF×Int)=>gd (gU (a.1.sz) (aJ a.1) a.2) (some (cO a.1 a.2))⟩
theorem Gn:OK 120 Gm:=mkW .n [.tmp 4] (gc aEl aC) func120 ntmps120 (fun a _=>aB (Et a.1 a.2)) (fun _=>by kernel_rfl)
def wL:SU:=⟨[.sl 207,i6],[.sl 207,i6],false,true,fun(a:(List D.aAB)×Int)=>gd (gU (a.1.length+(a.1.map D.aAB.sz).sum) (aA aI a.1) a.2) (some (aX aT a.1 a.2))⟩
theorem wM:OK 121 wL:=mkW (.s .n (.s (.j ⟨[(1,1),(3,35)],[.dat (.s 1) i6, .ti 0 207 true],[],[]⟩ (.s .n (.s (.l ⟨[(1,1),(3,35)],[.dat (.s 1) i6, .nat (.s 5), .ti 0 207 true],[],[]⟩ FUEL .n) .n))) .n)) [.tmp 4] (gc zL aC) func121 ntmps121 (fun a _=>aB (wJ a.1 a.2)) (fun _=>by kernel_rfl)
def aA1:SU:=⟨[.st 49,i6],[.st 49,i6],false,true,fun(a:D.aAJ×Int)=>gd (gU (a.1.sz) (aR a.1) a.2) (some (fG a.1 a.2))⟩
theorem aA2:OK 49 aA1:=mkW .n [.tmp 4] (gc pE (gc Gn (gc wM aC))) func49 ntmps49 (fun a _=>aB (M4 a.1 a.2)) (fun _=>by kernel_rfl)
def aEm:SU:=⟨[i6],[.str],false,false,fun(a:Int)=>eT a⟩
theorem Ei:OK 122 aEm:=mkS (.s .n (.s .n (.s .n (.s (.j ⟨[(0,1),(2,1),(2,12)],[.dat (.s 3) (.str)],[],[]⟩ (.s (.l ⟨[(0,1),(2,1),(2,12)],[.dat (.s 0) i6, .dat (.s 3) (.str)],[],[]⟩ FUEL .n) .n)) .n)))) [.tmp 2] aC func122 ntmps122 (fun _ _=>id) (fun _=>by kernel_rfl)
def Cc:SU:=⟨[.sl 276,i6],[.sl 276,i6],false,true,fun(a:(List D.aAG)×Int)=>gd (gU (a.1.length) (aA aS a.1) a.2) (some (aX bQ a.1 a.2))⟩
theorem Ce:OK 210 Cc:=mkW (.s .n (.s (.j ⟨[(1,1),(3,37)],[.dat (.s 1) i6, .ti 0 276 true],[],[]⟩ (.s .n (.s (.l ⟨[(1,1),(3,37)],[.dat (.s 1) i6, .nat (.s 5), .ti 0 276 true],[],[]⟩ FUEL .n) .n))) .n)) [.tmp 4] aC func210 ntmps210 (fun a _=>aB (Ar a.1 a.2)) (fun _=>by kernel_rfl)
def Px:SU:=⟨[.sl 211,i6],[.sl 211,i6],false,true,fun(a:(List D.aAE)×Int)=>gd (gU (a.1.length+(a.1.map D.aAE.sz).sum) (aA aK a.1) a.2) (some (aX cK a.1 a.2))⟩
theorem Py:OK 123 Px:=mkW (.s .n (.s (.j ⟨[(1,1),(3,28)],[.dat (.s 1) i6, .ti 0 211 true],[],[]⟩ (.s .n (.s (.l ⟨[(1,1),(3,28)],[.dat (.s 1) i6, .nat (.s 5), .ti 0 211 true],[],[]⟩ FUEL .n) .n))) .n)) [.tmp 4] (gc Ce aC) func123 ntmps123 (fun a _=>aB (Ns a.1 a.2)) (fun _=>by kernel_rfl)
def Gp:SU:=⟨[.sl 264,i6],[.sl 264,i6],false,true,fun(a:(List D.aAK)×Int)=>gd (gU (a.1.length) (aA aQ a.1) a.2) (some (aX bX a.1 a.2))⟩
theorem Gq:OK 124 Gp:=mkW (.s .n (.s (.j ⟨[(1,1),(3,28)],[.dat (.s 1) i6, .ti 0 264 true],[],[]⟩ (.s .n (.s (.l ⟨[(1,1),(3,28)],[.dat (.s 1) i6, .nat (.s 5), .ti 0 264 true],[],[]⟩ FUEL .n) .n))) .n)) [.tmp 4] aC func124 ntmps124 (fun a _=>aB (Eu a.1 a.2)) (fun _=>by kernel_rfl)
def aEn:SU:=⟨[.sl 3,i6],[.sl 3,i6],false,true,fun(a:(List Int)×Int)=>gd (gU (a.1.length) (aA eF a.1) a.2) (some (aX mkI a.1 a.2))⟩
theorem Ej:OK 13 aEn:=mkW (.s .n (.s (.j ⟨[(1,1),(3,13)],[.dat (.s 1) i6, .ti 0 3 true],[],[]⟩ (.s .n (.s (.l ⟨[(1,1),(3,13)],[.dat (.s 1) i6, .nat (.s 5), .ti 0 3 true],[],[]⟩ FUEL .n) .n))) .n)) [.tmp 4] aC func13 ntmps13 (fun a _=>aB (aCx a.1 a.2)) (fun _=>by kernel_rfl)
def aA3:SU:=⟨[.sl 143,i6],[.sl 143,i6],false,true,fun(a:(List D.Site)×Int)=>gd (gU (a.1.length+(a.1.map D.Site.sz).sum) (aA bS a.1) a.2) (some (aX eQ a.1 a.2))⟩
theorem aA4:OK 50 aA3:=mkW (.s .n (.s (.j ⟨[(1,1),(3,53)],[.dat (.s 1) i6, .ti 0 143 true],[],[]⟩ (.s .n (.s (.l ⟨[(1,1),(3,53)],[.dat (.s 1) i6, .nat (.s 5), .ti 0 143 true],[],[]⟩ FUEL .n) .n))) .n)) [.tmp 4] (gc Ei (gc Py (gc Gq (gc Ej aC)))) func50 ntmps50 (fun a _=>aB (M5 a.1 a.2)) (fun _=>by kernel_rfl)
def Vb:SU:=⟨[.sl 170,i6],[.sl 170,i6],false,true,fun(a:(List D.aAL)×Int)=>gd (gU (a.1.length) (aA bE a.1) a.2) (some (aX dM a.1 a.2))⟩
theorem Vd:OK 125 Vb:=mkW (.s .n (.s (.j ⟨[(1,1),(3,44)],[.dat (.s 1) i6, .ti 0 170 true],[],[]⟩ (.s .n (.s (.l ⟨[(1,1),(3,44)],[.dat (.s 1) i6, .nat (.s 5), .ti 0 170 true],[],[]⟩ FUEL .n) .n))) .n)) [.tmp 4] aC func125 ntmps125 (fun a _=>aB (Sj a.1 a.2)) (fun _=>by kernel_rfl)
def Cf:SU:=⟨[.sl 173,i6],[.sl 173,i6],false,true,fun(a:(List D.aAA)×Int)=>gd (gU (a.1.length+(a.1.map D.aAA.sz).sum) (aA aN a.1) a.2) (some (aX bC a.1 a.2))⟩
theorem Cg:OK 51 Cf:=mkW (.s .n (.s (.j ⟨[(1,1),(3,63)],[.dat (.s 1) i6, .ti 0 173 true],[],[]⟩ (.s .n (.s (.l ⟨[(1,1),(3,63)],[.dat (.s 1) i6, .nat (.s 5), .ti 0 173 true],[],[]⟩ FUEL .n) .n))) .n)) [.tmp 4] (gc Vd aC) func51 ntmps51 (fun a _=>aB (Au a.1 a.2)) (fun _=>by kernel_rfl)
def Ve:SU:=⟨[.sl 219,i6],[.sl 219,i6],false,true,fun(a:(List D.aAM)×Int)=>gd (gU (a.1.length) (aA bL a.1) a.2) (some (aX dF a.1 a.2))⟩
theorem Vf:OK 126 Ve:=mkW (.s .n (.s (.j ⟨[(1,1),(3,37)],[.dat (.s 1) i6, .ti 0 219 true],[],[]⟩ (.s .n (.s (.l ⟨[(1,1),(3,37)],[.dat (.s 1) i6, .nat (.s 5), .ti 0 219 true],[],[]⟩ FUEL .n) .n))) .n)) [.tmp 4] aC func126 ntmps126 (fun a _=>aB (Sk a.1 a.2)) (fun _=>by kernel_rfl)
def Vg:SU:=⟨[.st 55,i6],[.st 55,i6],false,true,fun(a:D.aAI×Int)=>gd (gU (a.1.sz) (aU a.1) a.2) (some (eD a.1 a.2))⟩
theorem Vh:OK 52 Vg:=mkW .n [.tmp 4] (gc Vf aC) func52 ntmps52 (fun a _=>aB (Sl a.1 a.2)) (fun _=>by kernel_rfl)
def aA5:SU:=⟨[.st 57,i6],[.st 57,i6],false,true,fun(a:D.World×Int)=>gd (gU (a.1.sz) (dK a.1) a.2) (some (bR a.1 a.2))⟩
theorem aA6:OK 12 aA5:=mkW .n [.tmp 4] (gc Va (gc aAz (gc aA2 (gc aA4 (gc Cg (gc Vh aC)))))) func12 ntmps12 (fun a _=>aB (M6 a.1 a.2)) (fun _=>by kernel_rfl)
def Mj:SU:=⟨[.sl 222,i6],[i6],false,false,fun(a:(List D.aAD)×Int)=>gd (bD (aX aO) (aA aF) a.1 a.2) (some (a.2+((aA aF a.1:Nat):Int)))⟩
theorem pF:OK 127 Mj:=mkS (.s .n (.s (.jx ⟨[(1,1),(2,62)],[.dat (.s 1) i6],[],[]⟩ (.s .n (.s (.l ⟨[(1,1),(2,62)],[.dat (.s 1) i6, .nat (.s 5)],[],[]⟩ FUEL .n) .n))) .n)) [.tmp 4] aC func127 ntmps127 (fun a _=>aB (Kn a.1 a.2)) (fun _=>by kernel_rfl)
def A9:SU:=⟨[.sl 259,i6],[i6],false,false,fun(a:(List D.Entry)×Int)=>gd (bD (aX eP) (aA bY) a.1 a.2) (some (a.2+((aA bY a.1:Nat):Int)))⟩
theorem C8:OK 128 A9:=mkS bBz [.tmp 4] aC func128 ntmps128 (fun a _=>aB (Xw a.1 a.2)) (fun _=>by kernel_rfl)
def Vi:SU:=⟨[.sl 135,i6],[i6],false,false,fun(a:(List D.Device)×Int)=>gd (bD (aX bN) (aA aL) a.1 a.2) (some (a.2+((aA aL a.1:Nat):Int)))⟩
theorem Vj:OK 53 Vi:=mkS (.s .n (.s (.jx ⟨[(1,1),(2,94)],[.dat (.s 1) i6],[],[]⟩ (.s .n (.s (.l ⟨[(1,1),(2,94)],[.dat (.s 1) i6, .nat (.s 5)],[],[]⟩ FUEL .n) .n))) .n)) [.tmp 4] (gc pF (gc C8 aC)) func53 ntmps53 (fun a _=>aB (Sm a.1 a.2)) (fun _=>by kernel_rfl)
def aA7:SU:=⟨[.sl 4,i6],[i6],false,false,fun(a:(List Bool)×Int)=>gd (bD (aX mkB) (aA eF) a.1 a.2) (some (a.2+((aA eF a.1:Nat):Int)))⟩
theorem aA8:OK 54 aA7:=mkS (.s .n (.s (.jx ⟨[(1,1),(2,18)],[.dat (.s 1) i6],[],[]⟩ (.s .n (.s (.l ⟨[(1,1),(2,18)],[.dat (.s 1) i6, .nat (.s 5)],[],[]⟩ FUEL .n) .n))) .n)) [.tmp 4] aC func54 ntmps54 (fun a _=>aB (M7 a.1 a.2)) (fun _=>by kernel_rfl)
def aA9:SU:=⟨[.sl 5,i6],[i6],false,false,fun(a:(List Int)×Int)=>gd (bD (aX mkU) (aA eF) a.1 a.2) (some (a.2+((aA eF a.1:Nat):Int)))⟩
theorem zM:OK 212 aA9:=mkS (.s .n (.s (.jx ⟨[(1,1),(2,17)],[.dat (.s 1) i6],[],[]⟩ (.s .n (.s (.l ⟨[(1,1),(2,17)],[.dat (.s 1) i6, .nat (.s 5)],[],[]⟩ FUEL .n) .n))) .n)) [.tmp 4] aC func212 ntmps212 (fun a _=>aB (M8 a.1 a.2)) (fun _=>by kernel_rfl)
def aEo:SU:=⟨[.sl 274,i6],[i6],false,false,fun(a:(List D.Box)×Int)=>gd (bD (aX dY) (aA dP) a.1 a.2) (some (a.2+((aA dP a.1:Nat):Int)))⟩
theorem aEp:OK 211 aEo:=mkS bC6 [.tmp 4] (gc zM aC) func211 ntmps211 (fun a _=>aB (aCy a.1 a.2)) (fun _=>by kernel_rfl)
def Gr:SU:=⟨[.st 46,i6],[i6],false,false,fun(a:D.aAF×Int)=>gd (bD cO aJ a.1 a.2) (some (a.2+((aJ a.1:Nat):Int)))⟩
theorem Gs:OK 129 Gr:=mkS .n [.tmp 4] (gc aEp aC) func129 ntmps129 (fun a _=>aB (Ew a.1 a.2)) (fun _=>by kernel_rfl)
def wN:SU:=⟨[.sl 207,i6],[i6],false,false,fun(a:(List D.aAB)×Int)=>gd (bD (aX aT) (aA aI) a.1 a.2) (some (a.2+((aA aI a.1:Nat):Int)))⟩
theorem wO:OK 130 wN:=mkS bC6 [.tmp 4] (gc zM aC) func130 ntmps130 (fun a _=>aB (wK a.1 a.2)) (fun _=>by kernel_rfl)
def aBa:SU:=⟨[.st 49,i6],[i6],false,false,fun(a:D.aAJ×Int)=>gd (bD fG aR a.1 a.2) (some (a.2+((aR a.1:Nat):Int)))⟩
theorem aBb:OK 55 aBa:=mkS .n [.tmp 4] (gc pF (gc Gs (gc wO aC))) func55 ntmps55 (fun a _=>aB (M9 a.1 a.2)) (fun _=>by kernel_rfl)
def Ch:SU:=⟨[.sl 276,i6],[i6],false,false,fun(a:(List D.aAG)×Int)=>gd (bD (aX bQ) (aA aS) a.1 a.2) (some (a.2+((aA aS a.1:Nat):Int)))⟩
theorem Ci:OK 213 Ch:=mkS bBz [.tmp 4] aC func213 ntmps213 (fun a _=>aB (Av a.1 a.2)) (fun _=>by kernel_rfl)
def Pz:SU:=⟨[.sl 211,i6],[i6],false,false,fun(a:(List D.aAE)×Int)=>gd (bD (aX cK) (aA aK) a.1 a.2) (some (a.2+((aA aK a.1:Nat):Int)))⟩
theorem Qa:OK 131 Pz:=mkS aZ9 [.tmp 4] (gc Ci aC) func131 ntmps131 (fun a _=>aB (Nt a.1 a.2)) (fun _=>by kernel_rfl)
def Gt:SU:=⟨[.sl 264,i6],[i6],false,false,fun(a:(List D.aAK)×Int)=>gd (bD (aX bX) (aA aQ) a.1 a.2) (some (a.2+((aA aQ a.1:Nat):Int)))⟩
theorem Gu:OK 132 Gt:=mkS aZ9 [.tmp 4] aC func132 ntmps132 (fun a _=>aB (Ex a.1 a.2)) (fun _=>by kernel_rfl)
def aEq:SU:=⟨[.sl 3,i6],[i6],false,false,fun(a:(List Int)×Int)=>gd (bD (aX mkI) (aA eF) a.1 a.2) (some (a.2+((aA eF a.1:Nat):Int)))⟩
theorem aEr:OK 133 aEq:=mkS (.s .n (.s (.jx ⟨[(1,1),(2,16)],[.dat (.s 1) i6],[],[]⟩ (.s .n (.s (.l ⟨[(1,1),(2,16)],[.dat (.s 1) i6, .nat (.s 5)],[],[]⟩ FUEL .n) .n))) .n)) [.tmp 4] aC func133 ntmps133 (fun a _=>aB (aCz a.1 a.2)) (fun _=>by kernel_rfl)
def aBc:SU:=⟨[.sl 143,i6],[i6],false,false,fun(a:(List D.Site)×Int)=>gd (bD (aX eQ) (aA bS) a.1 a.2) (some (a.2+((aA bS a.1:Nat):Int)))⟩
theorem aBd:OK 56 aBc:=mkS (.s .n (.s (.jx ⟨[(1,1),(2,66)],[.dat (.s 1) i6],[],[]⟩ (.s .n (.s (.l ⟨[(1,1),(2,66)],[.dat (.s 1) i6, .nat (.s 5)],[],[]⟩ FUEL (.s .n (.s (.s (.s (.s (.r none (od 8 [6])) .n) .n) .n) .n))) .n))) .n)) [.tmp 4] (gc Ei (gc Qa (gc Gu (gc aEr aC)))) func56 ntmps56 (fun a _=>aB (N7 a.1 a.2)) (fun _=>by kernel_rfl)
def Vk:SU:=⟨[.sl 170,i6],[i6],false,false,fun(a:(List D.aAL)×Int)=>gd (bD (aX dM) (aA bE) a.1 a.2) (some (a.2+((aA bE a.1:Nat):Int)))⟩
theorem Vl:OK 134 Vk:=mkS (.s .n (.s (.jx ⟨[(1,1),(2,55)],[.dat (.s 1) i6],[],[]⟩ (.s .n (.s (.l ⟨[(1,1),(2,55)],[.dat (.s 1) i6, .nat (.s 5)],[],[]⟩ FUEL .n) .n))) .n)) [.tmp 4] aC func134 ntmps134 (fun a _=>aB (Sq a.1 a.2)) (fun _=>by kernel_rfl)
def Cj:SU:=⟨[.sl 173,i6],[i6],false,false,fun(a:(List D.aAA)×Int)=>gd (bD (aX bC) (aA aN) a.1 a.2) (some (a.2+((aA aN a.1:Nat):Int)))⟩
theorem Ck:OK 57 Cj:=mkS (.s .n (.s (.jx ⟨[(1,1),(2,78)],[.dat (.s 1) i6],[],[]⟩ (.s .n (.s (.l ⟨[(1,1),(2,78)],[.dat (.s 1) i6, .nat (.s 5)],[],[]⟩ FUEL .n) .n))) .n)) [.tmp 4] (gc Vl aC) func57 ntmps57 (fun a _=>aB (Aw a.1 a.2)) (fun _=>by kernel_rfl)
def Vm:SU:=⟨[.sl 219,i6],[i6],false,false,fun(a:(List D.aAM)×Int)=>gd (bD (aX dF) (aA bL) a.1 a.2) (some (a.2+((aA bL a.1:Nat):Int)))⟩
theorem Vn:OK 135 Vm:=mkS bBz [.tmp 4] aC func135 ntmps135 (fun a _=>aB (Sr a.1 a.2)) (fun _=>by kernel_rfl)
def Vo:SU:=⟨[.st 55,i6],[i6],false,false,fun(a:D.aAI×Int)=>gd (bD eD aU a.1 a.2) (some (a.2+((aU a.1:Nat):Int)))⟩
theorem Vp:OK 58 Vo:=mkS .n [.tmp 4] (gc Vn aC) func58 ntmps58 (fun a _=>aB (Su a.1 a.2)) (fun _=>by kernel_rfl)
def aBe:SU:=⟨[.st 57,i6],[i6],false,false,fun(a:D.World×Int)=>gd (bD bR dK a.1 a.2) (some (a.2+((dK a.1:Nat):Int)))⟩
theorem aBf:OK 14 aBe:=mkS .n [.tmp 4] (gc Vj (gc aA8 (gc aBb (gc aBd (gc Ck (gc Vp aC)))))) func14 ntmps14 (fun a _=>aB (N8 a.1 a.2)) (fun _=>by kernel_rfl)
def jP:SU:=⟨[.st 39, .sl 3,i6],[.bool],false,false,fun(a:D.World×(List Int)×Int)=>gd (a.1.ok) (some true)⟩
theorem uI:OK 3 jP:=mkS (.s .n (.s .n (.s .n (.s .n (.s .n (.s (.pl .n) (.s .n (.s .n (.s .n (.s (.s (.rj 5 ⟨[(56,10)],[.dat (.s 65) .bool],[],[]⟩ .n) .n) (.s (.s (.r none (od 5 [2,3])) .n) (.s .n (.s .n (.s .n (.s .n (.s (.s (.rj 3 ⟨[(84,16)],[.dat (.s 99) .bool],[],[]⟩ .n) .n) (.s .n (.s .n (.s .n (.s .n (.s .n (.s .n (.s .n (.s (.s (.rj 5 ⟨[(125,10)],[.dat (.s 134) .bool],[],[]⟩ .n) .n) .n)))))))))))))))))))))))) [.tmp 6] (gc aIh (gc aIw (gc Rb (gc Pf (gc Pm (gc aKj (gc Rf (gc aA6 (gc Ej (gc aBf aC)))))))))) func3 ntmps3 (fun a _=>aB (uD a.1 a.2.1 a.2.2)) (fun _=>by kernel_rfl)
end
end Go.VK
