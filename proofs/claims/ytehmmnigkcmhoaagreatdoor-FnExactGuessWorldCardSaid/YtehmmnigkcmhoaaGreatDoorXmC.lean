import Derived.Test.YtehmmnigkcmhoaaGreatDoorXmH
import Derived.Test.YtehmmnigkcmhoaaGreatDoorXmL
import Derived.Test.YtehmmnigkcmhoaaGreatDoorXmQ
import Derived.Test.YtehmmnigkcmhoaaGreatDoorXmPy
/- Printed by wip/tools: models, walks, proofs. -/
set_option linter.unusedVariables false
set_option linter.unusedSimpArgs false
set_option maxRecDepth 100000
set_option maxHeartbeats 4000000
namespace Go.VK
open Go.RowKit Go.Proofs Tryz
noncomputable section
def i6:EV.Kd:= .int .i64
def aDk:EV.An:=(.s .n (.s .n (.s (.jx ⟨[(4,2),(5,16)],[],[],[]⟩ (.s .n (.s (.l ⟨[(4,2),(5,16)],[.nat (.s 5)],[],[]⟩ FUEL (.s .n (.s (.s (.s (.r none (od 10 [8])) .n) .n) .n))) .n))) .n)))
def aV5:EV.An:=(.s .n (.s .n (.s .n (.s (.jx ⟨[(1,1),(2,2),(6,14)],[.dat (.s 1) i6],[],[]⟩ (.s .n (.s (.l ⟨[(1,1),(2,2),(6,14)],[.dat (.s 1) i6, .nat (.s 5)],[],[]⟩ FUEL .n) .n))) .n))))
def aUk:EV.An:=(.s .n (.s (.s (.s (.r none (od 9 [])) .n) .n) .n))
def bCa:EV.An:=(.s .n (.s .n (.s (.jx ⟨[(4,2),(5,15)],[],[],[]⟩ (.s .n (.s (.l ⟨[(4,2),(5,15)],[.nat (.s 5)],[],[]⟩ FUEL aUk) .n))) .n)))
def bCb:EV.An:=(.s .n (.s (.jx ⟨[(1,1),(2,46)],[.dat (.s 1) i6],[],[]⟩ (.s .n (.s (.l ⟨[(1,1),(2,46)],[.dat (.s 1) i6, .nat (.s 5)],[],[]⟩ FUEL .n) .n))) .n))
def bDe:EV.An:=(.s .n (.s .n (.s (.j ⟨[(0,2),(3,16)],[.dat (.s 5) i6],[],[]⟩ (.s (.l ⟨[(0,2),(3,16)],[.dat (.s 0) i6, .dat (.s 1) i6, .dat (.s 5) i6],[],[]⟩ FUEL (.s .n (.s (.s (.j ⟨[(5,1),(2,7)],[.dat (.s 5) i6],[],[]⟩ .n) .n) .n))) .n)) .n)))
def aZ0:EV.An:=(.s .n (.s .n (.s (.s (.s .n (.r (some 5) (od 8 [3,4,5,6,7]))) .n) .n)))
def aZ1:EV.An:=(.s .n (.s (.s (.r (some 9) (od 12 [7,8,9,10,11])) .n) .n))
def bDf:EV.An:=(.s (.r none [(0,true),(1,true),(2,true),(4,true),(5,true),(3,false),(6,false),(7,false),(8,true),(9,true),(10,true),(11,true),(12,true)]) .n)
def bDg:EV.An:=(.s .n (.s (.s (.s (.r none [(0,true),(1,true),(2,true),(3,true),(5,true),(6,true),(7,true),(8,true),(4,false),(9,false),(10,true)]) .n) .n) .n))
def bDh:EV.An:=(.s .n (.s (.jx ⟨[(1,1),(2,44)],[.dat (.s 1) i6],[],[]⟩ (.s .n (.s (.l ⟨[(1,1),(2,44)],[.dat (.s 1) i6, .nat (.s 5)],[],[]⟩ FUEL .n) .n))) .n))
def bAl:EV.An:=(.s .n (.s (.jx ⟨[(1,1),(2,35)],[.dat (.s 1) i6],[],[]⟩ (.s .n (.s (.l ⟨[(1,1),(2,35)],[.dat (.s 1) i6, .nat (.s 5)],[],[]⟩ FUEL .n) .n))) .n))
def bAm:EV.An:=(.s .n (.s (.y true none (some 9) [(0,true),(1,true),(2,true),(3,true),(5,true),(6,true),(4,false),(7,false),(8,false),(9,false)]) .n))
def aYf:EV.An:=(.s .n (.s (.s (.rj 4 ⟨[(8,5)],[.dat (.s 12) .bool],[],[]⟩ .n) .n) .n))
def bAn:EV.An:=(.y false (some 7) (some 8) [(0,true),(1,true),(3,true),(4,true),(2,false),(5,false),(6,true),(7,false),(8,false)])
def bAo:EV.An:=(.s .n (.s (.s (.s .n (.s (.rj 5 ⟨[(21,28)],[.dat (.s 48) .bool],[],[]⟩ (.r none (od 32 [2,7,13]))) .n)) .n) .n))
def bAp:EV.An:=(.s .n (.s (.s (.r none [(0,true),(1,true),(2,true),(4,true),(5,true),(3,false),(6,true)]) .n) .n))
def bAq:EV.An:=(.s .n (.s .n (.s (.rj 3 ⟨[(6,1),(5,7)],[.dat (.s 6) .bool],[],[]⟩ .n) .n)))
def bAr:EV.An:=(.s .n (.s (.s (.rj 4 ⟨[(8,10)],[.dat (.s 17) .bool],[],[]⟩ .n) .n) .n))
def bAs:EV.An:=(.s .n (.s (.rj 5 ⟨[(2,1),(4,17)],[.dat (.s 2) .bool],[],[]⟩ .n) .n))
def bAt:EV.An:=(.s .n (.s (.rj 4 ⟨[(6,1),(3,5)],[.dat (.s 6) .bool],[],[]⟩ .n) .n))
def bAu:EV.An:=(.s .n (.s (.rj 3 ⟨[(2,1),(2,5)],[.dat (.s 2) .bool],[],[]⟩ .n) .n))
def Tt:SU:=⟨[.sl 230,i6],[i6],false,false,fun(a:(List D.aAD)×Int)=>gd (fE (gW (fun _:D.aAD=>True)) a.1 a.2) (some (dQ (a.1.length) a.2))⟩
theorem uD:OK 60 Tt:=mkS .n [.tmp 4] aC func60 ntmps60 (fun a _=>aB (Sa a.1 a.2)) (fun _=>by kernel_rfl)
def aDl:SU:=⟨[.sl 303,i6],[i6],false,false,fun(a:(List D.Entry)×Int)=>gd (fE (gW (fun _:D.Entry=>True)) a.1 a.2) (some (dQ (a.1.length) a.2))⟩
theorem aDm:OK 214 aDl:=mkS .n [.tmp 4] aC func214 ntmps214 (fun a _=>aB (aCq a.1 a.2)) (fun _=>by kernel_rfl)
def aDn:SU:=⟨[.st 108,i6],[i6],false,false,fun(a:D.aAH×Int)=>gd (fE D.aAH.ok a.1 a.2) (some (dQ (a.1.sz) a.2))⟩
theorem aDo:OK 136 aDn:=mkS .n [.tmp 4] (gc aDm aC) func136 ntmps136 (fun a _=>aB (aCr a.1 a.2)) (fun _=>by kernel_rfl)
def aDp:SU:=⟨[.st 110,i6],[i6],false,false,fun(a:D.Device×Int)=>gd (fE D.Device.ok a.1 a.2) (some (dQ (a.1.sz) a.2))⟩
theorem aDq:OK 59 aDp:=mkS .n [.tmp 4] (gc uD (gc aDo aC)) func59 ntmps59 (fun a _=>aB (aCs a.1 a.2)) (fun _=>by kernel_rfl)
def T9:SU:=⟨[.sl 110,i6],[i6],false,false,fun(a:(List D.Device)×Int)=>gd (fE (gW D.Device.ok) a.1 a.2) (some (dQ (a.1.length+(a.1.map D.Device.sz).sum) a.2))⟩
theorem U0:OK 17 T9:=mkS aV5 [.tmp 4] (gc aDq aC) func17 ntmps17 (fun a _=>aB (K4 a.1 a.2)) (fun _=>by kernel_rfl)
def aIi:SU:=⟨[.sl 4,i6],[i6],false,false,fun(a:(List Bool)×Int)=>gd (fE (gW (fun _:Bool=>True)) a.1 a.2) (some (dQ (a.1.length) a.2))⟩
theorem aIj:OK 18 aIi:=mkS .n [.tmp 4] aC func18 ntmps18 (fun a _=>aB (aG6 a.1 a.2)) (fun _=>by kernel_rfl)
def aIk:SU:=⟨[.sl 5,i6],[i6],false,false,fun(a:(List Int)×Int)=>gd (fE (gW (fun _:Int=>True)) a.1 a.2) (some (dQ (a.1.length) a.2))⟩
theorem Ky:OK 216 aIk:=mkS .n [.tmp 4] aC func216 ntmps216 (fun a _=>aB (aG7 a.1 a.2)) (fun _=>by kernel_rfl)
def aPn:SU:=⟨[.st 268,i6],[i6],false,false,fun(a:D.Box×Int)=>gd (fE D.Box.ok a.1 a.2) (some (dQ (a.1.sz) a.2))⟩
theorem aPo:OK 215 aPn:=mkS .n [.tmp 4] (gc Ky aC) func215 ntmps215 (fun a _=>aB (aPg a.1 a.2)) (fun _=>by kernel_rfl)
def aLr:SU:=⟨[.sl 268,i6],[i6],false,false,fun(a:(List D.Box)×Int)=>gd (fE (gW D.Box.ok) a.1 a.2) (some (dQ (a.1.length+(a.1.map D.Box.sz).sum) a.2))⟩
theorem aLs:OK 137 aLr:=mkS aV5 [.tmp 4] (gc aPo aC) func137 ntmps137 (fun a _=>aB (aK9 a.1 a.2)) (fun _=>by kernel_rfl)
def Og:SU:=⟨[.st 27,i6],[i6],false,false,fun(a:D.aAF×Int)=>gd (fE D.aAF.ok a.1 a.2) (some (dQ (a.1.sz) a.2))⟩
theorem Oh:OK 61 Og:=mkS .n [.tmp 4] (gc aLs aC) func61 ntmps61 (fun a _=>aB (Nh a.1 a.2)) (fun _=>by kernel_rfl)
def Fs:SU:=⟨[.st 200,i6],[i6],false,false,fun(a:D.aAB×Int)=>gd (fE D.aAB.ok a.1 a.2) (some (dQ (a.1.sz) a.2))⟩
theorem Fu:OK 138 Fs:=mkS .n [.tmp 4] (gc Ky aC) func138 ntmps138 (fun a _=>aB (Es a.1 a.2)) (fun _=>by kernel_rfl)
def Bg:SU:=⟨[.sl 200,i6],[i6],false,false,fun(a:(List D.aAB)×Int)=>gd (fE (gW D.aAB.ok) a.1 a.2) (some (dQ (a.1.length+(a.1.map D.aAB.sz).sum) a.2))⟩
theorem Bh:OK 62 Bg:=mkS aV5 [.tmp 4] (gc Fu aC) func62 ntmps62 (fun a _=>aB (Ap a.1 a.2)) (fun _=>by kernel_rfl)
def aIl:SU:=⟨[.st 30,i6],[i6],false,false,fun(a:D.aAJ×Int)=>gd (fE D.aAJ.ok a.1 a.2) (some (dQ (a.1.sz) a.2))⟩
theorem aIm:OK 19 aIl:=mkS .n [.tmp 4] (gc uD (gc Oh (gc Bh aC))) func19 ntmps19 (fun a _=>aB (aG8 a.1 a.2)) (fun _=>by kernel_rfl)
def La:SU:=⟨[.sl 315,i6],[i6],false,false,fun(a:(List D.aAG)×Int)=>gd (fE (gW (fun _:D.aAG=>True)) a.1 a.2) (some (dQ (a.1.length) a.2))⟩
theorem Lb:OK 261 La:=mkS .n [.tmp 4] aC func261 ntmps261 (fun a _=>aB (Ki a.1 a.2)) (fun _=>by kernel_rfl)
def U1:SU:=⟨[.st 272,i6],[i6],false,false,fun(a:D.aAE×Int)=>gd (fE D.aAE.ok a.1 a.2) (some (dQ (a.1.sz) a.2))⟩
theorem U2:OK 217 U1:=mkS .n [.tmp 4] (gc Lb aC) func217 ntmps217 (fun a _=>aB (K5 a.1 a.2)) (fun _=>by kernel_rfl)
def Yw:SU:=⟨[.sl 272,i6],[i6],false,false,fun(a:(List D.aAE)×Int)=>gd (fE (gW D.aAE.ok) a.1 a.2) (some (dQ (a.1.length+(a.1.map D.aAE.sz).sum) a.2))⟩
theorem Yx:OK 139 Yw:=mkS aV5 [.tmp 4] (gc U2 aC) func139 ntmps139 (fun a _=>aB (Xo a.1 a.2)) (fun _=>by kernel_rfl)
def Oi:SU:=⟨[.sl 306,i6],[i6],false,false,fun(a:(List D.aAK)×Int)=>gd (fE (gW (fun _:D.aAK=>True)) a.1 a.2) (some (dQ (a.1.length) a.2))⟩
theorem Oj:OK 218 Oi:=mkS .n [.tmp 4] aC func218 ntmps218 (fun a _=>aB (Ni a.1 a.2)) (fun _=>by kernel_rfl)
def Bi:SU:=⟨[.st 118,i6],[i6],false,false,fun(a:D.aAC×Int)=>gd (fE D.aAC.ok a.1 a.2) (some (dQ (a.1.sz) a.2))⟩
theorem Bj:OK 140 Bi:=mkS .n [.tmp 4] (gc Oj aC) func140 ntmps140 (fun a _=>aB (Aq a.1 a.2)) (fun _=>by kernel_rfl)
def aLt:SU:=⟨[.sl 3,i6],[i6],false,false,fun(a:(List Int)×Int)=>gd (fE (gW (fun _:Int=>True)) a.1 a.2) (some (dQ (a.1.length) a.2))⟩
theorem aLu:OK 141 aLt:=mkS .n [.tmp 4] aC func141 ntmps141 (fun a _=>aB (aLa a.1 a.2)) (fun _=>by kernel_rfl)
def aLv:SU:=⟨[.st 120,i6],[i6],false,false,fun(a:D.Site×Int)=>gd (fE D.Site.ok a.1 a.2) (some (dQ (a.1.sz) a.2))⟩
theorem aLw:OK 63 aLv:=mkS .n [.tmp 4] (gc Yx (gc Bj (gc aLu aC))) func63 ntmps63 (fun a _=>aB (aLb a.1 a.2)) (fun _=>by kernel_rfl)
def aIn:SU:=⟨[.sl 120,i6],[i6],false,false,fun(a:(List D.Site)×Int)=>gd (fE (gW D.Site.ok) a.1 a.2) (some (dQ (a.1.length+(a.1.map D.Site.sz).sum) a.2))⟩
theorem aIo:OK 20 aIn:=mkS aV5 [.tmp 4] (gc aLw aC) func20 ntmps20 (fun a _=>aB (aG9 a.1 a.2)) (fun _=>by kernel_rfl)
def U3:SU:=⟨[.sl 125,i6],[i6],false,false,fun(a:(List D.aAL)×Int)=>gd (fE (gW (fun _:D.aAL=>True)) a.1 a.2) (some (dQ (a.1.length) a.2))⟩
theorem U4:OK 142 U3:=mkS .n [.tmp 4] aC func142 ntmps142 (fun a _=>aB (K6 a.1 a.2)) (fun _=>by kernel_rfl)
def Ol:SU:=⟨[.st 128,i6],[i6],false,false,fun(a:D.aAA×Int)=>gd (fE D.aAA.ok a.1 a.2) (some (dQ (a.1.sz) a.2))⟩
theorem Om:OK 64 Ol:=mkS .n [.tmp 4] (gc U4 aC) func64 ntmps64 (fun a _=>aB (Nj a.1 a.2)) (fun _=>by kernel_rfl)
def Lc:SU:=⟨[.sl 128,i6],[i6],false,false,fun(a:(List D.aAA)×Int)=>gd (fE (gW D.aAA.ok) a.1 a.2) (some (dQ (a.1.length+(a.1.map D.aAA.sz).sum) a.2))⟩
theorem Ld:OK 21 Lc:=mkS aV5 [.tmp 4] (gc Om aC) func21 ntmps21 (fun a _=>aB (Kj a.1 a.2)) (fun _=>by kernel_rfl)
def U5:SU:=⟨[.sl 238,i6],[i6],false,false,fun(a:(List D.aAM)×Int)=>gd (fE (gW (fun _:D.aAM=>True)) a.1 a.2) (some (dQ (a.1.length) a.2))⟩
theorem U6:OK 65 U5:=mkS .n [.tmp 4] aC func65 ntmps65 (fun a _=>aB (K7 a.1 a.2)) (fun _=>by kernel_rfl)
def U7:SU:=⟨[.st 37,i6],[i6],false,false,fun(a:D.aAI×Int)=>gd (fE D.aAI.ok a.1 a.2) (some (dQ (a.1.sz) a.2))⟩
theorem U8:OK 22 U7:=mkS .n [.tmp 4] (gc U6 aC) func22 ntmps22 (fun a _=>aB (K8 a.1 a.2)) (fun _=>by kernel_rfl)
def aIp:SU:=⟨[.st 39,i6],[i6],false,false,fun(a:D.World×Int)=>gd (fE D.World.ok a.1 a.2) (some (dQ (a.1.sz) a.2))⟩
theorem aIq:OK 5 aIp:=mkS .n [.tmp 4] (gc U0 (gc aIj (gc aIm (gc aIo (gc Ld (gc U8 aC)))))) func5 ntmps5 (fun a _=>aB (aHa a.1 a.2)) (fun _=>by kernel_rfl)
def Yy:SU:=⟨[.st 105],[.st 130],false,false,fun(a:D.aAO)=>some (a)⟩
theorem Yz:OK 164 Yy:=mkS .n [.cell 2 130] aC func164 ntmps164 (fun a _=>(Xp a).trans) (fun _=>by kernel_rfl)
def Za:SU:=⟨[.st 230],[.st 222],false,false,fun(a:D.aAD)=>some (a)⟩
theorem Zb:OK 166 Za:=mkS .n [.cell 2 222] aC func166 ntmps166 (fun a _=>(Xq a).trans) (fun _=>by kernel_rfl)
def Tu:SU:=⟨[.sl 230],[.sl 222],true,false,fun(a:(List D.aAD))=>gd (a.length≤1048576) (some (a))⟩
theorem uE:OK 89 Tu:=mkS (.s .n (.s .n (.s (.j ⟨[(4,1),(3,14)],[.ti 0 222 true],[],[]⟩ (.s .n (.s (.l ⟨[(4,1),(3,14)],[.nat (.s 4), .ti 0 222 true],[],[]⟩ FUEL .n) .n))) .n))) [.tmp 2] (gc Zb aC) func89 ntmps89 (fun(a:(List D.aAD)) _=>aB (Sb a)) (fun _=>by kernel_rfl)
def aIr:SU:=⟨[.st 303],[.st 259],false,false,fun(a:D.Entry)=>some (a)⟩
theorem aIs:OK 268 aIr:=mkS .n [.cell 2 259] aC func268 ntmps268 (fun a _=>(aHb a).trans) (fun _=>by kernel_rfl)
def aDr:SU:=⟨[.sl 303],[.sl 259],true,false,fun(a:(List D.Entry))=>gd (a.length≤1048576) (some (a))⟩
theorem aDs:OK 231 aDr:=mkS (.s .n (.s .n (.s (.j ⟨[(4,1),(3,14)],[.ti 0 259 true],[],[]⟩ (.s .n (.s (.l ⟨[(4,1),(3,14)],[.nat (.s 4), .ti 0 259 true],[],[]⟩ FUEL .n) .n))) .n))) [.tmp 2] (gc aIs aC) func231 ntmps231 (fun(a:(List D.Entry)) _=>aB (aCt a)) (fun _=>by kernel_rfl)
def aDt:SU:=⟨[.st 108],[.st 133],true,false,fun(a:D.aAH)=>gd (a.sz≤1048576) (some (a))⟩
theorem aDu:OK 165 aDt:=mkS .n [.cell 2 133] (gc aDs aC) func165 ntmps165 (fun(a:D.aAH) _=>aB (aCu a)) (fun _=>by kernel_rfl)
def aDv:SU:=⟨[.st 110],[.st 135],true,false,fun(a:D.Device)=>gd (a.sz≤1048576) (some (a))⟩
theorem aDw:OK 88 aDv:=mkS .n [.cell 2 135] (gc Yz (gc uE (gc aDu aC))) func88 ntmps88 (fun(a:D.Device) _=>aB (aCv a)) (fun _=>by kernel_rfl)
def U9:SU:=⟨[.sl 110],[.sl 135],true,false,fun(a:(List D.Device))=>gd (a.length+(a.map D.Device.sz).sum≤1048576) (some (a))⟩
theorem V3:OK 28 U9:=mkS (.s .n (.s .n (.s (.j ⟨[(4,1),(3,14)],[.ti 0 135 true],[],[]⟩ (.s .n (.s (.l ⟨[(4,1),(3,14)],[.nat (.s 4), .ti 0 135 true],[],[]⟩ FUEL .n) .n))) .n))) [.tmp 2] (gc aDw aC) func28 ntmps28 (fun(a:(List D.Device)) _=>aB (K9 a)) (fun _=>by kernel_rfl)
def aIt:SU:=⟨[.sl 4],[.sl 4],true,false,fun(a:(List Bool))=>gd (a.length≤1048576) (some (a))⟩
theorem aIu:OK 29 aIt:=mkS (.s .n (.s .n (.s (.j ⟨[(4,1),(3,13)],[.ti 0 4 true],[],[]⟩ (.s .n (.s (.l ⟨[(4,1),(3,13)],[.nat (.s 4), .ti 0 4 true],[],[]⟩ FUEL .n) .n))) .n))) [.tmp 2] aC func29 ntmps29 (fun(a:(List Bool)) _=>aB (aHc a)) (fun _=>by kernel_rfl)
def aIv:SU:=⟨[.sl 5],[.sl 5],true,false,fun(a:(List Int))=>gd (a.length≤1048576) (some (a))⟩
theorem Lg:OK 233 aIv:=mkS (.s .n (.s .n (.s (.j ⟨[(4,1),(3,13)],[.ti 0 5 true],[],[]⟩ (.s .n (.s (.l ⟨[(4,1),(3,13)],[.nat (.s 4), .ti 0 5 true],[],[]⟩ FUEL .n) .n))) .n))) [.tmp 2] aC func233 ntmps233 (fun(a:(List Int)) _=>aB (aHd a)) (fun _=>by kernel_rfl)
def aPp:SU:=⟨[.st 268],[.st 274],true,false,fun(a:D.Box)=>gd (a.sz≤1048576) (some (a))⟩
theorem aPq:OK 232 aPp:=mkS .n [.cell 2 274] (gc Lg aC) func232 ntmps232 (fun(a:D.Box) _=>aB (aPh a)) (fun _=>by kernel_rfl)
def aLx:SU:=⟨[.sl 268],[.sl 274],true,false,fun(a:(List D.Box))=>gd (a.length+(a.map D.Box.sz).sum≤1048576) (some (a))⟩
theorem aLy:OK 167 aLx:=mkS (.s .n (.s .n (.s (.j ⟨[(4,1),(3,14)],[.ti 0 274 true],[],[]⟩ (.s .n (.s (.l ⟨[(4,1),(3,14)],[.nat (.s 4), .ti 0 274 true],[],[]⟩ FUEL .n) .n))) .n))) [.tmp 2] (gc aPq aC) func167 ntmps167 (fun(a:(List D.Box)) _=>aB (aLc a)) (fun _=>by kernel_rfl)
def Oo:SU:=⟨[.st 27],[.st 46],true,false,fun(a:D.aAF)=>gd (a.sz≤1048576) (some (a))⟩
theorem Oq:OK 90 Oo:=mkS .n [.cell 2 46] (gc aLy aC) func90 ntmps90 (fun(a:D.aAF) _=>aB (Nk a)) (fun _=>by kernel_rfl)
def Fv:SU:=⟨[.st 200],[.st 207],true,false,fun(a:D.aAB)=>gd (a.sz≤1048576) (some (a))⟩
theorem Fw:OK 168 Fv:=mkS .n [.cell 2 207] (gc Lg aC) func168 ntmps168 (fun(a:D.aAB) _=>aB (Et a)) (fun _=>by kernel_rfl)
def Bn:SU:=⟨[.sl 200],[.sl 207],true,false,fun(a:(List D.aAB))=>gd (a.length+(a.map D.aAB.sz).sum≤1048576) (some (a))⟩
theorem Bo:OK 91 Bn:=mkS (.s .n (.s .n (.s (.j ⟨[(4,1),(3,14)],[.ti 0 207 true],[],[]⟩ (.s .n (.s (.l ⟨[(4,1),(3,14)],[.nat (.s 4), .ti 0 207 true],[],[]⟩ FUEL .n) .n))) .n))) [.tmp 2] (gc Fw aC) func91 ntmps91 (fun(a:(List D.aAB)) _=>aB (Ar a)) (fun _=>by kernel_rfl)
def aIw:SU:=⟨[.st 30],[.st 49],true,false,fun(a:D.aAJ)=>gd (a.sz≤1048576) (some (a))⟩
theorem aIx:OK 30 aIw:=mkS .n [.cell 2 49] (gc uE (gc Oq (gc Bo aC))) func30 ntmps30 (fun(a:D.aAJ) _=>aB (aHe a)) (fun _=>by kernel_rfl)
def Ot:SU:=⟨[.st 315],[.st 276],false,false,fun(a:D.aAG)=>some (a)⟩
theorem Ou:OK 280 Ot:=mkS .n [.cell 2 276] aC func280 ntmps280 (fun a _=>(Nl a).trans) (fun _=>by kernel_rfl)
def Lh:SU:=⟨[.sl 315],[.sl 276],true,false,fun(a:(List D.aAG))=>gd (a.length≤1048576) (some (a))⟩
theorem Li:OK 269 Lh:=mkS (.s .n (.s .n (.s (.j ⟨[(4,1),(3,14)],[.ti 0 276 true],[],[]⟩ (.s .n (.s (.l ⟨[(4,1),(3,14)],[.nat (.s 4), .ti 0 276 true],[],[]⟩ FUEL .n) .n))) .n))) [.tmp 2] (gc Ou aC) func269 ntmps269 (fun(a:(List D.aAG)) _=>aB (Kk a)) (fun _=>by kernel_rfl)
def V4:SU:=⟨[.st 272],[.st 211],true,false,fun(a:D.aAE)=>gd (a.sz≤1048576) (some (a))⟩
theorem V5:OK 234 V4:=mkS .n [.cell 2 211] (gc Li aC) func234 ntmps234 (fun(a:D.aAE) _=>aB (L6 a)) (fun _=>by kernel_rfl)
def Zc:SU:=⟨[.sl 272],[.sl 211],true,false,fun(a:(List D.aAE))=>gd (a.length+(a.map D.aAE.sz).sum≤1048576) (some (a))⟩
theorem Zd:OK 169 Zc:=mkS (.s .n (.s .n (.s (.j ⟨[(4,1),(3,14)],[.ti 0 211 true],[],[]⟩ (.s .n (.s (.l ⟨[(4,1),(3,14)],[.nat (.s 4), .ti 0 211 true],[],[]⟩ FUEL .n) .n))) .n))) [.tmp 2] (gc V5 aC) func169 ntmps169 (fun(a:(List D.aAE)) _=>aB (Xr a)) (fun _=>by kernel_rfl)
def Tv:SU:=⟨[.st 306],[.st 264],false,false,fun(a:D.aAK)=>some (a)⟩
theorem Tw:OK 270 Tv:=mkS .n [.cell 2 264] aC func270 ntmps270 (fun a _=>(Sc a).trans) (fun _=>by kernel_rfl)
def Ov:SU:=⟨[.sl 306],[.sl 264],true,false,fun(a:(List D.aAK))=>gd (a.length≤1048576) (some (a))⟩
theorem Ox:OK 235 Ov:=mkS (.s .n (.s .n (.s (.j ⟨[(4,1),(3,14)],[.ti 0 264 true],[],[]⟩ (.s .n (.s (.l ⟨[(4,1),(3,14)],[.nat (.s 4), .ti 0 264 true],[],[]⟩ FUEL .n) .n))) .n))) [.tmp 2] (gc Tw aC) func235 ntmps235 (fun(a:(List D.aAK)) _=>aB (Nn a)) (fun _=>by kernel_rfl)
def Bp:SU:=⟨[.st 118],[.st 141],true,false,fun(a:D.aAC)=>gd (a.sz≤1048576) (some (a))⟩
theorem Bq:OK 170 Bp:=mkS .n [.cell 2 141] (gc Ox aC) func170 ntmps170 (fun(a:D.aAC) _=>aB (Au a)) (fun _=>by kernel_rfl)
def aLz:SU:=⟨[.sl 3],[.sl 3],true,false,fun(a:(List Int))=>gd (a.length≤1048576) (some (a))⟩
theorem aL0:OK 8 aLz:=mkS (.s .n (.s .n (.s (.j ⟨[(4,1),(3,13)],[.ti 0 3 true],[],[]⟩ (.s .n (.s (.l ⟨[(4,1),(3,13)],[.nat (.s 4), .ti 0 3 true],[],[]⟩ FUEL .n) .n))) .n))) [.tmp 2] aC func8 ntmps8 (fun(a:(List Int)) _=>aB (aLd a)) (fun _=>by kernel_rfl)
def aL1:SU:=⟨[.st 120],[.st 143],true,false,fun(a:D.Site)=>gd (a.sz≤1048576) (some (a))⟩
theorem aL2:OK 92 aL1:=mkS .n [.cell 2 143] (gc Zd (gc Bq (gc aL0 aC))) func92 ntmps92 (fun(a:D.Site) _=>aB (aLe a)) (fun _=>by kernel_rfl)
def aIy:SU:=⟨[.sl 120],[.sl 143],true,false,fun(a:(List D.Site))=>gd (a.length+(a.map D.Site.sz).sum≤1048576) (some (a))⟩
theorem aIz:OK 31 aIy:=mkS (.s .n (.s .n (.s (.j ⟨[(4,1),(3,14)],[.ti 0 143 true],[],[]⟩ (.s .n (.s (.l ⟨[(4,1),(3,14)],[.nat (.s 4), .ti 0 143 true],[],[]⟩ FUEL .n) .n))) .n))) [.tmp 2] (gc aL2 aC) func31 ntmps31 (fun(a:(List D.Site)) _=>aB (aHf a)) (fun _=>by kernel_rfl)
def aI0:SU:=⟨[.st 33],[.st 51],false,false,fun(a:D.aAQ)=>some (a)⟩
theorem aI1:OK 32 aI0:=mkS .n [.cell 2 51] aC func32 ntmps32 (fun a _=>(aHg a).trans) (fun _=>by kernel_rfl)
def aI2:SU:=⟨[.st 123],[.st 168],false,false,fun(a:D.aAN)=>some (a)⟩
theorem aI3:OK 236 aI2:=mkS .n [.cell 2 168] aC func236 ntmps236 (fun a _=>(aHh a).trans) (fun _=>by kernel_rfl)
def aDx:SU:=⟨[.st 125],[.st 170],false,false,fun(a:D.aAL)=>some (a)⟩
theorem Eh:OK 171 aDx:=mkS .n [.cell 2 170] (gc aI3 aC) func171 ntmps171 (fun a _=>(aCw a).trans) (fun _=>by kernel_rfl)
def V6:SU:=⟨[.sl 125],[.sl 170],true,false,fun(a:(List D.aAL))=>gd (a.length≤1048576) (some (a))⟩
theorem V7:OK 172 V6:=mkS (.s .n (.s .n (.s (.j ⟨[(4,1),(3,14)],[.ti 0 170 true],[],[]⟩ (.s .n (.s (.l ⟨[(4,1),(3,14)],[.nat (.s 4), .ti 0 170 true],[],[]⟩ FUEL .n) .n))) .n))) [.tmp 2] (gc Eh aC) func172 ntmps172 (fun(a:(List D.aAL)) _=>aB (L8 a)) (fun _=>by kernel_rfl)
def Oy:SU:=⟨[.st 128],[.st 173],true,false,fun(a:D.aAA)=>gd (a.sz≤1048576) (some (a))⟩
theorem Oz:OK 93 Oy:=mkS .n [.cell 2 173] (gc Eh (gc V7 aC)) func93 ntmps93 (fun(a:D.aAA) _=>aB (Np a)) (fun _=>by kernel_rfl)
def Lj:SU:=⟨[.sl 128],[.sl 173],true,false,fun(a:(List D.aAA))=>gd (a.length+(a.map D.aAA.sz).sum≤1048576) (some (a))⟩
theorem Ll:OK 33 Lj:=mkS (.s .n (.s .n (.s (.j ⟨[(4,1),(3,14)],[.ti 0 173 true],[],[]⟩ (.s .n (.s (.l ⟨[(4,1),(3,14)],[.nat (.s 4), .ti 0 173 true],[],[]⟩ FUEL .n) .n))) .n))) [.tmp 2] (gc Oz aC) func33 ntmps33 (fun(a:(List D.aAA)) _=>aB (Kl a)) (fun _=>by kernel_rfl)
def aDy:SU:=⟨[.st 238],[.st 219],false,false,fun(a:D.aAM)=>some (a)⟩
theorem aDz:OK 173 aDy:=mkS .n [.cell 2 219] aC func173 ntmps173 (fun a _=>(aCx a).trans) (fun _=>by kernel_rfl)
def V8:SU:=⟨[.sl 238],[.sl 219],true,false,fun(a:(List D.aAM))=>gd (a.length≤1048576) (some (a))⟩
theorem V9:OK 94 V8:=mkS (.s .n (.s .n (.s (.j ⟨[(4,1),(3,14)],[.ti 0 219 true],[],[]⟩ (.s .n (.s (.l ⟨[(4,1),(3,14)],[.nat (.s 4), .ti 0 219 true],[],[]⟩ FUEL .n) .n))) .n))) [.tmp 2] (gc aDz aC) func94 ntmps94 (fun(a:(List D.aAM)) _=>aB (L9 a)) (fun _=>by kernel_rfl)
def W9:SU:=⟨[.st 37],[.st 55],true,false,fun(a:D.aAI)=>gd (a.sz≤1048576) (some (a))⟩
theorem X3:OK 34 W9:=mkS .n [.cell 2 55] (gc V9 aC) func34 ntmps34 (fun(a:D.aAI) _=>aB (M0 a)) (fun _=>by kernel_rfl)
def aI4:SU:=⟨[.st 39],[.st 57],true,false,fun(a:D.World)=>gd (a.sz≤1048576) (some (a))⟩
theorem aI5:OK 7 aI4:=mkS .n [.cell 2 57] (gc V3 (gc aIu (gc aIx (gc aIz (gc aI1 (gc Ll (gc X3 aC))))))) func7 ntmps7 (fun(a:D.World) _=>aB (aHi a)) (fun _=>by kernel_rfl)
def aI6:SU:=⟨[.sl 222],[.sl 222],true,false,fun(a:(List D.aAD))=>gd (a.length≤34359738368) (some (a))⟩
theorem Lm:OK 143 aI6:=mkS .n [.tmp 2] aC func143 ntmps143 (fun(a:(List D.aAD)) _=>aB (aHu a)) (fun _=>by kernel_rfl)
def aI7:SU:=⟨[.st 133],[.st 133],true,false,fun(a:D.aAH)=>gd (a.sz≤34359738368) (some (a))⟩
theorem aI8:OK 144 aI7:=mkS .n [.cell 2 133] aC func144 ntmps144 (fun(a:D.aAH) _=>aB (aHt a)) (fun _=>by kernel_rfl)
def aI9:SU:=⟨[.st 135],[.st 135],true,false,fun(a:D.Device)=>gd (a.sz≤34359738368) (some (a))⟩
theorem aJa:OK 66 aI9:=mkS .n [.cell 2 135] (gc Lm (gc aI8 aC)) func66 ntmps66 (fun(a:D.Device) _=>aB (aHw a)) (fun _=>by kernel_rfl)
def aJb:SU:=⟨[.st 46],[.st 46],true,false,fun(a:D.aAF)=>gd (a.sz≤34359738368) (some (a))⟩
theorem aJc:OK 145 aJb:=mkS (.s .n (.s .n (.s (.j ⟨[(4,2),(3,27)],[.nt (.c 2 1) 274 true],[],[]⟩ (.s .n (.s (.l ⟨[(4,2),(3,27)],[.nat (.s 4), .nt (.c 2 1) 274 true],[],[]⟩ FUEL .n) .n))) .n))) [.cell 2 46] aC func145 ntmps145 (fun(a:D.aAF) _=>aB (aHx a)) (fun _=>by kernel_rfl)
def aJd:SU:=⟨[.st 207],[.st 207],true,false,fun(a:D.aAB)=>gd (a.sz≤34359738368) (some (a))⟩
theorem aJe:OK 146 aJd:=mkS .n [.cell 2 207] aC func146 ntmps146 (fun(a:D.aAB) _=>aB (aHy a)) (fun _=>by kernel_rfl)
def aJf:SU:=⟨[.st 49],[.st 49],true,false,fun(a:D.aAJ)=>gd (a.sz≤34359738368) (some (a))⟩
theorem aJg:OK 67 aJf:=mkS (.s .n (.s bAn (.s (.j ⟨[(4,1),(7,18)],[.nt (.c 4 3) 207 true],[],[]⟩ (.s .n (.s (.l ⟨[(4,1),(7,18)],[.nat (.s 4), .nt (.c 4 3) 207 true],[],[]⟩ FUEL aZ1) .n))) .n))) [.cell 2 49] (gc Lm (gc aJc (gc aJe aC))) func67 ntmps67 (fun(a:D.aAJ) _=>aB (aHz a)) (fun _=>by kernel_rfl)
def aJh:SU:=⟨[.st 211],[.st 211],true,false,fun(a:D.aAE)=>gd (a.sz≤34359738368) (some (a))⟩
theorem aJi:OK 147 aJh:=mkS .n [.cell 2 211] aC func147 ntmps147 (fun(a:D.aAE) _=>aB (aH0 a)) (fun _=>by kernel_rfl)
def aJj:SU:=⟨[.st 141],[.st 141],true,false,fun(a:D.aAC)=>gd (a.sz≤34359738368) (some (a))⟩
theorem aJk:OK 148 aJj:=mkS .n [.cell 2 141] aC func148 ntmps148 (fun(a:D.aAC) _=>aB (aH1 a)) (fun _=>by kernel_rfl)
def aJl:SU:=⟨[.st 143],[.st 143],true,false,fun(a:D.Site)=>gd (a.sz≤34359738368) (some (a))⟩
theorem aJm:OK 68 aJl:=mkS (.s .n (.s .n (.s .n (.s (.j ⟨[(4,1),(3,18)],[.tr (.c 2 1) 3 211 true],[],[]⟩ (.s .n (.s (.l ⟨[(4,1),(3,18)],[.nat (.s 4), .tr (.c 2 1) 3 211 true],[],[]⟩ FUEL aZ1) .n))) .n)))) [.cell 2 143] (gc aJi (gc aJk aC)) func68 ntmps68 (fun(a:D.Site) _=>aB (aH2 a)) (fun _=>by kernel_rfl)
def aJn:SU:=⟨[.st 173],[.st 173],true,false,fun(a:D.aAA)=>gd (a.sz≤34359738368) (some (a))⟩
theorem Lp:OK 149 aJn:=mkS .n [.cell 2 173] aC func149 ntmps149 (fun(a:D.aAA) _=>aB (aH3 a)) (fun _=>by kernel_rfl)
def aD0:SU:=⟨[.sl 173],[.sl 173],true,false,fun(a:(List D.aAA))=>gd (uH D.aAA.sz a≤34359738368) (some (a))⟩
theorem pM:OK 69 aD0:=mkS (.s .n (.s .n (.s (.j ⟨[(3,2),(1,14)],[.tr (.s 3) 0 173 true],[],[]⟩ (.s .n (.s (.l ⟨[(3,2),(1,14)],[.tr (.s 3) 0 173 true, .nat (.s 4)],[],[]⟩ FUEL .n) .n))) .n))) [.tmp 2] (gc Lp aC) func69 ntmps69 (fun(a:(List D.aAA)) _=>aB (aDa a)) (fun _=>by kernel_rfl)
def aJo:SU:=⟨[.st 55],[.st 55],true,false,fun(a:D.aAI)=>gd (a.sz≤34359738368) (some (a))⟩
theorem Lr:OK 70 aJo:=mkS .n [.cell 2 55] aC func70 ntmps70 (fun(a:D.aAI) _=>aB (aH4 a)) (fun _=>by kernel_rfl)
def aJp:SU:=⟨[.st 57],[.st 57],true,false,fun(a:D.World)=>gd (a.sz≤34359738368) (some (a))⟩
theorem aJq:OK 23 aJp:=mkS (.s .n (.s .n (.s .n (.s (.j ⟨[(4,1),(4,18)],[.tr (.c 2 2) 3 135 true],[],[]⟩ (.s .n (.s (.l ⟨[(4,1),(4,18)],[.nat (.s 4), .tr (.c 2 2) 3 135 true],[],[]⟩ FUEL aZ1) .n))) (.s .n (.s .n (.s .n (.s (.j ⟨[(5,1),(32,18)],[.tr (.c 2 8) 8 143 true],[],[]⟩ (.s .n (.s (.l ⟨[(5,1),(32,18)],[.nat (.s 5), .tr (.c 2 8) 8 143 true],[],[]⟩ FUEL aZ1) .n))) .n)))))))) [.cell 2 57] (gc aJa (gc aJg (gc aJm (gc pM (gc Lr aC))))) func23 ntmps23 (fun(a:D.World) _=>aB (aH5 a)) (fun _=>by kernel_rfl)
def aRt:SU:=⟨[i6,i6,i6],[.bool],false,false,fun(a:Int×Int×Int)=>some (cZ a.1 a.2.1 a.2.2)⟩
theorem dB:OK 73 aRt:=mkS bAt [.tmp 6] aC func73 ntmps73 (fun a _=>(aRn a.1 a.2.1 a.2.2).trans) (fun _=>by kernel_rfl)
def aJr:SU:=⟨[i6,i6],[i6],false,false,fun(a:Int×Int)=>lQ a.1 a.2⟩
theorem aJs:OK 262 aJr:=mkS bDe [.tmp 4] aC func262 ntmps262 (fun _ _=>id) (fun _=>by kernel_rfl)
def Ze:SU:=⟨[i6],[.bool],false,false,fun(a:Int)=>some (mK a)⟩
theorem jA:OK 76 Ze:=mkS .n [.tmp 2] (gc dB aC) func76 ntmps76 (fun a _=>(Xy a).trans) (fun _=>by kernel_rfl)
def X4:SU:=⟨[i6],[i6],false,false,fun(a:Int)=>some (Na a)⟩
theorem X5:OK 263 X4:=mkS .n [.tmp 2] (gc jA aC) func263 ntmps263 (fun a _=>(P5 a).trans) (fun _=>by kernel_rfl)
def Zg:SU:=⟨[i6],[i6],false,false,fun(a:Int)=>some (jM a)⟩
theorem wC:OK 219 Zg:=mkS .n [.tmp 2] (gc dB (gc aJs (gc X5 aC))) func219 ntmps219 (fun a _=>(Ye a).trans) (fun _=>by kernel_rfl)
def Fx:SU:=⟨[.st 211],[.bool],false,false,fun(a:D.aAE)=>gd (a.sz≤34359738368) (some (fB a))⟩
theorem Fy:OK 150 Fx:=mkS (.s .n (.s (.jx ⟨[(2,62)],[],[],[]⟩ (.s .n (.s (.l ⟨[(2,62)],[.nat (.s 3)],[],[]⟩ FUEL (.s .n (.s (.jx ⟨[(2,1),(1,2),(7,51)],[],[],[]⟩ (.s (.s .n (.s (.s (.rj 5 ⟨[(22,28)],[.dat (.s 49) .bool],[],[]⟩ (.r none (od 32 [2,23,29]))) .n) (.s .n (.s (.l ⟨[(2,1),(2,1),(44,14)],[.nat (.s 5)],[],[]⟩ FUEL aUk) .n)))) .n)) .n))) .n))) (.s (.rj 4 ⟨[(2,1),(64,11)],[.dat (.s 2) .bool],[],[]⟩ .n) .n))) [.tmp 2] (gc dB (gc wC aC)) func150 ntmps150 (fun(a:D.aAE) _=>aB (Ff a)) (fun _=>by kernel_rfl)
def aD1:SU:=⟨[.str],[.sl 9],true,false,fun(a:ByteArray)=>gd (a.size≤34359738368) (some (bA a))⟩
theorem Ei:OK 221 aD1:=mkS (.s .n (.s .n (.s .n (.s (.j ⟨[(3,3),(1,25)],[.tr (.s 3) 0 9 true],[],[]⟩ (.s .n (.s (.l ⟨[(3,3),(1,25)],[.tr (.s 3) 0 9 true, .dat (.s 4) i6, .dat (.s 5) i6],[],[]⟩ FUEL (.s .n (.s (.j ⟨[(3,2),(8,19)],[.tr (.s 3) 0 9 true, .dat (.s 4) i6],[],[]⟩ (.s (.s (.rj 5 ⟨[(17,6)],[.dat (.s 22) .bool],[],[]⟩ .n) .n) .n)) .n))) .n))) .n)))) [.tmp 2] aC func221 ntmps221 (fun(a:ByteArray) _=>aB (aDe a)) (fun _=>by kernel_rfl)
def aJt:SU:=⟨[.str],[.bool],false,false,fun(a:ByteArray)=>gd (a.size≤34359738368) (some (oF a))⟩
theorem aJu:OK 264 aJt:=mkS (.s .n (.s (.jx ⟨[(2,39)],[],[],[]⟩ (.s .n (.s (.l ⟨[(2,39)],[.nat (.s 3)],[],[]⟩ FUEL (.s .n (.s (.s (.s (.rj 5 ⟨[(4,1),(10,24)],[.dat (.s 4) .bool],[],[]⟩ .n) .n) .n) .n))) .n))) (.s (.rj 4 ⟨[(2,1),(41,13)],[.dat (.s 2) .bool],[],[]⟩ .n) .n))) [.tmp 2] (gc dB aC) func264 ntmps264 (fun(a:ByteArray) _=>aB (aIa a)) (fun _=>by kernel_rfl)
def aL3:SU:=⟨[.str],[.bool],false,false,fun(a:ByteArray)=>gd (a.size≤34359738368) (some (gD a))⟩
theorem aL4:OK 220 aL3:=mkS (.s .n (.s .n (.s (.jx ⟨[(2,1),(1,1),(2,12)],[],[],[]⟩ (.s .n (.s (.l ⟨[(2,1),(1,1),(2,12)],[.nat (.s 4)],[],[]⟩ FUEL .n) .n))) .n))) [.tmp 2] (gc Ei (gc aJu aC)) func220 ntmps220 (fun(a:ByteArray) _=>aB (aLl a)) (fun _=>by kernel_rfl)
def aJv:SU:=⟨[.str,i6],[.st 143],true,false,fun(a:ByteArray×Int)=>gd (a.1.size≤34359738368) (some (sH a.1 a.2))⟩
theorem aJw:OK 151 aJv:=mkS (.s .n (.s (.s (.rj 4 ⟨[(8,11)],[.dat (.s 18) .bool],[],[]⟩ .n) .n) .n)) [.cell 4 143] (gc aL4 (gc Ei (gc jA aC))) func151 ntmps151 (fun a _=>aB (aIb a.1 a.2)) (fun _=>by kernel_rfl)
def Tx:SU:=⟨[.st 141],[.bool],false,false,fun(a:D.aAC)=>gd (a.sz≤34359738368) (some (lH a))⟩
theorem Ty:OK 152 Tx:=mkS (.s .n (.s (.jx ⟨[(2,50)],[],[],[]⟩ (.s .n (.s (.l ⟨[(2,50)],[.nat (.s 3)],[],[]⟩ FUEL (.s .n (.s (.s (.s .n (.s (.rj 8 ⟨[(24,28)],[.dat (.s 51) .bool],[],[]⟩ (.r none (od 35 [5,26,32]))) .n)) .n) .n))) .n))) (.s (.rj 4 ⟨[(2,1),(52,6)],[.dat (.s 2) .bool],[],[]⟩ .n) .n))) [.tmp 2] (gc dB aC) func152 ntmps152 (fun(a:D.aAC) _=>aB (Ta a)) (fun _=>by kernel_rfl)
def Tz:SU:=⟨[.st 143],[.bool],false,false,fun(a:D.Site)=>gd (a.sz≤34359738368) (some (lI a))⟩
theorem Ua:OK 71 Tz:=mkS (.s .n (.s (.jx ⟨[(2,36)],[],[],[]⟩ (.s .n (.s (.l ⟨[(2,36)],[.nat (.s 3)],[],[]⟩ FUEL (.s .n (.s (.s (.s (.rj 8 ⟨[(18,20)],[.dat (.s 37) .bool],[],[]⟩ (.r none (od 27 [5]))) .n) .n) .n))) .n))) (.s (.rj 9 ⟨[(2,1),(43,11)],[.dat (.s 2) .bool],[],[]⟩ .n) .n))) [.tmp 2] (gc Fy (gc aJw (gc Ty aC))) func71 ntmps71 (fun(a:D.Site) _=>aB (Tf a)) (fun _=>by kernel_rfl)
def aD2:SU:=⟨[i6],[.str],false,false,fun(a:Int)=>some (gX a)⟩
theorem aD3:OK 72 aD2:=mkS .n [.tmp 2] aC func72 ntmps72 (fun a _=>(aDc a).trans) (fun _=>by kernel_rfl)
def Ga:SU:=⟨[.st 55],[.bool],false,false,fun(a:D.aAI)=>gd (a.sz≤34359738368) (some (dU a))⟩
theorem nJ:OK 74 Ga:=mkS (.s .n (.s (.jx ⟨[(2,47)],[],[],[]⟩ (.s .n (.s (.l ⟨[(2,47)],[.nat (.s 3)],[],[]⟩ FUEL bAo) .n))) .n)) [.tmp 2] (gc dB aC) func74 ntmps74 (fun(a:D.aAI) _=>aB (Fb a)) (fun _=>by kernel_rfl)
def aL5:SU:=⟨[.sl 3,i6],[.bool],false,false,fun(a:(List Int)×Int)=>gd (a.1.length≤1099511627776) (some (jD a.1 a.2))⟩
theorem Re:OK 223 aL5:=mkS (.s .n (.s (.jx ⟨[(4,14)],[],[],[]⟩ (.s .n (.s (.l ⟨[(4,14)],[.nat (.s 5)],[],[]⟩ FUEL .n) .n))) .n)) [.tmp 4] aC func223 ntmps223 (fun a _=>aB (aLj a.1 a.2)) (fun _=>by kernel_rfl)
def X6:SU:=⟨[.sl 222],[.sl 3],true,false,fun(a:(List D.aAD))=>gd (a.length≤34359738368) (some (bF a))⟩
theorem X7:OK 222 X6:=mkS (.s .n (.s .n (.s (.j ⟨[(3,5),(1,56)],[.tr (.s 3) 0 3 true],[],[]⟩ (.s .n (.s (.l ⟨[(3,5),(1,56)],[.tr (.s 3) 0 3 true, .nat (.s 4)],[],[]⟩ FUEL (.s .n (.s (.j ⟨[(3,1),(1,3),(7,50)],[.tr (.s 3) 0 3 true],[],[]⟩ (.s (.s .n (.s (.s (.rj 7 ⟨[(20,1),(6,6)],[.dat (.s 20) .bool],[],[]⟩ .n) (.s .n (.s .n (.s (.s .n (.s (.j ⟨[(6,2),(37,19)],[.tr (.s 6) 1 3 true],[],[]⟩ (.s .n (.s (.l ⟨[(6,2),(37,19)],[.tr (.s 6) 1 3 true, .nat (.s 7)],[],[]⟩ FUEL (.s .n (.s (.j ⟨[(6,1),(44,13)],[.tr (.s 6) 1 3 true],[],[]⟩ .n) .n))) .n))) .n)) .n)))) .n)) .n)) .n))) .n))) .n))) [.tmp 2] (gc Re aC) func222 ntmps222 (fun(a:(List D.aAD)) _=>aB (P6 a)) (fun _=>by kernel_rfl)
def aS6:SU:=⟨[i6,i6],[i6],false,false,fun(a:Int×Int)=>some (bU a.1 a.2)⟩
theorem kR:OK 80 aS6:=mkS .n [.tmp 4] (gc dB aC) func80 ntmps80 (fun a _=>(aS2 a.1 a.2).trans) (fun _=>by kernel_rfl)
def aRu:SU:=⟨[.sl 3],[i6],false,false,fun(a:(List Int))=>gd (a.length≤1099511627776) (some (wT a))⟩
theorem aB8:OK 154 aRu:=mkS (.s .n (.s .n (.s (.j ⟨[(3,18)],[.dat (.s 3) i6],[],[]⟩ (.s .n (.s (.l ⟨[(3,18)],[.dat (.s 3) i6, .nat (.s 4)],[],[]⟩ FUEL .n) .n))) .n))) [.tmp 2] (gc kR aC) func154 ntmps154 (fun(a:(List Int)) _=>aB (aRo a)) (fun _=>by kernel_rfl)
def X8:SU:=⟨[.st 222],[i6],false,false,fun(a:D.aAD)=>some (dH a)⟩
theorem zJ:OK 226 X8:=mkS .n [.tmp 2] (gc aB8 aC) func226 ntmps226 (fun a _=>(Q5 a).trans) (fun _=>by kernel_rfl)
def aJx:SU:=⟨[.sl 222],[i6],false,false,fun(a:(List D.aAD))=>gd (a.length≤34359738368) (some (gL a))⟩
theorem aJy:OK 224 aJx:=mkS .n [.tmp 2] (gc zJ aC) func224 ntmps224 (fun(a:(List D.aAD)) _=>aB (aH7 a)) (fun _=>by kernel_rfl)
def X9:SU:=⟨[i6, .sl 3],[i6],false,false,fun(a:Int×(List Int))=>gd (a.2.length≤34359738368) (some (fI a.1 a.2))⟩
theorem iD:OK 78 X9:=mkS .n [.tmp 4] (gc aB8 aC) func78 ntmps78 (fun a _=>aB (O6 a.1 a.2)) (fun _=>by kernel_rfl)
def Ub:SU:=⟨[i6, .sl 3],[i6],false,false,fun(a:Int×(List Int))=>gd (a.2.length≤34359738300) (some (Xc a.1 a.2))⟩
theorem Uc:OK 265 Ub:=mkS .n [.tmp 4] (gc jA (gc iD aC)) func265 ntmps265 (fun a _=>aB (Sy a.1 a.2)) (fun _=>by kernel_rfl)
def Bt:SU:=⟨[i6, .sl 3,i6],[.bool],false,false,fun(a:Int×(List Int)×Int)=>gd (a.2.1.length≤34359738300) (some (iZ a.1 a.2.1 a.2.2))⟩
theorem Bu:OK 225 Bt:=mkS bAq [.tmp 6] (gc wC (gc Uc aC)) func225 ntmps225 (fun a _=>aB (Bc a.1 a.2.1 a.2.2)) (fun _=>by kernel_rfl)
def aJz:SU:=⟨[.sl 222, .st 222],[.bool],false,false,fun(a:(List D.aAD)×D.aAD)=>gd (a.1.length≤34359738368) (some (nU a.1 a.2))⟩
theorem aJ0:OK 153 aJz:=mkS (.s .n (.s .n (.s (.rj 5 ⟨[(6,1),(7,12)],[.dat (.s 6) .bool],[],[]⟩ .n) (.s (.s (.rj 6 ⟨[(31,22)],[.dat (.s 52) .bool],[],[]⟩ (.r none [(0,true),(1,true),(2,true),(3,true),(4,true),(5,true),(6,true),(7,true),(8,true),(9,false),(10,true),(11,true),(12,true),(13,true),(14,true),(15,true),(16,true),(17,true),(18,true),(19,true),(22,true),(23,true),(20,false),(21,false),(24,false),(25,true),(26,true)])) .n) (.s (.s .n (.s (.s (.rj 5 ⟨[(4,1),(55,5)],[.dat (.s 4) .bool],[],[]⟩ .n) .n) .n)) (.s (.jx ⟨[(4,1),(2,1),(57,22)],[],[],[]⟩ (.s .n (.s (.l ⟨[(4,1),(2,1),(57,22)],[.nat (.s 7)],[],[]⟩ FUEL (.s .n (.s (.s (.s (.rj 7 ⟨[(77,10)],[.dat (.s 86) .bool],[],[]⟩ (.r none (od 16 []))) .n) .n) .n))) .n))) (.s (.rj 4 ⟨[(4,1),(85,12)],[.dat (.s 4) .bool],[],[]⟩ .n) .n))))))) [.tmp 4] (gc X7 (gc Re (gc aJy (gc zJ (gc Bu aC))))) func153 ntmps153 (fun a _=>aB (aIc a.1 a.2)) (fun _=>by kernel_rfl)
def Y1:SU:=⟨[.sl 222],[.bool],false,false,fun(a:(List D.aAD))=>gd (a.length≤34359738368) (some (sG a))⟩
theorem Y2:OK 75 Y1:=mkS (.s .n (.s (.jx ⟨[(2,17)],[],[],[]⟩ (.s .n (.s (.l ⟨[(2,17)],[.nat (.s 3)],[],[]⟩ FUEL (.s .n (.s (.s (.s (.r none (od 9 [7])) .n) .n) .n))) .n))) .n)) [.tmp 2] (gc aJ0 (gc dB aC)) func75 ntmps75 (fun(a:(List D.aAD)) _=>aB (Q7 a)) (fun _=>by kernel_rfl)
def Pb:SU:=⟨[.st 57],[.bool],false,false,fun(a:D.World)=>gd (a.sz≤34359738368) (some (iO a))⟩
theorem Pd:OK 24 Pb:=mkS (.s .n (.s (.jx ⟨[(2,27)],[],[],[]⟩ (.s .n (.s (.l ⟨[(2,27)],[.nat (.s 3)],[],[]⟩ FUEL (.s .n (.s (.s (.s (.rj 8 ⟨[(18,11)],[.dat (.s 28) .bool],[],[]⟩ (.r none (od 18 [5,15]))) .n) .n) .n))) .n))) (.s (.rj 4 ⟨[(2,1),(29,37)],[.dat (.s 2) .bool],[],[]⟩ .n) .n))) [.tmp 2] (gc Ua (gc aD3 (gc dB (gc nJ (gc Y2 (gc jA aC)))))) func24 ntmps24 (fun(a:D.World) _=>aB (Nw a)) (fun _=>by kernel_rfl)
def aS7:SU:=⟨[i6,i6],[i6],false,false,fun(a:Int×Int)=>some (aRe a.1 a.2)⟩
theorem aJ1:OK 77 aS7:=mkS .n [.tmp 4] aC func77 ntmps77 (fun a _=>(aS4 a.1 a.2).trans) (fun _=>by kernel_rfl)
def Y3:SU:=⟨[i6, .sl 3],[i6],false,false,fun(a:Int×(List Int))=>gd (a.2.length≤34359738300) (some (lF a.1 a.2))⟩
theorem zK:OK 25 Y3:=mkS .n [.tmp 4] (gc iD (gc aJ1 aC)) func25 ntmps25 (fun a _=>aB (O8 a.1 a.2)) (fun _=>by kernel_rfl)
def Y4:SU:=⟨[.sl 173, .sl 3],[.bool],false,false,fun(a:(List D.aAA)×(List Int))=>gd (a.1.length≤34359738368∧a.2.length≤34359738368) (some (gM a.1 a.2))⟩
theorem Y5:OK 79 Y4:=mkS (.s .n (.s (.jx ⟨[(4,32)],[],[],[]⟩ (.s .n (.s (.l ⟨[(4,32)],[.nat (.s 5)],[],[]⟩ FUEL (.s .n (.s (.jx ⟨[(4,1),(1,1),(6,23)],[],[],[]⟩ (.s (.s .n (.s .n (.s (.l ⟨[(4,1),(1,1),(15,14)],[.nat (.s 6)],[],[]⟩ FUEL aUk) .n))) .n)) .n))) .n))) .n)) [.tmp 4] (gc dB aC) func79 ntmps79 (fun a _=>aB (S9 a.1 a.2)) (fun _=>by kernel_rfl)
def aPr:SU:=⟨[i6,i6],[i6],false,false,fun(a:Int×Int)=>lT a.1 a.2⟩
theorem Zh:OK 229 aPr:=mkS bDe [.tmp 4] aC func229 ntmps229 (fun _ _=>id) (fun _=>by kernel_rfl)
def Gb:SU:=⟨[i6],[.bool],false,false,fun(a:Int)=>some (gB a)⟩
theorem eZ:OK 158 Gb:=mkS bAu [.tmp 2] (gc dB (gc Zh aC)) func158 ntmps158 (fun a _=>(Fh a).trans) (fun _=>by kernel_rfl)
def aD4:SU:=⟨[i6,i6],[i6],false,false,fun(a:Int×Int)=>some (dO a.1 a.2)⟩
theorem iQ:OK 156 aD4:=mkS .n [.tmp 4] (gc eZ (gc kR (gc Zh aC))) func156 ntmps156 (fun a _=>(aDg a.1 a.2).trans) (fun _=>by kernel_rfl)
def Ud:SU:=⟨[i6,i6],[i6],false,false,fun(a:Int×Int)=>some (Al a.1 a.2)⟩
theorem Ue:OK 157 Ud:=mkS .n [.tmp 4] (gc iD (gc iQ aC)) func157 ntmps157 (fun a _=>(Ti a.1 a.2).trans) (fun _=>by kernel_rfl)
def Zi:SU:=⟨[i6,i6,i6],[i6],false,false,fun(a:Int×Int×Int)=>some (dI a.1 a.2.1 a.2.2)⟩
theorem Zj:OK 82 Zi:=mkS .n [.tmp 6] (gc kR (gc Ue (gc iQ aC))) func82 ntmps82 (fun a _=>(Yo a.1 a.2.1 a.2.2).trans) (fun _=>by kernel_rfl)
def Y6:SU:=⟨[.sl 168],[.bool],false,false,fun(a:(List D.aAN))=>gd (a.length≤34359738368) (some (aGp a))⟩
theorem Y7:OK 279 Y6:=mkS (.s .n (.s (.jx ⟨[(2,41)],[],[],[]⟩ (.s .n (.s (.l ⟨[(2,41)],[.nat (.s 3)],[],[]⟩ FUEL (.s .n (.s (.jx ⟨[(2,1),(1,1),(6,32)],[],[],[]⟩ (.s (.s (.s (.rj 8 ⟨[(18,9)],[.dat (.s 26) .bool],[],[]⟩ .n) .n) (.s .n (.s (.l ⟨[(2,1),(1,1),(22,16)],[.nat (.s 4)],[],[]⟩ FUEL (.s .n (.s (.s (.s (.r none (od 11 [])) .n) .n) .n))) .n))) .n)) .n))) .n))) .n)) [.tmp 2] (gc dB aC) func279 ntmps279 (fun(a:(List D.aAN)) _=>aB (Q9 a)) (fun _=>by kernel_rfl)
def Ls:SU:=⟨[.st 170],[.bool],false,false,fun(a:D.aAL)=>some (gY a)⟩
theorem Lt:OK 266 Ls:=mkS bAs [.tmp 2] (gc Y7 (gc dB aC)) func266 ntmps266 (fun a _=>(Kr a).trans) (fun _=>by kernel_rfl)
def Lu:SU:=⟨[.st 168,i6],[i6],false,false,fun(a:D.aAN×Int)=>some (qY a.1 a.2)⟩
theorem Lv:OK 267 Lu:=mkS bAr [.tmp 4] (gc eZ (gc dB (gc iQ aC))) func267 ntmps267 (fun a _=>(Ku a.1 a.2).trans) (fun _=>by kernel_rfl)
def Y8:SU:=⟨[.st 170,i6],[.st 170,i6, .bool],false,false,fun(a:D.aAL×Int)=>some (gH a.1 a.2)⟩
theorem Y9:OK 227 Y8:=mkS (.s .n (.s (.s (.rj 4 ⟨[(11,16)],[.dat (.s 26) .bool],[],[]⟩ .n) .n) (.s .n (.s .n (.s (.r (some 5) (od 8 [4,5,6,7])) .n))))) [.cell 4 170, .tmp 5, .tmp 6] (gc Lt (gc eZ (gc Lv aC))) func227 ntmps227 (fun a _=>(R6 a.1 a.2).trans) (fun _=>by kernel_rfl)
def aJ2:SU:=⟨[.st 170],[i6],false,false,fun(a:D.aAL)=>some (uY a)⟩
theorem aJ3:OK 228 aJ2:=mkS .n [.tmp 2] aC func228 ntmps228 (fun a _=>(aIe a).trans) (fun _=>by kernel_rfl)
def aL6:SU:=⟨[.sl 173, .sl 3,i6],[.sl 173, .sl 3, .sl 3],false,false,fun(a:(List D.aAA)×(List Int)×Int)=>gd ((uH D.aAA.sz a.1≤34000000000∧a.2.1.length≤100000000)∧gM a.1 a.2.1=true) (some (jS a.1 a.2.1 a.2.2))⟩
theorem aL7:OK 81 aL6:=mkS (.s .n (.s .n (.s .n (.s .n (.s (.j ⟨[(10,6),(4,38)],[.tr (.s 10) 1 3 true, .tr (.s 11) 2 3 true, .ti 0 173 false],[],[]⟩ (.s .n (.s (.l ⟨[(10,6),(4,38)],[.tr (.s 10) 1 3 true, .tr (.s 11) 2 3 true, .nat (.s 12), .ti 0 173 false],[],[]⟩ FUEL (.s .n (.s (.j ⟨[(10,2),(1,3),(10,32)],[.tr (.s 10) 1 3 true, .tr (.s 11) 2 3 true, .ti 0 173 false],[],[]⟩ (.s (.s (.il 8 (.s .n (.s .n (.s (.s (.rj 7 ⟨[(25,4)],[.dat (.s 28) .bool],[],[]⟩ (.r none [(0,true),(1,true),(3,true),(4,true),(2,false),(5,true),(6,true),(7,true),(8,true),(9,true)])) .n) (.s (.u [] [7,12] [(0,true),(2,true),(3,true),(5,true),(6,true),(9,true),(1,false),(4,false),(7,false),(8,false),(10,false),(11,false),(12,false),(13,false)]) .n)))) .n) (.s (.r (some 7) (od 8 [7])) .n)) .n)) .n))) .n))) .n))))) [.tmp 6, .tmp 7, .tmp 8] (gc pM (gc (sIl 155) (gc Y9 (gc aJ3 (gc Lp (gc (bC7 2000000) aC)))))) func81 ntmps81 (fun a _=>aB (aLq a.1 a.2.1 a.2.2)) (fun _=>by kernel_rfl)
def aPs:SU:=⟨[i6],[i6],false,false,fun(a:Int)=>some (bU a 1019)⟩
theorem aPt:OK 230 aPs:=mkS .n [.tmp 2] (gc kR aC) func230 ntmps230 (fun a _=>(aPm a).trans) (fun _=>by kernel_rfl)
def Bv:SU:=⟨[i6],[i6],false,false,fun(a:Int)=>some (mO a)⟩
theorem mI:OK 163 Bv:=mkS (.s .n (.s .n (.s (.jx ⟨[(2,1),(1,1),(2,10)],[],[],[]⟩ (.s .n (.s (.l ⟨[(2,1),(1,1),(2,10)],[.dat (.s 4) i6],[],[]⟩ FUEL .n) .n))) .n))) [.tmp 2] (gc kR aC) func163 ntmps163 (fun a _=>(Be a).trans) (fun _=>by kernel_rfl)
def Gc:SU:=⟨[.sl 3,i6,i6],[i6],false,false,fun(a:(List Int)×Int×Int)=>gd (a.1.length≤34359738368) (some (pK a.1 a.2.1 a.2.2))⟩
theorem Gd:OK 160 Gc:=mkS (.s .n (.s .n (.s .n (.s (.jx ⟨[(6,6),(6,54)],[.dat (.s 7) i6],[],[]⟩ (.s .n (.s (.l ⟨[(6,6),(6,54)],[.dat (.s 7) i6, .nat (.s 8)],[],[]⟩ FUEL (.s .n (.s (.jx ⟨[(6,2),(1,3),(12,48)],[.dat (.s 7) i6],[],[]⟩ (.s (.s (.jx ⟨[(6,1),(2,1),(14,16)],[],[],[]⟩ (.s .n (.s (.l ⟨[(6,1),(2,1),(14,16)],[.nat (.s 9)],[],[]⟩ FUEL bDg) .n))) (.s .n (.s (.s (.r none [(0,true),(2,true),(3,true),(4,true),(5,true),(1,false),(6,false),(7,true),(8,false),(9,true)]) (.s (.r none [(0,true),(1,true),(2,true),(3,true),(5,true),(6,true),(7,true),(8,true),(4,false),(9,false),(10,true),(11,false),(12,true)]) .n)) .n))) .n)) .n))) .n))) .n)))) [.tmp 6] (gc dB (gc aPt (gc mI aC))) func160 ntmps160 (fun a _=>aB (Fp a.1 a.2.1 a.2.2)) (fun _=>by kernel_rfl)
def aD5:SU:=⟨[i6,i6],[i6],false,false,fun(a:Int×Int)=>some (fM a.1 a.2)⟩
theorem aD6:OK 159 aD5:=mkS aYf [.tmp 4] (gc eZ aC) func159 ntmps159 (fun a _=>(aDi a.1 a.2).trans) (fun _=>by kernel_rfl)
def uM:SU:=⟨[.sl 3, .sl 3],[i6, .bool],false,false,fun(a:(List Int)×(List Int))=>gd (a.1.length≤34359738368∧a.2.length≤34359738368) (some (gZ a.1 a.2))⟩
theorem uN:OK 83 uM:=mkS (.s .n (.s (.s (.rj 6 ⟨[(15,5)],[.dat (.s 19) .bool],[],[]⟩ .n) .n) (.s (.jx ⟨[(4,4),(12,34)],[],[],[]⟩ (.s .n (.s (.l ⟨[(4,4),(12,34)],[.nat (.s 6)],[],[]⟩ FUEL (.s .n (.s (.jx ⟨[(4,2),(1,1),(18,28)],[],[],[]⟩ (.s (.s (.s (.rj 7 ⟨[(32,8)],[.dat (.s 39) .bool],[],[]⟩ .n) .n) (.s .n (.s (.l ⟨[(4,2),(1,1),(32,14)],[.nat (.s 7)],[],[]⟩ FUEL aUk) .n))) .n)) .n))) .n))) (.s .n (.s (.j ⟨[(8,2),(44,16)],[.dat (.s 8) i6],[],[]⟩ (.s .n (.s (.l ⟨[(8,2),(44,16)],[.dat (.s 8) i6, .nat (.s 9)],[],[]⟩ FUEL (.s .n (.s (.s (.r none (od 11 [7,8,9])) .n) .n))) .n))) .n))))) [.tmp 4, .tmp 5] (gc dB (gc eZ (gc Gd (gc iQ (gc aD6 aC))))) func83 ntmps83 (fun a _=>aB (uL a.1 a.2)) (fun _=>by kernel_rfl)
def Pe:SU:=⟨[i6,i6],[i6],false,false,fun(a:Int×Int)=>some (Qk a.1 a.2)⟩
theorem Pf:OK 86 Pe:=mkS .n [.tmp 4] (gc kR (gc mI (gc iQ aC))) func86 ntmps86 (fun a _=>(Oa a.1 a.2).trans) (fun _=>by kernel_rfl)
def Z0:SU:=⟨[i6,i6],[i6],false,false,fun(a:Int×Int)=>some (qW a.1 a.2)⟩
theorem Z4:OK 85 Z0:=mkS .n [.tmp 4] (gc iD (gc aJ1 aC)) func85 ntmps85 (fun a _=>(R4 a.1 a.2).trans) (fun _=>by kernel_rfl)
def Zk:SU:=⟨[i6,i6],[i6],false,false,fun(a:Int×Int)=>some (qX a.1 a.2)⟩
theorem Zl:OK 161 Zk:=mkS .n [.tmp 4] (gc iD aC) func161 ntmps161 (fun a _=>(Yl a.1 a.2).trans) (fun _=>by kernel_rfl)
def aJ4:SU:=⟨[i6,i6],[i6],false,false,fun(a:Int×Int)=>some (Xf a.1 a.2)⟩
theorem aJ5:OK 162 aJ4:=mkS .n [.tmp 4] (gc dB (gc zK aC)) func162 ntmps162 (fun a _=>(aIf a.1 a.2).trans) (fun _=>by kernel_rfl)
def Z5:SU:=⟨[.st 51,i6],[i6, .bool],false,false,fun(a:D.aAQ×Int)=>some (wH a.1 a.2)⟩
theorem Z6:OK 84 Z5:=mkS bAp [.tmp 4, .tmp 5] (gc Zl (gc aJ5 aC)) func84 ntmps84 (fun a _=>(R8 a.1 a.2).trans) (fun _=>by kernel_rfl)
def Zm:SU:=⟨[.st 51, .sl 173, .sl 3,i6,i6],[.sl 173,i6, .bool],false,false,fun(a:D.aAQ×(List D.aAA)×(List Int)×Int×Int)=>gd (uH D.aAA.sz a.2.1≤34000000000∧a.2.2.1.length≤100000000) (some (oH a.1 a.2.1 a.2.2.1 a.2.2.2.1 a.2.2.2.2))⟩
theorem Zn:OK 26 Zm:=mkS (.s .n (.s (.s (.rj 5 ⟨[(24,10)],[.dat (.s 33) .bool],[],[]⟩ .n) .n) (.s .n (.s .n (.s (.s (.rj 6 ⟨[(59,11)],[.dat (.s 69) .bool],[],[]⟩ .n) .n) bDf))))) [.tmp 10, .tmp 11, .tmp 12] (gc Y5 (gc kR (gc dB (gc pM (gc Zj (gc aL7 (gc uN (gc Pf (gc Z4 (gc Z6 aC)))))))))) func26 ntmps26 (fun a _=>aB (Yq a.1 a.2.1 a.2.2.1 a.2.2.2.1 a.2.2.2.2)) (fun _=>by kernel_rfl)
def Zo:SU:=⟨[.st 55,i6,i6,i6],[.st 55, .bool],true,false,fun(a:D.aAI×Int×Int×Int)=>gd (a.1.sz≤34359738300) (some (Ib a.1 a.2.1 a.2.2.1 a.2.2.2))⟩
theorem Zp:OK 87 Zo:=mkS (.s .n (.s .n (.s .n (.s (.j ⟨[(10,3),(12,26)],[.tr (.s 10) 2 219 true],[],[]⟩ (.s .n (.s (.s .n (.s (.j ⟨[(11,2),(15,13)],[.dat (.s 11) i6],[],[]⟩ (.s .n (.s (.l ⟨[(11,2),(18,10)],[.dat (.s 11) i6, .dat (.s 12) i6],[],[]⟩ FUEL (.s .n (.s (.j ⟨[(11,1),(23,6)],[.dat (.s 11) i6],[],[]⟩ .n) .n))) .n))) (.y true none (some 9) [(1,true),(2,true),(3,true),(5,true),(6,true),(7,true),(8,true),(0,false),(4,false),(9,false),(10,true)]))) .n))) (.s .n (.s (.s (.rj 4 ⟨[(56,5)],[.dat (.s 60) .bool],[],[]⟩ .n) .n) .n)))))) [.cell 8 55, .tmp 9] (gc nJ (gc Lr aC)) func87 ntmps87 (fun a _=>aB (Yi a.1 a.2.1 a.2.2.1 a.2.2.2)) (fun _=>by kernel_rfl)
def Pg:SU:=⟨[.st 57, .sl 3,i6],[.st 57,i6, .bool],false,false,fun(a:D.World×(List Int)×Int)=>gd (a.1.sz≤34000000000∧a.2.1.length≤100000000) (some (fO a.1 a.2.1 a.2.2))⟩
theorem Ph:OK 6 Pg:=mkS (.s .n (.s .n (.s .n (.s .n (.s .n (.s .n (.s (.il 0 (.s (.y false (some 13) (some 14) (od 16 [9,13,14])) .n) .n) .n))))))) [.cell 6 57, .tmp 7, .tmp 8] (gc aJq (gc Pd (gc zK (gc Zn (gc (sIl 27) (gc Zp aC)))))) func6 ntmps6 (fun a _=>aB (Od a.1 a.2.1 a.2.2)) (fun _=>by kernel_rfl)
def aJ6:SU:=⟨[.sl 222],[.sl 222],true,false,fun(a:(List D.aAD))=>gd (a.length≤34359738368) (some (a))⟩
theorem Lx:OK 174 aJ6:=mkS .n [.tmp 2] aC func174 ntmps174 (fun(a:(List D.aAD)) _=>aB (aHv a)) (fun _=>by kernel_rfl)
def Z7:SU:=⟨[.sl 5],[.sl 5],true,false,fun(a:(List Int))=>gd (a.length≤34359738368) (some (a))⟩
theorem zL:OK 238 Z7:=mkS .n [.tmp 2] aC func238 ntmps238 (fun(a:(List Int)) _=>aB (P8 a)) (fun _=>by kernel_rfl)
def Z8:SU:=⟨[.sl 274],[.sl 274],true,false,fun(a:(List D.Box))=>gd (uH D.Box.sz a≤34359738368) (some (a))⟩
theorem Z9:OK 237 Z8:=mkS (.s .n (.s .n (.s (.j ⟨[(3,1),(1,1),(1,15)],[.tr (.s 3) 0 274 true],[],[]⟩ (.s .n (.s (.l ⟨[(3,1),(1,1),(3,13)],[.tr (.s 3) 0 274 true, .nat (.s 9)],[],[]⟩ FUEL .n) .n))) .n))) [.tmp 2] (gc zL aC) func237 ntmps237 (fun(a:(List D.Box)) _=>aB (P9 a)) (fun _=>by kernel_rfl)
def Gf:SU:=⟨[.st 46],[.st 46],true,false,fun(a:D.aAF)=>gd (a.sz≤34359738368) (some (a))⟩
theorem Gg:OK 175 Gf:=mkS (.s .n (.s (.r (some 6) (od 7 [4,6])) .n)) [.cell 2 46] (gc Z9 aC) func175 ntmps175 (fun(a:D.aAF) _=>aB (Fa a)) (fun _=>by kernel_rfl)
def Zq:SU:=⟨[.st 207],[.st 207],true,false,fun(a:D.aAB)=>gd (a.sz≤34359738368) (some (a))⟩
theorem Zr:OK 176 Zq:=mkS .n [.cell 2 207] (gc zL aC) func176 ntmps176 (fun(a:D.aAB) _=>aB (Yd a)) (fun _=>by kernel_rfl)
def aAa:SU:=⟨[.st 49],[.st 49],true,false,fun(a:D.aAJ)=>gd (a.sz≤34359738368) (some (a))⟩
theorem aAb:OK 95 aAa:=mkS (.s .n (.s bAn (.s (.j ⟨[(5,1),(7,15)],[.nt (.c 4 3) 207 true],[],[]⟩ (.s .n (.s (.l ⟨[(5,1),(10,12)],[.nat (.s 16), .nt (.c 4 3) 207 true],[],[]⟩ FUEL aZ0) .n))) .n))) [.cell 2 49] (gc Lx (gc Gg (gc Zr aC))) func95 ntmps95 (fun(a:D.aAJ) _=>aB (Q0 a)) (fun _=>by kernel_rfl)
def aD7:SU:=⟨[.st 173],[.st 173],true,false,fun(a:D.aAA)=>gd (a.sz≤34359738368) (some (a))⟩
theorem Ej:OK 177 aD7:=mkS .n [.cell 2 173] aC func177 ntmps177 (fun(a:D.aAA) _=>aB (aC9 a)) (fun _=>by kernel_rfl)
def aAc:SU:=⟨[.sl 173],[.sl 173],true,false,fun(a:(List D.aAA))=>gd (uH D.aAA.sz a≤34359738368) (some (a))⟩
theorem zM:OK 96 aAc:=mkS (.s .n (.s .n (.s (.j ⟨[(3,1),(1,1),(1,12)],[.tr (.s 3) 0 173 true],[],[]⟩ (.s .n (.s (.l ⟨[(3,1),(1,1),(3,10)],[.tr (.s 3) 0 173 true, .nat (.s 9)],[],[]⟩ FUEL .n) .n))) .n))) [.tmp 2] (gc Ej aC) func96 ntmps96 (fun(a:(List D.aAA)) _=>aB (Q3 a)) (fun _=>by kernel_rfl)
def aD8:SU:=⟨[.st 55],[.st 55],true,false,fun(a:D.aAI)=>gd (a.sz≤34359738368) (some (a))⟩
theorem Em:OK 97 aD8:=mkS .n [.cell 2 55] aC func97 ntmps97 (fun(a:D.aAI) _=>aB (aDb a)) (fun _=>by kernel_rfl)
def Zt:SU:=⟨[.st 133],[.st 133],true,false,fun(a:D.aAH)=>gd (a.sz≤34359738368) (some (a))⟩
theorem Zu:OK 178 Zt:=mkS .n [.cell 2 133] aC func178 ntmps178 (fun(a:D.aAH) _=>aB (Ya a)) (fun _=>by kernel_rfl)
def Zv:SU:=⟨[.st 135],[.st 135],true,false,fun(a:D.Device)=>gd (a.sz≤34359738368) (some (a))⟩
theorem Zw:OK 98 Zv:=mkS .n [.cell 2 135] (gc Lx (gc Zu aC)) func98 ntmps98 (fun(a:D.Device) _=>aB (Yc a)) (fun _=>by kernel_rfl)
def aD9:SU:=⟨[.st 141],[.st 141],true,false,fun(a:D.aAC)=>gd (a.sz≤34359738368) (some (a))⟩
theorem aEa:OK 179 aD9:=mkS bAm [.cell 2 141] aC func179 ntmps179 (fun(a:D.aAC) _=>aB (aC7 a)) (fun _=>by kernel_rfl)
def aL8:SU:=⟨[.sl 3, .sl 40],[.sl 3],true,false,fun(a:(List Int)×(List (List Int)))=>gd (Ia a.1 a.2) (some (xC a.1 a.2))⟩
theorem nV:OK 109 aL8:=mkS (.s .n (.s .n (.s (.j ⟨[(5,1),(1,1),(3,10)],[.tr (.s 5) 0 3 true],[],[]⟩ (.s .n (.s (.l ⟨[(5,1),(1,1),(5,8)],[.tr (.s 5) 0 3 true, .nat (.s 13)],[],[]⟩ FUEL .n) .n))) .n))) [.tmp 4] aC func109 ntmps109 (fun a _=>aB (aLi a.1 a.2)) (fun _=>by kernel_rfl)
def Uf:SU:=⟨[.st 211],[.st 211],true,false,fun(a:D.aAE)=>gd (a.sz≤34359738368) (some (a))⟩
theorem Ug:OK 180 Uf:=mkS bAm [.cell 2 211] aC func180 ntmps180 (fun(a:D.aAE) _=>aB (Sw a)) (fun _=>by kernel_rfl)
def aEb:SU:=⟨[.st 143],[.st 143],true,false,fun(a:D.Site)=>gd (a.sz≤34359738368) (some (a))⟩
theorem aEc:OK 99 aEb:=mkS (.s .n (.s (.y false (some 9) (some 10) [(0,true),(1,true),(2,true),(3,true),(5,true),(6,true),(4,false),(7,false),(8,true),(9,false),(10,false)]) (.s (.j ⟨[(5,1),(9,15)],[.nt (.c 4 1) 211 true],[],[]⟩ (.s .n (.s (.l ⟨[(5,1),(12,12)],[.nat (.s 18), .nt (.c 4 1) 211 true],[],[]⟩ FUEL aZ0) .n))) .n))) [.cell 2 143] (gc aEa (gc nV (gc Ug aC))) func99 ntmps99 (fun(a:D.Site) _=>aB (aC8 a)) (fun _=>by kernel_rfl)
def aAd:SU:=⟨[.st 57],[.st 57],true,false,fun(a:D.World)=>gd (a.sz≤34359738368) (some (a))⟩
theorem aAe:OK 35 aAd:=mkS (.s .n (.s (.y true (some 22) (some 23) [(0,true),(1,true),(2,true),(3,true),(5,true),(6,true),(8,true),(9,true),(11,true),(12,true),(13,true),(14,true),(16,true),(17,true),(18,true),(19,true),(4,false),(7,false),(10,false),(15,false),(20,false),(21,false),(22,false),(23,false)]) (.s (.j ⟨[(5,1),(24,15)],[.nt (.c 8 2) 135 true],[],[]⟩ (.s .n (.s (.l ⟨[(5,1),(27,12)],[.nat (.s 33), .nt (.c 8 2) 135 true],[],[]⟩ FUEL aZ0) .n))) (.s (.j ⟨[(7,1),(37,15)],[.nt (.c 8 8) 143 true],[],[]⟩ (.s .n (.s (.l ⟨[(7,1),(40,12)],[.nat (.s 48), .nt (.c 8 8) 143 true],[],[]⟩ FUEL aZ0) .n))) .n)))) [.cell 2 57] (gc aAb (gc zM (gc Em (gc Zw (gc aEc aC))))) func35 ntmps35 (fun(a:D.World) _=>aB (Q4 a)) (fun _=>by kernel_rfl)
def aJ7:SU:=⟨[i6,i6,i6],[.bool],false,false,fun(a:Int×Int×Int)=>some (cZ a.1 a.2.1 a.2.2)⟩
theorem dR:OK 100 aJ7:=mkS bAt [.tmp 6] aC func100 ntmps100 (fun a _=>(aHr a.1 a.2.1 a.2.2).trans) (fun _=>by kernel_rfl)
def aL9:SU:=⟨[.str],[.bool],false,false,fun(a:ByteArray)=>some (gD a)⟩
theorem Rf:OK 239 aL9:=mkS (.s .n (.s .n (.s (.jx ⟨[(2,1),(1,3),(3,57)],[],[],[]⟩ (.s .n (.s (.l ⟨[(2,1),(1,3),(6,54)],[.nat (.s 13)],[],[]⟩ FUEL (.s .n (.s .n (.s (.jx ⟨[(2,1),(1,3),(8,51)],[],[],[]⟩ (.s (.s .n (.s (.s (.rj 4 ⟨[(20,18)],[.dat (.s 37) .bool],[],[]⟩ .n) .n) (.s .n (.s (.l ⟨[(2,1),(2,2),(31,28)],[.nat (.s 5)],[],[]⟩ FUEL (.s .n (.s (.s (.s .n (.s (.rj 3 ⟨[(49,17)],[.dat (.s 65) .bool],[],[]⟩ .n) .n)) .n) .n))) .n)))) .n)) .n)))) .n))) .n))) [.tmp 2] (gc Cx aC) func239 ntmps239 (fun a _=>(aLm a).trans) (fun _=>by kernel_rfl)
def Uh:SU:=⟨[.str],[.str],false,false,fun(a:ByteArray)=>some (aVv a)⟩
theorem Ui:OK 240 Uh:=mkS .n [.tmp 2] (gc Rf (gc Cx (gc aGv aC))) func240 ntmps240 (fun a _=>(Td a).trans) (fun _=>by kernel_rfl)
def aMa:SU:=⟨[.str],[.bool],false,false,fun(a:ByteArray)=>gd (a.size≤9223372036854775807) (some (Nb a))⟩
theorem aMb:OK 241 aMa:=mkS (.s .n (.s (.jx ⟨[(2,12)],[],[],[]⟩ (.s .n (.s (.l ⟨[(2,12)],[.nat (.s 3)],[],[]⟩ FUEL .n) .n))) .n)) [.tmp 2] aC func241 ntmps241 (fun(a:ByteArray) _=>aB (aLn a)) (fun _=>by kernel_rfl)
def Zx:SU:=⟨[i6],[.bool],false,false,fun(a:Int)=>some (mK a)⟩
theorem jB:OK 105 Zx:=mkS .n [.tmp 2] (gc dR aC) func105 ntmps105 (fun a _=>(Xz a).trans) (fun _=>by kernel_rfl)
def Uj:SU:=⟨[.str,i6],[.bool],false,false,fun(a:ByteArray×Int)=>gd (a.1.size≤9223372036854775807) (some (jR a.1 a.2))⟩
theorem Uk:OK 181 Uj:=mkS (.s .n (.s (.rj 3 ⟨[(4,1),(2,13)],[.dat (.s 4) .bool],[],[]⟩ .n) .n)) [.tmp 4] (gc Rf (gc Ui (gc aMb (gc jB aC)))) func181 ntmps181 (fun a _=>aB (Te a.1 a.2)) (fun _=>by kernel_rfl)
def Ul:SU:=⟨[.st 141],[.bool],false,false,fun(a:D.aAC)=>gd (a.sz≤34359738368) (some (lH a))⟩
theorem Um:OK 182 Ul:=mkS (.s .n (.s (.s (.rj 5 ⟨[(9,6)],[.dat (.s 14) .bool],[],[]⟩ .n) .n) (.s (.jx ⟨[(2,3),(10,44)],[],[],[]⟩ (.s .n (.s (.l ⟨[(2,3),(13,41)],[.nat (.s 18)],[],[]⟩ FUEL (.s .n (.s .n (.s (.s (.s .n (.s (.rj 8 ⟨[(30,28)],[.dat (.s 57) .bool],[],[]⟩ (.r none (od 35 [5,26,32]))) .n)) .n) .n)))) .n))) .n))) [.tmp 2] (gc dR aC) func182 ntmps182 (fun(a:D.aAC) _=>aB (Tc a)) (fun _=>by kernel_rfl)
def aPu:SU:=⟨[i6,i6,i6],[i6],false,false,fun(a:Int×Int×Int)=>eO a.1 a.2.1 a.2.2⟩
theorem rA:OK 273 aPu:=mkS (.s .n (.s .n (.s .n (.s (.j ⟨[(0,2),(5,1),(5,17)],[.dat (.s 7) i6],[],[]⟩ (.s (.l ⟨[(0,2),(5,1),(5,17)],[.dat (.s 0) i6, .dat (.s 1) i6, .dat (.s 7) i6],[],[]⟩ FUEL (.s .n (.s (.s (.j ⟨[(7,1),(7,8)],[.dat (.s 7) i6],[],[]⟩ .n) .n) .n))) .n)) .n)))) [.tmp 6] aC func273 ntmps273 (fun _ _=>id) (fun _=>by kernel_rfl)
def Zy:SU:=⟨[i6],[i6],false,false,fun(a:Int)=>some (jM a)⟩
theorem wD:OK 242 Zy:=mkS .n [.tmp 2] (gc jB (gc rA aC)) func242 ntmps242 (fun a _=>(Yf a).trans) (fun _=>by kernel_rfl)
def Gh:SU:=⟨[.st 211],[.bool],false,false,fun(a:D.aAE)=>gd (a.sz≤34359738368) (some (fB a))⟩
theorem Gi:OK 183 Gh:=mkS (.s .n (.s (.s (.rj 5 ⟨[(11,12)],[.dat (.s 22) .bool],[],[]⟩ .n) .n) (.s (.jx ⟨[(2,3),(1,1),(16,56)],[],[],[]⟩ (.s .n (.s (.l ⟨[(2,3),(1,1),(19,53)],[.nat (.s 26)],[],[]⟩ FUEL (.s .n (.s .n (.s (.jx ⟨[(2,3),(1,1),(21,50)],[],[],[]⟩ (.s (.s .n (.s (.s (.rj 5 ⟨[(35,28)],[.dat (.s 62) .bool],[],[]⟩ (.r none (od 32 [2,23,29]))) .n) (.s .n (.s (.l ⟨[(2,1),(3,1),(61,10)],[.nat (.s 68)],[],[]⟩ FUEL .n) .n)))) .n)) .n)))) .n))) .n))) [.tmp 2] (gc dR (gc wD aC)) func183 ntmps183 (fun(a:D.aAE) _=>aB (Fg a)) (fun _=>by kernel_rfl)
def Uo:SU:=⟨[.st 143],[.bool],false,false,fun(a:D.Site)=>gd (a.sz≤34359738368) (some (lI a))⟩
theorem Uq:OK 101 Uo:=mkS (.s .n (.s (.s (.rj 8 ⟨[(12,12)],[.dat (.s 23) .bool],[],[]⟩ .n) .n) (.s (.jx ⟨[(2,3),(19,28)],[],[],[]⟩ (.s .n (.s (.l ⟨[(2,3),(22,25)],[.nat (.s 27)],[],[]⟩ FUEL (.s .n (.s .n (.s (.s (.s .n (.s (.rj 4 ⟨[(35,16)],[.dat (.s 50) .bool],[],[]⟩ (.r none (od 19 [1]))) .n)) .n) .n)))) .n))) .n))) [.tmp 2] (gc Uk (gc Um (gc Gi aC))) func101 ntmps101 (fun(a:D.Site) _=>aB (Tg a)) (fun _=>by kernel_rfl)
def aEd:SU:=⟨[i6],[.str],false,false,fun(a:Int)=>some (gX a)⟩
theorem aEe:OK 102 aEd:=mkS .n [.tmp 2] aC func102 ntmps102 (fun a _=>(aDd a).trans) (fun _=>by kernel_rfl)
def Gj:SU:=⟨[.st 55],[.bool],false,false,fun(a:D.aAI)=>gd (a.sz≤34359738368) (some (dU a))⟩
theorem nK:OK 103 Gj:=mkS (.s .n (.s .n (.s (.jx ⟨[(2,3),(4,41)],[],[],[]⟩ (.s .n (.s (.l ⟨[(2,3),(7,38)],[.nat (.s 12)],[],[]⟩ FUEL (.s .n bAo)) .n))) .n))) [.tmp 2] (gc dR aC) func103 ntmps103 (fun(a:D.aAI) _=>aB (Fe a)) (fun _=>by kernel_rfl)
def aS8:SU:=⟨[.sl 3,i6],[.bool],false,false,fun(a:(List Int)×Int)=>gd (a.1.length≤1099511627776) (some (jD a.1 a.2))⟩
theorem Ur:OK 186 aS8:=mkS (.s .n (.s (.jx ⟨[(4,1),(1,11)],[],[],[]⟩ (.s .n (.s (.l ⟨[(4,1),(1,1),(2,8)],[.nat (.s 9)],[],[]⟩ FUEL .n) .n))) .n)) [.tmp 4] aC func186 ntmps186 (fun a _=>aB (aS5 a.1 a.2)) (fun _=>by kernel_rfl)
def aAf:SU:=⟨[.sl 222],[.sl 3],true,false,fun(a:(List D.aAD))=>gd (a.length≤34359738368) (some (bF a))⟩
theorem aAg:OK 184 aAf:=mkS (.s .n (.s .n (.s (.j ⟨[(3,1),(1,2),(1,1),(1,40)],[.tr (.s 3) 0 3 true],[],[]⟩ (.s .n (.s (.l ⟨[(3,1),(1,2),(1,1),(3,38)],[.tr (.s 3) 0 3 true, .nat (.s 12)],[],[]⟩ FUEL (.s .n (.s .n (.s (.j ⟨[(3,1),(1,2),(1,1),(5,35)],[.tr (.s 3) 0 3 true],[],[]⟩ (.s (.s .n (.s .n (.s (.s .n (.s .n (.s .n (.s (.s .n (.s (.j ⟨[(6,1),(1,1),(24,15)],[.tr (.s 6) 2 3 true],[],[]⟩ (.s .n (.s (.l ⟨[(6,1),(1,1),(26,13)],[.tr (.s 6) 2 3 true, .nat (.s 35)],[],[]⟩ FUEL (.s .n (.s .n (.s (.j ⟨[(6,1),(1,1),(28,10)],[.tr (.s 6) 2 3 true],[],[]⟩ .n) .n)))) .n))) .n)) .n)))) .n))) .n)) .n)))) .n))) .n))) [.tmp 2] (gc Ur aC) func184 ntmps184 (fun(a:(List D.aAD)) _=>aB (P7 a)) (fun _=>by kernel_rfl)
def aS9:SU:=⟨[i6,i6],[i6],false,false,fun(a:Int×Int)=>some (bU a.1 a.2)⟩
theorem kS:OK 244 aS9:=mkS (.s .n (.s (.s (.rj 3 ⟨[(8,4)],[.dat (.s 11) .bool],[],[]⟩ .n) .n) (.s .n (.s (.j ⟨[(5,1),(9,5)],[.dat (.s 5) i6],[],[]⟩ .n) .n)))) [.tmp 4] aC func244 ntmps244 (fun a _=>(aS3 a.1 a.2).trans) (fun _=>by kernel_rfl)
def aRv:SU:=⟨[.sl 3],[i6],false,false,fun(a:(List Int))=>gd (a.length≤1099511627776) (some (wT a))⟩
theorem aB9:OK 197 aRv:=mkS (.s .n (.s .n (.s (.j ⟨[(3,1),(1,15)],[.dat (.s 3) i6],[],[]⟩ (.s .n (.s (.l ⟨[(3,1),(1,1),(2,12)],[.dat (.s 3) i6, .nat (.s 8)],[],[]⟩ FUEL .n) .n))) .n))) [.tmp 2] (gc kS aC) func197 ntmps197 (fun(a:(List Int)) _=>aB (aRp a)) (fun _=>by kernel_rfl)
def aAh:SU:=⟨[.st 222],[i6],false,false,fun(a:D.aAD)=>some (dH a)⟩
theorem zN:OK 189 aAh:=mkS .n [.tmp 2] (gc aB9 aC) func189 ntmps189 (fun a _=>(Q6 a).trans) (fun _=>by kernel_rfl)
def aJ8:SU:=⟨[.sl 222],[i6],false,false,fun(a:(List D.aAD))=>gd (a.length≤34359738368) (some (gL a))⟩
theorem aJ9:OK 185 aJ8:=mkS .n [.tmp 2] (gc zN aC) func185 ntmps185 (fun(a:(List D.aAD)) _=>aB (aH8 a)) (fun _=>by kernel_rfl)
def Zz:SU:=⟨[.sl 222,i6],[.bool],false,false,fun(a:(List D.aAD)×Int)=>gd (a.1.length≤34359738368) (some (lG a.1 a.2))⟩
theorem d9:OK 187 Zz:=mkS (.s .n (.s (.jx ⟨[(4,1),(1,17)],[],[],[]⟩ (.s .n (.s (.l ⟨[(4,1),(1,1),(2,14)],[.nat (.s 9)],[],[]⟩ FUEL (.s .n (.s .n (.s (.s (.s .n (.s (.rj 4 ⟨[(16,6)],[.dat (.s 21) .bool],[],[]⟩ .n) .n)) .n) .n)))) .n))) .n)) [.tmp 4] aC func187 ntmps187 (fun a _=>aB (Yg a.1 a.2)) (fun _=>by kernel_rfl)
def aAi:SU:=⟨[i6, .sl 3],[i6],false,false,fun(a:Int×(List Int))=>gd (a.2.length≤34359738368) (some (fI a.1 a.2))⟩
theorem iE:OK 108 aAi:=mkS .n [.tmp 4] (gc nV (gc aB9 aC)) func108 ntmps108 (fun a _=>aB (O7 a.1 a.2)) (fun _=>by kernel_rfl)
def Ut:SU:=⟨[i6, .sl 3],[i6],false,false,fun(a:Int×(List Int))=>gd (a.2.length≤34359738300) (some (Xc a.1 a.2))⟩
theorem Uu:OK 243 Ut:=mkS .n [.tmp 4] (gc jB (gc nV (gc iE aC))) func243 ntmps243 (fun a _=>aB (Sz a.1 a.2)) (fun _=>by kernel_rfl)
def Bw:SU:=⟨[i6, .sl 3,i6],[.bool],false,false,fun(a:Int×(List Int)×Int)=>gd (a.2.1.length≤34359738300) (some (iZ a.1 a.2.1 a.2.2))⟩
theorem Ca:OK 188 Bw:=mkS bAq [.tmp 6] (gc wD (gc Uu aC)) func188 ntmps188 (fun a _=>aB (Bd a.1 a.2.1 a.2.2)) (fun _=>by kernel_rfl)
def aAj:SU:=⟨[.sl 222],[.bool],false,false,fun(a:(List D.aAD))=>gd (a.length≤34359738368) (some (sG a))⟩
theorem aAk:OK 104 aAj:=mkS (.s .n (.s (.s (.rj 4 ⟨[(10,5)],[.dat (.s 14) .bool],[],[]⟩ .n) .n) (.s (.jx ⟨[(2,5),(8,83)],[],[],[]⟩ (.s .n (.s (.l ⟨[(2,5),(10,81)],[.nat (.s 17)],[],[]⟩ FUEL (.s .n (.s .n (.s (.jx ⟨[(2,5),(12,78)],[],[],[]⟩ (.s (.s .n (.s .n (.s .n (.s (.s (.rj 5 ⟨[(31,26)],[.dat (.s 56) .bool],[],[]⟩ (.r none (od 30 [8,15]))) .n) (.s (.jx ⟨[(2,1),(54,31)],[],[],[]⟩ (.s .n (.s (.s .n (.s (.s (.rj 5 ⟨[(65,11)],[.dat (.s 75) .bool],[],[]⟩ .n) .n) (.s .n (.s (.s (.rj 6 ⟨[(83,5)],[.dat (.s 87) .bool],[],[]⟩ .n) .n) .n)))) .n))) (.s (.r none [(0,true),(1,true),(2,true),(5,true),(6,true),(3,false),(4,false),(7,false),(8,true)]) .n)))))) .n)) .n)))) .n))) .n))) [.tmp 2] (gc aAg (gc aJ9 (gc Ur (gc d9 (gc zN (gc Ca aC)))))) func104 ntmps104 (fun(a:(List D.aAD)) _=>aB (Q8 a)) (fun _=>by kernel_rfl)
def Pi:SU:=⟨[.st 57],[.bool],false,false,fun(a:D.World)=>gd (a.sz≤34359738368) (some (iO a))⟩
theorem Pj:OK 36 Pi:=mkS (.s .n (.s (.s (.rj 5 ⟨[(9,22)],[.dat (.s 30) .bool],[],[]⟩ .n) .n) (.s (.jx ⟨[(2,3),(26,19)],[],[],[]⟩ (.s .n (.s (.l ⟨[(2,3),(29,16)],[.nat (.s 34)],[],[]⟩ FUEL (.s .n (.s .n (.s (.s (.s .n (.s (.rj 4 ⟨[(42,7)],[.dat (.s 48) .bool],[],[]⟩ (.r none (od 10 [1,7]))) .n)) .n) .n)))) .n))) (.s (.rj 4 ⟨[(2,1),(50,11)],[.dat (.s 2) .bool],[],[]⟩ .n) .n)))) [.tmp 2] (gc dR (gc Uq (gc aEe (gc nK (gc aAk (gc jB aC)))))) func36 ntmps36 (fun(a:D.World) _=>aB (Ny a)) (fun _=>by kernel_rfl)
def aPv:SU:=⟨[i6],[i6],false,false,fun(a:Int)=>some (wG a)⟩
theorem o5:OK 107 aPv:=mkS .n [.tmp 2] aC func107 ntmps107 (fun a _=>(aPj a).trans) (fun _=>by kernel_rfl)
def aAl:SU:=⟨[i6, .sl 3],[i6],false,false,fun(a:Int×(List Int))=>gd (a.2.length≤34359738300) (some (lF a.1 a.2))⟩
theorem zO:OK 38 aAl:=mkS .n [.tmp 4] (gc nV (gc iE (gc o5 aC))) func38 ntmps38 (fun a _=>aB (O9 a.1 a.2)) (fun _=>by kernel_rfl)
def aMc:SU:=⟨[.sl 173, .sl 3,i6,i6],[.bool],false,false,fun(a:(List D.aAA)×(List Int)×Int×Int)=>gd (a.1.length≤34359738368∧a.2.1.length≤34359738368) (some (aGr a.1 a.2.1 a.2.2.1 a.2.2.2))⟩
theorem aMd:OK 190 aMc:=mkS (.s .n (.s (.jx ⟨[(8,26)],[],[],[]⟩ (.s .n (.s (.l ⟨[(8,3),(2,21)],[.nat (.s 13)],[],[]⟩ FUEL (.s .n (.s .n (.s (.s (.s .n (.s (.rj 3 ⟨[(20,13)],[.dat (.s 32) .bool],[],[]⟩ .n) .n)) .n) .n)))) .n))) (.s (.rj 4 ⟨[(8,1),(28,4)],[.dat (.s 8) .bool],[],[]⟩ .n) .n))) [.tmp 8] (gc Ur (gc kS (gc dR aC))) func190 ntmps190 (fun a _=>aB (aLp a.1 a.2.1 a.2.2.1 a.2.2.2)) (fun _=>by kernel_rfl)
def iY:SU:=⟨[i6],[.bool],false,false,fun(a:Int)=>some (gB a)⟩
theorem dV:OK 249 iY:=mkS bAu [.tmp 2] (gc dR (gc rA aC)) func249 ntmps249 (fun a _=>(Fj a).trans) (fun _=>by kernel_rfl)
def iR:SU:=⟨[i6,i6],[i6],false,false,fun(a:Int×Int)=>some (dO a.1 a.2)⟩
theorem iT:OK 245 iR:=mkS .n [.tmp 4] (gc dV (gc kS (gc rA aC))) func245 ntmps245 (fun a _=>(aDh a.1 a.2).trans) (fun _=>by kernel_rfl)
def Uv:SU:=⟨[i6,i6],[i6],false,false,fun(a:Int×Int)=>some (Al a.1 a.2)⟩
theorem Uw:OK 246 Uv:=mkS .n [.tmp 4] (gc iE (gc iT aC)) func246 ntmps246 (fun a _=>(Tj a.1 a.2).trans) (fun _=>by kernel_rfl)
def o6:SU:=⟨[i6,i6,i6],[i6],false,false,fun(a:Int×Int×Int)=>some (dI a.1 a.2.1 a.2.2)⟩
theorem o7:OK 191 o6:=mkS .n [.tmp 6] (gc kS (gc Uw (gc iT aC))) func191 ntmps191 (fun a _=>(Yp a.1 a.2.1 a.2.2).trans) (fun _=>by kernel_rfl)
def aEf:SU:=⟨[.st 170],[i6],false,false,fun(a:D.aAL)=>some (uY a)⟩
theorem aEg:OK 247 aEf:=mkS .n [.tmp 2] aC func247 ntmps247 (fun a _=>(aDf a).trans) (fun _=>by kernel_rfl)
def aAm:SU:=⟨[.sl 168],[.bool],false,false,fun(a:(List D.aAN))=>some (aGp a)⟩
theorem aAn:OK 285 aAm:=mkS (.s .n (.s .n (.s .n (.s (.jx ⟨[(2,1),(2,1),(5,26)],[],[],[0]⟩ (.s .n (.s (.l ⟨[(2,1),(2,1),(7,24)],[.nat (.s 13), .dat (.c 0 0) .bool, .dat (.c 0 1) .bool, .dat (.c 0 2) .bool, .dat (.c 0 3) .bool, .dat (.c 0 4) .bool, .dat (.c 0 5) .bool, .dat (.c 0 6) .bool, .dat (.c 0 7) .bool],[],[]⟩ FUEL (.s .n (.s .n (.s (.s (.s .n (.s (.s (.rj 5 ⟨[(21,12)],[.dat (.s 32) .bool],[],[]⟩ .n) .n) .n)) .n) .n)))) .n))) .n)))) [.tmp 2] (gc dR aC) func285 ntmps285 (fun a _=>(R3 a).trans) (fun _=>by kernel_rfl)
def Ma:SU:=⟨[.st 170],[.bool],false,false,fun(a:D.aAL)=>some (gY a)⟩
theorem Mc:OK 274 Ma:=mkS bAs [.tmp 2] (gc aAn (gc dR aC)) func274 ntmps274 (fun a _=>(Kt a).trans) (fun _=>by kernel_rfl)
def Md:SU:=⟨[.st 168,i6],[i6],false,false,fun(a:D.aAN×Int)=>some (qY a.1 a.2)⟩
theorem Me:OK 275 Md:=mkS bAr [.tmp 4] (gc dV (gc dR (gc iT aC))) func275 ntmps275 (fun a _=>(Kv a.1 a.2).trans) (fun _=>by kernel_rfl)
def aAo:SU:=⟨[.st 170,i6],[.st 170,i6, .bool],false,false,fun(a:D.aAL×Int)=>some (gH a.1 a.2)⟩
theorem aAp:OK 248 aAo:=mkS (.s .n (.s (.s (.rj 4 ⟨[(10,16)],[.dat (.s 25) .bool],[],[]⟩ .n) .n) (.s .n (.s (.r (some 5) (od 8 [4,5,6,7])) .n)))) [.cell 4 170, .tmp 5, .tmp 6] (gc Mc (gc dV (gc Me aC))) func248 ntmps248 (fun a _=>(R7 a.1 a.2).trans) (fun _=>by kernel_rfl)
def aKa:SU:=⟨[.st 173,i6],[.st 173,i6, .bool],true,false,fun(a:D.aAA×Int)=>gd (a.1.sz≤34359738300) (some (jN a.1 a.2))⟩
theorem aKb:OK 192 aKa:=mkS (.s .n (.s .n (.s (.s (.r none [(0,true),(1,true),(3,true),(4,true),(2,false),(5,true)]) .n) (.s .n (.s .n (.s .n (.s (.j ⟨[(38,10)],[.tr (.c 3 5) 2 170 true],[],[]⟩ .n) .n))))))) [.cell 4 173, .tmp 5, .tmp 6] (gc Ej (gc aEg (gc aAp aC))) func192 ntmps192 (fun a _=>aB (aIh a.1 a.2)) (fun _=>by kernel_rfl)
def Cb:SU:=⟨[i6],[i6],false,false,fun(a:Int)=>some (mO a)⟩
theorem mJ:OK 254 Cb:=mkS .n [.tmp 2] (gc kS (gc rA aC)) func254 ntmps254 (fun a _=>(Bf a).trans) (fun _=>by kernel_rfl)
def fA:SU:=⟨[.sl 3,i6,i6],[i6],false,false,fun(a:(List Int)×Int×Int)=>gd (a.1.length≤34359738368) (some (pK a.1 a.2.1 a.2.2))⟩
theorem Gl:OK 251 fA:=mkS (.s .n (.s (.s (.rj 3 ⟨[(15,6)],[.dat (.s 20) .bool],[],[]⟩ .n) .n) (.s (.jx ⟨[(6,3),(12,22)],[],[],[]⟩ (.s .n (.s (.l ⟨[(6,3),(14,20)],[.nat (.s 23)],[],[]⟩ FUEL (.s .n (.s .n (.s (.jx ⟨[(6,3),(16,17)],[],[],[]⟩ (.s (.s .n (.s .n (.s (.l ⟨[(6,1),(1,1),(17,16)],[.nat (.s 8)],[],[]⟩ FUEL bDg) .n))) .n)) .n)))) .n))) (.s .n (.s .n (.s (.j ⟨[(9,1),(1,2),(35,28)],[.dat (.s 9) i6],[],[]⟩ (.s .n (.s (.l ⟨[(9,1),(1,2),(37,26)],[.dat (.s 9) i6, .nat (.s 50)],[],[]⟩ FUEL (.s .n (.s .n (.s (.j ⟨[(9,1),(1,2),(39,23)],[.dat (.s 9) i6],[],[]⟩ .n) .n)))) .n))) .n)))))) [.tmp 6] (gc kS (gc mJ aC)) func251 ntmps251 (fun a _=>aB (Fq a.1 a.2.1 a.2.2)) (fun _=>by kernel_rfl)
def iU:SU:=⟨[i6,i6],[i6],false,false,fun(a:Int×Int)=>some (fM a.1 a.2)⟩
theorem aEh:OK 250 iU:=mkS aYf [.tmp 4] (gc dV aC) func250 ntmps250 (fun a _=>(aDj a.1 a.2).trans) (fun _=>by kernel_rfl)
def dG:SU:=⟨[.sl 3, .sl 3],[i6, .bool],false,false,fun(a:(List Int)×(List Int))=>gd (a.1.length≤34359738368∧a.2.length≤34359738368) (some (gZ a.1 a.2))⟩
theorem uF (args:Array Value)(w:World):(callFunc 193 args).run Tryz.prog w= .ok (.enter 193 args) w:=by kernel_rfl
theorem uh1 (a:Int):(EV.aY Yn iY.ar a).map EV.jZ=[V.int IntKind.i64 a]:=by kernel_rfl
theorem rh1 (a:Int):gJ ((EV.aY Yn iY.rs (gB a)).map EV.jZ)= .bool (gB a):=by kernel_rfl
theorem uh2 (a:Int×Int):(EV.aY Yn iR.ar a).map EV.jZ=[V.int IntKind.i64 a.1,V.int IntKind.i64 a.2]:=by kernel_rfl
theorem rh2 (a:Int×Int):gJ ((EV.aY Yn iR.rs (dO a.1 a.2)).map EV.jZ)=V.int IntKind.i64 (dO a.1 a.2):=by kernel_rfl
theorem uh3 (a:Int×Int):(EV.aY Yn iU.ar a).map EV.jZ=[V.int IntKind.i64 a.1,V.int IntKind.i64 a.2]:=by kernel_rfl
theorem rh3 (a:Int×Int):gJ ((EV.aY Yn iU.rs (fM a.1 a.2)).map EV.jZ)=V.int IntKind.i64 (fM a.1 a.2):=by kernel_rfl
theorem uh4 (a:List Int×Int×Int):(EV.aY Yn fA.ar a).map EV.jZ=[.slice 1 (a.1.map iV),V.int IntKind.i64 a.2.1,V.int IntKind.i64 a.2.2]:=by kernel_rfl
theorem rh4 (a:List Int×Int×Int):gJ ((EV.aY Yn fA.rs (pK a.1 a.2.1 a.2.2)).map EV.jZ)=V.int IntKind.i64 (pK a.1 a.2.1 a.2.2):=by kernel_rfl
theorem sh1 (a:Int):Spec Tryz.prog G0 249 [V.int IntKind.i64 a] (fun r=>r= .bool (gB a)):=by
 have h:=(dV a (gB a) rfl).1 rfl rfl
 rw[←uh1,←rh1];exact h
theorem sh2 (a b:Int):Spec Tryz.prog G0 245 [V.int IntKind.i64 a,V.int IntKind.i64 b] (fun r=>r=V.int IntKind.i64 (dO a b)):=by
 have h:=(iT (a,b) (dO a b) rfl).1 rfl rfl
 have e1:(EV.aY Yn iR.ar ((a,b):Int×Int)).map EV.jZ=[V.int IntKind.i64 a,V.int IntKind.i64 b]:=uh2 (a,b)
 have e2:gJ ((EV.aY Yn iR.rs (dO a b)).map EV.jZ)=V.int IntKind.i64 (dO a b):=rh2 (a,b)
 rw[←e1,←e2];exact h
theorem sh3 (a b:Int):Spec Tryz.prog G0 250 [V.int IntKind.i64 a,V.int IntKind.i64 b] (fun r=>r=V.int IntKind.i64 (fM a b)):=by
 have h:=(aEh (a,b) (fM a b) rfl).1 rfl rfl
 have e1:(EV.aY Yn iU.ar ((a,b):Int×Int)).map EV.jZ=[V.int IntKind.i64 a,V.int IntKind.i64 b]:=uh3 (a,b)
 have e2:gJ ((EV.aY Yn iU.rs (fM a b)).map EV.jZ)=V.int IntKind.i64 (fM a b):=rh3 (a,b)
 rw[←e1,←e2];exact h
theorem sh4 (l:List Int)(k a:Int)(hl:l.length≤34359738368):Spec Tryz.prog G0 251 [.slice 1 (l.map iV),V.int IntKind.i64 k,V.int IntKind.i64 a] (fun r=>r=V.int IntKind.i64 (pK l k a)):=by
 have h:=(Gl (l,k,a) (pK l k a) (aG hl)).1 rfl rfl
 have e1:(EV.aY Yn fA.ar ((l,k,a):List Int×Int×Int)).map EV.jZ=[.slice 1 (l.map iV),V.int IntKind.i64 k,V.int IntKind.i64 a]:=uh4 (l,k,a)
 have e2:gJ ((EV.aY Yn fA.rs (pK l k a)).map EV.jZ)=V.int IntKind.i64 (pK l k a):=rh4 (l,k,a)
 rw[←e1,←e2];exact h
theorem uO (a:List Int×List Int):(EV.aY Yn dG.ar a).map EV.jZ=[.slice 1 (a.1.map iV), .slice 1 (a.2.map iV)]:=by kernel_rfl
theorem uP (a:List Int×List Int):gJ ((EV.aY Yn dG.rs (gZ a.1 a.2)).map EV.jZ)= .tup [V.int IntKind.i64 (gZ a.1 a.2).1, .bool (gZ a.1 a.2).2]:=by kernel_rfl
theorem uQ (a:List Int×List Int)(r:EV.kV Un dG.rs)(hr:gd (a.1.length≤34359738368∧a.2.length≤34359738368) (some (gZ a.1 a.2))=some r):Spec Tryz.prog G0 193 ((EV.aY Yn dG.ar a).map EV.jZ) (fun v=>v=gJ ((EV.aY Yn dG.rs r).map EV.jZ)):=by
 unfold gd at hr
 split at hr
 ·rename_i hp
  have e:=Option.some.inj hr
  subst e
  rw[uO,uP]
  exact aV1 uF sh1 sh2 sh3 sh4 a.1 a.2 hp
 ·cases hr
theorem uR:EV.rT Tryz.prog G0 Yn 193 dG:=fun(a:List Int×List Int) r hr=>⟨fun _ _=>uQ a r hr,fun _ h=>absurd (show false=true from h) Bool.false_ne_true,fun h=>absurd (show false=true from h) Bool.false_ne_true,fun h=>absurd (show false=true from h) Bool.false_ne_true⟩
def Pk:SU:=⟨[i6,i6],[i6],false,false,fun(a:Int×Int)=>some (Qk a.1 a.2)⟩
theorem Pm:OK 196 Pk:=mkS aYf [.tmp 4] (gc dV (gc kS (gc mJ (gc iT aC)))) func196 ntmps196 (fun a _=>(Oc a.1 a.2).trans) (fun _=>by kernel_rfl)
def aAq:SU:=⟨[i6,i6],[i6],false,false,fun(a:Int×Int)=>some (qW a.1 a.2)⟩
theorem aAr:OK 195 aAq:=mkS .n [.tmp 4] (gc iE (gc o5 aC)) func195 ntmps195 (fun a _=>(R5 a.1 a.2).trans) (fun _=>by kernel_rfl)
def o8:SU:=⟨[i6,i6],[i6],false,false,fun(a:Int×Int)=>some (qX a.1 a.2)⟩
theorem o9:OK 252 o8:=mkS .n [.tmp 4] (gc iE aC) func252 ntmps252 (fun a _=>(Ym a.1 a.2).trans) (fun _=>by kernel_rfl)
def aKc:SU:=⟨[i6,i6],[i6],false,false,fun(a:Int×Int)=>some (Xf a.1 a.2)⟩
theorem aKd:OK 253 aKc:=mkS .n [.tmp 4] (gc dR (gc zO aC)) func253 ntmps253 (fun a _=>(aIg a.1 a.2).trans) (fun _=>by kernel_rfl)
def aAs:SU:=⟨[.st 51,i6],[i6, .bool],false,false,fun(a:D.aAQ×Int)=>some (wH a.1 a.2)⟩
theorem aAt:OK 194 aAs:=mkS bAp [.tmp 4, .tmp 5] (gc o9 (gc aKd aC)) func194 ntmps194 (fun a _=>(R9 a.1 a.2).trans) (fun _=>by kernel_rfl)
def p9:SU:=⟨[.st 51, .sl 173, .sl 3,i6,i6],[.sl 173,i6, .bool, .bool],true,false,fun(a:D.aAQ×(List D.aAA)×(List Int)×Int×Int)=>gd (uH D.aAA.sz a.2.1≤34000000000∧a.2.2.1.length≤100000000) (some (aUa a.1 a.2.1 a.2.2.1 a.2.2.2.1 a.2.2.2.2))⟩
theorem q9:OK 106 p9:=mkS (.s .n (.s .n (.s .n (.s .n (.s .n (.s .n (.s .n (.s (.j ⟨[(16,3),(1,4),(20,36)],[.tr (.s 16) 2 3 true, .tr (.s 17) 3 3 true, .dat (.s 18) .bool, .ti 1 173 true],[],[]⟩ (.s .n (.s (.l ⟨[(16,3),(1,4),(22,34)],[.tr (.s 16) 2 3 true, .tr (.s 17) 3 3 true, .dat (.s 18) .bool, .nat (.s 46), .ti 1 173 true],[],[]⟩ FUEL (.s .n (.s .n (.s (.s (.s .n (.s .n (.s .n (.s (.rj 2 ⟨[(18,1),(46,3)],[.dat (.s 18) .bool],[],[]⟩ .n) .n)))) .n) .n)))) .n))) (.s (.s (.rj 3 ⟨[(82,7)],[.dat (.s 88) .bool],[],[]⟩ .n) .n) (.s .n (.s .n bDf))))))))))) [.tmp 10, .tmp 11, .tmp 12, .tmp 13] (gc zM (gc aMd (gc o7 (gc aKb (gc uR (gc Pm (gc aAr (gc aAt aC)))))))) func106 ntmps106 (fun a _=>aB (Yr a.1 a.2.1 a.2.2.1 a.2.2.2.1 a.2.2.2.2)) (fun _=>by kernel_rfl)
def r9:SU:=⟨[.st 51, .sl 173, .sl 3,i6,i6],[.sl 173,i6, .bool],true,false,fun(a:D.aAQ×(List D.aAA)×(List Int)×Int×Int)=>gd (uH D.aAA.sz a.2.1≤34000000000∧a.2.2.1.length≤100000000) (some (oH a.1 a.2.1 a.2.2.1 a.2.2.2.1 a.2.2.2.2))⟩
theorem w9:OK 37 r9:=mkS .n [.tmp 10, .tmp 11, .tmp 12] (gc q9 aC) func37 ntmps37 (fun a _=>aB (Yt a.1 a.2.1 a.2.2.1 a.2.2.2.1 a.2.2.2.2)) (fun _=>by kernel_rfl)
def x8:SU:=⟨[.st 55,i6,i6,i6],[.st 55, .bool],true,false,fun(a:D.aAI×Int×Int×Int)=>gd (a.1.sz≤34359738300) (some (Ib a.1 a.2.1 a.2.2.1 a.2.2.2))⟩
theorem x9:OK 110 x8:=mkS (.s .n (.s .n (.s .n (.s .n (.s (.j ⟨[(11,3),(16,29)],[.tr (.c 3 0) 2 219 true],[],[]⟩ (.s .n (.s (.s .n (.s (.j ⟨[(11,3),(20,12)],[.dat (.s 11) i6],[],[]⟩ (.s .n (.s (.l ⟨[(11,3),(23,9)],[.dat (.s 11) i6, .nat (.s 37)],[],[]⟩ FUEL .n) .n))) (.y true none (some 13) [(1,true),(2,true),(3,true),(4,true),(6,true),(7,true),(8,true),(9,true),(10,true),(0,false),(5,false),(11,false),(12,false),(13,false)]))) .n))) .n))))) [.cell 8 55, .tmp 9] (gc nK (gc Em aC)) func110 ntmps110 (fun a _=>aB (Yh a.1 a.2.1 a.2.2.1 a.2.2.2)) (fun _=>by kernel_rfl)
def Pn:SU:=⟨[.st 57, .sl 3,i6],[.st 57,i6, .bool],true,false,fun(a:D.World×(List Int)×Int)=>gd (a.1.sz≤34000000000∧a.2.1.length≤100000000) (some (fO a.1 a.2.1 a.2.2))⟩
theorem Po:OK 9 Pn:=mkS (.s .n (.s .n (.s .n (.s (.r none (od 22 [10,11,14])) (.s .n (.s (.il 1 .n .n) .n)))))) [.cell 6 57, .tmp 7, .tmp 8] (gc aAe (gc Pj (gc zO (gc w9 (gc (sIl 39) (gc x9 aC)))))) func9 ntmps9 (fun a _=>aB (Oe a.1 a.2.1 a.2.2)) (fun _=>by kernel_rfl)
def y5:SU:=⟨[.st 130, .st 130],[.bool],false,false,fun(a:D.aAO×D.aAO)=>gd (dK (0) a.1 a.2) (some true)⟩
theorem y7:OK 198 y5:=mkS .n [.tmp 4] aC func198 ntmps198 (fun a _=>aB (Xt a.1 a.2)) (fun _=>by kernel_rfl)
def y9:SU:=⟨[.st 222, .st 222],[.bool],false,false,fun(a:D.aAD×D.aAD)=>gd (dK (0) a.1 a.2) (some true)⟩
theorem A7:OK 200 y9:=mkS .n [.tmp 4] aC func200 ntmps200 (fun a _=>aB (Xu a.1 a.2)) (fun _=>by kernel_rfl)
def Ux:SU:=⟨[.sl 222, .sl 222],[.bool],false,false,fun(a:(List D.aAD)×(List D.aAD))=>gd (dK (a.1.length) a.1 a.2) (some true)⟩
theorem uG:OK 112 Ux:=mkS aDk [.tmp 4] (gc A7 aC) func112 ntmps112 (fun a _=>aB (Sd a.1 a.2)) (fun _=>by kernel_rfl)
def aKe:SU:=⟨[.st 259, .st 259],[.bool],false,false,fun(a:D.Entry×D.Entry)=>gd (dK (0) a.1 a.2) (some true)⟩
theorem aKf:OK 276 aKe:=mkS .n [.tmp 4] aC func276 ntmps276 (fun a _=>aB (aHj a.1 a.2)) (fun _=>by kernel_rfl)
def aEi:SU:=⟨[.sl 259, .sl 259],[.bool],false,false,fun(a:(List D.Entry)×(List D.Entry))=>gd (dK (a.1.length) a.1 a.2) (some true)⟩
theorem aEj:OK 255 aEi:=mkS aDk [.tmp 4] (gc aKf aC) func255 ntmps255 (fun a _=>aB (aCy a.1 a.2)) (fun _=>by kernel_rfl)
def aEk:SU:=⟨[.st 133, .st 133],[.bool],false,false,fun(a:D.aAH×D.aAH)=>gd (dK (a.1.sz) a.1 a.2) (some true)⟩
theorem aEl:OK 199 aEk:=mkS .n [.tmp 4] (gc aEj aC) func199 ntmps199 (fun a _=>aB (aCz a.1 a.2)) (fun _=>by kernel_rfl)
def aEm:SU:=⟨[.st 135, .st 135],[.bool],false,false,fun(a:D.Device×D.Device)=>gd (dK (a.1.sz) a.1 a.2) (some true)⟩
theorem aEn:OK 111 aEm:=mkS .n [.tmp 4] (gc y7 (gc uG (gc aEl aC))) func111 ntmps111 (fun a _=>aB (aC0 a.1 a.2)) (fun _=>by kernel_rfl)
def aAu:SU:=⟨[.sl 135, .sl 135],[.bool],false,false,fun(a:(List D.Device)×(List D.Device))=>gd (dK (a.1.length+(a.1.map D.Device.sz).sum) a.1 a.2) (some true)⟩
theorem aAv:OK 40 aAu:=mkS aDk [.tmp 4] (gc aEn aC) func40 ntmps40 (fun a _=>aB (M3 a.1 a.2)) (fun _=>by kernel_rfl)
def aKg:SU:=⟨[.sl 4, .sl 4],[.bool],false,false,fun(a:(List Bool)×(List Bool))=>gd (dK (a.1.length) a.1 a.2) (some true)⟩
theorem aKh:OK 41 aKg:=mkS bCa [.tmp 4] aC func41 ntmps41 (fun a _=>aB (aHk a.1 a.2)) (fun _=>by kernel_rfl)
def aKi:SU:=⟨[.sl 5, .sl 5],[.bool],false,false,fun(a:(List Int)×(List Int))=>gd (dK (a.1.length) a.1 a.2) (some true)⟩
theorem Mf:OK 257 aKi:=mkS bCa [.tmp 4] aC func257 ntmps257 (fun a _=>aB (aHl a.1 a.2)) (fun _=>by kernel_rfl)
def aPw:SU:=⟨[.st 274, .st 274],[.bool],false,false,fun(a:D.Box×D.Box)=>gd (dK (a.1.sz) a.1 a.2) (some true)⟩
theorem aPx:OK 256 aPw:=mkS .n [.tmp 4] (gc Mf aC) func256 ntmps256 (fun a _=>aB (aPi a.1 a.2)) (fun _=>by kernel_rfl)
def aMe:SU:=⟨[.sl 274, .sl 274],[.bool],false,false,fun(a:(List D.Box)×(List D.Box))=>gd (dK (a.1.length+(a.1.map D.Box.sz).sum) a.1 a.2) (some true)⟩
theorem aMf:OK 201 aMe:=mkS aDk [.tmp 4] (gc aPx aC) func201 ntmps201 (fun a _=>aB (aLf a.1 a.2)) (fun _=>by kernel_rfl)
def Pp:SU:=⟨[.st 46, .st 46],[.bool],false,false,fun(a:D.aAF×D.aAF)=>gd (dK (a.1.sz) a.1 a.2) (some true)⟩
theorem Pq:OK 113 Pp:=mkS .n [.tmp 4] (gc aMf aC) func113 ntmps113 (fun a _=>aB (Nq a.1 a.2)) (fun _=>by kernel_rfl)
def Gm:SU:=⟨[.st 207, .st 207],[.bool],false,false,fun(a:D.aAB×D.aAB)=>gd (dK (a.1.sz) a.1 a.2) (some true)⟩
theorem Gn:OK 202 Gm:=mkS .n [.tmp 4] (gc Mf aC) func202 ntmps202 (fun a _=>aB (Eu a.1 a.2)) (fun _=>by kernel_rfl)
def Cc:SU:=⟨[.sl 207, .sl 207],[.bool],false,false,fun(a:(List D.aAB)×(List D.aAB))=>gd (dK (a.1.length+(a.1.map D.aAB.sz).sum) a.1 a.2) (some true)⟩
theorem Ce:OK 114 Cc:=mkS aDk [.tmp 4] (gc Gn aC) func114 ntmps114 (fun a _=>aB (Av a.1 a.2)) (fun _=>by kernel_rfl)
def aKj:SU:=⟨[.st 49, .st 49],[.bool],false,false,fun(a:D.aAJ×D.aAJ)=>gd (dK (a.1.sz) a.1 a.2) (some true)⟩
theorem aKk:OK 42 aKj:=mkS .n [.tmp 4] (gc uG (gc Pq (gc Ce aC))) func42 ntmps42 (fun a _=>aB (aHm a.1 a.2)) (fun _=>by kernel_rfl)
def Ps:SU:=⟨[.st 276, .st 276],[.bool],false,false,fun(a:D.aAG×D.aAG)=>gd (dK (0) a.1 a.2) (some true)⟩
theorem Pt:OK 286 Ps:=mkS .n [.tmp 4] aC func286 ntmps286 (fun a _=>aB (Nr a.1 a.2)) (fun _=>by kernel_rfl)
def Mg:SU:=⟨[.sl 276, .sl 276],[.bool],false,false,fun(a:(List D.aAG)×(List D.aAG))=>gd (dK (a.1.length) a.1 a.2) (some true)⟩
theorem Mh:OK 277 Mg:=mkS aDk [.tmp 4] (gc Pt aC) func277 ntmps277 (fun a _=>aB (Km a.1 a.2)) (fun _=>by kernel_rfl)
def aAw:SU:=⟨[.st 211, .st 211],[.bool],false,false,fun(a:D.aAE×D.aAE)=>gd (dK (a.1.sz) a.1 a.2) (some true)⟩
theorem aAx:OK 258 aAw:=mkS .n [.tmp 4] (gc Mh aC) func258 ntmps258 (fun a _=>aB (M4 a.1 a.2)) (fun _=>by kernel_rfl)
def A8:SU:=⟨[.sl 211, .sl 211],[.bool],false,false,fun(a:(List D.aAE)×(List D.aAE))=>gd (dK (a.1.length+(a.1.map D.aAE.sz).sum) a.1 a.2) (some true)⟩
theorem A9:OK 203 A8:=mkS aDk [.tmp 4] (gc aAx aC) func203 ntmps203 (fun a _=>aB (Xv a.1 a.2)) (fun _=>by kernel_rfl)
def Uy:SU:=⟨[.st 264, .st 264],[.bool],false,false,fun(a:D.aAK×D.aAK)=>gd (dK (0) a.1 a.2) (some true)⟩
theorem Uz:OK 278 Uy:=mkS .n [.tmp 4] aC func278 ntmps278 (fun a _=>aB (Sg a.1 a.2)) (fun _=>by kernel_rfl)
def Pv:SU:=⟨[.sl 264, .sl 264],[.bool],false,false,fun(a:(List D.aAK)×(List D.aAK))=>gd (dK (a.1.length) a.1 a.2) (some true)⟩
theorem Pw:OK 259 Pv:=mkS aDk [.tmp 4] (gc Uz aC) func259 ntmps259 (fun a _=>aB (Ns a.1 a.2)) (fun _=>by kernel_rfl)
def Cf:SU:=⟨[.st 141, .st 141],[.bool],false,false,fun(a:D.aAC×D.aAC)=>gd (dK (a.1.sz) a.1 a.2) (some true)⟩
theorem Cg:OK 204 Cf:=mkS .n [.tmp 4] (gc Pw aC) func204 ntmps204 (fun a _=>aB (Aw a.1 a.2)) (fun _=>by kernel_rfl)
def aMg:SU:=⟨[.sl 3, .sl 3],[.bool],false,false,fun(a:(List Int)×(List Int))=>gd (dK (a.1.length) a.1 a.2) (some true)⟩
theorem aMh:OK 11 aMg:=mkS bCa [.tmp 4] aC func11 ntmps11 (fun a _=>aB (aLg a.1 a.2)) (fun _=>by kernel_rfl)
def aMi:SU:=⟨[.st 143, .st 143],[.bool],false,false,fun(a:D.Site×D.Site)=>gd (dK (a.1.sz) a.1 a.2) (some true)⟩
theorem aMj:OK 115 aMi:=mkS .n [.tmp 4] (gc A9 (gc Cg (gc aMh aC))) func115 ntmps115 (fun a _=>aB (aLh a.1 a.2)) (fun _=>by kernel_rfl)
def aKl:SU:=⟨[.sl 143, .sl 143],[.bool],false,false,fun(a:(List D.Site)×(List D.Site))=>gd (dK (a.1.length+(a.1.map D.Site.sz).sum) a.1 a.2) (some true)⟩
theorem aKm:OK 43 aKl:=mkS aDk [.tmp 4] (gc aMj aC) func43 ntmps43 (fun a _=>aB (aHn a.1 a.2)) (fun _=>by kernel_rfl)
def aKn:SU:=⟨[.st 51, .st 51],[.bool],false,false,fun(a:D.aAQ×D.aAQ)=>gd (dK (0) a.1 a.2) (some true)⟩
theorem aKo:OK 44 aKn:=mkS .n [.tmp 4] aC func44 ntmps44 (fun a _=>aB (aHo a.1 a.2)) (fun _=>by kernel_rfl)
def aKp:SU:=⟨[.st 168, .st 168],[.bool],false,false,fun(a:D.aAN×D.aAN)=>gd (dK (0) a.1 a.2) (some true)⟩
theorem aKq:OK 260 aKp:=mkS .n [.tmp 4] aC func260 ntmps260 (fun a _=>aB (aHp a.1 a.2)) (fun _=>by kernel_rfl)
def aEo:SU:=⟨[.st 170, .st 170],[.bool],false,false,fun(a:D.aAL×D.aAL)=>gd (dK (0) a.1 a.2) (some true)⟩
theorem En:OK 205 aEo:=mkS .n [.tmp 4] (gc aKq aC) func205 ntmps205 (fun a _=>aB (aC1 a.1 a.2)) (fun _=>by kernel_rfl)
def aAy:SU:=⟨[.sl 170, .sl 170],[.bool],false,false,fun(a:(List D.aAL)×(List D.aAL))=>gd (dK (a.1.length) a.1 a.2) (some true)⟩
theorem aAz:OK 206 aAy:=mkS aDk [.tmp 4] (gc En aC) func206 ntmps206 (fun a _=>aB (M5 a.1 a.2)) (fun _=>by kernel_rfl)
def Px:SU:=⟨[.st 173, .st 173],[.bool],false,false,fun(a:D.aAA×D.aAA)=>gd (dK (a.1.sz) a.1 a.2) (some true)⟩
theorem Py:OK 116 Px:=mkS .n [.tmp 4] (gc En (gc aAz aC)) func116 ntmps116 (fun a _=>aB (Nt a.1 a.2)) (fun _=>by kernel_rfl)
def Mi:SU:=⟨[.sl 173, .sl 173],[.bool],false,false,fun(a:(List D.aAA)×(List D.aAA))=>gd (dK (a.1.length+(a.1.map D.aAA.sz).sum) a.1 a.2) (some true)⟩
theorem Mj:OK 45 Mi:=mkS aDk [.tmp 4] (gc Py aC) func45 ntmps45 (fun a _=>aB (Kn a.1 a.2)) (fun _=>by kernel_rfl)
def aEp:SU:=⟨[.st 219, .st 219],[.bool],false,false,fun(a:D.aAM×D.aAM)=>gd (dK (0) a.1 a.2) (some true)⟩
theorem aEq:OK 207 aEp:=mkS .n [.tmp 4] aC func207 ntmps207 (fun a _=>aB (aC2 a.1 a.2)) (fun _=>by kernel_rfl)
def aA0:SU:=⟨[.sl 219, .sl 219],[.bool],false,false,fun(a:(List D.aAM)×(List D.aAM))=>gd (dK (a.1.length) a.1 a.2) (some true)⟩
theorem aA1:OK 117 aA0:=mkS aDk [.tmp 4] (gc aEq aC) func117 ntmps117 (fun a _=>aB (M6 a.1 a.2)) (fun _=>by kernel_rfl)
def aA2:SU:=⟨[.st 55, .st 55],[.bool],false,false,fun(a:D.aAI×D.aAI)=>gd (dK (a.1.sz) a.1 a.2) (some true)⟩
theorem aA3:OK 46 aA2:=mkS .n [.tmp 4] (gc aA1 aC) func46 ntmps46 (fun a _=>aB (M7 a.1 a.2)) (fun _=>by kernel_rfl)
def aKr:SU:=⟨[.st 57, .st 57],[.bool],false,false,fun(a:D.World×D.World)=>gd (dK (a.1.sz) a.1 a.2) (some true)⟩
theorem aKs:OK 10 aKr:=mkS .n [.tmp 4] (gc aAv (gc aKh (gc aKk (gc aKm (gc aKo (gc Mj (gc aA3 aC))))))) func10 ntmps10 (fun a _=>aB (aHq a.1 a.2)) (fun _=>by kernel_rfl)
def Mk:SU:=⟨[.sl 222,i6],[.sl 222,i6],false,true,fun(a:(List D.aAD)×Int)=>gd (iG (a.1.length) (aA aF a.1) a.2) (some (aX aO a.1 a.2))⟩
theorem pE:OK 118 Mk:=mkW (.s .n (.s (.j ⟨[(1,1),(3,49)],[.dat (.s 1) i6, .ti 0 222 true],[],[]⟩ (.s .n (.s (.l ⟨[(1,1),(3,49)],[.dat (.s 1) i6, .nat (.s 5), .ti 0 222 true],[],[]⟩ FUEL .n) .n))) .n)) [.tmp 4] aC func118 ntmps118 (fun a _=>aB (Ko a.1 a.2)) (fun _=>by kernel_rfl)
def C8:SU:=⟨[.sl 259,i6],[.sl 259,i6],false,true,fun(a:(List D.Entry)×Int)=>gd (iG (a.1.length) (aA bY a.1) a.2) (some (aX eP a.1 a.2))⟩
theorem C9:OK 119 C8:=mkW (.s .n (.s (.j ⟨[(1,1),(3,37)],[.dat (.s 1) i6, .ti 0 259 true],[],[]⟩ (.s .n (.s (.l ⟨[(1,1),(3,37)],[.dat (.s 1) i6, .nat (.s 5), .ti 0 259 true],[],[]⟩ FUEL .n) .n))) .n)) [.tmp 4] aC func119 ntmps119 (fun a _=>aB (Xw a.1 a.2)) (fun _=>by kernel_rfl)
def Va:SU:=⟨[.sl 135,i6],[.sl 135,i6],false,true,fun(a:(List D.Device)×Int)=>gd (iG (a.1.length+(a.1.map D.Device.sz).sum) (aA aL a.1) a.2) (some (aX bP a.1 a.2))⟩
theorem Vb:OK 47 Va:=mkW (.s .n (.s (.j ⟨[(1,1),(3,75)],[.dat (.s 1) i6, .ti 0 135 true],[],[]⟩ (.s .n (.s (.l ⟨[(1,1),(3,75)],[.dat (.s 1) i6, .nat (.s 5), .ti 0 135 true],[],[]⟩ FUEL .n) .n))) .n)) [.tmp 4] (gc pE (gc C9 aC)) func47 ntmps47 (fun a _=>aB (Si a.1 a.2)) (fun _=>by kernel_rfl)
def aA4:SU:=⟨[.sl 4,i6],[.sl 4,i6],false,true,fun(a:(List Bool)×Int)=>gd (iG (a.1.length) (aA eF a.1) a.2) (some (aX mkB a.1 a.2))⟩
theorem aA5:OK 48 aA4:=mkW (.s .n (.s (.j ⟨[(1,1),(3,15)],[.dat (.s 1) i6, .ti 0 4 true],[],[]⟩ (.s .n (.s (.l ⟨[(1,1),(3,15)],[.dat (.s 1) i6, .nat (.s 5), .ti 0 4 true],[],[]⟩ FUEL .n) .n))) .n)) [.tmp 4] aC func48 ntmps48 (fun a _=>aB (M8 a.1 a.2)) (fun _=>by kernel_rfl)
def aA6:SU:=⟨[.sl 5,i6],[.sl 5,i6],false,true,fun(a:(List Int)×Int)=>gd (iG (a.1.length) (aA eF a.1) a.2) (some (aX mkU a.1 a.2))⟩
theorem zP:OK 209 aA6:=mkW (.s .n (.s (.j ⟨[(1,1),(3,14)],[.dat (.s 1) i6, .ti 0 5 true],[],[]⟩ (.s .n (.s (.l ⟨[(1,1),(3,14)],[.dat (.s 1) i6, .nat (.s 5), .ti 0 5 true],[],[]⟩ FUEL .n) .n))) .n)) [.tmp 4] aC func209 ntmps209 (fun a _=>aB (M9 a.1 a.2)) (fun _=>by kernel_rfl)
def aEr:SU:=⟨[.sl 274,i6],[.sl 274,i6],false,true,fun(a:(List D.Box)×Int)=>gd (iG (a.1.length+(a.1.map D.Box.sz).sum) (aA dP a.1) a.2) (some (aX dY a.1 a.2))⟩
theorem aEs:OK 208 aEr:=mkW (.s .n (.s (.j ⟨[(1,1),(3,35)],[.dat (.s 1) i6, .ti 0 274 true],[],[]⟩ (.s .n (.s (.l ⟨[(1,1),(3,35)],[.dat (.s 1) i6, .nat (.s 5), .ti 0 274 true],[],[]⟩ FUEL .n) .n))) .n)) [.tmp 4] (gc zP aC) func208 ntmps208 (fun a _=>aB (aC3 a.1 a.2)) (fun _=>by kernel_rfl)
def Gp:SU:=⟨[.st 46,i6],[.st 46,i6],false,true,fun(a:D.aAF×Int)=>gd (iG (a.1.sz) (aJ a.1) a.2) (some (cO a.1 a.2))⟩
theorem Gq:OK 120 Gp:=mkW .n [.tmp 4] (gc aEs aC) func120 ntmps120 (fun a _=>aB (Ew a.1 a.2)) (fun _=>by kernel_rfl)
def wL:SU:=⟨[.sl 207,i6],[.sl 207,i6],false,true,fun(a:(List D.aAB)×Int)=>gd (iG (a.1.length+(a.1.map D.aAB.sz).sum) (aA aI a.1) a.2) (some (aX aT a.1 a.2))⟩
theorem wM:OK 121 wL:=mkW (.s .n (.s (.j ⟨[(1,1),(3,35)],[.dat (.s 1) i6, .ti 0 207 true],[],[]⟩ (.s .n (.s (.l ⟨[(1,1),(3,35)],[.dat (.s 1) i6, .nat (.s 5), .ti 0 207 true],[],[]⟩ FUEL .n) .n))) .n)) [.tmp 4] (gc zP aC) func121 ntmps121 (fun a _=>aB (wI a.1 a.2)) (fun _=>by kernel_rfl)
def aA7:SU:=⟨[.st 49,i6],[.st 49,i6],false,true,fun(a:D.aAJ×Int)=>gd (iG (a.1.sz) (aR a.1) a.2) (some (fG a.1 a.2))⟩
theorem aA8:OK 49 aA7:=mkW .n [.tmp 4] (gc pE (gc Gq (gc wM aC))) func49 ntmps49 (fun a _=>aB (N7 a.1 a.2)) (fun _=>by kernel_rfl)
def aEt:SU:=⟨[i6],[.str],false,false,fun(a:Int)=>eT a⟩
theorem Eo:OK 122 aEt:=mkS (.s .n (.s .n (.s .n (.s (.j ⟨[(0,1),(2,1),(2,12)],[.dat (.s 3) (.str)],[],[]⟩ (.s (.l ⟨[(0,1),(2,1),(2,12)],[.dat (.s 0) i6, .dat (.s 3) (.str)],[],[]⟩ FUEL .n) .n)) .n)))) [.tmp 2] aC func122 ntmps122 (fun _ _=>id) (fun _=>by kernel_rfl)
def Ch:SU:=⟨[.sl 276,i6],[.sl 276,i6],false,true,fun(a:(List D.aAG)×Int)=>gd (iG (a.1.length) (aA aS a.1) a.2) (some (aX bR a.1 a.2))⟩
theorem Ci:OK 210 Ch:=mkW (.s .n (.s (.j ⟨[(1,1),(3,37)],[.dat (.s 1) i6, .ti 0 276 true],[],[]⟩ (.s .n (.s (.l ⟨[(1,1),(3,37)],[.dat (.s 1) i6, .nat (.s 5), .ti 0 276 true],[],[]⟩ FUEL .n) .n))) .n)) [.tmp 4] aC func210 ntmps210 (fun a _=>aB (Ay a.1 a.2)) (fun _=>by kernel_rfl)
def Pz:SU:=⟨[.sl 211,i6],[.sl 211,i6],false,true,fun(a:(List D.aAE)×Int)=>gd (iG (a.1.length+(a.1.map D.aAE.sz).sum) (aA aK a.1) a.2) (some (aX cK a.1 a.2))⟩
theorem Qa:OK 123 Pz:=mkW (.s .n (.s (.j ⟨[(1,1),(3,28)],[.dat (.s 1) i6, .ti 0 211 true],[],[]⟩ (.s .n (.s (.l ⟨[(1,1),(3,28)],[.dat (.s 1) i6, .nat (.s 5), .ti 0 211 true],[],[]⟩ FUEL .n) .n))) .n)) [.tmp 4] (gc Ci aC) func123 ntmps123 (fun a _=>aB (Nu a.1 a.2)) (fun _=>by kernel_rfl)
def Gr:SU:=⟨[.sl 264,i6],[.sl 264,i6],false,true,fun(a:(List D.aAK)×Int)=>gd (iG (a.1.length) (aA aQ a.1) a.2) (some (aX bW a.1 a.2))⟩
theorem Gs:OK 124 Gr:=mkW (.s .n (.s (.j ⟨[(1,1),(3,28)],[.dat (.s 1) i6, .ti 0 264 true],[],[]⟩ (.s .n (.s (.l ⟨[(1,1),(3,28)],[.dat (.s 1) i6, .nat (.s 5), .ti 0 264 true],[],[]⟩ FUEL .n) .n))) .n)) [.tmp 4] aC func124 ntmps124 (fun a _=>aB (Ex a.1 a.2)) (fun _=>by kernel_rfl)
def aEu:SU:=⟨[.sl 3,i6],[.sl 3,i6],false,true,fun(a:(List Int)×Int)=>gd (iG (a.1.length) (aA eF a.1) a.2) (some (aX mkI a.1 a.2))⟩
theorem aEv:OK 13 aEu:=mkW (.s .n (.s (.j ⟨[(1,1),(3,13)],[.dat (.s 1) i6, .ti 0 3 true],[],[]⟩ (.s .n (.s (.l ⟨[(1,1),(3,13)],[.dat (.s 1) i6, .nat (.s 5), .ti 0 3 true],[],[]⟩ FUEL .n) .n))) .n)) [.tmp 4] aC func13 ntmps13 (fun a _=>aB (aC4 a.1 a.2)) (fun _=>by kernel_rfl)
def aA9:SU:=⟨[.sl 143,i6],[.sl 143,i6],false,true,fun(a:(List D.Site)×Int)=>gd (iG (a.1.length+(a.1.map D.Site.sz).sum) (aA bS a.1) a.2) (some (aX eQ a.1 a.2))⟩
theorem aBa:OK 50 aA9:=mkW (.s .n (.s (.j ⟨[(1,1),(3,53)],[.dat (.s 1) i6, .ti 0 143 true],[],[]⟩ (.s .n (.s (.l ⟨[(1,1),(3,53)],[.dat (.s 1) i6, .nat (.s 5), .ti 0 143 true],[],[]⟩ FUEL .n) .n))) .n)) [.tmp 4] (gc Eo (gc Qa (gc Gs (gc aEv aC)))) func50 ntmps50 (fun a _=>aB (N8 a.1 a.2)) (fun _=>by kernel_rfl)
def Vd:SU:=⟨[.sl 170,i6],[.sl 170,i6],false,true,fun(a:(List D.aAL)×Int)=>gd (iG (a.1.length) (aA bE a.1) a.2) (some (aX dM a.1 a.2))⟩
theorem Ve:OK 125 Vd:=mkW (.s .n (.s (.j ⟨[(1,1),(3,44)],[.dat (.s 1) i6, .ti 0 170 true],[],[]⟩ (.s .n (.s (.l ⟨[(1,1),(3,44)],[.dat (.s 1) i6, .nat (.s 5), .ti 0 170 true],[],[]⟩ FUEL .n) .n))) .n)) [.tmp 4] aC func125 ntmps125 (fun a _=>aB (Sj a.1 a.2)) (fun _=>by kernel_rfl)
def Cj:SU:=⟨[.sl 173,i6],[.sl 173,i6],false,true,fun(a:(List D.aAA)×Int)=>gd (iG (a.1.length+(a.1.map D.aAA.sz).sum) (aA aN a.1) a.2) (some (aX bB a.1 a.2))⟩
theorem Ck:OK 51 Cj:=mkW (.s .n (.s (.j ⟨[(1,1),(3,63)],[.dat (.s 1) i6, .ti 0 173 true],[],[]⟩ (.s .n (.s (.l ⟨[(1,1),(3,63)],[.dat (.s 1) i6, .nat (.s 5), .ti 0 173 true],[],[]⟩ FUEL .n) .n))) .n)) [.tmp 4] (gc Ve aC) func51 ntmps51 (fun a _=>aB (Az a.1 a.2)) (fun _=>by kernel_rfl)
def Vf:SU:=⟨[.sl 219,i6],[.sl 219,i6],false,true,fun(a:(List D.aAM)×Int)=>gd (iG (a.1.length) (aA bM a.1) a.2) (some (aX dF a.1 a.2))⟩
theorem Vg:OK 126 Vf:=mkW (.s .n (.s (.j ⟨[(1,1),(3,37)],[.dat (.s 1) i6, .ti 0 219 true],[],[]⟩ (.s .n (.s (.l ⟨[(1,1),(3,37)],[.dat (.s 1) i6, .nat (.s 5), .ti 0 219 true],[],[]⟩ FUEL .n) .n))) .n)) [.tmp 4] aC func126 ntmps126 (fun a _=>aB (Sk a.1 a.2)) (fun _=>by kernel_rfl)
def Vh:SU:=⟨[.st 55,i6],[.st 55,i6],false,true,fun(a:D.aAI×Int)=>gd (iG (a.1.sz) (aU a.1) a.2) (some (eD a.1 a.2))⟩
theorem Vi:OK 52 Vh:=mkW .n [.tmp 4] (gc Vg aC) func52 ntmps52 (fun a _=>aB (Sl a.1 a.2)) (fun _=>by kernel_rfl)
def aBb:SU:=⟨[.st 57,i6],[.st 57,i6],false,true,fun(a:D.World×Int)=>gd (iG (a.1.sz) (dJ a.1) a.2) (some (bX a.1 a.2))⟩
theorem aBc:OK 12 aBb:=mkW .n [.tmp 4] (gc Vb (gc aA5 (gc aA8 (gc aBa (gc Ck (gc Vi aC)))))) func12 ntmps12 (fun a _=>aB (N9 a.1 a.2)) (fun _=>by kernel_rfl)
def Ml:SU:=⟨[.sl 222,i6],[i6],false,false,fun(a:(List D.aAD)×Int)=>gd (bC (aX aO) (aA aF) a.1 a.2) (some (a.2+((aA aF a.1:Nat):Int)))⟩
theorem pF:OK 127 Ml:=mkS (.s .n (.s (.jx ⟨[(1,1),(2,62)],[.dat (.s 1) i6],[],[]⟩ (.s .n (.s (.l ⟨[(1,1),(2,62)],[.dat (.s 1) i6, .nat (.s 5)],[],[]⟩ FUEL .n) .n))) .n)) [.tmp 4] aC func127 ntmps127 (fun a _=>aB (Kq a.1 a.2)) (fun _=>by kernel_rfl)
def D5:SU:=⟨[.sl 259,i6],[i6],false,false,fun(a:(List D.Entry)×Int)=>gd (bC (aX eP) (aA bY) a.1 a.2) (some (a.2+((aA bY a.1:Nat):Int)))⟩
theorem D6:OK 128 D5:=mkS bCb [.tmp 4] aC func128 ntmps128 (fun a _=>aB (Xx a.1 a.2)) (fun _=>by kernel_rfl)
def Vj:SU:=⟨[.sl 135,i6],[i6],false,false,fun(a:(List D.Device)×Int)=>gd (bC (aX bP) (aA aL) a.1 a.2) (some (a.2+((aA aL a.1:Nat):Int)))⟩
theorem Vk:OK 53 Vj:=mkS (.s .n (.s (.jx ⟨[(1,1),(2,94)],[.dat (.s 1) i6],[],[]⟩ (.s .n (.s (.l ⟨[(1,1),(2,94)],[.dat (.s 1) i6, .nat (.s 5)],[],[]⟩ FUEL .n) .n))) .n)) [.tmp 4] (gc pF (gc D6 aC)) func53 ntmps53 (fun a _=>aB (Sm a.1 a.2)) (fun _=>by kernel_rfl)
def aBd:SU:=⟨[.sl 4,i6],[i6],false,false,fun(a:(List Bool)×Int)=>gd (bC (aX mkB) (aA eF) a.1 a.2) (some (a.2+((aA eF a.1:Nat):Int)))⟩
theorem aBe:OK 54 aBd:=mkS (.s .n (.s (.jx ⟨[(1,1),(2,18)],[.dat (.s 1) i6],[],[]⟩ (.s .n (.s (.l ⟨[(1,1),(2,18)],[.dat (.s 1) i6, .nat (.s 5)],[],[]⟩ FUEL .n) .n))) .n)) [.tmp 4] aC func54 ntmps54 (fun a _=>aB (O0 a.1 a.2)) (fun _=>by kernel_rfl)
def aBf:SU:=⟨[.sl 5,i6],[i6],false,false,fun(a:(List Int)×Int)=>gd (bC (aX mkU) (aA eF) a.1 a.2) (some (a.2+((aA eF a.1:Nat):Int)))⟩
theorem zQ:OK 212 aBf:=mkS (.s .n (.s (.jx ⟨[(1,1),(2,17)],[.dat (.s 1) i6],[],[]⟩ (.s .n (.s (.l ⟨[(1,1),(2,17)],[.dat (.s 1) i6, .nat (.s 5)],[],[]⟩ FUEL .n) .n))) .n)) [.tmp 4] aC func212 ntmps212 (fun a _=>aB (O1 a.1 a.2)) (fun _=>by kernel_rfl)
def aEw:SU:=⟨[.sl 274,i6],[i6],false,false,fun(a:(List D.Box)×Int)=>gd (bC (aX dY) (aA dP) a.1 a.2) (some (a.2+((aA dP a.1:Nat):Int)))⟩
theorem aEx:OK 211 aEw:=mkS bDh [.tmp 4] (gc zQ aC) func211 ntmps211 (fun a _=>aB (aC5 a.1 a.2)) (fun _=>by kernel_rfl)
def Gt:SU:=⟨[.st 46,i6],[i6],false,false,fun(a:D.aAF×Int)=>gd (bC cO aJ a.1 a.2) (some (a.2+((aJ a.1:Nat):Int)))⟩
theorem Gu:OK 129 Gt:=mkS .n [.tmp 4] (gc aEx aC) func129 ntmps129 (fun a _=>aB (Ey a.1 a.2)) (fun _=>by kernel_rfl)
def wN:SU:=⟨[.sl 207,i6],[i6],false,false,fun(a:(List D.aAB)×Int)=>gd (bC (aX aT) (aA aI) a.1 a.2) (some (a.2+((aA aI a.1:Nat):Int)))⟩
theorem wO:OK 130 wN:=mkS bDh [.tmp 4] (gc zQ aC) func130 ntmps130 (fun a _=>aB (wJ a.1 a.2)) (fun _=>by kernel_rfl)
def aBg:SU:=⟨[.st 49,i6],[i6],false,false,fun(a:D.aAJ×Int)=>gd (bC fG aR a.1 a.2) (some (a.2+((aR a.1:Nat):Int)))⟩
theorem aBh:OK 55 aBg:=mkS .n [.tmp 4] (gc pF (gc Gu (gc wO aC))) func55 ntmps55 (fun a _=>aB (O3 a.1 a.2)) (fun _=>by kernel_rfl)
def Cm:SU:=⟨[.sl 276,i6],[i6],false,false,fun(a:(List D.aAG)×Int)=>gd (bC (aX bR) (aA aS) a.1 a.2) (some (a.2+((aA aS a.1:Nat):Int)))⟩
theorem Cn:OK 213 Cm:=mkS bCb [.tmp 4] aC func213 ntmps213 (fun a _=>aB (Ba a.1 a.2)) (fun _=>by kernel_rfl)
def Qb:SU:=⟨[.sl 211,i6],[i6],false,false,fun(a:(List D.aAE)×Int)=>gd (bC (aX cK) (aA aK) a.1 a.2) (some (a.2+((aA aK a.1:Nat):Int)))⟩
theorem Qc:OK 131 Qb:=mkS bAl [.tmp 4] (gc Cn aC) func131 ntmps131 (fun a _=>aB (Nv a.1 a.2)) (fun _=>by kernel_rfl)
def Gv:SU:=⟨[.sl 264,i6],[i6],false,false,fun(a:(List D.aAK)×Int)=>gd (bC (aX bW) (aA aQ) a.1 a.2) (some (a.2+((aA aQ a.1:Nat):Int)))⟩
theorem Gw:OK 132 Gv:=mkS bAl [.tmp 4] aC func132 ntmps132 (fun a _=>aB (Ez a.1 a.2)) (fun _=>by kernel_rfl)
def aEy:SU:=⟨[.sl 3,i6],[i6],false,false,fun(a:(List Int)×Int)=>gd (bC (aX mkI) (aA eF) a.1 a.2) (some (a.2+((aA eF a.1:Nat):Int)))⟩
theorem aEz:OK 133 aEy:=mkS (.s .n (.s (.jx ⟨[(1,1),(2,16)],[.dat (.s 1) i6],[],[]⟩ (.s .n (.s (.l ⟨[(1,1),(2,16)],[.dat (.s 1) i6, .nat (.s 5)],[],[]⟩ FUEL .n) .n))) .n)) [.tmp 4] aC func133 ntmps133 (fun a _=>aB (aC6 a.1 a.2)) (fun _=>by kernel_rfl)
def aBi:SU:=⟨[.sl 143,i6],[i6],false,false,fun(a:(List D.Site)×Int)=>gd (bC (aX eQ) (aA bS) a.1 a.2) (some (a.2+((aA bS a.1:Nat):Int)))⟩
theorem aBj:OK 56 aBi:=mkS (.s .n (.s (.jx ⟨[(1,1),(2,66)],[.dat (.s 1) i6],[],[]⟩ (.s .n (.s (.l ⟨[(1,1),(2,66)],[.dat (.s 1) i6, .nat (.s 5)],[],[]⟩ FUEL (.s .n (.s (.s (.s (.s (.r none (od 8 [6])) .n) .n) .n) .n))) .n))) .n)) [.tmp 4] (gc Eo (gc Qc (gc Gw (gc aEz aC)))) func56 ntmps56 (fun a _=>aB (O4 a.1 a.2)) (fun _=>by kernel_rfl)
def Vl:SU:=⟨[.sl 170,i6],[i6],false,false,fun(a:(List D.aAL)×Int)=>gd (bC (aX dM) (aA bE) a.1 a.2) (some (a.2+((aA bE a.1:Nat):Int)))⟩
theorem Vm:OK 134 Vl:=mkS (.s .n (.s (.jx ⟨[(1,1),(2,55)],[.dat (.s 1) i6],[],[]⟩ (.s .n (.s (.l ⟨[(1,1),(2,55)],[.dat (.s 1) i6, .nat (.s 5)],[],[]⟩ FUEL .n) .n))) .n)) [.tmp 4] aC func134 ntmps134 (fun a _=>aB (Sq a.1 a.2)) (fun _=>by kernel_rfl)
def Co:SU:=⟨[.sl 173,i6],[i6],false,false,fun(a:(List D.aAA)×Int)=>gd (bC (aX bB) (aA aN) a.1 a.2) (some (a.2+((aA aN a.1:Nat):Int)))⟩
theorem Cq:OK 57 Co:=mkS (.s .n (.s (.jx ⟨[(1,1),(2,78)],[.dat (.s 1) i6],[],[]⟩ (.s .n (.s (.l ⟨[(1,1),(2,78)],[.dat (.s 1) i6, .nat (.s 5)],[],[]⟩ FUEL .n) .n))) .n)) [.tmp 4] (gc Vm aC) func57 ntmps57 (fun a _=>aB (Bb a.1 a.2)) (fun _=>by kernel_rfl)
def Vn:SU:=⟨[.sl 219,i6],[i6],false,false,fun(a:(List D.aAM)×Int)=>gd (bC (aX dF) (aA bM) a.1 a.2) (some (a.2+((aA bM a.1:Nat):Int)))⟩
theorem Vo:OK 135 Vn:=mkS bCb [.tmp 4] aC func135 ntmps135 (fun a _=>aB (Sr a.1 a.2)) (fun _=>by kernel_rfl)
def Vp:SU:=⟨[.st 55,i6],[i6],false,false,fun(a:D.aAI×Int)=>gd (bC eD aU a.1 a.2) (some (a.2+((aU a.1:Nat):Int)))⟩
theorem Vq:OK 58 Vp:=mkS .n [.tmp 4] (gc Vo aC) func58 ntmps58 (fun a _=>aB (Su a.1 a.2)) (fun _=>by kernel_rfl)
def aBk:SU:=⟨[.st 57,i6],[i6],false,false,fun(a:D.World×Int)=>gd (bC bX dJ a.1 a.2) (some (a.2+((dJ a.1:Nat):Int)))⟩
theorem aBl:OK 14 aBk:=mkS .n [.tmp 4] (gc Vk (gc aBe (gc aBh (gc aBj (gc Cq (gc Vq aC)))))) func14 ntmps14 (fun a _=>aB (O5 a.1 a.2)) (fun _=>by kernel_rfl)
def D7:SU:=⟨[.st 57,i6],[.st 57, .bool],false,false,fun(a:D.World×Int)=>gd (a.1.sz≤33000000) (some (qZ a.1 a.2))⟩
theorem D8:OK 15 D7:=mkS (.s .n (.s .n (.s (.j ⟨[(6,2),(4,18)],[.tr (.s 6) 2 3 true],[],[]⟩ (.s .n (.s (.l ⟨[(6,2),(4,18)],[.tr (.s 6) 2 3 true, .dat (.s 7) i6],[],[]⟩ FUEL (.s (.s (.rj 6 ⟨[(17,7)],[.dat (.s 23) .bool],[],[]⟩ .n) .n) .n)) .n))) .n))) [.cell 4 57, .tmp 5] (gc Ph aC) func15 ntmps15 (fun a _=>aB (Yu a.1 a.2)) (fun _=>by kernel_rfl)
def D9:SU:=⟨[.st 57,i6],[.st 57, .bool],true,false,fun(a:D.World×Int)=>gd (a.1.sz≤33000000) (some (qZ a.1 a.2))⟩
theorem E5:OK 16 D9:=mkS (.s .n (.s .n (.s (.j ⟨[(6,2),(4,16)],[.tr (.s 6) 2 3 true],[],[]⟩ (.s .n (.s (.l ⟨[(6,2),(4,16)],[.tr (.s 6) 2 3 true, .nat (.s 7)],[],[]⟩ FUEL .n) .n))) .n))) [.cell 4 57, .tmp 5] (gc Po aC) func16 ntmps16 (fun a _=>aB (Yv a.1 a.2)) (fun _=>by kernel_rfl)
def kH:SU:=⟨[.st 39,i6],[.bool],false,false,fun(a:D.World×Int)=>gd (a.1.ok) (some true)⟩
theorem wP:OK 4 kH:=mkS (.s .n (.s .n (.s .n (.s .n (.s (.pl .n) (.s .n (.s .n (.s (.s (.rj 5 ⟨[(40,5)],[.dat (.s 44) .bool],[],[]⟩ .n) .n) (.s (.s (.r none (od 5 [2,3])) .n) (.s .n (.s .n (.s (.s (.rj 3 ⟨[(55,11)],[.dat (.s 65) .bool],[],[]⟩ .n) .n) (.s .n (.s .n (.s .n (.s .n (.s .n (.s .n (.s .n (.s (.s (.rj 5 ⟨[(88,5)],[.dat (.s 92) .bool],[],[]⟩ .n) .n) .n)))))))))))))))))))) [.tmp 4] (gc aIq (gc aI5 (gc D8 (gc E5 (gc aKs (gc aBc (gc aBl aC))))))) func4 ntmps4 (fun a _=>aB (wK a.1 a.2)) (fun _=>by kernel_rfl)
end
end Go.VK
