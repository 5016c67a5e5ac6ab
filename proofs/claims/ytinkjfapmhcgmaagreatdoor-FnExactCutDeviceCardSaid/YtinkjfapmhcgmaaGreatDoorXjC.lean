import Derived.Test.YtinkjfapmhcgmaaGreatDoorXjL
import Derived.Test.YtinkjfapmhcgmaaGreatDoorXjQ
import Derived.Test.YtinkjfapmhcgmaaGreatDoorXjPv
/- Printed by wip/tools: models, walks, proofs. -/
set_option linter.unusedVariables false
set_option linter.unusedSimpArgs false
set_option maxRecDepth 100000
set_option maxHeartbeats 4000000
namespace Go.VK
open Go.RowKit Go.Proofs Tryz
noncomputable section
def i6:EV.Kd:= .int .i64
def aKa:EV.An:=(.s .n (.s .n (.s (.jx ⟨[(4,2),(5,16)],[],[],[]⟩ (.s .n (.s (.l ⟨[(4,2),(5,16)],[.nat (.s 5)],[],[]⟩ FUEL (.s .n (.s (.s (.s (.r none (od 10 [8])) .n) .n) .n))) .n))) .n)))
def bFc:EV.An:=(.s .n (.s .n (.s .n (.s (.jx ⟨[(1,1),(2,2),(6,14)],[.dat (.s 1) i6],[],[]⟩ (.s .n (.s (.l ⟨[(1,1),(2,2),(6,14)],[.dat (.s 1) i6, .nat (.s 5)],[],[]⟩ FUEL .n) .n))) .n))))
def bI8:EV.An:=(.s .n (.s .n (.s (.jx ⟨[(4,2),(5,15)],[],[],[]⟩ (.s .n (.s (.l ⟨[(4,2),(5,15)],[.nat (.s 5)],[],[]⟩ FUEL (.s .n (.s (.s (.s (.r none (od 9 [])) .n) .n) .n))) .n))) .n)))
def bMu:EV.An:=(.s .n (.s .n (.s (.s (.rj 4 ⟨[(14,19)],[.dat (.s 32) .bool],[],[]⟩ (.r none [(0,true),(1,false),(2,true),(3,true),(4,true),(5,true),(6,true),(7,false),(8,true),(9,true),(10,true),(11,true),(13,true),(14,true),(12,false),(15,true),(16,true),(17,true),(18,true),(19,false),(20,true),(21,true)])) .n) .n)))
def bLt:EV.An:=(.s .n (.s (.jx ⟨[(1,1),(2,46)],[.dat (.s 1) i6],[],[]⟩ (.s .n (.s (.l ⟨[(1,1),(2,46)],[.dat (.s 1) i6, .nat (.s 5)],[],[]⟩ FUEL .n) .n))) .n))
def bMv:EV.An:=(.j ⟨[(12,1),(11,10)],[.dat (.s 12) .bool, .tr (.c 6 0) 5 279 true],[],[]⟩ (.s .n (.s (.y false none (some 9) [(0,true),(1,true),(2,true),(4,true),(3,false),(5,false),(6,true),(7,true),(8,true),(9,false),(10,true)]) .n)))
def bI9:EV.An:=(.s .n (.s .n (.s (.s (.s .n (.r (some 5) (od 8 [3,4,5,6,7]))) .n) .n)))
def bMw:EV.An:=(.y true (some 7) (some 15) [(1,true),(2,true),(3,true),(4,true),(6,true),(9,true),(10,true),(11,true),(12,true),(0,false),(5,false),(7,false),(8,false),(13,false),(14,false),(15,false)])
def bMx:EV.An:=(.s .n (.s (.s (.s (.y false (some 9) (some 10) [(0,true),(1,true),(3,true),(4,true),(2,false),(5,false),(6,true),(7,true),(8,true),(9,false),(10,false),(11,true)]) .n) .n) .n))
def bMy:EV.An:=(.s .n (.s (.y false (some 5) none [(0,true),(1,true),(2,true),(3,true),(4,true),(6,true),(7,true),(8,false),(9,false),(5,false),(10,false),(11,false),(12,true)]) .n))
def bJs:EV.An:=(.s .n (.s (.y false (some 5) (some 9) [(0,true),(1,true),(2,true),(3,true),(4,true),(6,true),(7,true),(8,false),(5,false),(9,false),(10,false),(11,true)]) .n))
def bDx:EV.An:=(.s .n (.s (.s (.r (some 9) (od 12 [7,8,9,10,11])) .n) .n))
def bJt:EV.An:=(.s .n (.s .n (.s (.j ⟨[(5,3),(1,20)],[.tr (.s 5) 0 5 true],[],[]⟩ (.s .n (.s (.l ⟨[(5,3),(3,18)],[.tr (.s 5) 0 5 true, .nat (.s 11)],[],[]⟩ FUEL .n) .n))) .n)))
def bJu:EV.An:=(.s (.r (some 11) [(0,true),(1,true),(2,true),(4,true),(5,true),(6,true),(7,true),(8,true),(9,true),(3,false),(10,true),(11,false),(12,false)]) .n)
def bJv:EV.An:=(.y false (some 9) (some 10) [(0,true),(1,true),(2,true),(4,true),(3,false),(5,false),(6,true),(7,true),(8,true),(9,false),(10,false),(11,true)])
def bJw:EV.An:=(.s .n (.s .n (.s .n (.s (.s (.rj 7 ⟨[(19,19)],[.dat (.s 37) .bool],[],[]⟩ (.r none (od 25 [4,17]))) .n) (.s (.r (some 5) (od 8 [3,4,5,6,7])) .n)))))
def bJx:EV.An:=(.s .n (.s (.jx ⟨[(1,1),(2,44)],[.dat (.s 1) i6],[],[]⟩ (.s .n (.s (.l ⟨[(1,1),(2,44)],[.dat (.s 1) i6, .nat (.s 5)],[],[]⟩ FUEL .n) .n))) .n))
def bJy:EV.An:=(.s .n (.s (.jx ⟨[(1,1),(2,35)],[.dat (.s 1) i6],[],[]⟩ (.s .n (.s (.l ⟨[(1,1),(2,35)],[.dat (.s 1) i6, .nat (.s 5)],[],[]⟩ FUEL .n) .n))) .n))
def bJz:EV.An:=(.s .n (.s (.y true none (some 9) [(0,true),(1,true),(2,true),(3,true),(5,true),(6,true),(4,false),(7,false),(8,false),(9,false)]) .n))
def bHp:EV.An:=(.s .n (.s (.rj 6 ⟨[(4,1),(5,14)],[.dat (.s 4) .bool],[],[]⟩ .n) .n))
def bJ0:EV.An:=(.s .n (.s (.s (.rj 4 ⟨[(10,19)],[.dat (.s 28) .bool],[],[]⟩ (.r none (od 22 [1,7,13]))) .n) (.s .n (.s (.s (.r none (od 6 [4])) .n) .n))))
def bJ1:EV.An:=(.y false (some 7) (some 8) [(0,true),(1,true),(3,true),(4,true),(2,false),(5,false),(6,true),(7,false),(8,false)])
def bJ2:EV.An:=(.s .n (.s (.s (.s .n (.s (.rj 5 ⟨[(21,28)],[.dat (.s 48) .bool],[],[]⟩ (.r none (od 32 [2,7,13]))) .n)) .n) .n))
def bJ3:EV.An:=(.s .n (.s (.jx ⟨[(4,17)],[],[],[]⟩ (.s .n (.s (.l ⟨[(4,3),(3,11)],[.nat (.s 10)],[],[]⟩ FUEL .n) .n))) .n))
def bJ4:EV.An:=(.s .n (.s (.jx ⟨[(4,18)],[],[],[]⟩ (.s .n (.s (.l ⟨[(4,18)],[.nat (.s 5)],[],[]⟩ FUEL .n) .n))) .n))
def bJ5:EV.An:=(.s (.r none [(0,true),(2,true),(3,true),(1,false),(4,false),(5,false),(6,true)]) .n)
def bJ6:EV.An:=(.y false (some 3) (some 4) [(0,true),(2,true),(1,false),(3,false),(4,false),(5,true)])
def bJ7:EV.An:=(.s .n (.s .n (.s .n (.s (.s (.rj 4 ⟨[(16,12)],[.dat (.s 27) .bool],[],[]⟩ .n) .n) .n))))
def bJ8:EV.An:=(.s .n (.s .n (.s (.s (.rj 3 ⟨[(15,10)],[.dat (.s 24) .bool],[],[]⟩ .n) .n) .n)))
def bJ9:EV.An:=(.s .n (.s .n (.s (.s (.rj 4 ⟨[(14,13)],[.dat (.s 26) .bool],[],[]⟩ .n) .n) .n)))
def bKa:EV.An:=(.s .n (.s .n (.s (.rj 3 ⟨[(6,1),(5,7)],[.dat (.s 6) .bool],[],[]⟩ .n) .n)))
def bKb:EV.An:=(.s .n (.s .n (.s .n (.s .n (.s .n (.s (.w [1,2] (od 5 [2,3,4])) .n))))))
def bKc:EV.An:=(.s .n (.s (.rj 4 ⟨[(6,1),(3,5)],[.dat (.s 6) .bool],[],[]⟩ .n) .n))
def bKd:EV.An:=(.s (.rj 5 ⟨[(61,21)],[.dat (.s 81) .bool],[],[]⟩ .n) .n)
def bKe:EV.An:=(.s (.rj 5 ⟨[(52,4)],[.dat (.s 55) .bool],[],[]⟩ .n) .n)
def bKf:EV.An:=(.s (.rj 4 ⟨[(14,5)],[.dat (.s 18) .bool],[],[]⟩ .n) .n)
def H8:SU:=⟨[.sl 253,i6],[i6],false,false,fun(a:(List D.aAB)×Int)=>gd (gL (jJ (fun _:D.aAB=>True)) a.1 a.2) (some (eT (a.1.length) a.2))⟩
theorem xI:OK 59 H8:=mkS .n [.tmp 4] aB func59 ntmps59 (fun a _=>aA (o9 a.1 a.2)) (fun _=>by kernel_rfl)
def aKb:SU:=⟨[.sl 340,i6],[i6],false,false,fun(a:(List D.Entry)×Int)=>gd (gL (jJ (fun _:D.Entry=>True)) a.1 a.2) (some (eT (a.1.length) a.2))⟩
theorem aKc:OK 242 aKb:=mkS .n [.tmp 4] aB func242 ntmps242 (fun a _=>aA (aJb a.1 a.2)) (fun _=>by kernel_rfl)
def aKd:SU:=⟨[.st 123,i6],[i6],false,false,fun(a:D.aAD×Int)=>gd (gL D.aAD.ok a.1 a.2) (some (eT (a.1.sz) a.2))⟩
theorem aKe:OK 151 aKd:=mkS .n [.tmp 4] (gc aKc aB) func151 ntmps151 (fun a _=>aA (aJc a.1 a.2)) (fun _=>by kernel_rfl)
def aKf:SU:=⟨[.st 125,i6],[i6],false,false,fun(a:D.Device×Int)=>gd (gL D.Device.ok a.1 a.2) (some (eT (a.1.sz) a.2))⟩
theorem aKg:OK 58 aKf:=mkS .n [.tmp 4] (gc xI (gc aKe aB)) func58 ntmps58 (fun a _=>aA (aJd a.1 a.2)) (fun _=>by kernel_rfl)
def aFh:SU:=⟨[.sl 125,i6],[i6],false,false,fun(a:(List D.Device)×Int)=>gd (gL (jJ D.Device.ok) a.1 a.2) (some (eT (a.1.length+(a.1.map D.Device.sz).sum) a.2))⟩
theorem aFi:OK 11 aFh:=mkS bFc [.tmp 4] (gc aKg aB) func11 ntmps11 (fun a _=>aA (aDt a.1 a.2)) (fun _=>by kernel_rfl)
def aP6:SU:=⟨[.sl 4,i6],[i6],false,false,fun(a:(List Bool)×Int)=>gd (gL (jJ (fun _:Bool=>True)) a.1 a.2) (some (eT (a.1.length) a.2))⟩
theorem aP7:OK 12 aP6:=mkS .n [.tmp 4] aB func12 ntmps12 (fun a _=>aA (aOd a.1 a.2)) (fun _=>by kernel_rfl)
def aP8:SU:=⟨[.sl 5,i6],[i6],false,false,fun(a:(List Int)×Int)=>gd (gL (jJ (fun _:Int=>True)) a.1 a.2) (some (eT (a.1.length) a.2))⟩
theorem Rk:OK 244 aP8:=mkS .n [.tmp 4] aB func244 ntmps244 (fun a _=>aA (aOe a.1 a.2)) (fun _=>by kernel_rfl)
def aX2:SU:=⟨[.st 288,i6],[i6],false,false,fun(a:D.Box×Int)=>gd (gL D.Box.ok a.1 a.2) (some (eT (a.1.sz) a.2))⟩
theorem aX3:OK 243 aX2:=mkS .n [.tmp 4] (gc Rk aB) func243 ntmps243 (fun a _=>aA (aXu a.1 a.2)) (fun _=>by kernel_rfl)
def aTs:SU:=⟨[.sl 288,i6],[i6],false,false,fun(a:(List D.Box)×Int)=>gd (gL (jJ D.Box.ok) a.1 a.2) (some (eT (a.1.length+(a.1.map D.Box.sz).sum) a.2))⟩
theorem aTt:OK 152 aTs:=mkS bFc [.tmp 4] (gc aX3 aB) func152 ntmps152 (fun a _=>aA (aS5 a.1 a.2)) (fun _=>by kernel_rfl)
def Vn:SU:=⟨[.st 27,i6],[i6],false,false,fun(a:D.aAE×Int)=>gd (gL D.aAE.ok a.1 a.2) (some (eT (a.1.sz) a.2))⟩
theorem Vo:OK 60 Vn:=mkS .n [.tmp 4] (gc aTt aB) func60 ntmps60 (fun a _=>aA (Ug a.1 a.2)) (fun _=>by kernel_rfl)
def Ll:SU:=⟨[.st 222,i6],[i6],false,false,fun(a:D.aAA×Int)=>gd (gL D.aAA.ok a.1 a.2) (some (eT (a.1.sz) a.2))⟩
theorem Lm:OK 153 Ll:=mkS .n [.tmp 4] (gc Rk aB) func153 ntmps153 (fun a _=>aA (Km a.1 a.2)) (fun _=>by kernel_rfl)
def Gq:SU:=⟨[.sl 222,i6],[i6],false,false,fun(a:(List D.aAA)×Int)=>gd (gL (jJ D.aAA.ok) a.1 a.2) (some (eT (a.1.length+(a.1.map D.aAA.sz).sum) a.2))⟩
theorem Gr:OK 61 Gq:=mkS bFc [.tmp 4] (gc Lm aB) func61 ntmps61 (fun a _=>aA (Ga a.1 a.2)) (fun _=>by kernel_rfl)
def aP9:SU:=⟨[.st 30,i6],[i6],false,false,fun(a:D.aAH×Int)=>gd (gL D.aAH.ok a.1 a.2) (some (eT (a.1.sz) a.2))⟩
theorem aQa:OK 13 aP9:=mkS .n [.tmp 4] (gc xI (gc Vo (gc Gr aB))) func13 ntmps13 (fun a _=>aA (aOf a.1 a.2)) (fun _=>by kernel_rfl)
def Rl:SU:=⟨[.sl 355,i6],[i6],false,false,fun(a:(List D.aAI)×Int)=>gd (gL (jJ (fun _:D.aAI=>True)) a.1 a.2) (some (eT (a.1.length) a.2))⟩
theorem Rm:OK 298 Rl:=mkS .n [.tmp 4] aB func298 ntmps298 (fun a _=>aA (Qw a.1 a.2)) (fun _=>by kernel_rfl)
def aFj:SU:=⟨[.st 292,i6],[i6],false,false,fun(a:D.aAG×Int)=>gd (gL D.aAG.ok a.1 a.2) (some (eT (a.1.sz) a.2))⟩
theorem aFk:OK 245 aFj:=mkS .n [.tmp 4] (gc Rm aB) func245 ntmps245 (fun a _=>aA (aDu a.1 a.2)) (fun _=>by kernel_rfl)
def aA2:SU:=⟨[.sl 292,i6],[i6],false,false,fun(a:(List D.aAG)×Int)=>gd (gL (jJ D.aAG.ok) a.1 a.2) (some (eT (a.1.length+(a.1.map D.aAG.sz).sum) a.2))⟩
theorem aA3:OK 154 aA2:=mkS bFc [.tmp 4] (gc aFk aB) func154 ntmps154 (fun a _=>aA (Y6 a.1 a.2)) (fun _=>by kernel_rfl)
def Vp:SU:=⟨[.sl 343,i6],[i6],false,false,fun(a:(List D.aAL)×Int)=>gd (gL (jJ (fun _:D.aAL=>True)) a.1 a.2) (some (eT (a.1.length) a.2))⟩
theorem Vq:OK 246 Vp:=mkS .n [.tmp 4] aB func246 ntmps246 (fun a _=>aA (Uh a.1 a.2)) (fun _=>by kernel_rfl)
def Gs:SU:=⟨[.st 133,i6],[i6],false,false,fun(a:D.aAF×Int)=>gd (gL D.aAF.ok a.1 a.2) (some (eT (a.1.sz) a.2))⟩
theorem Gt:OK 155 Gs:=mkS .n [.tmp 4] (gc Vq aB) func155 ntmps155 (fun a _=>aA (Gb a.1 a.2)) (fun _=>by kernel_rfl)
def aTu:SU:=⟨[.sl 3,i6],[i6],false,false,fun(a:(List Int)×Int)=>gd (gL (jJ (fun _:Int=>True)) a.1 a.2) (some (eT (a.1.length) a.2))⟩
theorem aTv:OK 156 aTu:=mkS .n [.tmp 4] aB func156 ntmps156 (fun a _=>aA (aS6 a.1 a.2)) (fun _=>by kernel_rfl)
def aTw:SU:=⟨[.st 135,i6],[i6],false,false,fun(a:D.Site×Int)=>gd (gL D.Site.ok a.1 a.2) (some (eT (a.1.sz) a.2))⟩
theorem aTx:OK 62 aTw:=mkS .n [.tmp 4] (gc aA3 (gc Gt (gc aTv aB))) func62 ntmps62 (fun a _=>aA (aS7 a.1 a.2)) (fun _=>by kernel_rfl)
def aQb:SU:=⟨[.sl 135,i6],[i6],false,false,fun(a:(List D.Site)×Int)=>gd (gL (jJ D.Site.ok) a.1 a.2) (some (eT (a.1.length+(a.1.map D.Site.sz).sum) a.2))⟩
theorem aQc:OK 14 aQb:=mkS bFc [.tmp 4] (gc aTx aB) func14 ntmps14 (fun a _=>aA (aOg a.1 a.2)) (fun _=>by kernel_rfl)
def aFl:SU:=⟨[.sl 140,i6],[i6],false,false,fun(a:(List D.aAN)×Int)=>gd (gL (jJ (fun _:D.aAN=>True)) a.1 a.2) (some (eT (a.1.length) a.2))⟩
theorem aFm:OK 157 aFl:=mkS .n [.tmp 4] aB func157 ntmps157 (fun a _=>aA (aDv a.1 a.2)) (fun _=>by kernel_rfl)
def Vr:SU:=⟨[.st 143,i6],[i6],false,false,fun(a:D.aAC×Int)=>gd (gL D.aAC.ok a.1 a.2) (some (eT (a.1.sz) a.2))⟩
theorem Vs:OK 63 Vr:=mkS .n [.tmp 4] (gc aFm aB) func63 ntmps63 (fun a _=>aA (Ui a.1 a.2)) (fun _=>by kernel_rfl)
def Rn:SU:=⟨[.sl 143,i6],[i6],false,false,fun(a:(List D.aAC)×Int)=>gd (gL (jJ D.aAC.ok) a.1 a.2) (some (eT (a.1.length+(a.1.map D.aAC.sz).sum) a.2))⟩
theorem Ro:OK 15 Rn:=mkS bFc [.tmp 4] (gc Vs aB) func15 ntmps15 (fun a _=>aA (Qx a.1 a.2)) (fun _=>by kernel_rfl)
def aFn:SU:=⟨[.sl 262,i6],[i6],false,false,fun(a:(List D.aAM)×Int)=>gd (gL (jJ (fun _:D.aAM=>True)) a.1 a.2) (some (eT (a.1.length) a.2))⟩
theorem aFo:OK 64 aFn:=mkS .n [.tmp 4] aB func64 ntmps64 (fun a _=>aA (aDw a.1 a.2)) (fun _=>by kernel_rfl)
def aFp:SU:=⟨[.st 37,i6],[i6],false,false,fun(a:D.aAK×Int)=>gd (gL D.aAK.ok a.1 a.2) (some (eT (a.1.sz) a.2))⟩
theorem aFq:OK 16 aFp:=mkS .n [.tmp 4] (gc aFo aB) func16 ntmps16 (fun a _=>aA (aDx a.1 a.2)) (fun _=>by kernel_rfl)
def aQd:SU:=⟨[.st 39,i6],[i6],false,false,fun(a:D.World×Int)=>gd (gL D.World.ok a.1 a.2) (some (eT (a.1.sz) a.2))⟩
theorem aQe:OK 4 aQd:=mkS .n [.tmp 4] (gc aFi (gc aP7 (gc aQa (gc aQc (gc Ro (gc aFq aB)))))) func4 ntmps4 (fun a _=>aA (aOh a.1 a.2)) (fun _=>by kernel_rfl)
def aA4:SU:=⟨[.st 120],[.st 77],false,false,fun(a:D.aAJ)=>some (a)⟩
theorem aA5:OK 185 aA4:=mkS .n [.cell 2 77] aB func185 ntmps185 (fun a _=>(Y7 a).trans) (fun _=>by kernel_rfl)
def aA6:SU:=⟨[.st 253],[.st 230],false,false,fun(a:D.aAB)=>some (a)⟩
theorem aA7:OK 187 aA6:=mkS .n [.cell 2 230] aB func187 ntmps187 (fun a _=>(Y8 a).trans) (fun _=>by kernel_rfl)
def H9:SU:=⟨[.sl 253],[.sl 230],true,false,fun(a:(List D.aAB))=>gd (a.length≤1048576) (some (a))⟩
theorem xJ:OK 93 H9:=mkS (.s .n (.s .n (.s (.j ⟨[(4,1),(3,14)],[.ti 0 230 true],[],[]⟩ (.s .n (.s (.l ⟨[(4,1),(3,14)],[.nat (.s 4), .ti 0 230 true],[],[]⟩ FUEL .n) .n))) .n))) [.tmp 2] (gc aA7 aB) func93 ntmps93 (fun(a:(List D.aAB)) _=>aA (p9 a)) (fun _=>by kernel_rfl)
def aQf:SU:=⟨[.st 340],[.st 279],false,false,fun(a:D.Entry)=>some (a)⟩
theorem aQg:OK 311 aQf:=mkS .n [.cell 2 279] aB func311 ntmps311 (fun a _=>(aOi a).trans) (fun _=>by kernel_rfl)
def aKh:SU:=⟨[.sl 340],[.sl 279],true,false,fun(a:(List D.Entry))=>gd (a.length≤1048576) (some (a))⟩
theorem aKi:OK 267 aKh:=mkS (.s .n (.s .n (.s (.j ⟨[(4,1),(3,14)],[.ti 0 279 true],[],[]⟩ (.s .n (.s (.l ⟨[(4,1),(3,14)],[.nat (.s 4), .ti 0 279 true],[],[]⟩ FUEL .n) .n))) .n))) [.tmp 2] (gc aQg aB) func267 ntmps267 (fun(a:(List D.Entry)) _=>aA (aJe a)) (fun _=>by kernel_rfl)
def aKj:SU:=⟨[.st 123],[.st 80],true,false,fun(a:D.aAD)=>gd (a.sz≤1048576) (some (a))⟩
theorem aKk:OK 186 aKj:=mkS .n [.cell 2 80] (gc aKi aB) func186 ntmps186 (fun(a:D.aAD) _=>aA (aJf a)) (fun _=>by kernel_rfl)
def aKl:SU:=⟨[.st 125],[.st 82],true,false,fun(a:D.Device)=>gd (a.sz≤1048576) (some (a))⟩
theorem aKm:OK 92 aKl:=mkS .n [.cell 2 82] (gc aA5 (gc xJ (gc aKk aB))) func92 ntmps92 (fun(a:D.Device) _=>aA (aJg a)) (fun _=>by kernel_rfl)
def aFr:SU:=⟨[.sl 125],[.sl 82],true,false,fun(a:(List D.Device))=>gd (a.length+(a.map D.Device.sz).sum≤1048576) (some (a))⟩
theorem aFs:OK 27 aFr:=mkS (.s .n (.s .n (.s (.j ⟨[(4,1),(3,14)],[.ti 0 82 true],[],[]⟩ (.s .n (.s (.l ⟨[(4,1),(3,14)],[.nat (.s 4), .ti 0 82 true],[],[]⟩ FUEL .n) .n))) .n))) [.tmp 2] (gc aKm aB) func27 ntmps27 (fun(a:(List D.Device)) _=>aA (aDy a)) (fun _=>by kernel_rfl)
def aQh:SU:=⟨[.sl 4],[.sl 4],true,false,fun(a:(List Bool))=>gd (a.length≤1048576) (some (a))⟩
theorem aQi:OK 28 aQh:=mkS (.s .n (.s .n (.s (.j ⟨[(4,1),(3,13)],[.ti 0 4 true],[],[]⟩ (.s .n (.s (.l ⟨[(4,1),(3,13)],[.nat (.s 4), .ti 0 4 true],[],[]⟩ FUEL .n) .n))) .n))) [.tmp 2] aB func28 ntmps28 (fun(a:(List Bool)) _=>aA (aOj a)) (fun _=>by kernel_rfl)
def aQj:SU:=⟨[.sl 5],[.sl 5],true,false,fun(a:(List Int))=>gd (a.length≤1048576) (some (a))⟩
theorem Rp:OK 269 aQj:=mkS (.s .n (.s .n (.s (.j ⟨[(4,1),(3,13)],[.ti 0 5 true],[],[]⟩ (.s .n (.s (.l ⟨[(4,1),(3,13)],[.nat (.s 4), .ti 0 5 true],[],[]⟩ FUEL .n) .n))) .n))) [.tmp 2] aB func269 ntmps269 (fun(a:(List Int)) _=>aA (aOk a)) (fun _=>by kernel_rfl)
def aX4:SU:=⟨[.st 288],[.st 298],true,false,fun(a:D.Box)=>gd (a.sz≤1048576) (some (a))⟩
theorem aX5:OK 268 aX4:=mkS .n [.cell 2 298] (gc Rp aB) func268 ntmps268 (fun(a:D.Box) _=>aA (aXv a)) (fun _=>by kernel_rfl)
def aTy:SU:=⟨[.sl 288],[.sl 298],true,false,fun(a:(List D.Box))=>gd (a.length+(a.map D.Box.sz).sum≤1048576) (some (a))⟩
theorem aTz:OK 188 aTy:=mkS (.s .n (.s .n (.s (.j ⟨[(4,1),(3,14)],[.ti 0 298 true],[],[]⟩ (.s .n (.s (.l ⟨[(4,1),(3,14)],[.nat (.s 4), .ti 0 298 true],[],[]⟩ FUEL .n) .n))) .n))) [.tmp 2] (gc aX5 aB) func188 ntmps188 (fun(a:(List D.Box)) _=>aA (aS8 a)) (fun _=>by kernel_rfl)
def Vt:SU:=⟨[.st 27],[.st 45],true,false,fun(a:D.aAE)=>gd (a.sz≤1048576) (some (a))⟩
theorem Vu:OK 94 Vt:=mkS .n [.cell 2 45] (gc aTz aB) func94 ntmps94 (fun(a:D.aAE) _=>aA (Uj a)) (fun _=>by kernel_rfl)
def Lp:SU:=⟨[.st 222],[.st 176],true,false,fun(a:D.aAA)=>gd (a.sz≤1048576) (some (a))⟩
theorem Lr:OK 189 Lp:=mkS .n [.cell 2 176] (gc Rp aB) func189 ntmps189 (fun(a:D.aAA) _=>aA (Kn a)) (fun _=>by kernel_rfl)
def Gu:SU:=⟨[.sl 222],[.sl 176],true,false,fun(a:(List D.aAA))=>gd (a.length+(a.map D.aAA.sz).sum≤1048576) (some (a))⟩
theorem Gv:OK 95 Gu:=mkS (.s .n (.s .n (.s (.j ⟨[(4,1),(3,14)],[.ti 0 176 true],[],[]⟩ (.s .n (.s (.l ⟨[(4,1),(3,14)],[.nat (.s 4), .ti 0 176 true],[],[]⟩ FUEL .n) .n))) .n))) [.tmp 2] (gc Lr aB) func95 ntmps95 (fun(a:(List D.aAA)) _=>aA (Gc a)) (fun _=>by kernel_rfl)
def aQk:SU:=⟨[.st 30],[.st 48],true,false,fun(a:D.aAH)=>gd (a.sz≤1048576) (some (a))⟩
theorem aQl:OK 29 aQk:=mkS .n [.cell 2 48] (gc xJ (gc Vu (gc Gv aB))) func29 ntmps29 (fun(a:D.aAH) _=>aA (aOl a)) (fun _=>by kernel_rfl)
def Vv:SU:=⟨[.st 355],[.st 171],false,false,fun(a:D.aAI)=>some (a)⟩
theorem Vw:OK 340 Vv:=mkS .n [.cell 2 171] aB func340 ntmps340 (fun a _=>(Uk a).trans) (fun _=>by kernel_rfl)
def Rq:SU:=⟨[.sl 355],[.sl 171],true,false,fun(a:(List D.aAI))=>gd (a.length≤1048576) (some (a))⟩
theorem Rt:OK 312 Rq:=mkS (.s .n (.s .n (.s (.j ⟨[(4,1),(3,14)],[.ti 0 171 true],[],[]⟩ (.s .n (.s (.l ⟨[(4,1),(3,14)],[.nat (.s 4), .ti 0 171 true],[],[]⟩ FUEL .n) .n))) .n))) [.tmp 2] (gc Vw aB) func312 ntmps312 (fun(a:(List D.aAI)) _=>aA (Qy a)) (fun _=>by kernel_rfl)
def aFt:SU:=⟨[.st 292],[.st 93],true,false,fun(a:D.aAG)=>gd (a.sz≤1048576) (some (a))⟩
theorem aFu:OK 270 aFt:=mkS .n [.cell 2 93] (gc Rt aB) func270 ntmps270 (fun(a:D.aAG) _=>aA (aDz a)) (fun _=>by kernel_rfl)
def aA8:SU:=⟨[.sl 292],[.sl 93],true,false,fun(a:(List D.aAG))=>gd (a.length+(a.map D.aAG.sz).sum≤1048576) (some (a))⟩
theorem aA9:OK 190 aA8:=mkS (.s .n (.s .n (.s (.j ⟨[(4,1),(3,14)],[.ti 0 93 true],[],[]⟩ (.s .n (.s (.l ⟨[(4,1),(3,14)],[.nat (.s 4), .ti 0 93 true],[],[]⟩ FUEL .n) .n))) .n))) [.tmp 2] (gc aFu aB) func190 ntmps190 (fun(a:(List D.aAG)) _=>aA (Y9 a)) (fun _=>by kernel_rfl)
def I1:SU:=⟨[.st 343],[.st 284],false,false,fun(a:D.aAL)=>some (a)⟩
theorem I4:OK 313 I1:=mkS .n [.cell 2 284] aB func313 ntmps313 (fun a _=>(q9 a).trans) (fun _=>by kernel_rfl)
def Vx:SU:=⟨[.sl 343],[.sl 284],true,false,fun(a:(List D.aAL))=>gd (a.length≤1048576) (some (a))⟩
theorem Vy:OK 271 Vx:=mkS (.s .n (.s .n (.s (.j ⟨[(4,1),(3,14)],[.ti 0 284 true],[],[]⟩ (.s .n (.s (.l ⟨[(4,1),(3,14)],[.nat (.s 4), .ti 0 284 true],[],[]⟩ FUEL .n) .n))) .n))) [.tmp 2] (gc I4 aB) func271 ntmps271 (fun(a:(List D.aAL)) _=>aA (Ul a)) (fun _=>by kernel_rfl)
def Gw:SU:=⟨[.st 133],[.st 87],true,false,fun(a:D.aAF)=>gd (a.sz≤1048576) (some (a))⟩
theorem Gx:OK 191 Gw:=mkS .n [.cell 2 87] (gc Vy aB) func191 ntmps191 (fun(a:D.aAF) _=>aA (Gd a)) (fun _=>by kernel_rfl)
def aT0:SU:=⟨[.sl 3],[.sl 3],true,false,fun(a:(List Int))=>gd (a.length≤1048576) (some (a))⟩
theorem aT1:OK 192 aT0:=mkS (.s .n (.s .n (.s (.j ⟨[(4,1),(3,13)],[.ti 0 3 true],[],[]⟩ (.s .n (.s (.l ⟨[(4,1),(3,13)],[.nat (.s 4), .ti 0 3 true],[],[]⟩ FUEL .n) .n))) .n))) [.tmp 2] aB func192 ntmps192 (fun(a:(List Int)) _=>aA (aS9 a)) (fun _=>by kernel_rfl)
def aT2:SU:=⟨[.st 135],[.st 90],true,false,fun(a:D.Site)=>gd (a.sz≤1048576) (some (a))⟩
theorem aT3:OK 96 aT2:=mkS .n [.cell 2 90] (gc aA9 (gc Gx (gc aT1 aB))) func96 ntmps96 (fun(a:D.Site) _=>aA (aTa a)) (fun _=>by kernel_rfl)
def aQm:SU:=⟨[.sl 135],[.sl 90],true,false,fun(a:(List D.Site))=>gd (a.length+(a.map D.Site.sz).sum≤1048576) (some (a))⟩
theorem aQn:OK 30 aQm:=mkS (.s .n (.s .n (.s (.j ⟨[(4,1),(3,14)],[.ti 0 90 true],[],[]⟩ (.s .n (.s (.l ⟨[(4,1),(3,14)],[.nat (.s 4), .ti 0 90 true],[],[]⟩ FUEL .n) .n))) .n))) [.tmp 2] (gc aT3 aB) func30 ntmps30 (fun(a:(List D.Site)) _=>aA (aOm a)) (fun _=>by kernel_rfl)
def aQo:SU:=⟨[.st 33],[.st 50],false,false,fun(a:D.aAQ)=>some (a)⟩
theorem aQp:OK 31 aQo:=mkS .n [.cell 2 50] aB func31 ntmps31 (fun a _=>(aOn a).trans) (fun _=>by kernel_rfl)
def aQq:SU:=⟨[.st 138],[.st 187],false,false,fun(a:D.aAO)=>some (a)⟩
theorem aQr:OK 272 aQq:=mkS .n [.cell 2 187] aB func272 ntmps272 (fun a _=>(aOo a).trans) (fun _=>by kernel_rfl)
def aKn:SU:=⟨[.st 140],[.st 189],false,false,fun(a:D.aAN)=>some (a)⟩
theorem Kb:OK 193 aKn:=mkS .n [.cell 2 189] (gc aQr aB) func193 ntmps193 (fun a _=>(aJh a).trans) (fun _=>by kernel_rfl)
def aFv:SU:=⟨[.sl 140],[.sl 189],true,false,fun(a:(List D.aAN))=>gd (a.length≤1048576) (some (a))⟩
theorem aFw:OK 194 aFv:=mkS (.s .n (.s .n (.s (.j ⟨[(4,1),(3,14)],[.ti 0 189 true],[],[]⟩ (.s .n (.s (.l ⟨[(4,1),(3,14)],[.nat (.s 4), .ti 0 189 true],[],[]⟩ FUEL .n) .n))) .n))) [.tmp 2] (gc Kb aB) func194 ntmps194 (fun(a:(List D.aAN)) _=>aA (aD0 a)) (fun _=>by kernel_rfl)
def Vz:SU:=⟨[.st 143],[.st 192],true,false,fun(a:D.aAC)=>gd (a.sz≤1048576) (some (a))⟩
theorem Wd:OK 97 Vz:=mkS .n [.cell 2 192] (gc Kb (gc aFw aB)) func97 ntmps97 (fun(a:D.aAC) _=>aA (Um a)) (fun _=>by kernel_rfl)
def Ru:SU:=⟨[.sl 143],[.sl 192],true,false,fun(a:(List D.aAC))=>gd (a.length+(a.map D.aAC.sz).sum≤1048576) (some (a))⟩
theorem Rv:OK 32 Ru:=mkS (.s .n (.s .n (.s (.j ⟨[(4,1),(3,14)],[.ti 0 192 true],[],[]⟩ (.s .n (.s (.l ⟨[(4,1),(3,14)],[.nat (.s 4), .ti 0 192 true],[],[]⟩ FUEL .n) .n))) .n))) [.tmp 2] (gc Wd aB) func32 ntmps32 (fun(a:(List D.aAC)) _=>aA (Qz a)) (fun _=>by kernel_rfl)
def aKo:SU:=⟨[.st 262],[.st 249],false,false,fun(a:D.aAM)=>some (a)⟩
theorem aKp:OK 195 aKo:=mkS .n [.cell 2 249] aB func195 ntmps195 (fun a _=>(aJi a).trans) (fun _=>by kernel_rfl)
def aFx:SU:=⟨[.sl 262],[.sl 249],true,false,fun(a:(List D.aAM))=>gd (a.length≤1048576) (some (a))⟩
theorem aFy:OK 98 aFx:=mkS (.s .n (.s .n (.s (.j ⟨[(4,1),(3,14)],[.ti 0 249 true],[],[]⟩ (.s .n (.s (.l ⟨[(4,1),(3,14)],[.nat (.s 4), .ti 0 249 true],[],[]⟩ FUEL .n) .n))) .n))) [.tmp 2] (gc aKp aB) func98 ntmps98 (fun(a:(List D.aAM)) _=>aA (aD1 a)) (fun _=>by kernel_rfl)
def aFz:SU:=⟨[.st 37],[.st 54],true,false,fun(a:D.aAK)=>gd (a.sz≤1048576) (some (a))⟩
theorem aF0:OK 33 aFz:=mkS .n [.cell 2 54] (gc aFy aB) func33 ntmps33 (fun(a:D.aAK) _=>aA (aD2 a)) (fun _=>by kernel_rfl)
def aQs:SU:=⟨[.st 39],[.st 56],true,false,fun(a:D.World)=>gd (a.sz≤1048576) (some (a))⟩
theorem aQt:OK 6 aQs:=mkS .n [.cell 2 56] (gc aFs (gc aQi (gc aQl (gc aQn (gc aQp (gc Rv (gc aF0 aB))))))) func6 ntmps6 (fun(a:D.World) _=>aA (aOp a)) (fun _=>by kernel_rfl)
def aQu:SU:=⟨[.sl 230],[.sl 230],true,false,fun(a:(List D.aAB))=>gd (a.length≤34359738368) (some (a))⟩
theorem jN:OK 161 aQu:=mkS .n [.tmp 2] aB func161 ntmps161 (fun(a:(List D.aAB)) _=>aA (aO2 a)) (fun _=>by kernel_rfl)
def aQv:SU:=⟨[.st 80],[.st 80],true,false,fun(a:D.aAD)=>gd (a.sz≤34359738368) (some (a))⟩
theorem lN:OK 162 aQv:=mkS .n [.cell 2 80] aB func162 ntmps162 (fun(a:D.aAD) _=>aA (aO1 a)) (fun _=>by kernel_rfl)
def aQw:SU:=⟨[.st 82],[.st 82],true,false,fun(a:D.Device)=>gd (a.sz≤34359738368) (some (a))⟩
theorem lQ:OK 70 aQw:=mkS .n [.cell 2 82] (gc jN (gc lN aB)) func70 ntmps70 (fun(a:D.Device) _=>aA (aO4 a)) (fun _=>by kernel_rfl)
def aQx:SU:=⟨[.st 45],[.st 45],true,false,fun(a:D.aAE)=>gd (a.sz≤34359738368) (some (a))⟩
theorem Rw:OK 163 aQx:=mkS (.s .n (.s .n (.s (.j ⟨[(4,2),(3,27)],[.nt (.c 2 1) 298 true],[],[]⟩ (.s .n (.s (.l ⟨[(4,2),(3,27)],[.nat (.s 4), .nt (.c 2 1) 298 true],[],[]⟩ FUEL .n) .n))) .n))) [.cell 2 45] aB func163 ntmps163 (fun(a:D.aAE) _=>aA (aO5 a)) (fun _=>by kernel_rfl)
def aQy:SU:=⟨[.st 176],[.st 176],true,false,fun(a:D.aAA)=>gd (a.sz≤34359738368) (some (a))⟩
theorem xK:OK 164 aQy:=mkS .n [.cell 2 176] aB func164 ntmps164 (fun(a:D.aAA) _=>aA (aO6 a)) (fun _=>by kernel_rfl)
def aQz:SU:=⟨[.st 48],[.st 48],true,false,fun(a:D.aAH)=>gd (a.sz≤34359738368) (some (a))⟩
theorem xL:OK 71 aQz:=mkS (.s .n (.s bJ1 (.s (.j ⟨[(4,1),(7,18)],[.nt (.c 4 3) 176 true],[],[]⟩ (.s .n (.s (.l ⟨[(4,1),(7,18)],[.nat (.s 4), .nt (.c 4 3) 176 true],[],[]⟩ FUEL bDx) .n))) .n))) [.cell 2 48] (gc jN (gc Rw (gc xK aB))) func71 ntmps71 (fun(a:D.aAH) _=>aA (aO7 a)) (fun _=>by kernel_rfl)
def aQ0:SU:=⟨[.st 93],[.st 93],true,false,fun(a:D.aAG)=>gd (a.sz≤34359738368) (some (a))⟩
theorem Rx:OK 84 aQ0:=mkS .n [.cell 2 93] aB func84 ntmps84 (fun(a:D.aAG) _=>aA (aO8 a)) (fun _=>by kernel_rfl)
def aQ1:SU:=⟨[.st 87],[.st 87],true,false,fun(a:D.aAF)=>gd (a.sz≤34359738368) (some (a))⟩
theorem aQ2:OK 165 aQ1:=mkS .n [.cell 2 87] aB func165 ntmps165 (fun(a:D.aAF) _=>aA (aO9 a)) (fun _=>by kernel_rfl)
def aQ3:SU:=⟨[.st 90],[.st 90],true,false,fun(a:D.Site)=>gd (a.sz≤34359738368) (some (a))⟩
theorem aQ4:OK 72 aQ3:=mkS (.s .n (.s .n (.s .n (.s (.j ⟨[(4,1),(3,18)],[.tr (.c 2 1) 3 93 true],[],[]⟩ (.s .n (.s (.l ⟨[(4,1),(3,18)],[.nat (.s 4), .tr (.c 2 1) 3 93 true],[],[]⟩ FUEL bDx) .n))) .n)))) [.cell 2 90] (gc Rx (gc aQ2 aB)) func72 ntmps72 (fun(a:D.Site) _=>aA (aPa a)) (fun _=>by kernel_rfl)
def aQ5:SU:=⟨[.st 192],[.st 192],true,false,fun(a:D.aAC)=>gd (a.sz≤34359738368) (some (a))⟩
theorem aQ6:OK 166 aQ5:=mkS .n [.cell 2 192] aB func166 ntmps166 (fun(a:D.aAC) _=>aA (aPb a)) (fun _=>by kernel_rfl)
def aKq:SU:=⟨[.sl 192],[.sl 192],true,false,fun(a:(List D.aAC))=>gd (szL D.aAC.sz a≤34359738368) (some (a))⟩
theorem aKr:OK 73 aKq:=mkS (.s .n (.s .n (.s (.j ⟨[(3,2),(1,14)],[.tr (.s 3) 0 192 true],[],[]⟩ (.s .n (.s (.l ⟨[(3,2),(1,14)],[.tr (.s 3) 0 192 true, .nat (.s 4)],[],[]⟩ FUEL .n) .n))) .n))) [.tmp 2] (gc aQ6 aB) func73 ntmps73 (fun(a:(List D.aAC)) _=>aA (aJx a)) (fun _=>by kernel_rfl)
def aQ7:SU:=⟨[.st 54],[.st 54],true,false,fun(a:D.aAK)=>gd (a.sz≤34359738368) (some (a))⟩
theorem Ry:OK 74 aQ7:=mkS .n [.cell 2 54] aB func74 ntmps74 (fun(a:D.aAK) _=>aA (aPc a)) (fun _=>by kernel_rfl)
def aQ8:SU:=⟨[.st 56],[.st 56],true,false,fun(a:D.World)=>gd (a.sz≤34359738368) (some (a))⟩
theorem Rz:OK 19 aQ8:=mkS (.s .n (.s .n (.s .n (.s (.j ⟨[(4,1),(4,18)],[.tr (.c 2 2) 3 82 true],[],[]⟩ (.s .n (.s (.l ⟨[(4,1),(4,18)],[.nat (.s 4), .tr (.c 2 2) 3 82 true],[],[]⟩ FUEL bDx) .n))) (.s .n (.s .n (.s .n (.s (.j ⟨[(5,1),(32,18)],[.tr (.c 2 8) 8 90 true],[],[]⟩ (.s .n (.s (.l ⟨[(5,1),(32,18)],[.nat (.s 5), .tr (.c 2 8) 8 90 true],[],[]⟩ FUEL bDx) .n))) .n)))))))) [.cell 2 56] (gc lQ (gc xL (gc aQ4 (gc aKr (gc Ry aB))))) func19 ntmps19 (fun(a:D.World) _=>aA (aPd a)) (fun _=>by kernel_rfl)
def bAt:SU:=⟨[i6,i6,i6],[.bool],false,false,fun(a:Int×Int×Int)=>some (dG a.1 a.2.1 a.2.2)⟩
theorem eO:OK 67 bAt:=mkS bKc [.tmp 6] aB func67 ntmps67 (fun a _=>(bAh a.1 a.2.1 a.2.2).trans) (fun _=>by kernel_rfl)
def aQ9:SU:=⟨[i6,i6],[i6],false,false,fun(a:Int×Int)=>oF a.1 a.2⟩
theorem aRa:OK 257 aQ9:=mkS (.s .n (.s .n (.s (.j ⟨[(0,2),(3,16)],[.dat (.s 5) i6],[],[]⟩ (.s (.l ⟨[(0,2),(3,16)],[.dat (.s 0) i6, .dat (.s 1) i6, .dat (.s 5) i6],[],[]⟩ FUEL (.s .n (.s (.s (.j ⟨[(5,1),(2,7)],[.dat (.s 5) i6],[],[]⟩ .n) .n) .n))) .n)) .n))) [.tmp 4] aB func257 ntmps257 (fun _ _=>id) (fun _=>by kernel_rfl)
def aBa:SU:=⟨[i6],[.bool],false,false,fun(a:Int)=>some (dP a)⟩
theorem dS:OK 175 aBa:=mkS .n [.tmp 2] (gc eO aB) func175 ntmps175 (fun a _=>(Z8 a).trans) (fun _=>by kernel_rfl)
def aF1:SU:=⟨[i6],[i6],false,false,fun(a:Int)=>some (gV a)⟩
theorem qQ:OK 82 aF1:=mkS .n [.tmp 2] (gc dS aB) func82 ntmps82 (fun a _=>(aEm a).trans) (fun _=>by kernel_rfl)
def aBb:SU:=⟨[i6],[i6],false,false,fun(a:Int)=>some (fV a)⟩
theorem oQ:OK 178 aBb:=mkS .n [.tmp 2] (gc eO (gc aRa (gc qQ aB))) func178 ntmps178 (fun a _=>(aAd a).trans) (fun _=>by kernel_rfl)
def Ls:SU:=⟨[.st 93],[.bool],false,false,fun(a:D.aAG)=>gd (a.sz≤34359738368) (some (dW a))⟩
theorem qG:OK 86 Ls:=mkS (.s .n (.s (.jx ⟨[(2,62)],[],[],[]⟩ (.s .n (.s (.l ⟨[(2,62)],[.nat (.s 3)],[],[]⟩ FUEL (.s .n (.s (.jx ⟨[(2,1),(1,2),(7,51)],[],[],[]⟩ (.s (.s .n (.s (.s (.rj 5 ⟨[(22,28)],[.dat (.s 49) .bool],[],[]⟩ (.r none (od 32 [2,23,29]))) .n) (.s .n (.s (.l ⟨[(2,1),(2,1),(44,14)],[.nat (.s 5)],[],[]⟩ FUEL (.s .n (.s (.s (.s (.r none (od 9 [])) .n) .n) .n))) .n)))) .n)) .n))) .n))) (.s (.rj 4 ⟨[(2,1),(64,11)],[.dat (.s 2) .bool],[],[]⟩ .n) .n))) [.tmp 2] (gc eO (gc oQ aB)) func86 ntmps86 (fun(a:D.aAG) _=>aA (La a)) (fun _=>by kernel_rfl)
def aKs:SU:=⟨[.str],[.sl 9],true,false,fun(a:ByteArray)=>gd (a.size≤34359738368) (some (bI a))⟩
theorem Kc:OK 336 aKs:=mkS (.s .n (.s .n (.s .n (.s (.j ⟨[(3,3),(1,25)],[.tr (.s 3) 0 9 true],[],[]⟩ (.s .n (.s (.l ⟨[(3,3),(1,25)],[.tr (.s 3) 0 9 true, .dat (.s 4) i6, .dat (.s 5) i6],[],[]⟩ FUEL (.s .n (.s (.j ⟨[(3,2),(8,19)],[.tr (.s 3) 0 9 true, .dat (.s 4) i6],[],[]⟩ (.s (.s (.rj 5 ⟨[(17,6)],[.dat (.s 22) .bool],[],[]⟩ .n) .n) .n)) .n))) .n))) .n)))) [.tmp 2] aB func336 ntmps336 (fun(a:ByteArray) _=>aA (aJ1 a)) (fun _=>by kernel_rfl)
def aRb:SU:=⟨[.str],[.bool],false,false,fun(a:ByteArray)=>gd (a.size≤34359738368) (some (rP a))⟩
theorem aRc:OK 352 aRb:=mkS (.s .n (.s (.jx ⟨[(2,39)],[],[],[]⟩ (.s .n (.s (.l ⟨[(2,39)],[.nat (.s 3)],[],[]⟩ FUEL (.s .n (.s (.s (.s (.rj 5 ⟨[(4,1),(10,24)],[.dat (.s 4) .bool],[],[]⟩ .n) .n) .n) .n))) .n))) (.s (.rj 4 ⟨[(2,1),(41,13)],[.dat (.s 2) .bool],[],[]⟩ .n) .n))) [.tmp 2] (gc eO aB) func352 ntmps352 (fun(a:ByteArray) _=>aA (aPi a)) (fun _=>by kernel_rfl)
def aT4:SU:=⟨[.str],[.bool],false,false,fun(a:ByteArray)=>gd (a.size≤34359738368) (some (iM a))⟩
theorem aT5:OK 335 aT4:=mkS (.s .n (.s .n (.s (.jx ⟨[(2,1),(1,1),(2,12)],[],[],[]⟩ (.s .n (.s (.l ⟨[(2,1),(1,1),(2,12)],[.nat (.s 4)],[],[]⟩ FUEL .n) .n))) .n))) [.tmp 2] (gc Kc (gc aRc aB)) func335 ntmps335 (fun(a:ByteArray) _=>aA (aTk a)) (fun _=>by kernel_rfl)
def aRd:SU:=⟨[.str,i6],[.st 90],true,false,fun(a:ByteArray×Int)=>gd (a.1.size≤34359738368) (some (vL a.1 a.2))⟩
theorem aRe:OK 299 aRd:=mkS (.s .n (.s (.s (.rj 4 ⟨[(8,11)],[.dat (.s 18) .bool],[],[]⟩ .n) .n) .n)) [.cell 4 90] (gc aT5 (gc Kc (gc dS aB))) func299 ntmps299 (fun a _=>aA (aPj a.1 a.2)) (fun _=>by kernel_rfl)
def I5:SU:=⟨[.st 87],[.bool],false,false,fun(a:D.aAF)=>gd (a.sz≤34359738368) (some (nT a))⟩
theorem I6:OK 300 I5:=mkS (.s .n (.s (.jx ⟨[(2,50)],[],[],[]⟩ (.s .n (.s (.l ⟨[(2,50)],[.nat (.s 3)],[],[]⟩ FUEL (.s .n (.s (.s (.s .n (.s (.rj 8 ⟨[(24,28)],[.dat (.s 51) .bool],[],[]⟩ (.r none (od 35 [5,26,32]))) .n)) .n) .n))) .n))) (.s (.rj 4 ⟨[(2,1),(52,6)],[.dat (.s 2) .bool],[],[]⟩ .n) .n))) [.tmp 2] (gc eO aB) func300 ntmps300 (fun(a:D.aAF) _=>aA (D7 a)) (fun _=>by kernel_rfl)
def I7:SU:=⟨[.st 90],[.bool],false,false,fun(a:D.Site)=>gd (a.sz≤34359738368) (some (nU a))⟩
theorem I8:OK 247 I7:=mkS (.s .n (.s (.jx ⟨[(2,36)],[],[],[]⟩ (.s .n (.s (.l ⟨[(2,36)],[.nat (.s 3)],[],[]⟩ FUEL (.s .n (.s (.s (.s (.rj 8 ⟨[(18,20)],[.dat (.s 37) .bool],[],[]⟩ (.r none (od 27 [5]))) .n) .n) .n))) .n))) (.s (.rj 9 ⟨[(2,1),(43,11)],[.dat (.s 2) .bool],[],[]⟩ .n) .n))) [.tmp 2] (gc qG (gc aRe (gc I6 aB))) func247 ntmps247 (fun(a:D.Site) _=>aA (E8 a)) (fun _=>by kernel_rfl)
def aKt:SU:=⟨[i6],[.str],false,false,fun(a:Int)=>some (bD a)⟩
theorem Ke:OK 88 aKt:=mkS .n [.tmp 2] aB func88 ntmps88 (fun a _=>(aJz a).trans) (fun _=>by kernel_rfl)
def Lt:SU:=⟨[.st 54],[.bool],false,false,fun(a:D.aAK)=>gd (a.sz≤34359738368) (some (eZ a))⟩
theorem qH:OK 184 Lt:=mkS (.s .n (.s (.jx ⟨[(2,47)],[],[],[]⟩ (.s .n (.s (.l ⟨[(2,47)],[.nat (.s 3)],[],[]⟩ FUEL bJ2) .n))) .n)) [.tmp 2] (gc eO aB) func184 ntmps184 (fun(a:D.aAK) _=>aA (Kw a)) (fun _=>by kernel_rfl)
def aT6:SU:=⟨[.sl 3,i6],[.bool],false,false,fun(a:(List Int)×Int)=>gd (a.1.length≤1099511627776) (some (jC a.1 a.2))⟩
theorem rD:OK 68 aT6:=mkS (.s .n (.s (.jx ⟨[(4,14)],[],[],[]⟩ (.s .n (.s (.l ⟨[(4,14)],[.nat (.s 5)],[],[]⟩ FUEL .n) .n))) .n)) [.tmp 4] aB func68 ntmps68 (fun a _=>aA (aTf a.1 a.2)) (fun _=>by kernel_rfl)
def aF2:SU:=⟨[.sl 230],[.sl 3],true,false,fun(a:(List D.aAB))=>gd (a.length≤34359738368) (some (aI a))⟩
theorem jO:OK 69 aF2:=mkS (.s .n (.s .n (.s (.j ⟨[(3,5),(1,56)],[.tr (.s 3) 0 3 true],[],[]⟩ (.s .n (.s (.l ⟨[(3,5),(1,56)],[.tr (.s 3) 0 3 true, .nat (.s 4)],[],[]⟩ FUEL (.s .n (.s (.j ⟨[(3,1),(1,3),(7,50)],[.tr (.s 3) 0 3 true],[],[]⟩ (.s (.s .n (.s (.s (.rj 7 ⟨[(20,1),(6,6)],[.dat (.s 20) .bool],[],[]⟩ .n) (.s .n (.s .n (.s (.s .n (.s (.j ⟨[(6,2),(37,19)],[.tr (.s 6) 1 3 true],[],[]⟩ (.s .n (.s (.l ⟨[(6,2),(37,19)],[.tr (.s 6) 1 3 true, .nat (.s 7)],[],[]⟩ FUEL (.s .n (.s (.j ⟨[(6,1),(44,13)],[.tr (.s 6) 1 3 true],[],[]⟩ .n) .n))) .n))) .n)) .n)))) .n)) .n)) .n))) .n))) .n))) [.tmp 2] (gc rD aB) func69 ntmps69 (fun(a:(List D.aAB)) _=>aA (aEp a)) (fun _=>by kernel_rfl)
def bCa:SU:=⟨[i6,i6],[i6],false,false,fun(a:Int×Int)=>some (rH a.1 a.2)⟩
theorem aRf:OK 305 bCa:=mkS .n [.tmp 4] (gc eO aB) func305 ntmps305 (fun a _=>(bB3 a.1 a.2).trans) (fun _=>by kernel_rfl)
def bAu:SU:=⟨[.sl 3],[i6],false,false,fun(a:(List Int))=>gd (a.length≤1099511627776) (some (Ac a))⟩
theorem aIs:OK 252 bAu:=mkS (.s .n (.s .n (.s (.j ⟨[(3,18)],[.dat (.s 3) i6],[],[]⟩ (.s .n (.s (.l ⟨[(3,18)],[.dat (.s 3) i6, .nat (.s 4)],[],[]⟩ FUEL .n) .n))) .n))) [.tmp 2] (gc aRf aB) func252 ntmps252 (fun(a:(List Int)) _=>aA (bAi a)) (fun _=>by kernel_rfl)
def aF3:SU:=⟨[.st 230],[i6],false,false,fun(a:D.aAB)=>some (dC a)⟩
theorem qR:OK 169 aF3:=mkS .n [.tmp 2] (gc aIs aB) func169 ntmps169 (fun a _=>(aEy a).trans) (fun _=>by kernel_rfl)
def aRg:SU:=⟨[.sl 230],[i6],false,false,fun(a:(List D.aAB))=>gd (a.length≤34359738368) (some (gM a))⟩
theorem Sa:OK 167 aRg:=mkS .n [.tmp 2] (gc qR aB) func167 ntmps167 (fun(a:(List D.aAB)) _=>aA (aPf a)) (fun _=>by kernel_rfl)
def aF4:SU:=⟨[i6, .sl 3],[i6],false,false,fun(a:Int×(List Int))=>gd (a.2.length≤34359738368) (some (eP a.1 a.2))⟩
theorem gI:OK 172 aF4:=mkS .n [.tmp 4] (gc aIs aB) func172 ntmps172 (fun a _=>aA (aEi a.1 a.2)) (fun _=>by kernel_rfl)
def I9:SU:=⟨[i6, .sl 3],[i6],false,false,fun(a:Int×(List Int))=>gd (a.2.length≤34359738300) (some (Ih a.1 a.2))⟩
theorem xM:OK 251 I9:=mkS .n [.tmp 4] (gc dS (gc gI aB)) func251 ntmps251 (fun a _=>aA (D5 a.1 a.2)) (fun _=>by kernel_rfl)
def Gy:SU:=⟨[i6, .sl 3,i6],[.bool],false,false,fun(a:Int×(List Int)×Int)=>gd (a.2.1.length≤34359738300) (some (kV a.1 a.2.1 a.2.2))⟩
theorem Gz:OK 306 Gy:=mkS bKa [.tmp 6] (gc oQ (gc xM aB)) func306 ntmps306 (fun a _=>aA (Gm a.1 a.2.1 a.2.2)) (fun _=>by kernel_rfl)
def aRh:SU:=⟨[.sl 230, .st 230],[.bool],false,false,fun(a:(List D.aAB)×D.aAB)=>gd (a.1.length≤34359738368) (some (rC a.1 a.2))⟩
theorem aRi:OK 253 aRh:=mkS (.s .n (.s .n (.s (.rj 5 ⟨[(6,1),(7,12)],[.dat (.s 6) .bool],[],[]⟩ .n) (.s (.s (.rj 6 ⟨[(31,22)],[.dat (.s 52) .bool],[],[]⟩ (.r none [(0,true),(1,true),(2,true),(3,true),(4,true),(5,true),(6,true),(7,true),(8,true),(9,false),(10,true),(11,true),(12,true),(13,true),(14,true),(15,true),(16,true),(17,true),(18,true),(19,true),(22,true),(23,true),(20,false),(21,false),(24,false),(25,true),(26,true)])) .n) (.s (.s .n (.s (.s (.rj 5 ⟨[(4,1),(55,5)],[.dat (.s 4) .bool],[],[]⟩ .n) .n) .n)) (.s (.jx ⟨[(4,1),(2,1),(57,22)],[],[],[]⟩ (.s .n (.s (.l ⟨[(4,1),(2,1),(57,22)],[.nat (.s 7)],[],[]⟩ FUEL (.s .n (.s (.s (.s (.rj 7 ⟨[(77,10)],[.dat (.s 86) .bool],[],[]⟩ (.r none (od 16 []))) .n) .n) .n))) .n))) (.s (.rj 4 ⟨[(4,1),(85,12)],[.dat (.s 4) .bool],[],[]⟩ .n) .n))))))) [.tmp 4] (gc jO (gc rD (gc Sa (gc qR (gc Gz aB))))) func253 ntmps253 (fun a _=>aA (aPk a.1 a.2)) (fun _=>by kernel_rfl)
def aF5:SU:=⟨[.sl 230],[.bool],false,false,fun(a:(List D.aAB))=>gd (a.length≤34359738368) (some (cB a))⟩
theorem iA:OK 170 aF5:=mkS (.s .n (.s (.jx ⟨[(2,17)],[],[],[]⟩ (.s .n (.s (.l ⟨[(2,17)],[.nat (.s 3)],[],[]⟩ FUEL (.s .n (.s (.s (.s (.r none (od 9 [7])) .n) .n) .n))) .n))) .n)) [.tmp 2] (gc aRi (gc eO aB)) func170 ntmps170 (fun(a:(List D.aAB)) _=>aA (aE0 a)) (fun _=>by kernel_rfl)
def We:SU:=⟨[.st 56],[.bool],false,false,fun(a:D.World)=>gd (a.sz≤34359738368) (some (dU a))⟩
theorem Wh:OK 158 We:=mkS (.s .n (.s (.jx ⟨[(2,27)],[],[],[]⟩ (.s .n (.s (.l ⟨[(2,27)],[.nat (.s 3)],[],[]⟩ FUEL (.s .n (.s (.s (.s (.rj 8 ⟨[(18,11)],[.dat (.s 28) .bool],[],[]⟩ (.r none (od 18 [5,15]))) .n) .n) .n))) .n))) (.s (.rj 4 ⟨[(2,1),(29,37)],[.dat (.s 2) .bool],[],[]⟩ .n) .n))) [.tmp 2] (gc I8 (gc Ke (gc eO (gc qH (gc iA (gc dS aB)))))) func158 ntmps158 (fun(a:D.World) _=>aA (Va a)) (fun _=>by kernel_rfl)
def aKu:SU:=⟨[.st 56,i6],[.bool],false,false,fun(a:D.World×Int)=>gd (a.1.sz≤34359738368) (some (dU a.1&&bH a.1 a.2))⟩
theorem aKv:OK 65 aKu:=mkS (.s .n (.s (.rj 3 ⟨[(4,1),(2,8)],[.dat (.s 4) .bool],[],[]⟩ .n) .n)) [.tmp 4] (gc Wh (gc eO aB)) func65 ntmps65 (fun a _=>aA (aJ6 a.1 a.2)) (fun _=>by kernel_rfl)
def J2:SU:=⟨[.st 48,i6],[.st 176, .bool],true,false,fun(a:D.aAH×Int)=>gd (a.1.sz≤34359738368) (some (iO a.1 a.2))⟩
theorem J3:OK 159 J2:=mkS .n [.cell 4 176, .tmp 5] (gc eO (gc xK aB)) func159 ntmps159 (fun a _=>aA (F7 a.1 a.2)) (fun _=>by kernel_rfl)
def aRj:SU:=⟨[.sl 230],[i6],false,false,fun(a:(List D.aAB))=>gd (a.length≤34359738368) (some (bC a))⟩
theorem jP:OK 78 aRj:=mkS (.s .n (.s .n (.s (.j ⟨[(3,16)],[.dat (.s 3) i6],[],[]⟩ (.s .n (.s (.l ⟨[(3,16)],[.dat (.s 3) i6, .nat (.s 4)],[],[]⟩ FUEL (.s .n (.s (.j ⟨[(3,1),(7,8)],[.dat (.s 3) i6],[],[]⟩ .n) .n))) .n))) .n))) [.tmp 2] aB func78 ntmps78 (fun(a:(List D.aAB)) _=>aA (aPm a)) (fun _=>by kernel_rfl)
def aBc:SU:=⟨[.sl 230, .sl 230],[.bool],false,false,fun(a:(List D.aAB)×(List D.aAB))=>gd (a.1.length≤34359738368) (some (dY a.1 a.2))⟩
theorem oU:OK 176 aBc:=mkS bI8 [.tmp 4] aB func176 ntmps176 (fun a _=>aA (aAh a.1 a.2)) (fun _=>by kernel_rfl)
def bCb:SU:=⟨[i6,i6],[i6],false,false,fun(a:Int×Int)=>some (bBq a.1 a.2)⟩
theorem aRk:OK 171 bCb:=mkS .n [.tmp 4] aB func171 ntmps171 (fun a _=>(bB5 a.1 a.2).trans) (fun _=>by kernel_rfl)
def aF6:SU:=⟨[i6, .sl 3],[i6],false,false,fun(a:Int×(List Int))=>gd (a.2.length≤34359738300) (some (eU a.1 a.2))⟩
theorem jQ:OK 77 aF6:=mkS .n [.tmp 4] (gc gI (gc aRk aB)) func77 ntmps77 (fun a _=>aA (aEk a.1 a.2)) (fun _=>by kernel_rfl)
def aF7:SU:=⟨[.st 77],[i6],false,false,fun(a:D.aAJ)=>some (mQ a)⟩
theorem qU:OK 83 aF7:=mkS .n [.tmp 2] (gc jQ aB) func83 ntmps83 (fun a _=>(aEo a).trans) (fun _=>by kernel_rfl)
def Wi:SU:=⟨[.st 77],[i6],false,false,fun(a:D.aAJ)=>some (dB a)⟩
theorem jG:OK 21 Wi:=mkS .n [.tmp 2] (gc qU (gc qQ aB)) func21 ntmps21 (fun a _=>(Uw a).trans) (fun _=>by kernel_rfl)
def aT7:SU:=⟨[i6,i6],[i6],false,false,fun(a:Int×Int)=>some (fU a.1 a.2)⟩
theorem Zc:OK 307 aT7:=mkS .n [.tmp 4] (gc jQ aB) func307 ntmps307 (fun a _=>(aTo a.1 a.2).trans) (fun _=>by kernel_rfl)
def J4:SU:=⟨[.sl 5],[.sl 3],true,false,fun(a:(List Int))=>gd (a.length≤34359738360) (some (sS a))⟩
theorem mX:OK 310 J4:=mkS (.s .n (.s .n (.s (.j ⟨[(3,2),(3,14)],[.tr (.s 3) 0 3 true],[],[]⟩ (.s .n (.s (.l ⟨[(3,2),(3,14)],[.tr (.s 3) 0 3 true, .nat (.s 4)],[],[]⟩ FUEL .n) .n))) .n))) [.tmp 2] aB func310 ntmps310 (fun(a:(List Int)) _=>aA (F3 a)) (fun _=>by kernel_rfl)
def aT8:SU:=⟨[i6, .st 298],[i6],false,false,fun(a:Int×D.Box)=>gd (a.2.Data.length≤34359738200) (some (Uc a.1 a.2))⟩
theorem Zd:OK 308 aT8:=mkS bJs [.tmp 4] (gc mX (gc gI aB)) func308 ntmps308 (fun a _=>aA (aTp a.1 a.2)) (fun _=>by kernel_rfl)
def aRl:SU:=⟨[i6, .sl 5],[.sl 5],true,false,fun(a:Int×(List Int))=>gd (a.2.length≤34359738368) (some (aDf a.1 a.2))⟩
theorem Sb:OK 304 aRl:=mkS (.s .n (.s .n (.s (.j ⟨[(5,2),(1,22)],[.tr (.s 5) 0 5 true],[],[]⟩ (.s .n (.s (.l ⟨[(5,2),(1,22)],[.tr (.s 5) 0 5 true, .nat (.s 6)],[],[]⟩ FUEL (.s .n (.s (.s (.r (some 15) (od 17 [8,9,12,14,15,16])) .n) .n))) .n))) .n))) [.tmp 4] (gc gI (gc aRf aB)) func304 ntmps304 (fun a _=>aA (aPo a.1 a.2)) (fun _=>by kernel_rfl)
def aRm:SU:=⟨[i6, .st 298],[.sl 5, .bool],true,false,fun(a:Int×D.Box)=>some (gG a.1 a.2)⟩
theorem aRn:OK 337 aRm:=mkS bJ0 [.tmp 4, .tmp 5] (gc dS (gc qQ (gc Zc (gc Zd (gc Sb aB))))) func337 ntmps337 (fun a _=>(aPq a.1 a.2).trans) (fun _=>by kernel_rfl)
def aRo:SU:=⟨[.sl 298,i6],[.sl 5, .bool],true,false,fun(a:(List D.Box)×Int)=>gd (a.1.length≤34359738368) (some (gY a.1 a.2))⟩
theorem aRp:OK 301 aRo:=mkS (.s .n (.s (.jx ⟨[(4,22)],[],[],[]⟩ (.s .n (.s (.l ⟨[(4,22)],[.nat (.s 6)],[],[]⟩ FUEL .n) .n))) .n)) [.tmp 4, .tmp 5] (gc aRn aB) func301 ntmps301 (fun a _=>aA (aPr a.1 a.2)) (fun _=>by kernel_rfl)
def J5:SU:=⟨[.sl 5,i6],[i6,i6, .bool],false,false,fun(a:(List Int)×Int)=>gd (aW a.1) (some (xS a.1 a.2))⟩
theorem xN:OK 338 J5:=mkS (.s .n (.s .n (.s (.jx ⟨[(4,51)],[],[],[]⟩ (.s .n (.s (.l ⟨[(4,51)],[.dat (.s 7) i6, .nat (.s 8)],[],[]⟩ FUEL (.s .n (.s (.s (.s (.s (.rj 3 ⟨[(16,8)],[.dat (.s 23) .bool],[],[]⟩ .n) .n) (.s .n (.s .n (.s .n (.s (.s (.s (.rj 3 ⟨[(42,8)],[.dat (.s 49) .bool],[],[]⟩ .n) .n) .n) .n))))) .n) .n))) .n))) .n))) [.tmp 4, .tmp 5, .tmp 6] aB func338 ntmps338 (fun a _=>aA (G5 a.1 a.2)) (fun _=>by kernel_rfl)
def aBd:SU:=⟨[.sl 5,i6,i6],[.sl 3,i6, .bool],true,false,fun(a:(List Int)×Int×Int)=>gd (aW a.1) (some (iL a.1 a.2.1 a.2.2))⟩
theorem zN:OK 302 aBd:=mkS (.s .n (.s .n (.s (.s (.rj 4 ⟨[(18,7)],[.dat (.s 24) .bool],[],[]⟩ .n) .n) (.s (.jx ⟨[(1,1),(4,8),(12,20)],[.dat (.s 1) i6, .tr (.s 9) 0 3 true],[],[]⟩ (.s .n (.s (.l ⟨[(1,1),(4,8),(12,20)],[.dat (.s 1) i6, .tr (.s 9) 0 3 true, .nat (.s 10)],[],[]⟩ FUEL .n) .n))) .n)))) [.tmp 6, .tmp 7, .tmp 8] (gc eO (gc xN aB)) func302 ntmps302 (fun a _=>aA (aAk a.1 a.2.1 a.2.2)) (fun _=>by kernel_rfl)
def Lu:SU:=⟨[.st 77, .st 45],[i6, .bool],false,false,fun(a:D.aAJ×D.aAE)=>gd (a.2.sz≤34359738368) (some (dI a.1 a.2))⟩
theorem Lv:OK 248 Lu:=mkS (.s .n (.s (.r none (od 10 [3,4])) (.s .n (.s (.s (.rj 3 ⟨[(27,25)],[.dat (.s 51) .bool],[],[]⟩ (.r none (od 27 [24]))) .n) .n)))) [.tmp 4, .tmp 5] (gc qU (gc aRp (gc zN (gc dS aB)))) func248 ntmps248 (fun a _=>aA (Lc a.1 a.2)) (fun _=>by kernel_rfl)
def aKw:SU:=⟨[i6,i6,i6],[.bool],false,false,fun(a:Int×Int×Int)=>some (dP a.1&&(dG a.2.1 0 1000000&&dG a.2.2 0 1000000))⟩
theorem Kg:OK 262 aKw:=mkS (.s .n (.s (.rj 3 ⟨[(6,1),(2,8)],[.dat (.s 6) .bool],[],[]⟩ .n) .n)) [.tmp 6] (gc dS (gc eO aB)) func262 ntmps262 (fun a _=>(aJ7 a.1 a.2.1 a.2.2).trans) (fun _=>by kernel_rfl)
def aF8:SU:=⟨[i6, .st 176],[i6],false,false,fun(a:Int×D.aAA)=>gd (a.2.Data.length≤34359738200) (some (iK a.1 a.2))⟩
theorem Eb:OK 266 aF8:=mkS bJs [.tmp 4] (gc mX (gc gI aB)) func266 ntmps266 (fun a _=>aA (aE4 a.1 a.2)) (fun _=>by kernel_rfl)
def aT9:SU:=⟨[i6,i6,i6],[i6],false,false,fun(a:Int×Int×Int)=>some (lJ a.1 a.2.1 a.2.2)⟩
theorem Ze:OK 264 aT9:=mkS .n [.tmp 6] (gc jQ aB) func264 ntmps264 (fun a _=>(aTr a.1 a.2.1 a.2.2).trans) (fun _=>by kernel_rfl)
def aRq:SU:=⟨[.st 279,i6,i6],[.bool],false,false,fun(a:D.Entry×Int×Int)=>some (iJ a.1 a.2.1 a.2.2)⟩
theorem Sc:OK 309 aRq:=mkS (.s .n (.s (.rj 5 ⟨[(6,1),(4,12)],[.dat (.s 6) .bool],[],[]⟩ .n) .n)) [.tmp 6] aB func309 ntmps309 (fun a _=>(aO0 a.1 a.2.1 a.2.2).trans) (fun _=>by kernel_rfl)
def aKx:SU:=⟨[.st 80],[.bool],false,false,fun(a:D.aAD)=>gd (a.sz≤34359738368) (some (aJ a))⟩
theorem iQ:OK 260 aKx:=mkS (.s .n (.s (.jx ⟨[(2,49)],[],[],[]⟩ (.s .n (.s (.l ⟨[(2,49)],[.nat (.s 3)],[],[]⟩ FUEL (.s .n (.s (.s (.s .n (.s (.rj 5 ⟨[(21,30)],[.dat (.s 50) .bool],[],[]⟩ (.r none (od 34 [2,7,13,30]))) .n)) .n) .n))) .n))) .n)) [.tmp 2] (gc eO (gc Sc aB)) func260 ntmps260 (fun(a:D.aAD) _=>aA (aJs a)) (fun _=>by kernel_rfl)
def Sd:SU:=⟨[.sl 5,i6],[.sl 5],true,false,fun(a:(List Int)×Int)=>gd (a.1.length≤34359738300) (some (nW a.1 a.2))⟩
theorem Sg:OK 255 Sd:=mkS (.s .n (.s .n (.s .n (.s (.j ⟨[(1,1),(3,1),(7,11)],[.dat (.s 1) i6, .tr (.s 5) 0 5 true],[],[]⟩ (.s (.l ⟨[(1,1),(3,1),(7,11)],[.dat (.s 1) i6, .tr (.s 5) 0 5 true],[],[]⟩ FUEL .n) .n)) .n)))) [.tmp 4] (gc eO aB) func255 ntmps255 (fun a _=>aA (Rf a.1 a.2)) (fun _=>by kernel_rfl)
def aBe:SU:=⟨[.sl 3],[.sl 5],true,false,fun(a:(List Int))=>gd (a.length≤5000000000) (some (kY a))⟩
theorem zO:OK 174 aBe:=mkS (.s .n (.s .n (.s (.j ⟨[(3,2),(1,12)],[.tr (.s 3) 0 5 true],[],[]⟩ (.s .n (.s (.l ⟨[(3,2),(1,12)],[.tr (.s 3) 0 5 true, .nat (.s 4)],[],[]⟩ FUEL .n) .n))) .n))) [.tmp 2] (gc Sg aB) func174 ntmps174 (fun(a:(List Int)) _=>aA (aAl a)) (fun _=>by kernel_rfl)
def Wj:SU:=⟨[.st 80],[.sl 5],true,false,fun(a:D.aAD)=>gd (a.sz≤34359738368) (some (pF a))⟩
theorem uN:OK 265 Wj:=mkS (.s .n (.s .n (.s .n (.s (.j ⟨[(3,3),(8,35)],[.tr (.s 3) 1 3 true],[],[]⟩ (.s .n (.s (.l ⟨[(3,3),(8,35)],[.tr (.s 3) 1 3 true, .nat (.s 4)],[],[]⟩ FUEL (.s .n (.s (.j ⟨[(3,1),(1,1),(15,28)],[.tr (.s 3) 1 3 true],[],[]⟩ (.s (.s .n (.s (.j ⟨[(5,1),(15,6)],[.dat (.s 5) i6],[],[]⟩ .n) (.r (some 21) (od 23 [20,21,22])))) .n)) .n))) .n))) .n)))) [.tmp 2] (gc iQ (gc zO aB)) func265 ntmps265 (fun(a:D.aAD) _=>aA (Vf a)) (fun _=>by kernel_rfl)
def aBf:SU:=⟨[.sl 5, .sl 5],[.bool],false,false,fun(a:(List Int)×(List Int))=>gd (aW a.1∧aW a.2) (some ((a.1==a.2)))⟩
theorem aBg:OK 339 aBf:=mkS .n [.tmp 4] aB func339 ntmps339 (fun a _=>aA (aAm a.1 a.2)) (fun _=>by kernel_rfl)
def Wl:SU:=⟨[.sl 5],[.st 80, .bool],true,false,fun(a:(List Int))=>gd (aW a) (some (Oc a))⟩
theorem Wm:OK 303 Wl:=mkS (.s .n (.s .n (.s (.s (.rj 3 ⟨[(21,4)],[.dat (.s 24) .bool],[],[]⟩ .n) .n) (.s .n (.s (.jx ⟨[(3,1),(1,1),(2,5),(14,40)],[.nt (.c 1 0) 279 true],[],[]⟩ (.s .n (.s (.l ⟨[(3,1),(1,1),(2,5),(14,40)],[.dat (.s 5) i6, .nat (.s 8), .nt (.c 1 0) 279 true],[],[]⟩ FUEL .n) .n))) (.s (.s (.rj 4 ⟨[(70,7)],[.dat (.s 76) .bool],[],[]⟩ .n) .n) .n)))))) [.cell 2 80, .tmp 3] (gc xN (gc zN (gc iQ (gc uN (gc aBg aB))))) func303 ntmps303 (fun(a:(List Int)) _=>aA (Vh a)) (fun _=>by kernel_rfl)
def aBh:SU:=⟨[i6, .st 176],[.st 80, .bool],true,false,fun(a:Int×D.aAA)=>gd (a.2.Data.length≤34359738200) (some (kU a.1 a.2))⟩
theorem aBi:OK 249 aBh:=mkS (.s .n (.s (.s (.rj 8 ⟨[(13,8)],[.dat (.s 20) .bool],[],[]⟩ (.r none (od 15 [5,12]))) .n) (.s (.r (some 12) [(0,true),(1,true),(2,true),(3,true),(4,true),(6,true),(7,true),(5,false),(8,false),(9,false),(10,true),(11,true),(12,false),(13,false)]) .n))) [.cell 4 80, .tmp 5] (gc Kg (gc Eb (gc Ze (gc Sb (gc Wm aB))))) func249 ntmps249 (fun a _=>aA (aAo a.1 a.2)) (fun _=>by kernel_rfl)
def aF9:SU:=⟨[.st 80,i6,i6],[i6],false,false,fun(a:D.aAD×Int×Int)=>gd (a.1.sz≤34359738368) (some (aH a.1 a.2.1 a.2.2))⟩
theorem mE:OK 258 aF9:=mkS (.s .n (.s (.jx ⟨[(6,28)],[],[],[]⟩ (.s .n (.s (.l ⟨[(6,28)],[.nat (.s 7)],[],[]⟩ FUEL (.s .n (.s (.s (.s (.rj 9 ⟨[(23,10)],[.dat (.s 32) .bool],[],[]⟩ .n) .n) .n) .n))) .n))) .n)) [.tmp 6] aB func258 ntmps258 (fun a _=>aA (aEs a.1 a.2.1 a.2.2)) (fun _=>by kernel_rfl)
def aUa:SU:=⟨[.st 80, .st 279],[.st 80],true,false,fun(a:D.aAD×D.Entry)=>gd (a.1.sz≤34359738360) (some (nV a.1 a.2))⟩
theorem zT:OK 259 aUa:=mkS (.s .n (.s .n (.s .n (.s .n (.s (.j ⟨[(7,1),(16,19)],[.dat (.s 7) i6],[],[]⟩ (.s (.l ⟨[(7,1),(16,19)],[.dat (.s 7) i6],[],[]⟩ FUEL (.s (.s (.rj 6 ⟨[(29,12)],[.dat (.s 40) .bool],[],[]⟩ (.r none (od 17 [15]))) .n) .n)) .n)) (.s bMw .n)))))) [.cell 4 80] (gc lN (gc mE (gc Sc aB))) func259 ntmps259 (fun a _=>aA (aTi a.1 a.2)) (fun _=>by kernel_rfl)
def Wn:SU:=⟨[.st 80, .st 80],[.st 80, .bool],true,false,fun(a:D.aAD×D.aAD)=>gd (a.1.sz≤34359738368∧a.2.sz≤34359738368) (some (lH a.1 a.2))⟩
theorem Wp:OK 250 Wn:=mkS (.s .n (.s (.s (.rj 4 ⟨[(13,5)],[.dat (.s 17) .bool],[],[]⟩ .n) .n) (.s .n (.s (.j ⟨[(7,3),(12,49)],[.tr (.c 4 0) 3 279 true],[],[]⟩ (.s .n (.s (.l ⟨[(7,3),(12,49)],[.nat (.s 7), .tr (.c 4 0) 3 279 true],[],[]⟩ FUEL (.s .n (.s (.j ⟨[(8,2),(19,42)],[.tr (.c 4 0) 3 279 true],[],[]⟩ (.s (.s .n (.s .n (.s (.rj 3 ⟨[(42,26)],[.dat (.s 67) .bool],[],[]⟩ (.r none (od 28 []))) .n))) .n)) .n))) .n))) .n)))) [.cell 4 80, .tmp 5] (gc iQ (gc lN (gc mE (gc zT aB)))) func250 ntmps250 (fun a _=>aA (Uy a.1 a.2)) (fun _=>by kernel_rfl)
def aBj:SU:=⟨[.st 82, .sl 230, .st 45, .st 176],[.st 82,i6],true,false,fun(a:D.Device×(List D.aAB)×D.aAE×D.aAA)=>gd (a.1.sz≤34359738368∧a.2.1.length≤34359738368∧a.2.2.1.sz≤34359738368∧a.2.2.2.Data.length≤34359738200) (some (gN a.1 a.2.1 a.2.2.1 a.2.2.2))⟩
theorem aBk:OK 160 aBj:=mkS (.s .n (.s .n (.s .n (.s (.s (.rj 4 ⟨[(25,7)],[.dat (.s 31) .bool],[],[]⟩ .n) .n) (.s bJ5 (.s .n (.s bKe (.s bKd (.s .n (.s .n (.s (.s (.rj 3 ⟨[(98,4)],[.dat (.s 101) .bool],[],[]⟩ .n) .n) bJu))))))))))) [.cell 8 82, .tmp 9] (gc lQ (gc jP (gc iA (gc oU (gc jO (gc jG (gc rD (gc Lv (gc aBi (gc Wp (gc jN aB))))))))))) func160 ntmps160 (fun a _=>aA (aAq a.1 a.2.1 a.2.2.1 a.2.2.2)) (fun _=>by kernel_rfl)
def aRr:SU:=⟨[.st 82, .st 48,i6],[.st 82,i6],true,false,fun(a:D.Device×D.aAH×Int)=>gd (a.1.sz≤34359738100∧a.2.1.sz≤34359738100) (some (gN a.1 a.2.1.Log a.2.1.Boxes (iO a.2.1 a.2.2).1))⟩
theorem aRs:OK 66 aRr:=mkS .n [.cell 6 82, .tmp 7] (gc J3 (gc aBk aB)) func66 ntmps66 (fun a _=>aA (aPv a.1 a.2.1 a.2.2)) (fun _=>by kernel_rfl)
def aRt:SU:=⟨[.st 56,i6,i6],[.st 56,i6],true,false,fun(a:D.World×Int×Int)=>gd (a.1.sz≤34359738100) (some (bO a.1 a.2.1 a.2.2))⟩
theorem aRu:OK 17 aRt:=mkS (.s .n (.s .n (.s .n (.s (.y false (some 12) (some 13) (od 15 [8,12,13])) .n)))) [.cell 6 56, .tmp 7] (gc Rz (gc aKv (gc aRs aB))) func17 ntmps17 (fun a _=>aA (aPx a.1 a.2.1 a.2.2)) (fun _=>by kernel_rfl)
def aUb:SU:=⟨[.st 56,i6],[.bool],false,false,fun(a:D.World×Int)=>gd (WOk a.1) (some (jF a.1 a.2))⟩
theorem aUc:OK 18 aUb:=mkS (.s .n (.s (.rj 7 ⟨[(4,1),(6,14)],[.dat (.s 4) .bool],[],[]⟩ (.r none [(0,true),(1,true),(2,true),(3,true),(4,true),(5,false),(6,true),(7,true),(8,true),(9,true),(11,true),(12,true),(13,true),(14,true),(15,true),(16,true),(10,false),(17,false),(18,false),(19,true),(20,true)])) .n)) [.tmp 4] (gc eO (gc jO (gc jG (gc rD aB)))) func18 ntmps18 (fun a _=>aA (aTg a.1 a.2)) (fun _=>by kernel_rfl)
def Wq:SU:=⟨[.st 77, .sl 3],[i6],false,false,fun(a:D.aAJ×(List Int))=>gd (a.2.length≤34359738300) (some (lK a.1 a.2))⟩
theorem Ws:OK 168 Wq:=mkS .n [.tmp 4] (gc qU (gc xM aB)) func168 ntmps168 (fun a _=>aA (Vl a.1 a.2)) (fun _=>by kernel_rfl)
def J6:SU:=⟨[.sl 230,i6,i6, .st 77],[.sl 230, .bool],true,false,fun(a:(List D.aAB)×Int×Int×D.aAJ)=>gd (a.1.length≤34359738300) (some (kG a.1 a.2.1 a.2.2.1 a.2.2.2))⟩
theorem J7:OK 75 J6:=mkS (.s .n (.s .n (.s (.r (some 6) (od 7 [2,3,4,6])) (.s bJ6 (.s (.s (.rj 4 ⟨[(35,10)],[.dat (.s 44) .bool],[],[]⟩ .n) .n) .n))))) [.tmp 8, .tmp 9] (gc jG (gc Sa (gc qR (gc Ws (gc jN (gc iA aB)))))) func75 ntmps75 (fun a _=>aA (G9 a.1 a.2.1 a.2.2.1 a.2.2.2)) (fun _=>by kernel_rfl)
def aKy:SU:=⟨[i6,i6],[i6],false,false,fun(a:Int×Int)=>some (kQ a.1 a.2)⟩
theorem aKz:OK 76 aKy:=mkS .n [.tmp 4] (gc jQ aB) func76 ntmps76 (fun a _=>(aJ8 a.1 a.2).trans) (fun _=>by kernel_rfl)
def aRv:SU:=⟨[i6, .sl 5],[.sl 5],true,false,fun(a:Int×(List Int))=>gd (aW a.2) (some (pG a.1 a.2))⟩
theorem Si:OK 263 aRv:=mkS (.s .n (.s .n (.s (.j ⟨[(5,2),(1,22)],[.tr (.s 5) 0 5 true],[],[]⟩ (.s .n (.s (.l ⟨[(5,2),(1,22)],[.tr (.s 5) 0 5 true, .nat (.s 6)],[],[]⟩ FUEL (.s .n (.s (.s (.r (some 15) (od 17 [8,9,14,15,16])) .n) .n))) .n))) .n))) [.tmp 4] (gc gI aB) func263 ntmps263 (fun a _=>aA (aP0 a.1 a.2)) (fun _=>by kernel_rfl)
def aRw:SU:=⟨[i6,i6, .sl 5],[.st 298, .bool],true,false,fun(a:Int×Int×(List Int))=>gd (aW a.2.2) (some (gP a.1 a.2.1 a.2.2))⟩
theorem aRx:OK 254 aRw:=mkS bJ8 [.cell 6 298, .tmp 7] (gc oQ (gc dS (gc Zc (gc Si (gc Zd aB))))) func254 ntmps254 (fun a _=>aA (aP2 a.1 a.2.1 a.2.2)) (fun _=>by kernel_rfl)
def aGa:SU:=⟨[.sl 3,i6, .sl 5],[.sl 298, .bool],true,false,fun(a:(List Int)×Int×(List Int))=>gd (a.1.length≤34359738300∧aW a.2.2) (some (iW a.2.1 a.2.2 0 a.1))⟩
theorem aGb:OK 173 aGa:=mkS (.s .n (.s .n (.s (.jx ⟨[(6,6),(1,25)],[.tr (.s 8) 0 298 true],[],[]⟩ (.s .n (.s (.l ⟨[(6,6),(1,25)],[.tr (.s 8) 0 298 true, .nat (.s 9)],[],[]⟩ FUEL .n) .n))) .n))) [.tmp 6, .tmp 7] (gc aRx aB) func173 ntmps173 (fun a _=>aA (aE9 a.1 a.2.1 a.2.2)) (fun _=>by kernel_rfl)
def Lx:SU:=⟨[.sl 230,i6,i6],[.st 45, .bool],true,false,fun(a:(List D.aAB)×Int×Int)=>gd (a.1.length≤34359738300) (some (iX a.1 a.2.1 a.2.2))⟩
theorem Ma:OK 79 Lx:=mkS (.s .n (.s .n (.s .n (.s (.s (.rj 4 ⟨[(27,9)],[.dat (.s 35) .bool],[],[]⟩ .n) .n) .n)))) [.cell 6 45, .tmp 7] (gc jP (gc jO (gc zO (gc aGb (gc iA (gc dS aB)))))) func79 ntmps79 (fun a _=>aA (Lg a.1 a.2.1 a.2.2)) (fun _=>by kernel_rfl)
def aBl:SU:=⟨[.st 45,i6],[i6],false,false,fun(a:D.aAE×Int)=>gd (a.1.Boxes.length≤34359738368) (some (kW a.1 a.2))⟩
theorem aBm:OK 256 aBl:=mkS (.s .n (.s .n (.s (.j ⟨[(5,19)],[.dat (.s 5) i6],[],[]⟩ (.s .n (.s (.l ⟨[(5,19)],[.dat (.s 5) i6, .nat (.s 6)],[],[]⟩ FUEL (.s .n (.s (.j ⟨[(5,1),(8,10)],[.dat (.s 5) i6],[],[]⟩ .n) .n))) .n))) .n))) [.tmp 4] aB func256 ntmps256 (fun a _=>aA (aAv a.1 a.2)) (fun _=>by kernel_rfl)
def aGc:SU:=⟨[.st 45, .sl 230],[.bool],false,false,fun(a:D.aAE×(List D.aAB))=>gd (a.1.Boxes.length≤34359738368∧a.2.length≤34359738368) (some (lX a.1 a.2))⟩
theorem aGd:OK 177 aGc:=mkS (.s .n (.s .n (.s (.jx ⟨[(4,1),(1,1),(2,13)],[],[],[]⟩ (.s .n (.s (.l ⟨[(4,1),(1,1),(2,13)],[.nat (.s 6)],[],[]⟩ FUEL (.s .n (.s (.s (.s (.r none (od 7 [5])) .n) .n) .n))) .n))) (.s (.rj 6 ⟨[(4,1),(22,8)],[.dat (.s 4) .bool],[],[]⟩ (.r none (od 14 [3]))) .n)))) [.tmp 4] (gc jO (gc aBm (gc jP aB))) func177 ntmps177 (fun a _=>aA (aFb a.1 a.2)) (fun _=>by kernel_rfl)
def aGe:SU:=⟨[.st 48, .sl 230, .st 45],[.st 48, .bool],true,false,fun(a:D.aAH×(List D.aAB)×D.aAE)=>gd (a.1.sz≤34359738368∧a.2.1.length≤34359738368∧a.2.2.sz≤34359738368) (some (lL a.1 a.2.1 a.2.2))⟩
theorem aGf:OK 80 aGe:=mkS bJ9 [.cell 6 48, .tmp 7] (gc xL (gc iA (gc oU (gc aGd (gc jN (gc Rw aB)))))) func80 ntmps80 (fun a _=>aA (aFd a.1 a.2.1 a.2.2)) (fun _=>by kernel_rfl)
def aBn:SU:=⟨[.st 82, .sl 230,i6],[.st 82, .bool],true,false,fun(a:D.Device×(List D.aAB)×Int)=>gd (a.1.sz≤34359738368∧a.2.1.length≤34359738368) (some (nX a.1 a.2.1 a.2.2))⟩
theorem aBo:OK 81 aBn:=mkS bMu [.cell 6 82, .tmp 7] (gc lQ (gc iA (gc oU (gc jP (gc dS (gc jN aB)))))) func81 ntmps81 (fun a _=>aA (aA0 a.1 a.2.1 a.2.2)) (fun _=>by kernel_rfl)
def J8:SU:=⟨[.st 90,i6],[i6],false,false,fun(a:D.Site×Int)=>gd (a.1.Accounts.length≤34359738368) (some (bA a.1 a.2))⟩
theorem J9:OK 22 J8:=mkS bJ4 [.tmp 4] aB func22 ntmps22 (fun a _=>aA (H6 a.1 a.2)) (fun _=>by kernel_rfl)
def Mc:SU:=⟨[.st 93,i6],[i6],false,false,fun(a:D.aAG×Int)=>gd (a.1.Credentials.length≤34359738368) (some (eG a.1 a.2))⟩
theorem Md:OK 85 Mc:=mkS bJ4 [.tmp 4] aB func85 ntmps85 (fun a _=>aA (Li a.1 a.2)) (fun _=>by kernel_rfl)
def Sj:SU:=⟨[.st 93,i6],[.st 93, .bool],true,false,fun(a:D.aAG×Int)=>gd (a.1.sz≤34359738368) (some (kL a.1 a.2))⟩
theorem Sk:OK 23 Sj:=mkS bJ7 [.cell 4 93, .tmp 5] (gc Rx (gc Md (gc qG aB))) func23 ntmps23 (fun a _=>aA (Ri a.1 a.2)) (fun _=>by kernel_rfl)
def Ec:SU:=⟨[i6, .str],[i6],false,false,fun(a:Int×ByteArray)=>gd (a.2.size≤34359738300) (some (nR a.1 a.2))⟩
theorem Ed:OK 261 Ec:=mkS .n [.tmp 4] (gc mX (gc gI (gc aRk (gc (bJo 1000174) aB)))) func261 ntmps261 (fun a _=>aA (Dy a.1 a.2)) (fun _=>by kernel_rfl)
def aK0:SU:=⟨[.str],[i6],false,false,fun(a:ByteArray)=>gd (a.size≤34359738300) (some (gW a))⟩
theorem aK1:OK 180 aK0:=mkS .n [.tmp 2] (gc Ed aB) func180 ntmps180 (fun(a:ByteArray) _=>aA (aJ2 a)) (fun _=>by kernel_rfl)
def aK2:SU:=⟨[.st 80,i6,i6],[.st 80, .bool],true,false,fun(a:D.aAD×Int×Int)=>gd (a.1.sz≤34359738360) (some (aDh a.1 a.2.1 a.2.2))⟩
theorem aK3:OK 179 aK2:=mkS (.s .n (.s .n (.s (.jx ⟨[(7,1),(1,1),(4,23)],[.dat (.c 2 2) i6],[],[]⟩ .n) (.s .n (.s (.s (.rj 4 ⟨[(43,5)],[.dat (.s 47) .bool],[],[]⟩ .n) .n) .n))))) [.cell 6 80, .tmp 7] (gc mE (gc lN (gc zT (gc iQ aB)))) func179 ntmps179 (fun a _=>aA (aJ4 a.1 a.2.1 a.2.2)) (fun _=>by kernel_rfl)
def K3:SU:=⟨[.st 80,i6,i6],[.st 80, .bool],true,false,fun(a:D.aAD×Int×Int)=>gd (a.1.sz≤34359738360) (some (aDi a.1 a.2.1 a.2.2))⟩
theorem K4:OK 181 K3:=mkS (.s .n (.s .n (.s (.s (.rj 4 ⟨[(16,21)],[.dat (.s 36) .bool],[],[]⟩ .n) .n) (.s (.r (some 12) (od 14 [11,12,13])) .n)))) [.cell 6 80, .tmp 7] (gc mE (gc iQ (gc lN (gc zT aB)))) func181 ntmps181 (fun a _=>aA (F5 a.1 a.2.1 a.2.2)) (fun _=>by kernel_rfl)
def Wt:SU:=⟨[.st 82, .str,i6, .bool],[.st 82, .bool],true,false,fun(a:D.Device×ByteArray×Int×Bool)=>gd (a.1.sz≤34359738360∧a.2.1.size≤34359738300) (some (fC a.1 a.2.1 a.2.2.1 a.2.2.2))⟩
theorem Wu:OK 87 Wt:=mkS (.s .n (.s .n (.s bJv (.s bMv (.s (.j ⟨[(34,3)],[.nt (.c 4 8) 279 true],[],[3,5]⟩ .n) .n))))) [.cell 8 82, .tmp 9] (gc lQ (gc aK1 (gc aK3 (gc K4 aB)))) func87 ntmps87 (fun a _=>aA (Vd a.1 a.2.1 a.2.2.1 a.2.2.2)) (fun _=>by kernel_rfl)
def aBp:SU:=⟨[.st 82,i6, .bool],[.st 82],true,false,fun(a:D.Device×Int×Bool)=>gd (a.1.sz≤34359738300) (some (rU a.1 a.2.1 a.2.2))⟩
theorem aBq:OK 24 aBp:=mkS (.s .n (.s (.j ⟨[(7,17)],[.dat (.c 0 0) i6, .dat (.c 0 1) i6, .dat (.c 0 2) i6, .dat (.c 0 3) i6, .nt (.c 0 4) 230 true, .dat (.c 0 5) i6, .dat (.c 0 6) i6, .dat (.c 0 7) i6, .nt (.c 0 8) 279 true],[],[]⟩ (.s .n (.s (.s bMx (.l ⟨[(7,17)],[.dat (.s 7) i6, .dat (.c 0 0) i6, .dat (.c 0 1) i6, .dat (.c 0 2) i6, .dat (.c 0 3) i6, .tr (.c 0 4) 2 230 true, .dat (.c 0 5) i6, .dat (.c 0 6) i6, .dat (.c 0 7) i6, .tr (.c 0 8) 3 279 true],[],[]⟩ FUEL bMx)) .n))) .n)) [.cell 6 82] (gc Ke (gc Wu aB)) func24 ntmps24 (fun a _=>aA (aAx a.1 a.2.1 a.2.2)) (fun _=>by kernel_rfl)
def aBr:SU:=⟨[i6,i6,i6, .st 80],[.st 176, .bool],true,false,fun(a:Int×Int×Int×D.aAD)=>gd (a.2.2.2.sz≤34359738368) (some (vP a.1 a.2.1 a.2.2.1 a.2.2.2))⟩
theorem aBs:OK 182 aBr:=mkS (.s .n (.s (.s (.rj 6 ⟨[(16,5)],[.dat (.s 20) .bool],[],[]⟩ .n) .n) (.s (.y false (some 10) (some 11) [(0,true),(1,true),(2,true),(3,true),(4,true),(6,true),(5,false),(7,false),(8,false),(9,true),(10,false),(11,false)]) .n))) [.cell 8 176, .tmp 9] (gc Kg (gc iQ (gc Ze (gc uN (gc Si (gc Eb aB)))))) func182 ntmps182 (fun a _=>aA (aAu a.1 a.2.1 a.2.2.1 a.2.2.2)) (fun _=>by kernel_rfl)
def K5:SU:=⟨[.st 82],[.st 82, .st 176, .bool],true,false,fun(a:D.Device)=>gd (a.sz≤34359738368) (some (fB a))⟩
theorem K6:OK 89 K5:=mkS bKb [.cell 2 82, .cell 3 176, .tmp 4] (gc lQ (gc aBs aB)) func89 ntmps89 (fun(a:D.Device) _=>aA (G8 a)) (fun _=>by kernel_rfl)
def aGg:SU:=⟨[.st 176, .st 176],[.bool],false,false,fun(a:D.aAA×D.aAA)=>some (sU a.1 a.2)⟩
theorem aGh:OK 183 aGg:=mkS bHp [.tmp 4] aB func183 ntmps183 (fun a _=>(aE8 a.1 a.2).trans) (fun _=>by kernel_rfl)
def Wv:SU:=⟨[.st 48, .st 176],[.st 48, .bool],true,false,fun(a:D.aAH×D.aAA)=>gd (a.1.sz≤34359738300∧a.2.sz≤34359738300) (some (gX a.1 a.2))⟩
theorem Ww:OK 90 Wv:=mkS bJw [.cell 4 48, .tmp 5] (gc xL (gc jP (gc aGh (gc xK aB)))) func90 ntmps90 (fun a _=>aA (Vk a.1 a.2)) (fun _=>by kernel_rfl)
def aBt:SU:=⟨[.st 54,i6,i6,i6],[.st 54, .bool],true,false,fun(a:D.aAK×Int×Int×Int)=>gd (a.1.sz≤34359738300) (some (Ij a.1 a.2.1 a.2.2.1 a.2.2.2))⟩
theorem aBu:OK 91 aBt:=mkS (.s .n (.s .n (.s .n (.s (.j ⟨[(10,3),(12,26)],[.tr (.s 10) 2 249 true],[],[]⟩ (.s .n (.s (.s .n (.s (.j ⟨[(11,2),(15,13)],[.dat (.s 11) i6],[],[]⟩ (.s .n (.s (.l ⟨[(11,2),(18,10)],[.dat (.s 11) i6, .dat (.s 12) i6],[],[]⟩ FUEL (.s .n (.s (.j ⟨[(11,1),(23,6)],[.dat (.s 11) i6],[],[]⟩ .n) .n))) .n))) (.y true none (some 9) [(1,true),(2,true),(3,true),(5,true),(6,true),(7,true),(8,true),(0,false),(4,false),(9,false),(10,true)]))) .n))) (.s .n (.s (.s (.rj 4 ⟨[(56,5)],[.dat (.s 60) .bool],[],[]⟩ .n) .n) .n)))))) [.cell 8 54, .tmp 9] (gc qH (gc Ry aB)) func91 ntmps91 (fun a _=>aA (aAz a.1 a.2.1 a.2.2.1 a.2.2.2)) (fun _=>by kernel_rfl)
def aGi:SU:=⟨[.st 56,i6,i6],[.st 56, .bool],true,false,fun(a:D.World×Int×Int)=>gd (a.1.sz≤100000000) (some (kJ a.1 a.2.1 a.2.2))⟩
theorem aGj:OK 5 aGi:=mkS (.s .n (.s .n (.s (.s (.rj 3 ⟨[(22,18)],[.dat (.s 39) .bool],[],[]⟩ .n) .n) (.s (.s (.il 8 (.s .n (.s (.r none (od 21 [15])) (.s (.j ⟨[(4,1),(33,16)],[.dat (.s 4) i6],[],[]⟩ .n) (.s .n (.s (.y false (some 10) (some 11) (od 13 [6,10,11])) (.s (.s (.rj 3 ⟨[(76,8)],[.dat (.s 83) .bool],[],[]⟩ .n) .n) (.s .n (.s (.s .n (.s (.s .n (.s (.r (some 7) (od 8 [7])) .n)) .n)) .n)))))))) .n) .n) (.s (.j ⟨[(10,4),(40,35)],[.ti 7 90 true],[],[]⟩ (.s .n (.s (.l ⟨[(10,4),(40,35)],[.nat (.s 10), .ti 7 90 true],[],[]⟩ FUEL (.s .n (.s (.j ⟨[(11,3),(44,31)],[.ti 7 90 true],[],[]⟩ (.s (.s .n (.s .n (.s (.s .n (.r (some 9) (od 10 [9]))) .n))) .n)) .n))) .n))) (.s (.r (some 11) (od 12 [9,11])) (.s (.s (.il 1 (.s .n (.s .n (.s (.y false (some 9) (some 10) (od 12 [5,9,10])) (.s (.s (.rj 3 ⟨[(33,4)],[.dat (.s 36) .bool],[],[]⟩ .n) .n) (.s (.r (some 7) (od 8 [7])) .n))))) .n) .n) (.s (.il 0 (.s (.y false (some 13) (some 14) (od 16 [9,13,14])) .n) .n) .n)))))))) [.cell 6 56, .tmp 7] (gc aRu (gc aUc (gc Rz (gc jG (gc (sIl 20) (gc J9 (gc Sk (gc aBq (gc (sIl 25) (gc (sIl 26) (gc J7 (gc jQ (gc jP (gc aKz (gc Ma (gc aGf (gc aBo (gc K6 (gc Ww (gc aBu aB)))))))))))))))))))) func5 ntmps5 (fun a _=>aA (aFf a.1 a.2.1 a.2.2)) (fun _=>by kernel_rfl)
def aRy:SU:=⟨[i6,i6,i6],[.bool],false,false,fun(a:Int×Int×Int)=>some (dG a.1 a.2.1 a.2.2)⟩
theorem gT:OK 99 aRy:=mkS bKc [.tmp 6] aB func99 ntmps99 (fun a _=>(aOy a.1 a.2.1 a.2.2).trans) (fun _=>by kernel_rfl)
def aUd:SU:=⟨[.str],[.bool],false,false,fun(a:ByteArray)=>some (iM a)⟩
theorem Zg:OK 273 aUd:=mkS (.s .n (.s .n (.s (.jx ⟨[(2,1),(1,3),(3,57)],[],[],[]⟩ (.s .n (.s (.l ⟨[(2,1),(1,3),(6,54)],[.nat (.s 13)],[],[]⟩ FUEL (.s .n (.s .n (.s (.jx ⟨[(2,1),(1,3),(8,51)],[],[],[]⟩ (.s (.s .n (.s (.s (.rj 4 ⟨[(20,18)],[.dat (.s 37) .bool],[],[]⟩ .n) .n) (.s .n (.s (.l ⟨[(2,1),(2,2),(31,28)],[.nat (.s 5)],[],[]⟩ FUEL (.s .n (.s (.s (.s .n (.s (.rj 3 ⟨[(49,17)],[.dat (.s 65) .bool],[],[]⟩ .n) .n)) .n) .n))) .n)))) .n)) .n)))) .n))) .n))) [.tmp 2] (gc Ik aB) func273 ntmps273 (fun a _=>(aTl a).trans) (fun _=>by kernel_rfl)
def K7:SU:=⟨[.str],[.str],false,false,fun(a:ByteArray)=>some (bE2 a)⟩
theorem K8:OK 274 K7:=mkS .n [.tmp 2] (gc Zg (gc Ik (gc aN3 aB))) func274 ntmps274 (fun a _=>(D9 a).trans) (fun _=>by kernel_rfl)
def aUe:SU:=⟨[.str],[.bool],false,false,fun(a:ByteArray)=>gd (a.size≤9223372036854775807) (some (Tv a))⟩
theorem aUf:OK 275 aUe:=mkS (.s .n (.s (.jx ⟨[(2,12)],[],[],[]⟩ (.s .n (.s (.l ⟨[(2,12)],[.nat (.s 3)],[],[]⟩ FUEL .n) .n))) .n)) [.tmp 2] aB func275 ntmps275 (fun(a:ByteArray) _=>aA (aTm a)) (fun _=>by kernel_rfl)
def aBv:SU:=⟨[i6],[.bool],false,false,fun(a:Int)=>some (dP a)⟩
theorem dF:OK 104 aBv:=mkS .n [.tmp 2] (gc gT aB) func104 ntmps104 (fun a _=>(Z9 a).trans) (fun _=>by kernel_rfl)
def K9:SU:=⟨[.str,i6],[.bool],false,false,fun(a:ByteArray×Int)=>gd (a.1.size≤9223372036854775807) (some (lV a.1 a.2))⟩
theorem L6:OK 196 K9:=mkS (.s .n (.s (.rj 3 ⟨[(4,1),(2,13)],[.dat (.s 4) .bool],[],[]⟩ .n) .n)) [.tmp 4] (gc Zg (gc K8 (gc aUf (gc dF aB)))) func196 ntmps196 (fun a _=>aA (E5 a.1 a.2)) (fun _=>by kernel_rfl)
def L8:SU:=⟨[.st 87],[.bool],false,false,fun(a:D.aAF)=>gd (a.sz≤34359738368) (some (nT a))⟩
theorem L9:OK 197 L8:=mkS (.s .n (.s (.s (.rj 5 ⟨[(9,6)],[.dat (.s 14) .bool],[],[]⟩ .n) .n) (.s (.jx ⟨[(2,3),(10,44)],[],[],[]⟩ (.s .n (.s (.l ⟨[(2,3),(13,41)],[.nat (.s 18)],[],[]⟩ FUEL (.s .n (.s .n (.s (.s (.s .n (.s (.rj 8 ⟨[(30,28)],[.dat (.s 57) .bool],[],[]⟩ (.r none (od 35 [5,26,32]))) .n)) .n) .n)))) .n))) .n))) [.tmp 2] (gc gT aB) func197 ntmps197 (fun(a:D.aAF) _=>aA (D8 a)) (fun _=>by kernel_rfl)
def aX6:SU:=⟨[i6,i6,i6],[i6],false,false,fun(a:Int×Int×Int)=>uV a.1 a.2.1 a.2.2⟩
theorem aX7:OK 316 aX6:=mkS (.s .n (.s .n (.s .n (.s (.j ⟨[(0,2),(5,1),(5,17)],[.dat (.s 7) i6],[],[]⟩ (.s (.l ⟨[(0,2),(5,1),(5,17)],[.dat (.s 0) i6, .dat (.s 1) i6, .dat (.s 7) i6],[],[]⟩ FUEL (.s .n (.s (.s (.j ⟨[(7,1),(7,8)],[.dat (.s 7) i6],[],[]⟩ .n) .n) .n))) .n)) .n)))) [.tmp 6] aB func316 ntmps316 (fun _ _=>id) (fun _=>by kernel_rfl)
def aBw:SU:=⟨[i6],[i6],false,false,fun(a:Int)=>some (fV a)⟩
theorem oV:OK 276 aBw:=mkS .n [.tmp 2] (gc dF (gc aX7 aB)) func276 ntmps276 (fun a _=>(aAe a).trans) (fun _=>by kernel_rfl)
def Me:SU:=⟨[.st 93],[.bool],false,false,fun(a:D.aAG)=>gd (a.sz≤34359738368) (some (dW a))⟩
theorem qI:OK 198 Me:=mkS (.s .n (.s (.s (.rj 5 ⟨[(11,12)],[.dat (.s 22) .bool],[],[]⟩ .n) .n) (.s (.jx ⟨[(2,3),(1,1),(16,56)],[],[],[]⟩ (.s .n (.s (.l ⟨[(2,3),(1,1),(19,53)],[.nat (.s 26)],[],[]⟩ FUEL (.s .n (.s .n (.s (.jx ⟨[(2,3),(1,1),(21,50)],[],[],[]⟩ (.s (.s .n (.s (.s (.rj 5 ⟨[(35,28)],[.dat (.s 62) .bool],[],[]⟩ (.r none (od 32 [2,23,29]))) .n) (.s .n (.s (.l ⟨[(2,1),(3,1),(61,10)],[.nat (.s 68)],[],[]⟩ FUEL .n) .n)))) .n)) .n)))) .n))) .n))) [.tmp 2] (gc gT (gc oV aB)) func198 ntmps198 (fun(a:D.aAG) _=>aA (Lb a)) (fun _=>by kernel_rfl)
def M0:SU:=⟨[.st 90],[.bool],false,false,fun(a:D.Site)=>gd (a.sz≤34359738368) (some (nU a))⟩
theorem M3:OK 100 M0:=mkS (.s .n (.s (.s (.rj 8 ⟨[(12,12)],[.dat (.s 23) .bool],[],[]⟩ .n) .n) (.s (.jx ⟨[(2,3),(19,28)],[],[],[]⟩ (.s .n (.s (.l ⟨[(2,3),(22,25)],[.nat (.s 27)],[],[]⟩ FUEL (.s .n (.s .n (.s (.s (.s .n (.s (.rj 4 ⟨[(35,16)],[.dat (.s 50) .bool],[],[]⟩ (.r none (od 19 [1]))) .n)) .n) .n)))) .n))) .n))) [.tmp 2] (gc L6 (gc L9 (gc qI aB))) func100 ntmps100 (fun(a:D.Site) _=>aA (E9 a)) (fun _=>by kernel_rfl)
def aK4:SU:=⟨[i6],[.str],false,false,fun(a:Int)=>some (bD a)⟩
theorem Kh:OK 101 aK4:=mkS .n [.tmp 2] aB func101 ntmps101 (fun a _=>(aJ0 a).trans) (fun _=>by kernel_rfl)
def Mf:SU:=⟨[.st 54],[.bool],false,false,fun(a:D.aAK)=>gd (a.sz≤34359738368) (some (eZ a))⟩
theorem qJ:OK 102 Mf:=mkS (.s .n (.s .n (.s (.jx ⟨[(2,3),(4,41)],[],[],[]⟩ (.s .n (.s (.l ⟨[(2,3),(7,38)],[.nat (.s 12)],[],[]⟩ FUEL (.s .n bJ2)) .n))) .n))) [.tmp 2] (gc gT aB) func102 ntmps102 (fun(a:D.aAK) _=>aA (Ky a)) (fun _=>by kernel_rfl)
def bCc:SU:=⟨[.sl 3,i6],[.bool],false,false,fun(a:(List Int)×Int)=>gd (a.1.length≤1099511627776) (some (jC a.1 a.2))⟩
theorem Ha:OK 105 bCc:=mkS (.s .n (.s (.jx ⟨[(4,1),(1,11)],[],[],[]⟩ (.s .n (.s (.l ⟨[(4,1),(1,1),(2,8)],[.nat (.s 9)],[],[]⟩ FUEL .n) .n))) .n)) [.tmp 4] aB func105 ntmps105 (fun a _=>aA (bB6 a.1 a.2)) (fun _=>by kernel_rfl)
def aGk:SU:=⟨[.sl 230],[.sl 3],true,false,fun(a:(List D.aAB))=>gd (a.length≤34359738368) (some (aI a))⟩
theorem jR:OK 106 aGk:=mkS (.s .n (.s .n (.s (.j ⟨[(3,1),(1,2),(1,1),(1,40)],[.tr (.s 3) 0 3 true],[],[]⟩ (.s .n (.s (.l ⟨[(3,1),(1,2),(1,1),(3,38)],[.tr (.s 3) 0 3 true, .nat (.s 12)],[],[]⟩ FUEL (.s .n (.s .n (.s (.j ⟨[(3,1),(1,2),(1,1),(5,35)],[.tr (.s 3) 0 3 true],[],[]⟩ (.s (.s .n (.s .n (.s (.s .n (.s .n (.s .n (.s (.s .n (.s (.j ⟨[(6,1),(1,1),(24,15)],[.tr (.s 6) 2 3 true],[],[]⟩ (.s .n (.s (.l ⟨[(6,1),(1,1),(26,13)],[.tr (.s 6) 2 3 true, .nat (.s 35)],[],[]⟩ FUEL (.s .n (.s .n (.s (.j ⟨[(6,1),(1,1),(28,10)],[.tr (.s 6) 2 3 true],[],[]⟩ .n) .n)))) .n))) .n)) .n)))) .n))) .n)) .n)))) .n))) .n))) [.tmp 2] (gc Ha aB) func106 ntmps106 (fun(a:(List D.aAB)) _=>aA (aEq a)) (fun _=>by kernel_rfl)
def bCd:SU:=⟨[i6,i6],[i6],false,false,fun(a:Int×Int)=>some (rH a.1 a.2)⟩
theorem aRz:OK 317 bCd:=mkS (.s .n (.s (.s (.rj 3 ⟨[(8,4)],[.dat (.s 11) .bool],[],[]⟩ .n) .n) (.s .n (.s (.j ⟨[(5,1),(9,5)],[.dat (.s 5) i6],[],[]⟩ .n) .n)))) [.tmp 4] aB func317 ntmps317 (fun a _=>(bB4 a.1 a.2).trans) (fun _=>by kernel_rfl)
def bAv:SU:=⟨[.sl 3],[i6],false,false,fun(a:(List Int))=>gd (a.length≤1099511627776) (some (Ac a))⟩
theorem aIt:OK 278 bAv:=mkS (.s .n (.s .n (.s (.j ⟨[(3,1),(1,15)],[.dat (.s 3) i6],[],[]⟩ (.s .n (.s (.l ⟨[(3,1),(1,1),(2,12)],[.dat (.s 3) i6, .nat (.s 8)],[],[]⟩ FUEL .n) .n))) .n))) [.tmp 2] (gc aRz aB) func278 ntmps278 (fun(a:(List Int)) _=>aA (bAj a)) (fun _=>by kernel_rfl)
def aGl:SU:=⟨[.st 230],[i6],false,false,fun(a:D.aAB)=>some (dC a)⟩
theorem qV:OK 202 aGl:=mkS .n [.tmp 2] (gc aIt aB) func202 ntmps202 (fun a _=>(aEz a).trans) (fun _=>by kernel_rfl)
def aR0:SU:=⟨[.sl 230],[i6],false,false,fun(a:(List D.aAB))=>gd (a.length≤34359738368) (some (gM a))⟩
theorem Sl:OK 199 aR0:=mkS .n [.tmp 2] (gc qV aB) func199 ntmps199 (fun(a:(List D.aAB)) _=>aA (aPg a)) (fun _=>by kernel_rfl)
def aBx:SU:=⟨[.sl 230,i6],[.bool],false,false,fun(a:(List D.aAB)×Int)=>gd (a.1.length≤34359738368) (some (nS a.1 a.2))⟩
theorem aBy:OK 200 aBx:=mkS (.s .n (.s (.jx ⟨[(4,1),(1,17)],[],[],[]⟩ (.s .n (.s (.l ⟨[(4,1),(1,1),(2,14)],[.nat (.s 9)],[],[]⟩ FUEL (.s .n (.s .n (.s (.s (.s .n (.s (.rj 4 ⟨[(16,6)],[.dat (.s 21) .bool],[],[]⟩ .n) .n)) .n) .n)))) .n))) .n)) [.tmp 4] aB func200 ntmps200 (fun a _=>aA (aAf a.1 a.2)) (fun _=>by kernel_rfl)
def aUg:SU:=⟨[.sl 3, .sl 88],[.sl 3],true,false,fun(a:(List Int)×(List (List Int)))=>gd (vN a.1 a.2) (some (nQ a.1 a.2))⟩
theorem kR:OK 210 aUg:=mkS (.s .n (.s .n (.s (.j ⟨[(5,1),(1,1),(3,10)],[.tr (.s 5) 0 3 true],[],[]⟩ (.s .n (.s (.l ⟨[(5,1),(1,1),(5,8)],[.tr (.s 5) 0 3 true, .nat (.s 13)],[],[]⟩ FUEL .n) .n))) .n))) [.tmp 4] aB func210 ntmps210 (fun a _=>aA (aTe a.1 a.2)) (fun _=>by kernel_rfl)
def aGm:SU:=⟨[i6, .sl 3],[i6],false,false,fun(a:Int×(List Int))=>gd (a.2.length≤34359738368) (some (eP a.1 a.2))⟩
theorem gJ:OK 216 aGm:=mkS .n [.tmp 4] (gc kR (gc aIt aB)) func216 ntmps216 (fun a _=>aA (aEj a.1 a.2)) (fun _=>by kernel_rfl)
def M4:SU:=⟨[i6, .sl 3],[i6],false,false,fun(a:Int×(List Int))=>gd (a.2.length≤34359738300) (some (Ih a.1 a.2))⟩
theorem xO:OK 277 M4:=mkS .n [.tmp 4] (gc dF (gc kR (gc gJ aB))) func277 ntmps277 (fun a _=>aA (D6 a.1 a.2)) (fun _=>by kernel_rfl)
def He:SU:=⟨[i6, .sl 3,i6],[.bool],false,false,fun(a:Int×(List Int)×Int)=>gd (a.2.1.length≤34359738300) (some (kV a.1 a.2.1 a.2.2))⟩
theorem Hf:OK 201 He:=mkS bKa [.tmp 6] (gc oV (gc xO aB)) func201 ntmps201 (fun a _=>aA (Gn a.1 a.2.1 a.2.2)) (fun _=>by kernel_rfl)
def aGn:SU:=⟨[.sl 230],[.bool],false,false,fun(a:(List D.aAB))=>gd (a.length≤34359738368) (some (cB a))⟩
theorem iB:OK 103 aGn:=mkS (.s .n (.s (.s (.rj 4 ⟨[(10,5)],[.dat (.s 14) .bool],[],[]⟩ .n) .n) (.s (.jx ⟨[(2,5),(8,83)],[],[],[]⟩ (.s .n (.s (.l ⟨[(2,5),(10,81)],[.nat (.s 17)],[],[]⟩ FUEL (.s .n (.s .n (.s (.jx ⟨[(2,5),(12,78)],[],[],[]⟩ (.s (.s .n (.s .n (.s .n (.s (.s (.rj 5 ⟨[(31,26)],[.dat (.s 56) .bool],[],[]⟩ (.r none (od 30 [8,15]))) .n) (.s (.jx ⟨[(2,1),(54,31)],[],[],[]⟩ (.s .n (.s (.s .n (.s (.s (.rj 5 ⟨[(65,11)],[.dat (.s 75) .bool],[],[]⟩ .n) .n) (.s .n (.s (.s (.rj 6 ⟨[(83,5)],[.dat (.s 87) .bool],[],[]⟩ .n) .n) .n)))) .n))) (.s (.r none [(0,true),(1,true),(2,true),(5,true),(6,true),(3,false),(4,false),(7,false),(8,true)]) .n)))))) .n)) .n)))) .n))) .n))) [.tmp 2] (gc jR (gc Sl (gc Ha (gc aBy (gc qV (gc Hf aB)))))) func103 ntmps103 (fun(a:(List D.aAB)) _=>aA (aE1 a)) (fun _=>by kernel_rfl)
def Wx:SU:=⟨[.st 56],[.bool],false,false,fun(a:D.World)=>gd (a.sz≤34359738368) (some (dU a))⟩
theorem uO:OK 34 Wx:=mkS (.s .n (.s (.s (.rj 5 ⟨[(9,22)],[.dat (.s 30) .bool],[],[]⟩ .n) .n) (.s (.jx ⟨[(2,3),(26,19)],[],[],[]⟩ (.s .n (.s (.l ⟨[(2,3),(29,16)],[.nat (.s 34)],[],[]⟩ FUEL (.s .n (.s .n (.s (.s (.s .n (.s (.rj 4 ⟨[(42,7)],[.dat (.s 48) .bool],[],[]⟩ (.r none (od 10 [1,7]))) .n)) .n) .n)))) .n))) (.s (.rj 4 ⟨[(2,1),(50,11)],[.dat (.s 2) .bool],[],[]⟩ .n) .n)))) [.tmp 2] (gc gT (gc M3 (gc Kh (gc qJ (gc iB (gc dF aB)))))) func34 ntmps34 (fun(a:D.World) _=>aA (Vb a)) (fun _=>by kernel_rfl)
def aGo:SU:=⟨[.st 56,i6],[.bool],false,false,fun(a:D.World×Int)=>some (bH a.1 a.2)⟩
theorem qW:OK 35 aGo:=mkS (.s .n (.s (.rj 3 ⟨[(4,1),(2,7)],[.dat (.s 4) .bool],[],[]⟩ .n) .n)) [.tmp 4] aB func35 ntmps35 (fun a _=>(aEr a.1 a.2).trans) (fun _=>by kernel_rfl)
def aX8:SU:=⟨[i6],[i6],false,false,fun(a:Int)=>some (Fv a)⟩
theorem aBz:OK 215 aX8:=mkS .n [.tmp 2] aB func215 ntmps215 (fun a _=>(aXx a).trans) (fun _=>by kernel_rfl)
def aGp:SU:=⟨[i6, .sl 3],[i6],false,false,fun(a:Int×(List Int))=>gd (a.2.length≤34359738300) (some (eU a.1 a.2))⟩
theorem fM:OK 116 aGp:=mkS .n [.tmp 4] (gc kR (gc gJ (gc aBz aB))) func116 ntmps116 (fun a _=>aA (aEl a.1 a.2)) (fun _=>by kernel_rfl)
def aGq:SU:=⟨[i6],[i6],false,false,fun(a:Int)=>some (gV a)⟩
theorem Ee:OK 203 aGq:=mkS .n [.tmp 2] (gc dF aB) func203 ntmps203 (fun a _=>(aEn a).trans) (fun _=>by kernel_rfl)
def Wy:SU:=⟨[.st 77],[i6],false,false,fun(a:D.aAJ)=>some (dB a)⟩
theorem jH:OK 107 Wy:=mkS .n [.tmp 2] (gc fM (gc Ee aB)) func107 ntmps107 (fun a _=>(Ux a).trans) (fun _=>by kernel_rfl)
def aUh:SU:=⟨[.st 56,i6],[.bool],false,false,fun(a:D.World×Int)=>gd (WOk a.1) (some (jF a.1 a.2))⟩
theorem aUi:OK 36 aUh:=mkS (.s .n (.s (.rj 4 ⟨[(4,1),(3,14)],[.dat (.s 4) .bool],[],[]⟩ (.r none [(0,true),(1,true),(2,false),(3,true),(4,true),(5,true),(6,true),(8,true),(9,true),(10,true),(11,true),(12,true),(13,true),(7,false),(14,false),(15,false),(16,true),(17,true)])) .n)) [.tmp 4] (gc qW (gc jR (gc jH (gc Ha aB)))) func36 ntmps36 (fun a _=>aA (aTh a.1 a.2)) (fun _=>by kernel_rfl)
def aR1:SU:=⟨[.sl 230],[.sl 230],true,false,fun(a:(List D.aAB))=>gd (a.length≤34359738368) (some (a))⟩
theorem jS:OK 204 aR1:=mkS .n [.tmp 2] aB func204 ntmps204 (fun(a:(List D.aAB)) _=>aA (aO3 a)) (fun _=>by kernel_rfl)
def aGr:SU:=⟨[.sl 5],[.sl 5],true,false,fun(a:(List Int))=>gd (a.length≤34359738368) (some (a))⟩
theorem qX:OK 280 aGr:=mkS .n [.tmp 2] aB func280 ntmps280 (fun(a:(List Int)) _=>aA (aEt a)) (fun _=>by kernel_rfl)
def aGs:SU:=⟨[.sl 298],[.sl 298],true,false,fun(a:(List D.Box))=>gd (szL D.Box.sz a≤34359738368) (some (a))⟩
theorem aGt:OK 279 aGs:=mkS (.s .n (.s .n (.s (.j ⟨[(3,1),(1,1),(1,15)],[.tr (.s 3) 0 298 true],[],[]⟩ (.s .n (.s (.l ⟨[(3,1),(1,1),(3,13)],[.tr (.s 3) 0 298 true, .nat (.s 9)],[],[]⟩ FUEL .n) .n))) .n))) [.tmp 2] (gc qX aB) func279 ntmps279 (fun(a:(List D.Box)) _=>aA (aEu a)) (fun _=>by kernel_rfl)
def Mg:SU:=⟨[.st 45],[.st 45],true,false,fun(a:D.aAE)=>gd (a.sz≤34359738368) (some (a))⟩
theorem qK:OK 205 Mg:=mkS (.s .n (.s (.r (some 6) (od 7 [4,6])) .n)) [.cell 2 45] (gc aGt aB) func205 ntmps205 (fun(a:D.aAE) _=>aA (Kv a)) (fun _=>by kernel_rfl)
def aB0:SU:=⟨[.st 176],[.st 176],true,false,fun(a:D.aAA)=>gd (a.sz≤34359738368) (some (a))⟩
theorem oW:OK 206 aB0:=mkS .n [.cell 2 176] (gc qX aB) func206 ntmps206 (fun(a:D.aAA) _=>aA (aAc a)) (fun _=>by kernel_rfl)
def aGu:SU:=⟨[.st 48],[.st 48],true,false,fun(a:D.aAH)=>gd (a.sz≤34359738368) (some (a))⟩
theorem qY:OK 108 aGu:=mkS (.s .n (.s bJ1 (.s (.j ⟨[(5,1),(7,15)],[.nt (.c 4 3) 176 true],[],[]⟩ (.s .n (.s (.l ⟨[(5,1),(10,12)],[.nat (.s 16), .nt (.c 4 3) 176 true],[],[]⟩ FUEL bI9) .n))) .n))) [.cell 2 48] (gc jS (gc qK (gc oW aB))) func108 ntmps108 (fun(a:D.aAH) _=>aA (aEv a)) (fun _=>by kernel_rfl)
def aK5:SU:=⟨[.st 192],[.st 192],true,false,fun(a:D.aAC)=>gd (a.sz≤34359738368) (some (a))⟩
theorem aK6:OK 207 aK5:=mkS .n [.cell 2 192] aB func207 ntmps207 (fun(a:D.aAC) _=>aA (aJw a)) (fun _=>by kernel_rfl)
def aGv:SU:=⟨[.sl 192],[.sl 192],true,false,fun(a:(List D.aAC))=>gd (szL D.aAC.sz a≤34359738368) (some (a))⟩
theorem aGw:OK 109 aGv:=mkS (.s .n (.s .n (.s (.j ⟨[(3,1),(1,1),(1,12)],[.tr (.s 3) 0 192 true],[],[]⟩ (.s .n (.s (.l ⟨[(3,1),(1,1),(3,10)],[.tr (.s 3) 0 192 true, .nat (.s 9)],[],[]⟩ FUEL .n) .n))) .n))) [.tmp 2] (gc aK6 aB) func109 ntmps109 (fun(a:(List D.aAC)) _=>aA (aEw a)) (fun _=>by kernel_rfl)
def aK7:SU:=⟨[.st 54],[.st 54],true,false,fun(a:D.aAK)=>gd (a.sz≤34359738368) (some (a))⟩
theorem Ki:OK 110 aK7:=mkS .n [.cell 2 54] aB func110 ntmps110 (fun(a:D.aAK) _=>aA (aJy a)) (fun _=>by kernel_rfl)
def aB1:SU:=⟨[.st 80],[.st 80],true,false,fun(a:D.aAD)=>gd (a.sz≤34359738368) (some (a))⟩
theorem kX:OK 208 aB1:=mkS .n [.cell 2 80] aB func208 ntmps208 (fun(a:D.aAD) _=>aA (aAa a)) (fun _=>by kernel_rfl)
def aB2:SU:=⟨[.st 82],[.st 82],true,false,fun(a:D.Device)=>gd (a.sz≤34359738368) (some (a))⟩
theorem iY:OK 111 aB2:=mkS .n [.cell 2 82] (gc jS (gc kX aB)) func111 ntmps111 (fun(a:D.Device) _=>aA (aAb a)) (fun _=>by kernel_rfl)
def aK8:SU:=⟨[.st 87],[.st 87],true,false,fun(a:D.aAF)=>gd (a.sz≤34359738368) (some (a))⟩
theorem aK9:OK 209 aK8:=mkS bJz [.cell 2 87] aB func209 ntmps209 (fun(a:D.aAF) _=>aA (aJu a)) (fun _=>by kernel_rfl)
def M5:SU:=⟨[.st 93],[.st 93],true,false,fun(a:D.aAG)=>gd (a.sz≤34359738368) (some (a))⟩
theorem xP:OK 211 M5:=mkS bJz [.cell 2 93] aB func211 ntmps211 (fun(a:D.aAG) _=>aA (C9 a)) (fun _=>by kernel_rfl)
def aLa:SU:=⟨[.st 90],[.st 90],true,false,fun(a:D.Site)=>gd (a.sz≤34359738368) (some (a))⟩
theorem aLb:OK 112 aLa:=mkS (.s .n (.s (.y false (some 9) (some 10) [(0,true),(1,true),(2,true),(3,true),(5,true),(6,true),(4,false),(7,false),(8,true),(9,false),(10,false)]) (.s (.j ⟨[(5,1),(9,15)],[.nt (.c 4 1) 93 true],[],[]⟩ (.s .n (.s (.l ⟨[(5,1),(12,12)],[.nat (.s 18), .nt (.c 4 1) 93 true],[],[]⟩ FUEL bI9) .n))) .n))) [.cell 2 90] (gc aK9 (gc kR (gc xP aB))) func112 ntmps112 (fun(a:D.Site) _=>aA (aJv a)) (fun _=>by kernel_rfl)
def aGx:SU:=⟨[.st 56],[.st 56],true,false,fun(a:D.World)=>gd (a.sz≤34359738368) (some (a))⟩
theorem Ef:OK 37 aGx:=mkS (.s .n (.s (.y true (some 22) (some 23) [(0,true),(1,true),(2,true),(3,true),(5,true),(6,true),(8,true),(9,true),(11,true),(12,true),(13,true),(14,true),(16,true),(17,true),(18,true),(19,true),(4,false),(7,false),(10,false),(15,false),(20,false),(21,false),(22,false),(23,false)]) (.s (.j ⟨[(5,1),(24,15)],[.nt (.c 8 2) 82 true],[],[]⟩ (.s .n (.s (.l ⟨[(5,1),(27,12)],[.nat (.s 33), .nt (.c 8 2) 82 true],[],[]⟩ FUEL bI9) .n))) (.s (.j ⟨[(7,1),(37,15)],[.nt (.c 8 8) 90 true],[],[]⟩ (.s .n (.s (.l ⟨[(7,1),(40,12)],[.nat (.s 48), .nt (.c 8 8) 90 true],[],[]⟩ FUEL bI9) .n))) .n)))) [.cell 2 56] (gc qY (gc aGw (gc Ki (gc iY (gc aLb aB))))) func37 ntmps37 (fun(a:D.World) _=>aA (aEx a)) (fun _=>by kernel_rfl)
def M6:SU:=⟨[.st 48,i6],[.st 176, .bool],true,false,fun(a:D.aAH×Int)=>gd (a.1.sz≤34359738368) (some (iO a.1 a.2))⟩
theorem M7:OK 212 M6:=mkS (.s .n (.s (.s (.rj 3 ⟨[(8,7)],[.dat (.s 14) .bool],[],[]⟩ .n) .n) .n)) [.cell 4 176, .tmp 5] (gc oW aB) func212 ntmps212 (fun a _=>aA (F8 a.1 a.2)) (fun _=>by kernel_rfl)
def aB3:SU:=⟨[.sl 230, .sl 230],[.bool],false,false,fun(a:(List D.aAB)×(List D.aAB))=>gd (a.1.length≤34359738368) (some (dY a.1 a.2))⟩
theorem oZ:OK 219 aB3:=mkS (.s .n (.s .n (.s (.jx ⟨[(4,2),(5,15)],[],[],[]⟩ (.s .n (.s (.l ⟨[(4,2),(7,13)],[.nat (.s 13)],[],[]⟩ FUEL (.s .n (.s .n (.s (.s (.s .n (.s (.r none (od 9 [])) .n)) .n) .n)))) .n))) .n))) [.tmp 4] aB func219 ntmps219 (fun a _=>aA (aAi a.1 a.2)) (fun _=>by kernel_rfl)
def aR2:SU:=⟨[.sl 230],[i6],false,false,fun(a:(List D.aAB))=>gd (a.length≤34359738368) (some (bC a))⟩
theorem jT:OK 117 aR2:=mkS (.s .n (.s .n (.s (.j ⟨[(3,1),(1,13)],[.dat (.s 3) i6],[],[]⟩ (.s .n (.s (.l ⟨[(3,1),(1,1),(2,10)],[.dat (.s 3) i6, .nat (.s 8)],[],[]⟩ FUEL (.s .n (.s .n (.s (.j ⟨[(3,1),(1,1),(4,7)],[.dat (.s 3) i6],[],[]⟩ .n) .n)))) .n))) .n))) [.tmp 2] aB func117 ntmps117 (fun(a:(List D.aAB)) _=>aA (aPn a)) (fun _=>by kernel_rfl)
def aUj:SU:=⟨[i6,i6],[i6],false,false,fun(a:Int×Int)=>some (fU a.1 a.2)⟩
theorem Zh:OK 348 aUj:=mkS .n [.tmp 4] (gc fM aB) func348 ntmps348 (fun a _=>(aTn a.1 a.2).trans) (fun _=>by kernel_rfl)
def M8:SU:=⟨[.sl 5],[.sl 3],true,false,fun(a:(List Int))=>gd (a.length≤34359738360) (some (sS a))⟩
theorem mY:OK 347 M8:=mkS (.s .n (.s .n (.s (.j ⟨[(3,1),(1,1),(3,12)],[.tr (.s 3) 0 3 true],[],[]⟩ (.s .n (.s (.l ⟨[(3,1),(1,1),(5,10)],[.tr (.s 3) 0 3 true, .nat (.s 11)],[],[]⟩ FUEL .n) .n))) .n))) [.tmp 2] aB func347 ntmps347 (fun(a:(List Int)) _=>aA (F4 a)) (fun _=>by kernel_rfl)
def aUk:SU:=⟨[i6, .st 298],[i6],false,false,fun(a:Int×D.Box)=>gd (a.2.Data.length≤34359738200) (some (Uc a.1 a.2))⟩
theorem Zi:OK 349 aUk:=mkS bMy [.tmp 4] (gc mY (gc kR (gc gJ aB))) func349 ntmps349 (fun a _=>aA (aTq a.1 a.2)) (fun _=>by kernel_rfl)
def aR3:SU:=⟨[i6, .sl 5],[.sl 5],true,false,fun(a:Int×(List Int))=>gd (a.2.length≤34359738368) (some (aDf a.1 a.2))⟩
theorem Sm:OK 322 aR3:=mkS bJt [.tmp 4] (gc gJ (gc aRz aB)) func322 ntmps322 (fun a _=>aA (aPp a.1 a.2)) (fun _=>by kernel_rfl)
def aR4:SU:=⟨[i6, .st 298],[.sl 5, .bool],true,false,fun(a:Int×D.Box)=>some (gG a.1 a.2)⟩
theorem aR5:OK 345 aR4:=mkS bJ0 [.tmp 4, .tmp 5] (gc dF (gc Ee (gc Zh (gc Zi (gc Sm aB))))) func345 ntmps345 (fun a _=>(aPs a.1 a.2).trans) (fun _=>by kernel_rfl)
def aR6:SU:=⟨[.sl 298,i6],[.sl 5, .bool],true,false,fun(a:(List D.Box)×Int)=>gd (a.1.length≤34359738368) (some (gY a.1 a.2))⟩
theorem aR7:OK 318 aR6:=mkS (.s .n (.s (.jx ⟨[(4,2),(1,18)],[],[],[]⟩ (.s .n (.s (.l ⟨[(4,2),(1,3),(2,13)],[.nat (.s 12)],[],[]⟩ FUEL .n) .n))) .n)) [.tmp 4, .tmp 5] (gc aR5 aB) func318 ntmps318 (fun a _=>aA (aPt a.1 a.2)) (fun _=>by kernel_rfl)
def M9:SU:=⟨[.sl 5,i6],[i6,i6, .bool],false,false,fun(a:(List Int)×Int)=>gd (aW a.1) (some (xS a.1 a.2))⟩
theorem xQ:OK 346 M9:=mkS (.s .n (.s (.s (.rj 3 ⟨[(13,6)],[.dat (.s 18) .bool],[],[]⟩ .n) .n) (.s .n (.s .n (.s (.jx ⟨[(4,7),(8,42)],[],[],[]⟩ (.s .n (.s (.l ⟨[(4,7),(8,42)],[.dat (.s 7) i6, .dat (.s 8) i6, .nat (.s 9)],[],[]⟩ FUEL (.s .n (.s (.s (.s .n (.s .n (.s .n (.s .n (.s .n (.s (.s (.s (.rj 3 ⟨[(48,8)],[.dat (.s 55) .bool],[],[]⟩ .n) .n) .n) .n)))))) .n) .n))) .n))) .n))))) [.tmp 4, .tmp 5, .tmp 6] aB func346 ntmps346 (fun a _=>aA (F9 a.1 a.2)) (fun _=>by kernel_rfl)
def aB4:SU:=⟨[.sl 5,i6,i6],[.sl 3,i6, .bool],true,false,fun(a:(List Int)×Int×Int)=>gd (aW a.1) (some (iL a.1 a.2.1 a.2.2))⟩
theorem zP:OK 319 aB4:=mkS (.s .n (.s (.s (.rj 3 ⟨[(16,14)],[.dat (.s 29) .bool],[],[]⟩ .n) .n) (.s .n (.s (.jx ⟨[(1,1),(4,8),(17,19)],[.dat (.s 1) i6, .tr (.s 9) 0 3 true],[],[]⟩ (.s .n (.s (.l ⟨[(1,1),(4,8),(17,19)],[.dat (.s 1) i6, .tr (.s 9) 0 3 true, .nat (.s 10)],[],[]⟩ FUEL .n) .n))) .n)))) [.tmp 6, .tmp 7, .tmp 8] (gc xQ aB) func319 ntmps319 (fun a _=>aA (aAj a.1 a.2.1 a.2.2)) (fun _=>by kernel_rfl)
def Mh:SU:=⟨[.st 77, .st 45],[i6, .bool],false,false,fun(a:D.aAJ×D.aAE)=>gd (a.2.sz≤34359738368) (some (dI a.1 a.2))⟩
theorem Mi:OK 281 Mh:=mkS (.s .n (.s (.r none (od 12 [4,5,6])) (.s .n (.s .n (.s (.s (.rj 3 ⟨[(31,21)],[.dat (.s 51) .bool],[],[]⟩ (.r none (od 23 [20]))) .n) .n))))) [.tmp 4, .tmp 5] (gc fM (gc aR7 (gc zP (gc dF aB)))) func281 ntmps281 (fun a _=>aA (Ld a.1 a.2)) (fun _=>by kernel_rfl)
def aGy:SU:=⟨[i6, .st 176],[i6],false,false,fun(a:Int×D.aAA)=>gd (a.2.Data.length≤34359738200) (some (iK a.1 a.2))⟩
theorem Eg:OK 320 aGy:=mkS bMy [.tmp 4] (gc mY (gc kR (gc gJ aB))) func320 ntmps320 (fun a _=>aA (aE5 a.1 a.2)) (fun _=>by kernel_rfl)
def N7:SU:=⟨[.st 279, .st 279],[.bool],false,false,fun(a:D.Entry×D.Entry)=>some (dX a.1 a.2)⟩
theorem mZ:OK 324 N7:=mkS bHp [.tmp 4] aB func324 ntmps324 (fun a _=>(C8 a.1 a.2).trans) (fun _=>by kernel_rfl)
def aLc:SU:=⟨[.st 80],[.bool],false,false,fun(a:D.aAD)=>gd (a.sz≤34359738368) (some (aJ a))⟩
theorem iR:OK 323 aLc:=mkS (.s .n (.s .n (.s (.jx ⟨[(2,3),(4,40)],[],[],[]⟩ (.s .n (.s (.l ⟨[(2,3),(7,37)],[.nat (.s 12)],[],[]⟩ FUEL (.s .n (.s .n (.s (.s (.s .n (.s (.rj 5 ⟨[(21,27)],[.dat (.s 47) .bool],[],[]⟩ (.r none (od 31 [2,7,13,27]))) .n)) .n) .n)))) .n))) .n))) [.tmp 2] (gc gT (gc mZ aB)) func323 ntmps323 (fun(a:D.aAD) _=>aA (aJt a)) (fun _=>by kernel_rfl)
def Wz:SU:=⟨[.sl 5],[.st 80, .bool],true,false,fun(a:(List Int))=>gd (aW a) (some (Oc a))⟩
theorem Xa:OK 321 Wz:=mkS (.s .n (.s .n (.s (.s (.rj 3 ⟨[(20,4)],[.dat (.s 23) .bool],[],[]⟩ .n) .n) (.s .n (.s (.s (.rj 3 ⟨[(36,6)],[.dat (.s 41) .bool],[],[]⟩ .n) .n) (.s .n (.s (.jx ⟨[(3,1),(6,2),(32,33)],[.nt (.c 1 0) 279 true],[],[]⟩ (.s .n (.s (.l ⟨[(3,1),(6,2),(32,33)],[.nat (.s 10), .nt (.c 1 0) 279 true],[],[]⟩ FUEL (.s .n (.s (.s (.s .n (.s .n (.r (some 17) (od 20 [16,17,18,19])))) .n) .n))) .n))) .n))))))) [.cell 2 80, .tmp 3] (gc xQ (gcp zP (gc iR aB))) func321 ntmps321 (fun(a:(List Int)) _=>aA (Vg a)) (fun _=>by kernel_rfl)
def aB5:SU:=⟨[i6, .st 176],[.st 80, .bool],true,false,fun(a:Int×D.aAA)=>gd (a.2.Data.length≤34359738200) (some (kU a.1 a.2))⟩
theorem aB6:OK 282 aB5:=mkS (.s .n (.s (.s (.rj 4 ⟨[(11,20)],[.dat (.s 30) .bool],[],[]⟩ (.r none (od 23 [1,6,12,20]))) .n) (.s (.y false (some 14) (some 15) [(0,true),(1,true),(2,true),(3,true),(4,true),(7,true),(8,true),(5,false),(6,false),(9,false),(10,false),(11,true),(12,true),(13,true),(14,false),(15,false),(16,true)]) .n))) [.cell 4 80, .tmp 5] (gc dF (gc gT (gc Eg (gc fM (gc Sm (gc Xa aB)))))) func282 ntmps282 (fun a _=>aA (aAn a.1 a.2)) (fun _=>by kernel_rfl)
def Xb:SU:=⟨[.st 80, .st 80],[.st 80, .bool],true,false,fun(a:D.aAD×D.aAD)=>gd (a.1.sz≤34359738368∧a.2.sz≤34359738368) (some (lH a.1 a.2))⟩
theorem Xc:OK 283 Xb:=mkS (.s .n (.s bKf (.s .n (.s .n (.s .n (.s (.j ⟨[(7,4),(11,118)],[.nt (.c 3 0) 279 true],[],[]⟩ (.s (.l ⟨[(7,4),(11,118)],[.dat (.s 7) i6, .dat (.s 8) i6, .nt (.c 3 0) 279 true],[],[]⟩ FUEL (.s (.s (.rj 6 ⟨[(27,7)],[.dat (.s 33) .bool],[],[]⟩ .n) .n) (.s (.s (.s (.rj 6 ⟨[(71,1),(5,20)],[.dat (.s 71) .bool],[],[]⟩ (.r none (od 26 [22]))) (.s (.s (.r (some 8) (od 11 [7,8,9,10])) .n) (.s (.rj 6 ⟨[(109,1),(5,13)],[.dat (.s 109) .bool],[],[]⟩ (.r none (od 19 [16]))) (.s (.s (.r (some 8) (od 11 [7,8,9,10])) .n) (.s .n (.s .n (.s (.j ⟨[(44,17)],[.dat (.c 5 0) i6, .dat (.c 5 1) i6, .dat (.c 5 2) i6, .dat (.c 5 3) .bool],[],[]⟩ (.s (.rj 6 ⟨[(49,11)],[.dat (.s 59) .bool],[],[]⟩ .n) .n)) .n))))))) .n) .n))) .n)) .n)))))) [.cell 4 80, .tmp 5] (gc iR (gc kX (gc mZ aB))) func283 ntmps283 (fun a _=>aA (Uz a.1 a.2)) (fun _=>by kernel_rfl)
def aB7:SU:=⟨[.st 82, .sl 230, .st 45, .st 176],[.st 82,i6],true,false,fun(a:D.Device×(List D.aAB)×D.aAE×D.aAA)=>gd (a.1.sz≤34359738368∧a.2.1.length≤34359738368∧a.2.2.1.sz≤34359738368∧a.2.2.2.Data.length≤34359738200) (some (gN a.1 a.2.1 a.2.2.1 a.2.2.2))⟩
theorem aB8:OK 213 aB7:=mkS (.s .n (.s .n (.s (.s (.rj 4 ⟨[(23,7)],[.dat (.s 29) .bool],[],[]⟩ .n) .n) (.s bJ5 (.s .n (.s .n (.s bKe (.s bKd (.s .n (.s .n (.s .n (.s .n bJu)))))))))))) [.cell 8 82, .tmp 9] (gc iY (gc iB (gc oZ (gc jR (gc jH (gc Ha (gc jT (gc Mi (gc aB6 (gc Xc (gc jS aB))))))))))) func213 ntmps213 (fun a _=>aA (aAp a.1 a.2.1 a.2.2.1 a.2.2.2)) (fun _=>by kernel_rfl)
def aR8:SU:=⟨[.st 56,i6,i6],[.st 56,i6],true,false,fun(a:D.World×Int×Int)=>gd (a.1.sz≤34359738100) (some (bO a.1 a.2.1 a.2.2))⟩
theorem aR9:OK 113 aR8:=mkS (.s .n (.s .n (.s (.s (.rj 4 ⟨[(18,6)],[.dat (.s 23) .bool],[],[]⟩ .n) .n) (.s .n (.s (.y false (some 16) (some 17) (od 19 [12,16,17])) .n))))) [.cell 6 56, .tmp 7] (gc Ef (gc uO (gc qW (gc M7 (gc aB8 aB))))) func113 ntmps113 (fun a _=>aA (aPy a.1 a.2.1 a.2.2)) (fun _=>by kernel_rfl)
def Xd:SU:=⟨[.st 77, .sl 3],[i6],false,false,fun(a:D.aAJ×(List Int))=>gd (a.2.length≤34359738300) (some (lK a.1 a.2))⟩
theorem Xe:OK 214 Xd:=mkS .n [.tmp 4] (gc fM (gc xO aB)) func214 ntmps214 (fun a _=>aA (Vm a.1 a.2)) (fun _=>by kernel_rfl)
def N8:SU:=⟨[.sl 230,i6,i6, .st 77],[.sl 230, .bool],true,false,fun(a:(List D.aAB)×Int×Int×D.aAJ)=>gd (a.1.length≤34359738300) (some (kG a.1 a.2.1 a.2.2.1 a.2.2.2))⟩
theorem N9:OK 114 N8:=mkS (.s .n (.s (.s (.rj 4 ⟨[(15,5)],[.dat (.s 19) .bool],[],[]⟩ .n) .n) (.s .n (.s (.r (some 6) (od 7 [2,3,4,6])) (.s bJ6 .n))))) [.tmp 8, .tmp 9] (gc iB (gc jS (gc jH (gc Sl (gc qV (gc Xe aB)))))) func114 ntmps114 (fun a _=>aA (H5 a.1 a.2.1 a.2.2.1 a.2.2.2)) (fun _=>by kernel_rfl)
def aLd:SU:=⟨[i6,i6],[i6],false,false,fun(a:Int×Int)=>some (kQ a.1 a.2)⟩
theorem aLe:OK 115 aLd:=mkS .n [.tmp 4] (gc fM aB) func115 ntmps115 (fun a _=>(aJ9 a.1 a.2).trans) (fun _=>by kernel_rfl)
def Sq:SU:=⟨[.sl 5,i6],[.sl 5],true,false,fun(a:(List Int)×Int)=>gd (a.1.length≤34359738300) (some (nW a.1 a.2))⟩
theorem Sr:OK 326 Sq:=mkS (.s .n (.s .n (.s (.s (.rj 3 ⟨[(10,4)],[.dat (.s 13) .bool],[],[]⟩ .n) .n) (.s (.j ⟨[(1,1),(3,1),(9,11)],[.dat (.s 1) i6, .tr (.s 5) 0 5 true],[],[]⟩ (.s (.l ⟨[(1,1),(3,1),(9,11)],[.dat (.s 1) i6, .tr (.s 5) 0 5 true],[],[]⟩ FUEL .n) .n)) .n)))) [.tmp 4] (gc qX aB) func326 ntmps326 (fun a _=>aA (Rh a.1 a.2)) (fun _=>by kernel_rfl)
def aB9:SU:=⟨[.sl 3],[.sl 5],true,false,fun(a:(List Int))=>gd (a.length≤5000000000) (some (kY a))⟩
theorem zQ:OK 285 aB9:=mkS (.s .n (.s .n (.s (.j ⟨[(3,1),(1,1),(1,10)],[.tr (.s 3) 0 5 true],[],[]⟩ (.s .n (.s (.l ⟨[(3,1),(1,1),(3,8)],[.tr (.s 3) 0 5 true, .nat (.s 9)],[],[]⟩ FUEL .n) .n))) .n))) [.tmp 2] (gc Sr aB) func285 ntmps285 (fun(a:(List Int)) _=>aA (aAs a)) (fun _=>by kernel_rfl)
def aSa:SU:=⟨[i6, .sl 5],[.sl 5],true,false,fun(a:Int×(List Int))=>gd (aW a.2) (some (pG a.1 a.2))⟩
theorem Su:OK 328 aSa:=mkS bJt [.tmp 4] (gc gJ aB) func328 ntmps328 (fun a _=>aA (aPz a.1 a.2)) (fun _=>by kernel_rfl)
def aSb:SU:=⟨[i6,i6, .sl 5],[.st 298, .bool],true,false,fun(a:Int×Int×(List Int))=>gd (aW a.2.2) (some (gP a.1 a.2.1 a.2.2))⟩
theorem aSc:OK 325 aSb:=mkS bJ8 [.cell 6 298, .tmp 7] (gc oV (gc dF (gc Zh (gc Su (gc Zi aB))))) func325 ntmps325 (fun a _=>aA (aP3 a.1 a.2.1 a.2.2)) (fun _=>by kernel_rfl)
def aGz:SU:=⟨[.sl 3,i6, .sl 5],[.sl 298, .bool],true,false,fun(a:(List Int)×Int×(List Int))=>gd (a.1.length≤34359738300∧aW a.2.2) (some (iW a.2.1 a.2.2 0 a.1))⟩
theorem aG0:OK 284 aGz:=mkS (.s .n (.s .n (.s (.jx ⟨[(6,7),(1,23)],[.tr (.s 8) 0 298 true],[],[]⟩ (.s .n (.s (.l ⟨[(6,7),(3,21)],[.tr (.s 8) 0 298 true, .nat (.s 16)],[],[]⟩ FUEL .n) .n))) .n))) [.tmp 6, .tmp 7] (gc aSc aB) func284 ntmps284 (fun a _=>aA (aFa a.1 a.2.1 a.2.2)) (fun _=>by kernel_rfl)
def Mj:SU:=⟨[.sl 230,i6,i6],[.st 45, .bool],true,false,fun(a:(List D.aAB)×Int×Int)=>gd (a.1.length≤34359738300) (some (iX a.1 a.2.1 a.2.2))⟩
theorem Mk:OK 217 Mj:=mkS (.s .n (.s bKf .n)) [.cell 6 45, .tmp 7] (gc iB (gc dF (gc jT (gc jR (gc zQ (gc aG0 aB)))))) func217 ntmps217 (fun a _=>aA (Lh a.1 a.2.1 a.2.2)) (fun _=>by kernel_rfl)
def aCa:SU:=⟨[.st 45,i6],[i6],false,false,fun(a:D.aAE×Int)=>gd (a.1.Boxes.length≤34359738368) (some (kW a.1 a.2))⟩
theorem aCb:OK 327 aCa:=mkS (.s .n (.s .n (.s (.j ⟨[(5,1),(1,15)],[.dat (.s 5) i6],[],[]⟩ (.s .n (.s (.l ⟨[(5,1),(1,1),(3,11)],[.dat (.s 5) i6, .nat (.s 11)],[],[]⟩ FUEL (.s .n (.s .n (.s (.j ⟨[(5,1),(1,1),(5,8)],[.dat (.s 5) i6],[],[]⟩ .n) .n)))) .n))) .n))) [.tmp 4] aB func327 ntmps327 (fun a _=>aA (aAw a.1 a.2)) (fun _=>by kernel_rfl)
def aG1:SU:=⟨[.st 45, .sl 230],[.bool],false,false,fun(a:D.aAE×(List D.aAB))=>gd (a.1.Boxes.length≤34359738368∧a.2.length≤34359738368) (some (lX a.1 a.2))⟩
theorem aG2:OK 286 aG1:=mkS (.s .n (.s .n (.s (.s (.rj 6 ⟨[(15,8)],[.dat (.s 22) .bool],[],[]⟩ (.r none (od 13 [3]))) .n) (.s (.jx ⟨[(4,1),(2,1),(15,11)],[],[],[]⟩ (.s .n (.s (.l ⟨[(4,1),(2,1),(17,9)],[.nat (.s 25)],[],[]⟩ FUEL .n) .n))) .n)))) [.tmp 4] (gc jR (gc jT (gc aCb aB))) func286 ntmps286 (fun a _=>aA (aFc a.1 a.2)) (fun _=>by kernel_rfl)
def aG3:SU:=⟨[.st 48, .sl 230, .st 45],[.st 48, .bool],true,false,fun(a:D.aAH×(List D.aAB)×D.aAE)=>gd (a.1.sz≤34359738368∧a.2.1.length≤34359738368∧a.2.2.sz≤34359738368) (some (lL a.1 a.2.1 a.2.2))⟩
theorem aG4:OK 218 aG3:=mkS bJ9 [.cell 6 48, .tmp 7] (gc qY (gc iB (gc oZ (gc aG2 (gc jS (gc qK aB)))))) func218 ntmps218 (fun a _=>aA (aFe a.1 a.2.1 a.2.2)) (fun _=>by kernel_rfl)
def aCc:SU:=⟨[.st 82, .sl 230,i6],[.st 82, .bool],true,false,fun(a:D.Device×(List D.aAB)×Int)=>gd (a.1.sz≤34359738368∧a.2.1.length≤34359738368) (some (nX a.1 a.2.1 a.2.2))⟩
theorem aCd:OK 119 aCc:=mkS bMu [.cell 6 82, .tmp 7] (gc iY (gc iB (gc oZ (gc jT (gc dF (gc jS aB)))))) func119 ntmps119 (fun a _=>aA (aA1 a.1 a.2.1 a.2.2)) (fun _=>by kernel_rfl)
def O0:SU:=⟨[.st 90,i6],[i6],false,false,fun(a:D.Site×Int)=>gd (a.1.Accounts.length≤34359738368) (some (bA a.1 a.2))⟩
theorem O1:OK 120 O0:=mkS bJ3 [.tmp 4] aB func120 ntmps120 (fun a _=>aA (H7 a.1 a.2)) (fun _=>by kernel_rfl)
def Ml:SU:=⟨[.st 93,i6],[i6],false,false,fun(a:D.aAG×Int)=>gd (a.1.Credentials.length≤34359738368) (some (eG a.1 a.2))⟩
theorem Mo:OK 220 Ml:=mkS bJ3 [.tmp 4] aB func220 ntmps220 (fun a _=>aA (Lj a.1 a.2)) (fun _=>by kernel_rfl)
def Sw:SU:=⟨[.st 93,i6],[.st 93, .bool],true,false,fun(a:D.aAG×Int)=>gd (a.1.sz≤34359738368) (some (kL a.1 a.2))⟩
theorem Sy:OK 121 Sw:=mkS bJ7 [.cell 4 93, .tmp 5] (gc xP (gc Mo (gc qI aB))) func121 ntmps121 (fun a _=>aA (Rj a.1 a.2)) (fun _=>by kernel_rfl)
def Eh:SU:=⟨[i6, .str],[i6],false,false,fun(a:Int×ByteArray)=>gd (a.2.size≤34359738300) (some (nR a.1 a.2))⟩
theorem Ei:OK 331 Eh:=mkS .n [.tmp 4] (gc mY (gc gJ (gc aBz (gc (bJo 1000174) aB)))) func331 ntmps331 (fun a _=>aA (Dz a.1 a.2)) (fun _=>by kernel_rfl)
def aLf:SU:=⟨[.str],[i6],false,false,fun(a:ByteArray)=>gd (a.size≤34359738300) (some (gW a))⟩
theorem aLg:OK 290 aLf:=mkS .n [.tmp 2] (gc Ei aB) func290 ntmps290 (fun(a:ByteArray) _=>aA (aJ3 a)) (fun _=>by kernel_rfl)
def aG5:SU:=⟨[.st 80,i6,i6],[i6],false,false,fun(a:D.aAD×Int×Int)=>gd (a.1.sz≤34359738368) (some (aH a.1 a.2.1 a.2.2))⟩
theorem Ej:OK 330 aG5:=mkS (.s .n (.s (.jx ⟨[(6,23)],[],[],[]⟩ (.s .n (.s (.l ⟨[(6,3),(3,17)],[.nat (.s 12)],[],[]⟩ FUEL (.s .n (.s .n (.s (.s (.s .n (.s (.rj 5 ⟨[(21,6)],[.dat (.s 26) .bool],[],[]⟩ .n) .n)) .n) .n)))) .n))) .n)) [.tmp 6] aB func330 ntmps330 (fun a _=>aA (aE2 a.1 a.2.1 a.2.2)) (fun _=>by kernel_rfl)
def aLh:SU:=⟨[.st 80,i6,i6],[.st 80, .bool],true,false,fun(a:D.aAD×Int×Int)=>gd (a.1.sz≤34359738360) (some (aDh a.1 a.2.1 a.2.2))⟩
theorem aLi:OK 289 aLh:=mkS (.s .n (.s .n (.s .n (.s (.jx ⟨[(7,1),(1,3),(7,63)],[.tr (.c 3 0) 2 279 true],[],[]⟩ (.s .n (.s .n (.s .n (.s .n (.s .n (.s (.j ⟨[(11,1),(39,16)],[.dat (.s 11) i6],[],[]⟩ (.s (.l ⟨[(11,1),(39,16)],[.dat (.s 11) i6],[],[]⟩ FUEL (.s (.s (.rj 6 ⟨[(56,9)],[.dat (.s 64) .bool],[],[]⟩ (.r none (od 14 [12]))) .n) .n)) .n)) bMw))))))) .n)))) [.cell 6 80, .tmp 7] (gc iR (gc kX (gc Ej (gc mZ aB)))) func289 ntmps289 (fun a _=>aA (aJ5 a.1 a.2.1 a.2.2)) (fun _=>by kernel_rfl)
def O3:SU:=⟨[.st 80,i6,i6],[.st 80, .bool],true,false,fun(a:D.aAD×Int×Int)=>gd (a.1.sz≤34359738360) (some (aDi a.1 a.2.1 a.2.2))⟩
theorem O4:OK 291 O3:=mkS (.s .n (.s .n (.s (.s (.rj 4 ⟨[(17,12)],[.dat (.s 28) .bool],[],[]⟩ .n) .n) .n))) [.cell 6 80, .tmp 7] (gc Ej (gc iR (gc kX aB))) func291 ntmps291 (fun a _=>aA (F6 a.1 a.2.1 a.2.2)) (fun _=>by kernel_rfl)
def Xf:SU:=⟨[.st 82, .str,i6, .bool],[.st 82, .bool],true,false,fun(a:D.Device×ByteArray×Int×Bool)=>gd (a.1.sz≤34359738360∧a.2.1.size≤34359738300) (some (fC a.1 a.2.1 a.2.2.1 a.2.2.2))⟩
theorem Xg:OK 223 Xf:=mkS (.s .n (.s .n (.s bJv (.s bMv .n)))) [.cell 8 82, .tmp 9] (gc iY (gc aLg (gc aLi (gc O4 aB)))) func223 ntmps223 (fun a _=>aA (Ve a.1 a.2.1 a.2.2.1 a.2.2.2)) (fun _=>by kernel_rfl)
def bCe:SU:=⟨[.bool],[i6],false,false,fun(a:Bool)=>o6 a⟩
theorem bCf:OK 350 bCe:=mkS .n [.tmp 2] aB func350 ntmps350 (fun _ _=>id) (fun _=>by kernel_rfl)
def Xh:SU:=⟨[.st 80],[.sl 5],true,false,fun(a:D.aAD)=>gd (a.sz≤34359738368) (some (pF a))⟩
theorem Xi:OK 329 Xh:=mkS (.s .n (.s .n (.s .n (.s (.j ⟨[(3,1),(1,1),(7,20)],[.tr (.s 3) 1 3 true],[],[]⟩ (.s .n (.s (.l ⟨[(3,1),(1,1),(10,17)],[.tr (.s 3) 1 3 true, .nat (.s 16)],[],[]⟩ FUEL (.s .n (.s .n (.s (.s (.s .n (.r (some 11) (od 13 [9,10,11,12]))) .n) .n)))) .n))) .n)))) [.tmp 2] (gc iR (gc bCf (gc zQ aB))) func329 ntmps329 (fun(a:D.aAD) _=>aA (Vi a)) (fun _=>by kernel_rfl)
def aCe:SU:=⟨[i6,i6,i6, .st 80],[.st 176, .bool],true,false,fun(a:Int×Int×Int×D.aAD)=>gd (a.2.2.2.sz≤34359738368) (some (vP a.1 a.2.1 a.2.2.1 a.2.2.2))⟩
theorem aCf:OK 287 aCe:=mkS (.s .n (.s (.s (.rj 4 ⟨[(14,15)],[.dat (.s 28) .bool],[],[]⟩ .n) .n) (.s (.y false (some 11) (some 12) [(0,true),(1,true),(2,true),(3,true),(4,true),(7,true),(5,false),(6,false),(8,false),(9,false),(10,true),(11,false),(12,false)]) .n))) [.cell 8 176, .tmp 9] (gc dF (gc gT (gc iR (gc fM (gc Xi (gc Su (gc Eg aB))))))) func287 ntmps287 (fun a _=>aA (aAt a.1 a.2.1 a.2.2.1 a.2.2.2)) (fun _=>by kernel_rfl)
def O5:SU:=⟨[.st 82],[.st 82, .st 176, .bool],true,false,fun(a:D.Device)=>gd (a.sz≤34359738368) (some (fB a))⟩
theorem O6:OK 221 O5:=mkS bKb [.cell 2 82, .cell 3 176, .tmp 4] (gc aCf (gc iY aB)) func221 ntmps221 (fun(a:D.Device) _=>aA (G7 a)) (fun _=>by kernel_rfl)
def aG6:SU:=⟨[.st 176, .st 176],[.bool],false,false,fun(a:D.aAA×D.aAA)=>some (sU a.1 a.2)⟩
theorem aG7:OK 288 aG6:=mkS bHp [.tmp 4] aB func288 ntmps288 (fun a _=>(aE7 a.1 a.2).trans) (fun _=>by kernel_rfl)
def Xj:SU:=⟨[.st 48, .st 176],[.st 48, .bool],true,false,fun(a:D.aAH×D.aAA)=>gd (a.1.sz≤34359738300∧a.2.sz≤34359738300) (some (gX a.1 a.2))⟩
theorem Xk:OK 222 Xj:=mkS bJw [.cell 4 48, .tmp 5] (gc qY (gc jT (gc aG7 (gc oW aB)))) func222 ntmps222 (fun a _=>aA (Vj a.1 a.2)) (fun _=>by kernel_rfl)
def aCg:SU:=⟨[.st 54,i6,i6,i6],[.st 54, .bool],true,false,fun(a:D.aAK×Int×Int×Int)=>gd (a.1.sz≤34359738300) (some (Ij a.1 a.2.1 a.2.2.1 a.2.2.2))⟩
theorem aCh:OK 224 aCg:=mkS (.s .n (.s .n (.s .n (.s .n (.s (.j ⟨[(11,3),(16,29)],[.tr (.c 3 0) 2 249 true],[],[]⟩ (.s .n (.s (.s .n (.s (.j ⟨[(11,3),(20,12)],[.dat (.s 11) i6],[],[]⟩ (.s .n (.s (.l ⟨[(11,3),(23,9)],[.dat (.s 11) i6, .nat (.s 37)],[],[]⟩ FUEL .n) .n))) (.y true none (some 13) [(1,true),(2,true),(3,true),(4,true),(6,true),(7,true),(8,true),(9,true),(10,true),(0,false),(5,false),(11,false),(12,false),(13,false)]))) .n))) .n))))) [.cell 8 54, .tmp 9] (gc qJ (gc Ki aB)) func224 ntmps224 (fun a _=>aA (aAy a.1 a.2.1 a.2.2.1 a.2.2.2)) (fun _=>by kernel_rfl)
def aG8:SU:=⟨[.st 56,i6,i6],[.st 56, .bool],true,false,fun(a:D.World×Int×Int)=>gd (a.1.sz≤100000000) (some (kJ a.1 a.2.1 a.2.2))⟩
theorem aG9:OK 7 aG8:=mkS (.s .n (.s (.s (.rj 4 ⟨[(13,24)],[.dat (.s 36) .bool],[],[]⟩ .n) .n) (.s (.il 3 (.s .n (.s .n (.s .n (.s .n (.s (.r none [(0,true),(1,true),(2,true),(3,true),(4,true),(5,true),(6,true),(7,true),(8,true),(10,true),(9,false),(11,false),(12,true),(13,true),(14,true),(15,true),(16,true)]) (.s .n (.s .n (.s (.il 3 .n .n) (.s .n (.s (.y false none (some 15) (od 17 [10,15])) (.s .n (.s (.j ⟨[(14,2),(68,37)],[.tr (.c 12 8) 9 90 true],[],[]⟩ (.s .n (.s (.l ⟨[(14,2),(71,34)],[.nat (.s 87), .tr (.c 12 8) 9 90 true],[],[]⟩ FUEL (.s .n (.s .n (.s (.j ⟨[(14,2),(73,31)],[.tr (.c 12 8) 9 90 true],[],[]⟩ (.s (.s .n (.s .n (.s .n (.s (.y false none (some 22) (od 23 [17,22])) .n)))) .n)) .n)))) .n))) (.s (.il 3 (.s .n (.s (.j ⟨[(9,22)],[.tr (.c 26 2) 4 82 true],[],[]⟩ (.s .n (.s (.l ⟨[(9,22)],[.nat (.s 9), .tr (.c 26 2) 4 82 true],[],[]⟩ FUEL (.s .n (.s (.s (.y false none (some 17) [(0,true),(1,true),(2,true),(3,true),(4,true),(5,true),(6,true),(7,true),(8,true),(10,true),(11,true),(9,false),(12,false),(13,true),(14,true),(15,true),(16,true),(17,false)]) .n) .n))) .n))) .n)) (.il 5 .n .n)) (.s .n (.s (.il 1 .n .n) .n))))))))))))))) .n) .n))) [.cell 6 56, .tmp 7] (gc uO (gc qW (gc aUi (gc Ef (gc (sIl 38) (gc aR9 (gc jH (gc N9 (gc fM (gc jT (gc aLe (gc (sIl 118) (gc aCd (gc O1 (gc Sy (gc (sIl 123) (gc (sIl 122) (gc (sIl 124) (gc Mk (gc aG4 (gc Kh (gc Xg (gc O6 (gc Xk (gc aCh aB))))))))))))))))))))))))) func7 ntmps7 (fun a _=>aA (aFg a.1 a.2.1 a.2.2)) (fun _=>by kernel_rfl)
def aCi:SU:=⟨[.st 77, .st 77],[.bool],false,false,fun(a:D.aAJ×D.aAJ)=>gd (eD (0) a.1 a.2) (some true)⟩
theorem aCj:OK 225 aCi:=mkS .n [.tmp 4] aB func225 ntmps225 (fun a _=>aA (Z0 a.1 a.2)) (fun _=>by kernel_rfl)
def aCk:SU:=⟨[.st 230, .st 230],[.bool],false,false,fun(a:D.aAB×D.aAB)=>gd (eD (0) a.1 a.2) (some true)⟩
theorem aCl:OK 227 aCk:=mkS .n [.tmp 4] aB func227 ntmps227 (fun a _=>aA (Z4 a.1 a.2)) (fun _=>by kernel_rfl)
def O7:SU:=⟨[.sl 230, .sl 230],[.bool],false,false,fun(a:(List D.aAB)×(List D.aAB))=>gd (eD (a.1.length) a.1 a.2) (some true)⟩
theorem xR:OK 126 O7:=mkS aKa [.tmp 4] (gc aCl aB) func126 ntmps126 (fun a _=>aA (r9 a.1 a.2)) (fun _=>by kernel_rfl)
def aSd:SU:=⟨[.st 279, .st 279],[.bool],false,false,fun(a:D.Entry×D.Entry)=>gd (eD (0) a.1 a.2) (some true)⟩
theorem aSe:OK 332 aSd:=mkS .n [.tmp 4] aB func332 ntmps332 (fun a _=>aA (aOq a.1 a.2)) (fun _=>by kernel_rfl)
def aLj:SU:=⟨[.sl 279, .sl 279],[.bool],false,false,fun(a:(List D.Entry)×(List D.Entry))=>gd (eD (a.1.length) a.1 a.2) (some true)⟩
theorem aLk:OK 292 aLj:=mkS aKa [.tmp 4] (gc aSe aB) func292 ntmps292 (fun a _=>aA (aJj a.1 a.2)) (fun _=>by kernel_rfl)
def aLl:SU:=⟨[.st 80, .st 80],[.bool],false,false,fun(a:D.aAD×D.aAD)=>gd (eD (a.1.sz) a.1 a.2) (some true)⟩
theorem aLm:OK 226 aLl:=mkS .n [.tmp 4] (gc aLk aB) func226 ntmps226 (fun a _=>aA (aJk a.1 a.2)) (fun _=>by kernel_rfl)
def aLn:SU:=⟨[.st 82, .st 82],[.bool],false,false,fun(a:D.Device×D.Device)=>gd (eD (a.1.sz) a.1 a.2) (some true)⟩
theorem aLo:OK 125 aLn:=mkS .n [.tmp 4] (gc aCj (gc xR (gc aLm aB))) func125 ntmps125 (fun a _=>aA (aJl a.1 a.2)) (fun _=>by kernel_rfl)
def aHa:SU:=⟨[.sl 82, .sl 82],[.bool],false,false,fun(a:(List D.Device)×(List D.Device))=>gd (eD (a.1.length+(a.1.map D.Device.sz).sum) a.1 a.2) (some true)⟩
theorem aHb:OK 39 aHa:=mkS aKa [.tmp 4] (gc aLo aB) func39 ntmps39 (fun a _=>aA (aD3 a.1 a.2)) (fun _=>by kernel_rfl)
def aSf:SU:=⟨[.sl 4, .sl 4],[.bool],false,false,fun(a:(List Bool)×(List Bool))=>gd (eD (a.1.length) a.1 a.2) (some true)⟩
theorem aSg:OK 40 aSf:=mkS bI8 [.tmp 4] aB func40 ntmps40 (fun a _=>aA (aOr a.1 a.2)) (fun _=>by kernel_rfl)
def aSh:SU:=⟨[.sl 5, .sl 5],[.bool],false,false,fun(a:(List Int)×(List Int))=>gd (eD (a.1.length) a.1 a.2) (some true)⟩
theorem Sz:OK 294 aSh:=mkS bI8 [.tmp 4] aB func294 ntmps294 (fun a _=>aA (aOs a.1 a.2)) (fun _=>by kernel_rfl)
def aX9:SU:=⟨[.st 298, .st 298],[.bool],false,false,fun(a:D.Box×D.Box)=>gd (eD (a.1.sz) a.1 a.2) (some true)⟩
theorem aYa:OK 293 aX9:=mkS .n [.tmp 4] (gc Sz aB) func293 ntmps293 (fun a _=>aA (aXw a.1 a.2)) (fun _=>by kernel_rfl)
def aUl:SU:=⟨[.sl 298, .sl 298],[.bool],false,false,fun(a:(List D.Box)×(List D.Box))=>gd (eD (a.1.length+(a.1.map D.Box.sz).sum) a.1 a.2) (some true)⟩
theorem aUm:OK 228 aUl:=mkS aKa [.tmp 4] (gc aYa aB) func228 ntmps228 (fun a _=>aA (aTb a.1 a.2)) (fun _=>by kernel_rfl)
def Xl:SU:=⟨[.st 45, .st 45],[.bool],false,false,fun(a:D.aAE×D.aAE)=>gd (eD (a.1.sz) a.1 a.2) (some true)⟩
theorem Xm:OK 127 Xl:=mkS .n [.tmp 4] (gc aUm aB) func127 ntmps127 (fun a _=>aA (Uo a.1 a.2)) (fun _=>by kernel_rfl)
def Mq:SU:=⟨[.st 176, .st 176],[.bool],false,false,fun(a:D.aAA×D.aAA)=>gd (eD (a.1.sz) a.1 a.2) (some true)⟩
theorem Mr:OK 229 Mq:=mkS .n [.tmp 4] (gc Sz aB) func229 ntmps229 (fun a _=>aA (Ko a.1 a.2)) (fun _=>by kernel_rfl)
def Hg:SU:=⟨[.sl 176, .sl 176],[.bool],false,false,fun(a:(List D.aAA)×(List D.aAA))=>gd (eD (a.1.length+(a.1.map D.aAA.sz).sum) a.1 a.2) (some true)⟩
theorem Hl:OK 128 Hg:=mkS aKa [.tmp 4] (gc Mr aB) func128 ntmps128 (fun a _=>aA (Gf a.1 a.2)) (fun _=>by kernel_rfl)
def aSi:SU:=⟨[.st 48, .st 48],[.bool],false,false,fun(a:D.aAH×D.aAH)=>gd (eD (a.1.sz) a.1 a.2) (some true)⟩
theorem aSj:OK 41 aSi:=mkS .n [.tmp 4] (gc xR (gc Xm (gc Hl aB))) func41 ntmps41 (fun a _=>aA (aOt a.1 a.2)) (fun _=>by kernel_rfl)
def Xn:SU:=⟨[.st 171, .st 171],[.bool],false,false,fun(a:D.aAI×D.aAI)=>gd (eD (0) a.1 a.2) (some true)⟩
theorem Xo:OK 351 Xn:=mkS .n [.tmp 4] aB func351 ntmps351 (fun a _=>aA (Uq a.1 a.2)) (fun _=>by kernel_rfl)
def Ta:SU:=⟨[.sl 171, .sl 171],[.bool],false,false,fun(a:(List D.aAI)×(List D.aAI))=>gd (eD (a.1.length) a.1 a.2) (some true)⟩
theorem Tc:OK 333 Ta:=mkS aKa [.tmp 4] (gc Xo aB) func333 ntmps333 (fun a _=>aA (Ra a.1 a.2)) (fun _=>by kernel_rfl)
def aHc:SU:=⟨[.st 93, .st 93],[.bool],false,false,fun(a:D.aAG×D.aAG)=>gd (eD (a.1.sz) a.1 a.2) (some true)⟩
theorem aHd:OK 295 aHc:=mkS .n [.tmp 4] (gc Tc aB) func295 ntmps295 (fun a _=>aA (aD4 a.1 a.2)) (fun _=>by kernel_rfl)
def aCm:SU:=⟨[.sl 93, .sl 93],[.bool],false,false,fun(a:(List D.aAG)×(List D.aAG))=>gd (eD (a.1.length+(a.1.map D.aAG.sz).sum) a.1 a.2) (some true)⟩
theorem aCn:OK 230 aCm:=mkS aKa [.tmp 4] (gc aHd aB) func230 ntmps230 (fun a _=>aA (Z5 a.1 a.2)) (fun _=>by kernel_rfl)
def O8:SU:=⟨[.st 284, .st 284],[.bool],false,false,fun(a:D.aAL×D.aAL)=>gd (eD (0) a.1 a.2) (some true)⟩
theorem O9:OK 334 O8:=mkS .n [.tmp 4] aB func334 ntmps334 (fun a _=>aA (w9 a.1 a.2)) (fun _=>by kernel_rfl)
def Xp:SU:=⟨[.sl 284, .sl 284],[.bool],false,false,fun(a:(List D.aAL)×(List D.aAL))=>gd (eD (a.1.length) a.1 a.2) (some true)⟩
theorem Xq:OK 296 Xp:=mkS aKa [.tmp 4] (gc O9 aB) func296 ntmps296 (fun a _=>aA (Ur a.1 a.2)) (fun _=>by kernel_rfl)
def Hm:SU:=⟨[.st 87, .st 87],[.bool],false,false,fun(a:D.aAF×D.aAF)=>gd (eD (a.1.sz) a.1 a.2) (some true)⟩
theorem Ho:OK 231 Hm:=mkS .n [.tmp 4] (gc Xq aB) func231 ntmps231 (fun a _=>aA (Gg a.1 a.2)) (fun _=>by kernel_rfl)
def aUn:SU:=⟨[.sl 3, .sl 3],[.bool],false,false,fun(a:(List Int)×(List Int))=>gd (eD (a.1.length) a.1 a.2) (some true)⟩
theorem aUo:OK 232 aUn:=mkS bI8 [.tmp 4] aB func232 ntmps232 (fun a _=>aA (aTc a.1 a.2)) (fun _=>by kernel_rfl)
def aUp:SU:=⟨[.st 90, .st 90],[.bool],false,false,fun(a:D.Site×D.Site)=>gd (eD (a.1.sz) a.1 a.2) (some true)⟩
theorem aUq:OK 129 aUp:=mkS .n [.tmp 4] (gc aCn (gc Ho (gc aUo aB))) func129 ntmps129 (fun a _=>aA (aTd a.1 a.2)) (fun _=>by kernel_rfl)
def aSk:SU:=⟨[.sl 90, .sl 90],[.bool],false,false,fun(a:(List D.Site)×(List D.Site))=>gd (eD (a.1.length+(a.1.map D.Site.sz).sum) a.1 a.2) (some true)⟩
theorem aSl:OK 42 aSk:=mkS aKa [.tmp 4] (gc aUq aB) func42 ntmps42 (fun a _=>aA (aOu a.1 a.2)) (fun _=>by kernel_rfl)
def aSm:SU:=⟨[.st 50, .st 50],[.bool],false,false,fun(a:D.aAQ×D.aAQ)=>gd (eD (0) a.1 a.2) (some true)⟩
theorem aSn:OK 43 aSm:=mkS .n [.tmp 4] aB func43 ntmps43 (fun a _=>aA (aOv a.1 a.2)) (fun _=>by kernel_rfl)
def aSo:SU:=⟨[.st 187, .st 187],[.bool],false,false,fun(a:D.aAO×D.aAO)=>gd (eD (0) a.1 a.2) (some true)⟩
theorem aSp:OK 297 aSo:=mkS .n [.tmp 4] aB func297 ntmps297 (fun a _=>aA (aOw a.1 a.2)) (fun _=>by kernel_rfl)
def aLp:SU:=⟨[.st 189, .st 189],[.bool],false,false,fun(a:D.aAN×D.aAN)=>gd (eD (0) a.1 a.2) (some true)⟩
theorem Kj:OK 233 aLp:=mkS .n [.tmp 4] (gc aSp aB) func233 ntmps233 (fun a _=>aA (aJm a.1 a.2)) (fun _=>by kernel_rfl)
def aHe:SU:=⟨[.sl 189, .sl 189],[.bool],false,false,fun(a:(List D.aAN)×(List D.aAN))=>gd (eD (a.1.length) a.1 a.2) (some true)⟩
theorem aHf:OK 234 aHe:=mkS aKa [.tmp 4] (gc Kj aB) func234 ntmps234 (fun a _=>aA (aD5 a.1 a.2)) (fun _=>by kernel_rfl)
def Xr:SU:=⟨[.st 192, .st 192],[.bool],false,false,fun(a:D.aAC×D.aAC)=>gd (eD (a.1.sz) a.1 a.2) (some true)⟩
theorem Xt:OK 130 Xr:=mkS .n [.tmp 4] (gc Kj (gc aHf aB)) func130 ntmps130 (fun a _=>aA (Ut a.1 a.2)) (fun _=>by kernel_rfl)
def Td:SU:=⟨[.sl 192, .sl 192],[.bool],false,false,fun(a:(List D.aAC)×(List D.aAC))=>gd (eD (a.1.length+(a.1.map D.aAC.sz).sum) a.1 a.2) (some true)⟩
theorem Te:OK 44 Td:=mkS aKa [.tmp 4] (gc Xt aB) func44 ntmps44 (fun a _=>aA (Rb a.1 a.2)) (fun _=>by kernel_rfl)
def aLq:SU:=⟨[.st 249, .st 249],[.bool],false,false,fun(a:D.aAM×D.aAM)=>gd (eD (0) a.1 a.2) (some true)⟩
theorem aLr:OK 235 aLq:=mkS .n [.tmp 4] aB func235 ntmps235 (fun a _=>aA (aJn a.1 a.2)) (fun _=>by kernel_rfl)
def aHg:SU:=⟨[.sl 249, .sl 249],[.bool],false,false,fun(a:(List D.aAM)×(List D.aAM))=>gd (eD (a.1.length) a.1 a.2) (some true)⟩
theorem aHh:OK 131 aHg:=mkS aKa [.tmp 4] (gc aLr aB) func131 ntmps131 (fun a _=>aA (aD6 a.1 a.2)) (fun _=>by kernel_rfl)
def aHi:SU:=⟨[.st 54, .st 54],[.bool],false,false,fun(a:D.aAK×D.aAK)=>gd (eD (a.1.sz) a.1 a.2) (some true)⟩
theorem aHj:OK 45 aHi:=mkS .n [.tmp 4] (gc aHh aB) func45 ntmps45 (fun a _=>aA (aD7 a.1 a.2)) (fun _=>by kernel_rfl)
def aSq:SU:=⟨[.st 56, .st 56],[.bool],false,false,fun(a:D.World×D.World)=>gd (eD (a.1.sz) a.1 a.2) (some true)⟩
theorem aSr:OK 8 aSq:=mkS .n [.tmp 4] (gc aHb (gc aSg (gc aSj (gc aSl (gc aSn (gc Te (gc aHj aB))))))) func8 ntmps8 (fun a _=>aA (aOx a.1 a.2)) (fun _=>by kernel_rfl)
def Tf:SU:=⟨[.sl 230,i6],[.sl 230,i6],false,true,fun(a:(List D.aAB)×Int)=>gd (jU (a.1.length) (aD aG a.1) a.2) (some (bG aS a.1 a.2))⟩
theorem sN:OK 132 Tf:=mkW (.s .n (.s (.j ⟨[(1,1),(3,49)],[.dat (.s 1) i6, .ti 0 230 true],[],[]⟩ (.s .n (.s (.l ⟨[(1,1),(3,49)],[.dat (.s 1) i6, .nat (.s 5), .ti 0 230 true],[],[]⟩ FUEL .n) .n))) .n)) [.tmp 4] aB func132 ntmps132 (fun a _=>aA (Rc a.1 a.2)) (fun _=>by kernel_rfl)
def aCo:SU:=⟨[.sl 279,i6],[.sl 279,i6],false,true,fun(a:(List D.Entry)×Int)=>gd (jU (a.1.length) (aD dJ a.1) a.2) (some (bG fZ a.1 a.2))⟩
theorem aCp:OK 133 aCo:=mkW (.s .n (.s (.j ⟨[(1,1),(3,37)],[.dat (.s 1) i6, .ti 0 279 true],[],[]⟩ (.s .n (.s (.l ⟨[(1,1),(3,37)],[.dat (.s 1) i6, .nat (.s 5), .ti 0 279 true],[],[]⟩ FUEL .n) .n))) .n)) [.tmp 4] aB func133 ntmps133 (fun a _=>aA (Z6 a.1 a.2)) (fun _=>by kernel_rfl)
def P5:SU:=⟨[.sl 82,i6],[.sl 82,i6],false,true,fun(a:(List D.Device)×Int)=>gd (jU (a.1.length+(a.1.map D.Device.sz).sum) (aD aQ a.1) a.2) (some (bG bY a.1 a.2))⟩
theorem P6:OK 46 P5:=mkW (.s .n (.s (.j ⟨[(1,1),(3,75)],[.dat (.s 1) i6, .ti 0 82 true],[],[]⟩ (.s .n (.s (.l ⟨[(1,1),(3,75)],[.dat (.s 1) i6, .nat (.s 5), .ti 0 82 true],[],[]⟩ FUEL .n) .n))) .n)) [.tmp 4] (gc sN (gc aCp aB)) func46 ntmps46 (fun a _=>aA (x8 a.1 a.2)) (fun _=>by kernel_rfl)
def aHk:SU:=⟨[.sl 4,i6],[.sl 4,i6],false,true,fun(a:(List Bool)×Int)=>gd (jU (a.1.length) (aD fP a.1) a.2) (some (bG mkB a.1 a.2))⟩
theorem aHl:OK 47 aHk:=mkW (.s .n (.s (.j ⟨[(1,1),(3,15)],[.dat (.s 1) i6, .ti 0 4 true],[],[]⟩ (.s .n (.s (.l ⟨[(1,1),(3,15)],[.dat (.s 1) i6, .nat (.s 5), .ti 0 4 true],[],[]⟩ FUEL .n) .n))) .n)) [.tmp 4] aB func47 ntmps47 (fun a _=>aA (aD8 a.1 a.2)) (fun _=>by kernel_rfl)
def aHm:SU:=⟨[.sl 5,i6],[.sl 5,i6],false,true,fun(a:(List Int)×Int)=>gd (jU (a.1.length) (aD fP a.1) a.2) (some (bG mkU a.1 a.2))⟩
theorem Em:OK 237 aHm:=mkW (.s .n (.s (.j ⟨[(1,1),(3,14)],[.dat (.s 1) i6, .ti 0 5 true],[],[]⟩ (.s .n (.s (.l ⟨[(1,1),(3,14)],[.dat (.s 1) i6, .nat (.s 5), .ti 0 5 true],[],[]⟩ FUEL .n) .n))) .n)) [.tmp 4] aB func237 ntmps237 (fun a _=>aA (aD9 a.1 a.2)) (fun _=>by kernel_rfl)
def aLs:SU:=⟨[.sl 298,i6],[.sl 298,i6],false,true,fun(a:(List D.Box)×Int)=>gd (jU (a.1.length+(a.1.map D.Box.sz).sum) (aD eQ a.1) a.2) (some (bG fH a.1 a.2))⟩
theorem aLt:OK 236 aLs:=mkW (.s .n (.s (.j ⟨[(1,1),(3,35)],[.dat (.s 1) i6, .ti 0 298 true],[],[]⟩ (.s .n (.s (.l ⟨[(1,1),(3,35)],[.dat (.s 1) i6, .nat (.s 5), .ti 0 298 true],[],[]⟩ FUEL .n) .n))) .n)) [.tmp 4] (gc Em aB) func236 ntmps236 (fun a _=>aA (aJo a.1 a.2)) (fun _=>by kernel_rfl)
def Mt:SU:=⟨[.st 45,i6],[.st 45,i6],false,true,fun(a:D.aAE×Int)=>gd (jU (a.1.sz) (aN a.1) a.2) (some (dO a.1 a.2))⟩
theorem Mv:OK 134 Mt:=mkW .n [.tmp 4] (gc aLt aB) func134 ntmps134 (fun a _=>aA (Kq a.1 a.2)) (fun _=>by kernel_rfl)
def zU:SU:=⟨[.sl 176,i6],[.sl 176,i6],false,true,fun(a:(List D.aAA)×Int)=>gd (jU (a.1.length+(a.1.map D.aAA.sz).sum) (aD aM a.1) a.2) (some (bG aZ a.1 a.2))⟩
theorem zW:OK 135 zU:=mkW (.s .n (.s (.j ⟨[(1,1),(3,35)],[.dat (.s 1) i6, .ti 0 176 true],[],[]⟩ (.s .n (.s (.l ⟨[(1,1),(3,35)],[.dat (.s 1) i6, .nat (.s 5), .ti 0 176 true],[],[]⟩ FUEL .n) .n))) .n)) [.tmp 4] (gc Em aB) func135 ntmps135 (fun a _=>aA (zR a.1 a.2)) (fun _=>by kernel_rfl)
def aHn:SU:=⟨[.st 48,i6],[.st 48,i6],false,true,fun(a:D.aAH×Int)=>gd (jU (a.1.sz) (aX a.1) a.2) (some (gQ a.1 a.2))⟩
theorem aHo:OK 48 aHn:=mkW .n [.tmp 4] (gc sN (gc Mv (gc zW aB))) func48 ntmps48 (fun a _=>aA (aEa a.1 a.2)) (fun _=>by kernel_rfl)
def aLu:SU:=⟨[i6],[.str],false,false,fun(a:Int)=>gD a⟩
theorem Kk:OK 136 aLu:=mkS (.s .n (.s .n (.s .n (.s (.j ⟨[(0,1),(2,1),(2,12)],[.dat (.s 3) (.str)],[],[]⟩ (.s (.l ⟨[(0,1),(2,1),(2,12)],[.dat (.s 0) i6, .dat (.s 3) (.str)],[],[]⟩ FUEL .n) .n)) .n)))) [.tmp 2] aB func136 ntmps136 (fun _ _=>id) (fun _=>by kernel_rfl)
def Hq:SU:=⟨[.sl 171,i6],[.sl 171,i6],false,true,fun(a:(List D.aAI)×Int)=>gd (jU (a.1.length) (aD aY a.1) a.2) (some (bG bZ a.1 a.2))⟩
theorem Hr:OK 238 Hq:=mkW (.s .n (.s (.j ⟨[(1,1),(3,37)],[.dat (.s 1) i6, .ti 0 171 true],[],[]⟩ (.s .n (.s (.l ⟨[(1,1),(3,37)],[.dat (.s 1) i6, .nat (.s 5), .ti 0 171 true],[],[]⟩ FUEL .n) .n))) .n)) [.tmp 4] aB func238 ntmps238 (fun a _=>aA (Gh a.1 a.2)) (fun _=>by kernel_rfl)
def Xu:SU:=⟨[.sl 93,i6],[.sl 93,i6],false,true,fun(a:(List D.aAG)×Int)=>gd (jU (a.1.length+(a.1.map D.aAG.sz).sum) (aD aO a.1) a.2) (some (bG dL a.1 a.2))⟩
theorem Xv:OK 137 Xu:=mkW (.s .n (.s (.j ⟨[(1,1),(3,28)],[.dat (.s 1) i6, .ti 0 93 true],[],[]⟩ (.s .n (.s (.l ⟨[(1,1),(3,28)],[.dat (.s 1) i6, .nat (.s 5), .ti 0 93 true],[],[]⟩ FUEL .n) .n))) .n)) [.tmp 4] (gc Hr aB) func137 ntmps137 (fun a _=>aA (Uu a.1 a.2)) (fun _=>by kernel_rfl)
def Mw:SU:=⟨[.sl 284,i6],[.sl 284,i6],false,true,fun(a:(List D.aAL)×Int)=>gd (jU (a.1.length) (aD aU a.1) a.2) (some (bG dD a.1 a.2))⟩
theorem Mx:OK 138 Mw:=mkW (.s .n (.s (.j ⟨[(1,1),(3,28)],[.dat (.s 1) i6, .ti 0 284 true],[],[]⟩ (.s .n (.s (.l ⟨[(1,1),(3,28)],[.dat (.s 1) i6, .nat (.s 5), .ti 0 284 true],[],[]⟩ FUEL .n) .n))) .n)) [.tmp 4] aB func138 ntmps138 (fun a _=>aA (Kr a.1 a.2)) (fun _=>by kernel_rfl)
def aLv:SU:=⟨[.sl 3,i6],[.sl 3,i6],false,true,fun(a:(List Int)×Int)=>gd (jU (a.1.length) (aD fP a.1) a.2) (some (bG mkI a.1 a.2))⟩
theorem aLw:OK 139 aLv:=mkW (.s .n (.s (.j ⟨[(1,1),(3,13)],[.dat (.s 1) i6, .ti 0 3 true],[],[]⟩ (.s .n (.s (.l ⟨[(1,1),(3,13)],[.dat (.s 1) i6, .nat (.s 5), .ti 0 3 true],[],[]⟩ FUEL .n) .n))) .n)) [.tmp 4] aB func139 ntmps139 (fun a _=>aA (aJp a.1 a.2)) (fun _=>by kernel_rfl)
def aHp:SU:=⟨[.sl 90,i6],[.sl 90,i6],false,true,fun(a:(List D.Site)×Int)=>gd (jU (a.1.length+(a.1.map D.Site.sz).sum) (aD cK a.1) a.2) (some (bG gB a.1 a.2))⟩
theorem aHq:OK 49 aHp:=mkW (.s .n (.s (.j ⟨[(1,1),(3,53)],[.dat (.s 1) i6, .ti 0 90 true],[],[]⟩ (.s .n (.s (.l ⟨[(1,1),(3,53)],[.dat (.s 1) i6, .nat (.s 5), .ti 0 90 true],[],[]⟩ FUEL .n) .n))) .n)) [.tmp 4] (gc Kk (gc Xv (gc Mx (gc aLw aB)))) func49 ntmps49 (fun a _=>aA (aEb a.1 a.2)) (fun _=>by kernel_rfl)
def P7:SU:=⟨[.sl 189,i6],[.sl 189,i6],false,true,fun(a:(List D.aAN)×Int)=>gd (jU (a.1.length) (aD bN a.1) a.2) (some (bG eH a.1 a.2))⟩
theorem P8:OK 140 P7:=mkW (.s .n (.s (.j ⟨[(1,1),(3,44)],[.dat (.s 1) i6, .ti 0 189 true],[],[]⟩ (.s .n (.s (.l ⟨[(1,1),(3,44)],[.dat (.s 1) i6, .nat (.s 5), .ti 0 189 true],[],[]⟩ FUEL .n) .n))) .n)) [.tmp 4] aB func140 ntmps140 (fun a _=>aA (x9 a.1 a.2)) (fun _=>by kernel_rfl)
def Ht:SU:=⟨[.sl 192,i6],[.sl 192,i6],false,true,fun(a:(List D.aAC)×Int)=>gd (jU (a.1.length+(a.1.map D.aAC.sz).sum) (aD aR a.1) a.2) (some (bG bK a.1 a.2))⟩
theorem Hu:OK 50 Ht:=mkW (.s .n (.s (.j ⟨[(1,1),(3,63)],[.dat (.s 1) i6, .ti 0 192 true],[],[]⟩ (.s .n (.s (.l ⟨[(1,1),(3,63)],[.dat (.s 1) i6, .nat (.s 5), .ti 0 192 true],[],[]⟩ FUEL .n) .n))) .n)) [.tmp 4] (gc P8 aB) func50 ntmps50 (fun a _=>aA (Gi a.1 a.2)) (fun _=>by kernel_rfl)
def P9:SU:=⟨[.sl 249,i6],[.sl 249,i6],false,true,fun(a:(List D.aAM)×Int)=>gd (jU (a.1.length) (aD bX a.1) a.2) (some (bG dV a.1 a.2))⟩
theorem Q0:OK 141 P9:=mkW (.s .n (.s (.j ⟨[(1,1),(3,37)],[.dat (.s 1) i6, .ti 0 249 true],[],[]⟩ (.s .n (.s (.l ⟨[(1,1),(3,37)],[.dat (.s 1) i6, .nat (.s 5), .ti 0 249 true],[],[]⟩ FUEL .n) .n))) .n)) [.tmp 4] aB func141 ntmps141 (fun a _=>aA (y5 a.1 a.2)) (fun _=>by kernel_rfl)
def Q3:SU:=⟨[.st 54,i6],[.st 54,i6],false,true,fun(a:D.aAK×Int)=>gd (jU (a.1.sz) (bB a.1) a.2) (some (fJ a.1 a.2))⟩
theorem Q4:OK 51 Q3:=mkW .n [.tmp 4] (gc Q0 aB) func51 ntmps51 (fun a _=>aA (y7 a.1 a.2)) (fun _=>by kernel_rfl)
def aHr:SU:=⟨[.st 56,i6],[.st 56,i6],false,true,fun(a:D.World×Int)=>gd (jU (a.1.sz) (dZ a.1) a.2) (some (dE a.1 a.2))⟩
theorem aHs:OK 9 aHr:=mkW .n [.tmp 4] (gc P6 (gc aHl (gc aHo (gc aHq (gc Hu (gc Q4 aB)))))) func9 ntmps9 (fun a _=>aA (aEc a.1 a.2)) (fun _=>by kernel_rfl)
def Tg:SU:=⟨[.sl 230,i6],[i6],false,false,fun(a:(List D.aAB)×Int)=>gd (bL (bG aS) (aD aG) a.1 a.2) (some (a.2+((aD aG a.1:Nat):Int)))⟩
theorem sO:OK 142 Tg:=mkS (.s .n (.s (.jx ⟨[(1,1),(2,62)],[.dat (.s 1) i6],[],[]⟩ (.s .n (.s (.l ⟨[(1,1),(2,62)],[.dat (.s 1) i6, .nat (.s 5)],[],[]⟩ FUEL .n) .n))) .n)) [.tmp 4] aB func142 ntmps142 (fun a _=>aA (Re a.1 a.2)) (fun _=>by kernel_rfl)
def aCq:SU:=⟨[.sl 279,i6],[i6],false,false,fun(a:(List D.Entry)×Int)=>gd (bL (bG fZ) (aD dJ) a.1 a.2) (some (a.2+((aD dJ a.1:Nat):Int)))⟩
theorem aCr:OK 143 aCq:=mkS bLt [.tmp 4] aB func143 ntmps143 (fun a _=>aA (Z7 a.1 a.2)) (fun _=>by kernel_rfl)
def Q5:SU:=⟨[.sl 82,i6],[i6],false,false,fun(a:(List D.Device)×Int)=>gd (bL (bG bY) (aD aQ) a.1 a.2) (some (a.2+((aD aQ a.1:Nat):Int)))⟩
theorem Q6:OK 52 Q5:=mkS (.s .n (.s (.jx ⟨[(1,1),(2,94)],[.dat (.s 1) i6],[],[]⟩ (.s .n (.s (.l ⟨[(1,1),(2,94)],[.dat (.s 1) i6, .nat (.s 5)],[],[]⟩ FUEL .n) .n))) .n)) [.tmp 4] (gc sO (gc aCr aB)) func52 ntmps52 (fun a _=>aA (y9 a.1 a.2)) (fun _=>by kernel_rfl)
def aHt:SU:=⟨[.sl 4,i6],[i6],false,false,fun(a:(List Bool)×Int)=>gd (bL (bG mkB) (aD fP) a.1 a.2) (some (a.2+((aD fP a.1:Nat):Int)))⟩
theorem aHu:OK 53 aHt:=mkS (.s .n (.s (.jx ⟨[(1,1),(2,18)],[.dat (.s 1) i6],[],[]⟩ (.s .n (.s (.l ⟨[(1,1),(2,18)],[.dat (.s 1) i6, .nat (.s 5)],[],[]⟩ FUEL .n) .n))) .n)) [.tmp 4] aB func53 ntmps53 (fun a _=>aA (aEd a.1 a.2)) (fun _=>by kernel_rfl)
def aHv:SU:=⟨[.sl 5,i6],[i6],false,false,fun(a:(List Int)×Int)=>gd (bL (bG mkU) (aD fP) a.1 a.2) (some (a.2+((aD fP a.1:Nat):Int)))⟩
theorem En:OK 240 aHv:=mkS (.s .n (.s (.jx ⟨[(1,1),(2,17)],[.dat (.s 1) i6],[],[]⟩ (.s .n (.s (.l ⟨[(1,1),(2,17)],[.dat (.s 1) i6, .nat (.s 5)],[],[]⟩ FUEL .n) .n))) .n)) [.tmp 4] aB func240 ntmps240 (fun a _=>aA (aEe a.1 a.2)) (fun _=>by kernel_rfl)
def aLx:SU:=⟨[.sl 298,i6],[i6],false,false,fun(a:(List D.Box)×Int)=>gd (bL (bG fH) (aD eQ) a.1 a.2) (some (a.2+((aD eQ a.1:Nat):Int)))⟩
theorem aLy:OK 239 aLx:=mkS bJx [.tmp 4] (gc En aB) func239 ntmps239 (fun a _=>aA (aJq a.1 a.2)) (fun _=>by kernel_rfl)
def Na:SU:=⟨[.st 45,i6],[i6],false,false,fun(a:D.aAE×Int)=>gd (bL dO aN a.1 a.2) (some (a.2+((aN a.1:Nat):Int)))⟩
theorem Nb:OK 144 Na:=mkS .n [.tmp 4] (gc aLy aB) func144 ntmps144 (fun a _=>aA (Kt a.1 a.2)) (fun _=>by kernel_rfl)
def zX:SU:=⟨[.sl 176,i6],[i6],false,false,fun(a:(List D.aAA)×Int)=>gd (bL (bG aZ) (aD aM) a.1 a.2) (some (a.2+((aD aM a.1:Nat):Int)))⟩
theorem zY:OK 145 zX:=mkS bJx [.tmp 4] (gc En aB) func145 ntmps145 (fun a _=>aA (zS a.1 a.2)) (fun _=>by kernel_rfl)
def aHw:SU:=⟨[.st 48,i6],[i6],false,false,fun(a:D.aAH×Int)=>gd (bL gQ aX a.1 a.2) (some (a.2+((aX a.1:Nat):Int)))⟩
theorem aHx:OK 54 aHw:=mkS .n [.tmp 4] (gc sO (gc Nb (gc zY aB))) func54 ntmps54 (fun a _=>aA (aEf a.1 a.2)) (fun _=>by kernel_rfl)
def Hw:SU:=⟨[.sl 171,i6],[i6],false,false,fun(a:(List D.aAI)×Int)=>gd (bL (bG bZ) (aD aY) a.1 a.2) (some (a.2+((aD aY a.1:Nat):Int)))⟩
theorem Hy:OK 241 Hw:=mkS bLt [.tmp 4] aB func241 ntmps241 (fun a _=>aA (Gj a.1 a.2)) (fun _=>by kernel_rfl)
def Xw:SU:=⟨[.sl 93,i6],[i6],false,false,fun(a:(List D.aAG)×Int)=>gd (bL (bG dL) (aD aO) a.1 a.2) (some (a.2+((aD aO a.1:Nat):Int)))⟩
theorem Xx:OK 146 Xw:=mkS bJy [.tmp 4] (gc Hy aB) func146 ntmps146 (fun a _=>aA (Uv a.1 a.2)) (fun _=>by kernel_rfl)
def Nc:SU:=⟨[.sl 284,i6],[i6],false,false,fun(a:(List D.aAL)×Int)=>gd (bL (bG dD) (aD aU) a.1 a.2) (some (a.2+((aD aU a.1:Nat):Int)))⟩
theorem Nf:OK 147 Nc:=mkS bJy [.tmp 4] aB func147 ntmps147 (fun a _=>aA (Ku a.1 a.2)) (fun _=>by kernel_rfl)
def aLz:SU:=⟨[.sl 3,i6],[i6],false,false,fun(a:(List Int)×Int)=>gd (bL (bG mkI) (aD fP) a.1 a.2) (some (a.2+((aD fP a.1:Nat):Int)))⟩
theorem aL0:OK 148 aLz:=mkS (.s .n (.s (.jx ⟨[(1,1),(2,16)],[.dat (.s 1) i6],[],[]⟩ (.s .n (.s (.l ⟨[(1,1),(2,16)],[.dat (.s 1) i6, .nat (.s 5)],[],[]⟩ FUEL .n) .n))) .n)) [.tmp 4] aB func148 ntmps148 (fun a _=>aA (aJr a.1 a.2)) (fun _=>by kernel_rfl)
def aHy:SU:=⟨[.sl 90,i6],[i6],false,false,fun(a:(List D.Site)×Int)=>gd (bL (bG gB) (aD cK) a.1 a.2) (some (a.2+((aD cK a.1:Nat):Int)))⟩
theorem aHz:OK 55 aHy:=mkS (.s .n (.s (.jx ⟨[(1,1),(2,66)],[.dat (.s 1) i6],[],[]⟩ (.s .n (.s (.l ⟨[(1,1),(2,66)],[.dat (.s 1) i6, .nat (.s 5)],[],[]⟩ FUEL (.s .n (.s (.s (.s (.s (.r none (od 8 [6])) .n) .n) .n) .n))) .n))) .n)) [.tmp 4] (gc Kk (gc Xx (gc Nf (gc aL0 aB)))) func55 ntmps55 (fun a _=>aA (aEg a.1 a.2)) (fun _=>by kernel_rfl)
def Q7:SU:=⟨[.sl 189,i6],[i6],false,false,fun(a:(List D.aAN)×Int)=>gd (bL (bG eH) (aD bN) a.1 a.2) (some (a.2+((aD bN a.1:Nat):Int)))⟩
theorem Q8:OK 149 Q7:=mkS (.s .n (.s (.jx ⟨[(1,1),(2,55)],[.dat (.s 1) i6],[],[]⟩ (.s .n (.s (.l ⟨[(1,1),(2,55)],[.dat (.s 1) i6, .nat (.s 5)],[],[]⟩ FUEL .n) .n))) .n)) [.tmp 4] aB func149 ntmps149 (fun a _=>aA (A7 a.1 a.2)) (fun _=>by kernel_rfl)
def Hz:SU:=⟨[.sl 192,i6],[i6],false,false,fun(a:(List D.aAC)×Int)=>gd (bL (bG bK) (aD aR) a.1 a.2) (some (a.2+((aD aR a.1:Nat):Int)))⟩
theorem Ia:OK 56 Hz:=mkS (.s .n (.s (.jx ⟨[(1,1),(2,78)],[.dat (.s 1) i6],[],[]⟩ (.s .n (.s (.l ⟨[(1,1),(2,78)],[.dat (.s 1) i6, .nat (.s 5)],[],[]⟩ FUEL .n) .n))) .n)) [.tmp 4] (gc Q8 aB) func56 ntmps56 (fun a _=>aA (Gl a.1 a.2)) (fun _=>by kernel_rfl)
def Q9:SU:=⟨[.sl 249,i6],[i6],false,false,fun(a:(List D.aAM)×Int)=>gd (bL (bG dV) (aD bX) a.1 a.2) (some (a.2+((aD bX a.1:Nat):Int)))⟩
theorem R3:OK 150 Q9:=mkS bLt [.tmp 4] aB func150 ntmps150 (fun a _=>aA (A8 a.1 a.2)) (fun _=>by kernel_rfl)
def R4:SU:=⟨[.st 54,i6],[i6],false,false,fun(a:D.aAK×Int)=>gd (bL fJ bB a.1 a.2) (some (a.2+((bB a.1:Nat):Int)))⟩
theorem R5:OK 57 R4:=mkS .n [.tmp 4] (gc R3 aB) func57 ntmps57 (fun a _=>aA (A9 a.1 a.2)) (fun _=>by kernel_rfl)
def aH0:SU:=⟨[.st 56,i6],[i6],false,false,fun(a:D.World×Int)=>gd (bL dE dZ a.1 a.2) (some (a.2+((dZ a.1:Nat):Int)))⟩
theorem aH1:OK 10 aH0:=mkS .n [.tmp 4] (gc Q6 (gc aHu (gc aHx (gc aHz (gc Ia (gc R5 aB)))))) func10 ntmps10 (fun a _=>aA (aEh a.1 a.2)) (fun _=>by kernel_rfl)
def nH:SU:=⟨[.st 39,i6,i6],[.bool],false,false,fun(a:D.World×Int×Int)=>gd (a.1.ok) (some true)⟩
theorem Eo:OK 3 nH:=mkS (.s .n (.s .n (.s .n (.s .n (.s .n (.s .n (.s .n (.s (.s (.rj 5 ⟨[(44,5)],[.dat (.s 48) .bool],[],[]⟩ .n) .n) (.s (.s (.r none (od 5 [2,3])) .n) (.s .n (.s .n (.s (.s (.rj 3 ⟨[(59,11)],[.dat (.s 69) .bool],[],[]⟩ .n) .n) (.s .n (.s .n (.s .n (.s .n (.s .n (.s .n (.s .n (.s (.s (.rj 5 ⟨[(93,5)],[.dat (.s 97) .bool],[],[]⟩ .n) .n) .n)))))))))))))))))))) [.tmp 6] (gc aQe (gc aQt (gc aGj (gc aG9 (gc aSr (gc aHs (gc aH1 aB))))))) func3 ntmps3 (fun a _=>aA (Ea a.1 a.2.1 a.2.2)) (fun _=>by kernel_rfl)
end
end Go.VK
