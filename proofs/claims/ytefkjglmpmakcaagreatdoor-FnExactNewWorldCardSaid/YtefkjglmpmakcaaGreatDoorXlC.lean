import Derived.Test.YtefkjglmpmakcaaGreatDoorXlL
import Derived.Test.YtefkjglmpmakcaaGreatDoorXlQ
import Derived.Test.YtefkjglmpmakcaaGreatDoorXlPx
/- Printed by wip/tools: models, walks, proofs. -/
set_option linter.unusedVariables false
set_option linter.unusedSimpArgs false
set_option maxRecDepth 100000
set_option maxHeartbeats 4000000
namespace Go.VK
open Go.RowKit Go.Proofs Tryz
noncomputable section
def i6:EV.Kd:= .int .i64
def aHx:EV.An:=(.s .n (.s .n (.s (.jx ⟨[(4,2),(5,16)],[],[],[]⟩ (.s .n (.s (.l ⟨[(4,2),(5,16)],[.nat (.s 5)],[],[]⟩ FUEL (.s .n (.s (.s (.s (.r none (od 10 [8])) .n) .n) .n))) .n))) .n)))
def bHl:EV.An:=(.y true (some 9) (some 17) [(1,true),(2,true),(3,true),(4,true),(6,true),(7,true),(8,true),(11,true),(12,true),(13,true),(14,true),(0,false),(5,false),(9,false),(10,false),(15,false),(16,false),(17,false)])
def bEx:EV.An:=(.s .n (.s .n (.s (.jx ⟨[(4,2),(5,15)],[],[],[]⟩ (.s .n (.s (.l ⟨[(4,2),(5,15)],[.nat (.s 5)],[],[]⟩ FUEL (.s .n (.s (.s (.s (.r none (od 9 [])) .n) .n) .n))) .n))) .n)))
def bIn:EV.An:=(.s .n (.s .n (.s (.s (.rj 4 ⟨[(14,19)],[.dat (.s 32) .bool],[],[]⟩ (.r none [(0,true),(1,false),(2,true),(3,true),(4,true),(5,true),(6,true),(7,false),(8,true),(9,true),(10,true),(11,true),(13,true),(14,true),(12,false),(15,true),(16,true),(17,true),(18,true),(19,false),(20,true),(21,true)])) .n) .n)))
def bHm:EV.An:=(.s .n (.s (.jx ⟨[(1,1),(2,46)],[.dat (.s 1) i6],[],[]⟩ (.s .n (.s (.l ⟨[(1,1),(2,46)],[.dat (.s 1) i6, .nat (.s 5)],[],[]⟩ FUEL .n) .n))) .n))
def bIo:EV.An:=(.s .n (.s .n (.s .n (.s (.j ⟨[(9,1),(2,17)],[.dat (.s 9) i6],[],[]⟩ (.s (.l ⟨[(9,1),(2,17)],[.dat (.s 9) i6],[],[]⟩ FUEL (.s (.s (.rj 6 ⟨[(17,10)],[.dat (.s 26) .bool],[],[]⟩ .n) .n) .n)) .n)) (.s bHl (.s (.s (.rj 4 ⟨[(49,5)],[.dat (.s 53) .bool],[],[]⟩ .n) .n) .n))))))
def bIp:EV.An:=(.j ⟨[(12,1),(11,10)],[.dat (.s 12) .bool, .tr (.c 6 0) 5 187 true],[],[]⟩ (.s .n (.s (.y false none (some 9) [(0,true),(1,true),(2,true),(4,true),(3,false),(5,false),(6,true),(7,true),(8,true),(9,false),(10,true)]) .n)))
def bIq:EV.An:=(.s .n (.s .n (.s (.j ⟨[(0,2),(3,16)],[.dat (.s 5) i6],[],[]⟩ (.s (.l ⟨[(0,2),(3,16)],[.dat (.s 0) i6, .dat (.s 1) i6, .dat (.s 5) i6],[],[]⟩ FUEL (.s .n (.s (.s (.j ⟨[(5,1),(2,7)],[.dat (.s 5) i6],[],[]⟩ .n) .n) .n))) .n)) .n)))
def bIr:EV.An:=(.s .n (.s (.s (.y false none (some 14) [(0,true),(1,true),(2,true),(3,true),(4,true),(5,true),(6,true),(8,true),(7,false),(9,false),(10,true),(11,true),(12,true),(13,true),(14,false)]) .n) .n))
def bEy:EV.An:=(.s .n (.s .n (.s (.s (.s .n (.r (some 5) (od 8 [3,4,5,6,7]))) .n) .n)))
def bFj:EV.An:=(.y true (some 7) (some 15) [(1,true),(2,true),(3,true),(4,true),(6,true),(9,true),(10,true),(11,true),(12,true),(0,false),(5,false),(7,false),(8,false),(13,false),(14,false),(15,false)])
def bFk:EV.An:=(.s .n (.s (.y false (some 5) none [(0,true),(1,true),(2,true),(3,true),(4,true),(6,true),(7,true),(8,false),(9,false),(5,false),(10,false),(11,false),(12,true)]) .n))
def bFl:EV.An:=(.s .n (.s (.y false (some 5) (some 9) [(0,true),(1,true),(2,true),(3,true),(4,true),(6,true),(7,true),(8,false),(5,false),(9,false),(10,false),(11,true)]) .n))
def bFm:EV.An:=(.s .n (.s (.s (.rj 4 ⟨[(9,6)],[.dat (.s 14) .bool],[],[]⟩ .n) .n) (.s (.r (some 5) [(0,true),(2,true),(1,false),(3,false),(4,true),(5,false),(6,false)]) .n)))
def bFn:EV.An:=(.s .n (.s .n (.s (.j ⟨[(5,3),(1,20)],[.tr (.s 5) 0 5 true],[],[]⟩ (.s .n (.s (.l ⟨[(5,3),(3,18)],[.tr (.s 5) 0 5 true, .nat (.s 11)],[],[]⟩ FUEL .n) .n))) .n)))
def bFo:EV.An:=(.s (.r (some 11) [(0,true),(1,true),(2,true),(4,true),(5,true),(6,true),(7,true),(8,true),(9,true),(3,false),(10,true),(11,false),(12,false)]) .n)
def bFp:EV.An:=(.y false (some 9) (some 10) [(0,true),(1,true),(2,true),(4,true),(3,false),(5,false),(6,true),(7,true),(8,true),(9,false),(10,false),(11,true)])
def bFq:EV.An:=(.s .n (.s .n (.s .n (.s (.s (.rj 7 ⟨[(19,19)],[.dat (.s 37) .bool],[],[]⟩ (.r none (od 25 [4,17]))) .n) (.s (.r (some 5) (od 8 [3,4,5,6,7])) .n)))))
def bFr:EV.An:=(.s .n (.s .n (.s (.j ⟨[(7,19)],[.dat (.s 7) i6],[],[]⟩ (.s .n (.s (.l ⟨[(7,2),(3,14)],[.dat (.s 7) i6, .dat (.s 8) i6],[],[]⟩ FUEL .n) .n))) .n)))
def bFs:EV.An:=(.s .n (.s (.jx ⟨[(1,1),(2,44)],[.dat (.s 1) i6],[],[]⟩ (.s .n (.s (.l ⟨[(1,1),(2,44)],[.dat (.s 1) i6, .nat (.s 5)],[],[]⟩ FUEL .n) .n))) .n))
def bFt:EV.An:=(.s .n (.s (.jx ⟨[(1,1),(2,35)],[.dat (.s 1) i6],[],[]⟩ (.s .n (.s (.l ⟨[(1,1),(2,35)],[.dat (.s 1) i6, .nat (.s 5)],[],[]⟩ FUEL .n) .n))) .n))
def bFu:EV.An:=(.s .n (.s (.y true none (some 9) [(0,true),(1,true),(2,true),(3,true),(5,true),(6,true),(4,false),(7,false),(8,false),(9,false)]) .n))
def bDj:EV.An:=(.s .n (.s (.rj 6 ⟨[(4,1),(5,14)],[.dat (.s 4) .bool],[],[]⟩ .n) .n))
def bFv:EV.An:=(.s .n (.s (.s (.rj 4 ⟨[(10,19)],[.dat (.s 28) .bool],[],[]⟩ (.r none (od 22 [1,7,13]))) .n) (.s .n (.s (.s (.r none (od 6 [4])) .n) .n))))
def bFw:EV.An:=(.y false (some 7) (some 8) [(0,true),(1,true),(3,true),(4,true),(2,false),(5,false),(6,true),(7,false),(8,false)])
def bFx:EV.An:=(.s .n (.s (.r none [(0,true),(1,true),(2,true),(4,true),(3,false),(5,false),(6,false),(7,true)]) .n))
def bFy:EV.An:=(.y false (some 3) (some 4) [(0,true),(2,true),(1,false),(3,false),(4,false),(5,true)])
def bFz:EV.An:=(.s (.r none [(0,true),(2,true),(3,true),(1,false),(4,false),(5,false),(6,true)]) .n)
def bF0:EV.An:=(.s .n (.s .n (.s .n (.s (.s (.rj 4 ⟨[(22,4)],[.dat (.s 25) .bool],[],[]⟩ .n) .n) .n))))
def bF1:EV.An:=(.s .n (.s .n (.s (.s (.rj 3 ⟨[(15,10)],[.dat (.s 24) .bool],[],[]⟩ .n) .n) .n)))
def bF2:EV.An:=(.s .n (.s .n (.s (.rj 3 ⟨[(6,1),(5,7)],[.dat (.s 6) .bool],[],[]⟩ .n) .n)))
def bDk:EV.An:=(.y false none (some 15) (od 16 [10,15]))
def bF3:EV.An:=(.s .n (.s .n (.s .n (.s .n (.s .n (.s (.w [1,2] (od 5 [2,3,4])) .n))))))
def bF4:EV.An:=(.s .n (.s (.rj 4 ⟨[(6,1),(3,5)],[.dat (.s 6) .bool],[],[]⟩ .n) .n))
def bF5:EV.An:=(.s .n (.s (.rj 3 ⟨[(2,1),(2,5)],[.dat (.s 2) .bool],[],[]⟩ .n) .n))
def bF6:EV.An:=(.s .n (.s (.s (.r (some 9) (od 12 [7,8,9,10,11])) .n) .n))
def bF7:EV.An:=(.s (.rj 5 ⟨[(61,21)],[.dat (.s 81) .bool],[],[]⟩ .n) .n)
def bF8:EV.An:=(.s (.rj 5 ⟨[(52,4)],[.dat (.s 55) .bool],[],[]⟩ .n) .n)
def bF9:EV.An:=(.s (.rj 4 ⟨[(14,5)],[.dat (.s 18) .bool],[],[]⟩ .n) .n)
def aWj:SU:=⟨[i6,i6,i6],[.bool],false,false,fun(a:Int×Int×Int)=>some (cK a.1 a.2.1 a.2.2)⟩
theorem dW:OK 9 aWj:=mkS bF4 [.tmp 6] aD func9 ntmps9 (fun a _=>(aV6 a.1 a.2.1 a.2.2).trans) (fun _=>by kernel_rfl)
def R9:SU:=⟨[i6],[.bool],false,false,fun(a:Int)=>some (dG a)⟩
theorem dO:OK 10 R9:=mkS .n [.tmp 2] (gc dW aD) func10 ntmps10 (fun a _=>(M4 a).trans) (fun _=>by kernel_rfl)
def aX6:SU:=⟨[i6,i6],[i6],false,false,fun(a:Int×Int)=>some (iJ a.1 a.2)⟩
theorem wO:OK 100 aX6:=mkS .n [.tmp 4] (gc dW aD) func100 ntmps100 (fun a _=>(aXx a.1 a.2).trans) (fun _=>by kernel_rfl)
def aWk:SU:=⟨[.sl 3],[i6],false,false,fun(a:(List Int))=>gd (a.length≤1099511627776) (some (zR a))⟩
theorem aGg:OK 176 aWk:=mkS (.s .n (.s .n (.s (.j ⟨[(3,18)],[.dat (.s 3) i6],[],[]⟩ (.s .n (.s (.l ⟨[(3,18)],[.dat (.s 3) i6, .nat (.s 4)],[],[]⟩ FUEL .n) .n))) .n))) [.tmp 2] (gc wO aD) func176 ntmps176 (fun(a:(List Int)) _=>aC (aV7 a)) (fun _=>by kernel_rfl)
def aDb:SU:=⟨[i6, .sl 3],[i6],false,false,fun(a:Int×(List Int))=>gd (a.2.length≤34359738368) (some (dH a.1 a.2))⟩
theorem eG:OK 98 aDb:=mkS .n [.tmp 4] (gc aGg aD) func98 ntmps98 (fun a _=>aC (aB9 a.1 a.2)) (fun _=>by kernel_rfl)
def aX7:SU:=⟨[i6,i6],[i6],false,false,fun(a:Int×Int)=>some (aS0 a.1 a.2)⟩
theorem Xv:OK 97 aX7:=mkS .n [.tmp 4] aD func97 ntmps97 (fun a _=>(aXz a.1 a.2).trans) (fun _=>by kernel_rfl)
def aDc:SU:=⟨[i6, .sl 3],[i6],false,false,fun(a:Int×(List Int))=>gd (a.2.length≤34359738300) (some (aY a.1 a.2))⟩
theorem fM:OK 25 aDc:=mkS .n [.tmp 4] (gc eG (gc Xv aD)) func25 ntmps25 (fun a _=>aC (aCb a.1 a.2)) (fun _=>by kernel_rfl)
def S9:SU:=⟨[i6,i6],[.st 47],false,false,fun(a:Int×Int)=>some (dZ a.1 a.2)⟩
theorem T9:OK 12 S9:=mkS .n [.cell 4 47] (gc fM aD) func12 ntmps12 (fun a _=>(Q0 a.1 a.2).trans) (fun _=>by kernel_rfl)
def aDd:SU:=⟨[.st 47],[.st 52],true,false,fun(a:D.aAH)=>some (dR a)⟩
theorem aDe:OK 11 aDd:=mkS .n [.cell 2 52] aD func11 ntmps11 (fun a _=>(aCz a).trans) (fun _=>by kernel_rfl)
def aDf:SU:=⟨[.st 47],[i6],false,false,fun(a:D.aAH)=>some (mH a)⟩
theorem qH:OK 75 aDf:=mkS .n [.tmp 2] (gc fM aD) func75 ntmps75 (fun a _=>(aCf a).trans) (fun _=>by kernel_rfl)
def aDg:SU:=⟨[i6],[i6],false,false,fun(a:Int)=>some (fZ a)⟩
theorem lM:OK 74 aDg:=mkS .n [.tmp 2] (gc dO aD) func74 ntmps74 (fun a _=>(aCd a).trans) (fun _=>by kernel_rfl)
def Ra:SU:=⟨[.st 47],[i6],false,false,fun(a:D.aAH)=>some (dY a)⟩
theorem lV:OK 14 Ra:=mkS .n [.tmp 2] (gc qH (gc lM aD)) func14 ntmps14 (fun a _=>(Qk a).trans) (fun _=>by kernel_rfl)
def aDh:SU:=⟨[.st 109],[i6],false,false,fun(a:D.aAB)=>some (dE a)⟩
theorem qI:OK 71 aDh:=mkS .n [.tmp 2] (gc aGg aD) func71 ntmps71 (fun a _=>(aCo a).trans) (fun _=>by kernel_rfl)
def aNa:SU:=⟨[.sl 109],[i6],false,false,fun(a:(List D.aAB))=>gd (a.length≤34359738368) (some (gP a))⟩
theorem Nv:OK 69 aNa:=mkS .n [.tmp 2] (gc qI aD) func69 ntmps69 (fun(a:(List D.aAB)) _=>aC (aMk a)) (fun _=>by kernel_rfl)
def Xw:SU:=⟨[i6, .sl 3],[i6],false,false,fun(a:Int×(List Int))=>gd (a.2.length≤34359738300) (some (Gb a.1 a.2))⟩
theorem wP:OK 175 Xw:=mkS .n [.tmp 4] (gc dO (gc eG aD)) func175 ntmps175 (fun a _=>aC (Wl a.1 a.2)) (fun _=>by kernel_rfl)
def Rb:SU:=⟨[.st 47, .sl 3],[i6],false,false,fun(a:D.aAH×(List Int))=>gd (a.2.length≤34359738300) (some (kZ a.1 a.2))⟩
theorem Rc:OK 70 Rb:=mkS .n [.tmp 4] (gc qH (gc wP aD)) func70 ntmps70 (fun a _=>aC (Qw a.1 a.2)) (fun _=>by kernel_rfl)
def aNb:SU:=⟨[.sl 109],[.sl 109],true,false,fun(a:(List D.aAB))=>gd (a.length≤34359738368) (some (a))⟩
theorem jJ:OK 72 aNb:=mkS .n [.tmp 2] aD func72 ntmps72 (fun(a:(List D.aAB)) _=>aC (aMa a)) (fun _=>by kernel_rfl)
def aPy:SU:=⟨[.sl 3,i6],[.bool],false,false,fun(a:(List Int)×Int)=>gd (a.1.length≤1099511627776) (some (jP a.1 a.2))⟩
theorem zK:OK 179 aPy:=mkS (.s .n (.s (.jx ⟨[(4,14)],[],[],[]⟩ (.s .n (.s (.l ⟨[(4,14)],[.nat (.s 5)],[],[]⟩ FUEL .n) .n))) .n)) [.tmp 4] aD func179 ntmps179 (fun a _=>aC (aPm a.1 a.2)) (fun _=>by kernel_rfl)
def aDi:SU:=⟨[.sl 109],[.sl 3],true,false,fun(a:(List D.aAB))=>gd (a.length≤34359738368) (some (aJ a))⟩
theorem lN:OK 78 aDi:=mkS (.s .n (.s .n (.s (.j ⟨[(3,5),(1,56)],[.tr (.s 3) 0 3 true],[],[]⟩ (.s .n (.s (.l ⟨[(3,5),(1,56)],[.tr (.s 3) 0 3 true, .nat (.s 4)],[],[]⟩ FUEL (.s .n (.s (.j ⟨[(3,1),(1,3),(7,50)],[.tr (.s 3) 0 3 true],[],[]⟩ (.s (.s .n (.s (.s (.rj 7 ⟨[(20,1),(6,6)],[.dat (.s 20) .bool],[],[]⟩ .n) (.s .n (.s .n (.s (.s .n (.s (.j ⟨[(6,2),(37,19)],[.tr (.s 6) 1 3 true],[],[]⟩ (.s .n (.s (.l ⟨[(6,2),(37,19)],[.tr (.s 6) 1 3 true, .nat (.s 7)],[],[]⟩ FUEL (.s .n (.s (.j ⟨[(6,1),(44,13)],[.tr (.s 6) 1 3 true],[],[]⟩ .n) .n))) .n))) .n)) .n)))) .n)) .n)) .n))) .n))) .n))) [.tmp 2] (gc zK aD) func78 ntmps78 (fun(a:(List D.aAB)) _=>aC (aCg a)) (fun _=>by kernel_rfl)
def aNc:SU:=⟨[i6,i6],[i6],false,false,fun(a:Int×Int)=>nS a.1 a.2⟩
theorem aNd:OK 291 aNc:=mkS bIq [.tmp 4] aD func291 ntmps291 (fun _ _=>id) (fun _=>by kernel_rfl)
def U0:SU:=⟨[i6],[i6],false,false,fun(a:Int)=>some (fQ a)⟩
theorem oI:OK 257 U0:=mkS .n [.tmp 2] (gc dW (gc aNd (gc lM aD))) func257 ntmps257 (fun a _=>(M9 a).trans) (fun _=>by kernel_rfl)
def Et:SU:=⟨[i6, .sl 3,i6],[.bool],false,false,fun(a:Int×(List Int)×Int)=>gd (a.2.1.length≤34359738300) (some (kP a.1 a.2.1 a.2.2))⟩
theorem Eu:OK 256 Et:=mkS bF2 [.tmp 6] (gc oI (gc wP aD)) func256 ntmps256 (fun a _=>aC (Eo a.1 a.2.1 a.2.2)) (fun _=>by kernel_rfl)
def aNe:SU:=⟨[.sl 109, .st 109],[.bool],false,false,fun(a:(List D.aAB)×D.aAB)=>gd (a.1.length≤34359738368) (some (qN a.1 a.2))⟩
theorem aNf:OK 177 aNe:=mkS (.s .n (.s .n (.s (.rj 5 ⟨[(6,1),(7,12)],[.dat (.s 6) .bool],[],[]⟩ .n) (.s (.s (.rj 6 ⟨[(31,22)],[.dat (.s 52) .bool],[],[]⟩ (.r none [(0,true),(1,true),(2,true),(3,true),(4,true),(5,true),(6,true),(7,true),(8,true),(9,false),(10,true),(11,true),(12,true),(13,true),(14,true),(15,true),(16,true),(17,true),(18,true),(19,true),(22,true),(23,true),(20,false),(21,false),(24,false),(25,true),(26,true)])) .n) (.s (.s .n (.s (.s (.rj 5 ⟨[(4,1),(55,5)],[.dat (.s 4) .bool],[],[]⟩ .n) .n) .n)) (.s (.jx ⟨[(4,1),(2,1),(57,22)],[],[],[]⟩ (.s .n (.s (.l ⟨[(4,1),(2,1),(57,22)],[.nat (.s 7)],[],[]⟩ FUEL (.s .n (.s (.s (.s (.rj 7 ⟨[(77,10)],[.dat (.s 86) .bool],[],[]⟩ (.r none (od 16 []))) .n) .n) .n))) .n))) (.s (.rj 4 ⟨[(4,1),(85,12)],[.dat (.s 4) .bool],[],[]⟩ .n) .n))))))) [.tmp 4] (gc lN (gc zK (gc Nv (gc qI (gc Eu aD))))) func177 ntmps177 (fun a _=>aC (aMp a.1 a.2)) (fun _=>by kernel_rfl)
def aDj:SU:=⟨[.sl 109],[.bool],false,false,fun(a:(List D.aAB))=>gd (a.length≤34359738368) (some (cO a))⟩
theorem jK:OK 73 aDj:=mkS (.s .n (.s (.jx ⟨[(2,17)],[],[],[]⟩ (.s .n (.s (.l ⟨[(2,17)],[.nat (.s 3)],[],[]⟩ FUEL (.s .n (.s (.s (.s (.r none (od 9 [7])) .n) .n) .n))) .n))) .n)) [.tmp 2] (gc aNf (gc dW aD)) func73 ntmps73 (fun(a:(List D.aAB)) _=>aC (aCq a)) (fun _=>by kernel_rfl)
def Xx:SU:=⟨[.sl 109,i6,i6, .st 47],[.sl 109, .bool],true,false,fun(a:(List D.aAB)×Int×Int×D.aAH)=>gd (a.1.length≤34359738300) (some (mI a.1 a.2.1 a.2.2.1 a.2.2.2))⟩
theorem Xy:OK 13 Xx:=mkS (.s .n (.s .n (.s (.r (some 6) (od 7 [2,3,4,6])) (.s bFy (.s (.s (.rj 4 ⟨[(35,10)],[.dat (.s 44) .bool],[],[]⟩ .n) .n) .n))))) [.tmp 8, .tmp 9] (gc lV (gc Nv (gc qI (gc Rc (gc jJ (gc jK aD)))))) func13 ntmps13 (fun a _=>aC (Xh a.1 a.2.1 a.2.2.1 a.2.2.2)) (fun _=>by kernel_rfl)
def aHy:SU:=⟨[i6,i6],[i6],false,false,fun(a:Int×Int)=>some (gH a.1 a.2)⟩
theorem aHz:OK 15 aHy:=mkS .n [.tmp 4] (gc fM aD) func15 ntmps15 (fun a _=>(aHp a.1 a.2).trans) (fun _=>by kernel_rfl)
def aNg:SU:=⟨[.sl 109],[i6],false,false,fun(a:(List D.aAB))=>gd (a.length≤34359738368) (some (bC a))⟩
theorem lC:OK 76 aNg:=mkS (.s .n (.s .n (.s (.j ⟨[(3,16)],[.dat (.s 3) i6],[],[]⟩ (.s .n (.s (.l ⟨[(3,16)],[.dat (.s 3) i6, .nat (.s 4)],[],[]⟩ FUEL (.s .n (.s (.j ⟨[(3,1),(7,8)],[.dat (.s 3) i6],[],[]⟩ .n) .n))) .n))) .n))) [.tmp 2] aD func76 ntmps76 (fun(a:(List D.aAB)) _=>aC (aMr a)) (fun _=>by kernel_rfl)
def Nw:SU:=⟨[.sl 5,i6],[.sl 5],true,false,fun(a:(List Int)×Int)=>gd (a.1.length≤34359738300) (some (nP a.1 a.2))⟩
theorem Ny:OK 180 Nw:=mkS (.s .n (.s .n (.s .n (.s (.j ⟨[(1,1),(3,1),(7,11)],[.dat (.s 1) i6, .tr (.s 5) 0 5 true],[],[]⟩ (.s (.l ⟨[(1,1),(3,1),(7,11)],[.dat (.s 1) i6, .tr (.s 5) 0 5 true],[],[]⟩ FUEL .n) .n)) .n)))) [.tmp 4] (gc dW aD) func180 ntmps180 (fun a _=>aC (Nr a.1 a.2)) (fun _=>by kernel_rfl)
def U1:SU:=⟨[.sl 3],[.sl 5],true,false,fun(a:(List Int))=>gd (a.length≤5000000000) (some (kF a))⟩
theorem yX:OK 79 U1:=mkS (.s .n (.s .n (.s (.j ⟨[(3,2),(1,12)],[.tr (.s 3) 0 5 true],[],[]⟩ (.s .n (.s (.l ⟨[(3,2),(1,12)],[.tr (.s 3) 0 5 true, .nat (.s 4)],[],[]⟩ FUEL .n) .n))) .n))) [.tmp 2] (gc Ny aD) func79 ntmps79 (fun(a:(List Int)) _=>aC (O6 a)) (fun _=>by kernel_rfl)
def aPz:SU:=⟨[i6,i6],[i6],false,false,fun(a:Int×Int)=>some (gB a.1 a.2)⟩
theorem Uh:OK 258 aPz:=mkS .n [.tmp 4] (gc fM aD) func258 ntmps258 (fun a _=>(aPu a.1 a.2).trans) (fun _=>by kernel_rfl)
def aNh:SU:=⟨[i6, .sl 5],[.sl 5],true,false,fun(a:Int×(List Int))=>gd (aW a.2) (some (oP a.1 a.2))⟩
theorem Oa:OK 195 aNh:=mkS (.s .n (.s .n (.s (.j ⟨[(5,2),(1,22)],[.tr (.s 5) 0 5 true],[],[]⟩ (.s .n (.s (.l ⟨[(5,2),(1,22)],[.tr (.s 5) 0 5 true, .nat (.s 6)],[],[]⟩ FUEL (.s .n (.s (.s (.r (some 15) (od 17 [8,9,14,15,16])) .n) .n))) .n))) .n))) [.tmp 4] (gc eG aD) func195 ntmps195 (fun a _=>aC (aM1 a.1 a.2)) (fun _=>by kernel_rfl)
def Xz:SU:=⟨[.sl 5],[.sl 3],true,false,fun(a:(List Int))=>gd (a.length≤34359738360) (some (rU a))⟩
theorem mQ:OK 266 Xz:=mkS (.s .n (.s .n (.s (.j ⟨[(3,2),(3,14)],[.tr (.s 3) 0 3 true],[],[]⟩ (.s .n (.s (.l ⟨[(3,2),(3,14)],[.tr (.s 3) 0 3 true, .nat (.s 4)],[],[]⟩ FUEL .n) .n))) .n))) [.tmp 2] aD func266 ntmps266 (fun(a:(List Int)) _=>aC (Wv a)) (fun _=>by kernel_rfl)
def aP0:SU:=⟨[i6, .st 178],[i6],false,false,fun(a:Int×D.Box)=>gd (a.2.Data.length≤34359738200) (some (Pw a.1 a.2))⟩
theorem Ui:OK 259 aP0:=mkS bFl [.tmp 4] (gc mQ (gc eG aD)) func259 ntmps259 (fun a _=>aC (aPv a.1 a.2)) (fun _=>by kernel_rfl)
def aNi:SU:=⟨[i6,i6, .sl 5],[.st 178, .bool],true,false,fun(a:Int×Int×(List Int))=>gd (aW a.2.2) (some (fK a.1 a.2.1 a.2.2))⟩
theorem aNj:OK 178 aNi:=mkS bF1 [.cell 6 178, .tmp 7] (gc oI (gc dO (gc Uh (gc Oa (gc Ui aD))))) func178 ntmps178 (fun a _=>aC (aM3 a.1 a.2.1 a.2.2)) (fun _=>by kernel_rfl)
def aDk:SU:=⟨[.sl 3,i6, .sl 5],[.sl 178, .bool],true,false,fun(a:(List Int)×Int×(List Int))=>gd (a.1.length≤34359738300∧aW a.2.2) (some (gQ a.2.1 a.2.2 0 a.1))⟩
theorem aDl:OK 77 aDk:=mkS (.s .n (.s .n (.s (.jx ⟨[(6,6),(1,25)],[.tr (.s 8) 0 178 true],[],[]⟩ (.s .n (.s (.l ⟨[(6,6),(1,25)],[.tr (.s 8) 0 178 true, .nat (.s 9)],[],[]⟩ FUEL .n) .n))) .n))) [.tmp 6, .tmp 7] (gc aNj aD) func77 ntmps77 (fun a _=>aC (aC1 a.1 a.2.1 a.2.2)) (fun _=>by kernel_rfl)
def Jc:SU:=⟨[.sl 109,i6,i6],[.st 27, .bool],true,false,fun(a:(List D.aAB)×Int×Int)=>gd (a.1.length≤34359738300) (some (dL a.1 a.2.1 a.2.2))⟩
theorem Jd:OK 16 Jc:=mkS (.s .n (.s .n (.s .n (.s (.s (.rj 4 ⟨[(27,9)],[.dat (.s 35) .bool],[],[]⟩ .n) .n) .n)))) [.cell 6 27, .tmp 7] (gc lC (gc lN (gc yX (gc aDl (gc jK (gc dO aD)))))) func16 ntmps16 (fun a _=>aC (Iy a.1 a.2.1 a.2.2)) (fun _=>by kernel_rfl)
def U2:SU:=⟨[.st 27,i6],[i6],false,false,fun(a:D.aAD×Int)=>gd (a.1.Boxes.length≤34359738368) (some (jX a.1 a.2))⟩
theorem U3:OK 181 U2:=mkS (.s .n (.s .n (.s (.j ⟨[(5,19)],[.dat (.s 5) i6],[],[]⟩ (.s .n (.s (.l ⟨[(5,19)],[.dat (.s 5) i6, .nat (.s 6)],[],[]⟩ FUEL (.s .n (.s (.j ⟨[(5,1),(8,10)],[.dat (.s 5) i6],[],[]⟩ .n) .n))) .n))) .n))) [.tmp 4] aD func181 ntmps181 (fun a _=>aC (Q6 a.1 a.2)) (fun _=>by kernel_rfl)
def aDm:SU:=⟨[.st 27, .sl 109],[.bool],false,false,fun(a:D.aAD×(List D.aAB))=>gd (a.1.Boxes.length≤34359738368∧a.2.length≤34359738368) (some (jY a.1 a.2))⟩
theorem aDn:OK 80 aDm:=mkS (.s .n (.s .n (.s (.jx ⟨[(4,1),(1,1),(2,13)],[],[],[]⟩ (.s .n (.s (.l ⟨[(4,1),(1,1),(2,13)],[.nat (.s 6)],[],[]⟩ FUEL (.s .n (.s (.s (.s (.r none (od 7 [5])) .n) .n) .n))) .n))) (.s (.rj 6 ⟨[(4,1),(22,8)],[.dat (.s 4) .bool],[],[]⟩ (.r none (od 14 [3]))) .n)))) [.tmp 4] (gc lN (gc U3 (gc lC aD))) func80 ntmps80 (fun a _=>aC (aC3 a.1 a.2)) (fun _=>by kernel_rfl)
def aNk:SU:=⟨[.st 27],[.st 27],true,false,fun(a:D.aAD)=>gd (a.sz≤34359738368) (some (a))⟩
theorem Oc:OK 81 aNk:=mkS (.s .n (.s .n (.s (.j ⟨[(4,2),(3,27)],[.nt (.c 2 1) 178 true],[],[]⟩ (.s .n (.s (.l ⟨[(4,2),(3,27)],[.nat (.s 4), .nt (.c 2 1) 178 true],[],[]⟩ FUEL .n) .n))) .n))) [.cell 2 27] aD func81 ntmps81 (fun(a:D.aAD) _=>aC (aMd a)) (fun _=>by kernel_rfl)
def aH0:SU:=⟨[.sl 109, .st 27],[.st 30, .bool],true,false,fun(a:(List D.aAB)×D.aAD)=>gd (a.1.length≤34359738368∧a.2.sz≤34359738368) (some (dS a.1 a.2))⟩
theorem aH1:OK 17 aH0:=mkS bFm [.cell 4 30, .tmp 5] (gc jK (gc aDn (gc jJ (gc Oc aD)))) func17 ntmps17 (fun a _=>aC (aHt a.1 a.2)) (fun _=>by kernel_rfl)
def aH2:SU:=⟨[i6],[.str],false,false,fun(a:Int)=>some (aQ a)⟩
theorem aH3:OK 21 aH2:=mkS .n [.tmp 2] aD func21 ntmps21 (fun a _=>(aHg a).trans) (fun _=>by kernel_rfl)
def aH4:SU:=⟨[.str],[.sl 9],true,false,fun(a:ByteArray)=>gd (a.size≤34359738368) (some (bH a))⟩
theorem Hw:OK 185 aH4:=mkS (.s .n (.s .n (.s .n (.s (.j ⟨[(3,3),(1,25)],[.tr (.s 3) 0 9 true],[],[]⟩ (.s .n (.s (.l ⟨[(3,3),(1,25)],[.tr (.s 3) 0 9 true, .dat (.s 4) i6, .dat (.s 5) i6],[],[]⟩ FUEL (.s .n (.s (.j ⟨[(3,2),(8,19)],[.tr (.s 3) 0 9 true, .dat (.s 4) i6],[],[]⟩ (.s (.s (.rj 5 ⟨[(17,6)],[.dat (.s 22) .bool],[],[]⟩ .n) .n) .n)) .n))) .n))) .n)))) [.tmp 2] aD func185 ntmps185 (fun(a:ByteArray) _=>aC (aHi a)) (fun _=>by kernel_rfl)
def aNl:SU:=⟨[.str],[.bool],false,false,fun(a:ByteArray)=>gd (a.size≤34359738368) (some (qX a))⟩
theorem aNm:OK 264 aNl:=mkS (.s .n (.s (.jx ⟨[(2,39)],[],[],[]⟩ (.s .n (.s (.l ⟨[(2,39)],[.nat (.s 3)],[],[]⟩ FUEL (.s .n (.s (.s (.s (.rj 5 ⟨[(4,1),(10,24)],[.dat (.s 4) .bool],[],[]⟩ .n) .n) .n) .n))) .n))) (.s (.rj 4 ⟨[(2,1),(41,13)],[.dat (.s 2) .bool],[],[]⟩ .n) .n))) [.tmp 2] (gc dW aD) func264 ntmps264 (fun(a:ByteArray) _=>aC (aMn a)) (fun _=>by kernel_rfl)
def aP1:SU:=⟨[.str],[.bool],false,false,fun(a:ByteArray)=>gd (a.size≤34359738368) (some (iH a))⟩
theorem aP2:OK 184 aP1:=mkS (.s .n (.s .n (.s (.jx ⟨[(2,1),(1,1),(2,12)],[],[],[]⟩ (.s .n (.s (.l ⟨[(2,1),(1,1),(2,12)],[.nat (.s 4)],[],[]⟩ FUEL .n) .n))) .n))) [.tmp 2] (gc Hw (gc aNm aD)) func184 ntmps184 (fun(a:ByteArray) _=>aC (aPp a)) (fun _=>by kernel_rfl)
def aNn:SU:=⟨[.str,i6],[.st 85],true,false,fun(a:ByteArray×Int)=>gd (a.1.size≤34359738368) (some (eY a.1 a.2))⟩
theorem Od:OK 83 aNn:=mkS (.s .n (.s (.s (.rj 4 ⟨[(8,11)],[.dat (.s 18) .bool],[],[]⟩ .n) .n) .n)) [.cell 4 85] (gc aP2 (gc Hw (gc dO aD))) func83 ntmps83 (fun a _=>aC (aMo a.1 a.2)) (fun _=>by kernel_rfl)
def aNo:SU:=⟨[.st 147],[.st 147],true,false,fun(a:D.aAF)=>gd (a.sz≤34359738368) (some (a))⟩
theorem Oe:OK 260 aNo:=mkS .n [.cell 2 147] aD func260 ntmps260 (fun(a:D.aAF) _=>aC (aMg a)) (fun _=>by kernel_rfl)
def aNp:SU:=⟨[.st 83],[.st 83],true,false,fun(a:D.aAG)=>gd (a.sz≤34359738368) (some (a))⟩
theorem aNq:OK 261 aNp:=mkS .n [.cell 2 83] aD func261 ntmps261 (fun(a:D.aAG) _=>aC (aMh a)) (fun _=>by kernel_rfl)
def aNr:SU:=⟨[.st 85],[.st 85],true,false,fun(a:D.Site)=>gd (a.sz≤34359738368) (some (a))⟩
theorem Og:OK 182 aNr:=mkS (.s .n (.s .n (.s .n (.s (.j ⟨[(4,1),(3,18)],[.tr (.c 2 1) 3 147 true],[],[]⟩ (.s .n (.s (.l ⟨[(4,1),(3,18)],[.nat (.s 4), .tr (.c 2 1) 3 147 true],[],[]⟩ FUEL bF6) .n))) .n)))) [.cell 2 85] (gc Oe (gc aNq aD)) func182 ntmps182 (fun(a:D.Site) _=>aC (aMi a)) (fun _=>by kernel_rfl)
def Je:SU:=⟨[.st 147],[.bool],false,false,fun(a:D.aAF)=>gd (a.sz≤34359738368) (some (bP a))⟩
theorem pR:OK 262 Je:=mkS (.s .n (.s (.jx ⟨[(2,62)],[],[],[]⟩ (.s .n (.s (.l ⟨[(2,62)],[.nat (.s 3)],[],[]⟩ FUEL (.s .n (.s (.jx ⟨[(2,1),(1,2),(7,51)],[],[],[]⟩ (.s (.s .n (.s (.s (.rj 5 ⟨[(22,28)],[.dat (.s 49) .bool],[],[]⟩ (.r none (od 32 [2,23,29]))) .n) (.s .n (.s (.l ⟨[(2,1),(2,1),(44,14)],[.nat (.s 5)],[],[]⟩ FUEL (.s .n (.s (.s (.s (.r none (od 9 [])) .n) .n) .n))) .n)))) .n)) .n))) .n))) (.s (.rj 4 ⟨[(2,1),(64,11)],[.dat (.s 2) .bool],[],[]⟩ .n) .n))) [.tmp 2] (gc dW (gc oI aD)) func262 ntmps262 (fun(a:D.aAF) _=>aC (Iq a)) (fun _=>by kernel_rfl)
def Ya:SU:=⟨[.st 83],[.bool],false,false,fun(a:D.aAG)=>gd (a.sz≤34359738368) (some (nM a))⟩
theorem Yc:OK 263 Ya:=mkS (.s .n (.s (.jx ⟨[(2,50)],[],[],[]⟩ (.s .n (.s (.l ⟨[(2,50)],[.nat (.s 3)],[],[]⟩ FUEL (.s .n (.s (.s (.s .n (.s (.rj 8 ⟨[(24,28)],[.dat (.s 51) .bool],[],[]⟩ (.r none (od 35 [5,26,32]))) .n)) .n) .n))) .n))) (.s (.rj 4 ⟨[(2,1),(52,6)],[.dat (.s 2) .bool],[],[]⟩ .n) .n))) [.tmp 2] (gc dW aD) func263 ntmps263 (fun(a:D.aAG) _=>aC (Wn a)) (fun _=>by kernel_rfl)
def Yd:SU:=⟨[.st 85],[.bool],false,false,fun(a:D.Site)=>gd (a.sz≤34359738368) (some (fP a))⟩
theorem wQ:OK 183 Yd:=mkS (.s .n (.s (.jx ⟨[(2,36)],[],[],[]⟩ (.s .n (.s (.l ⟨[(2,36)],[.nat (.s 3)],[],[]⟩ FUEL (.s .n (.s (.s (.s (.rj 8 ⟨[(18,20)],[.dat (.s 37) .bool],[],[]⟩ (.r none (od 27 [5]))) .n) .n) .n))) .n))) (.s (.rj 9 ⟨[(2,1),(43,11)],[.dat (.s 2) .bool],[],[]⟩ .n) .n))) [.tmp 2] (gc pR (gc Od (gc Yc aD))) func183 ntmps183 (fun(a:D.Site) _=>aC (Wt a)) (fun _=>by kernel_rfl)
def Ye:SU:=⟨[.st 85,i6,i6],[.st 85, .bool],false,false,fun(a:D.Site×Int×Int)=>gd (a.1.sz≤34359738300) (some (iP a.1 a.2.1 a.2.2))⟩
theorem Yf:OK 82 Ye:=mkS bIo [.cell 6 85, .tmp 7] (gcp Og (gc wQ aD)) func82 ntmps82 (fun a _=>aC (Xt a.1 a.2.1 a.2.2)) (fun _=>by kernel_rfl)
def Cx:SU:=⟨[i6, .str],[i6],false,false,fun(a:Int×ByteArray)=>gd (a.2.size≤34359738300) (some (nK a.1 a.2))⟩
theorem Cy:OK 193 Cx:=mkS .n [.tmp 4] (gc mQ (gc eG (gc Xv (gc (bFe 1000068) aD)))) func193 ntmps193 (fun a _=>aC (Cu a.1 a.2)) (fun _=>by kernel_rfl)
def aH5:SU:=⟨[.str],[i6],false,false,fun(a:ByteArray)=>gd (a.size≤34359738300) (some (fI a))⟩
theorem Hy:OK 89 aH5:=mkS .n [.tmp 2] (gc Cy aD) func89 ntmps89 (fun(a:ByteArray) _=>aC (aHk a)) (fun _=>by kernel_rfl)
def Yg:SU:=⟨[.st 47, .str,i6],[i6],false,false,fun(a:D.aAH×ByteArray×Int)=>gd (a.2.1.size≤34359738300) (some (qD a.1 a.2.1 a.2.2))⟩
theorem Yh:OK 188 Yg:=mkS bFx [.tmp 6] (gc Hy (gc fM aD)) func188 ntmps188 (fun a _=>aC (Xf a.1 a.2.1 a.2.2)) (fun _=>by kernel_rfl)
def U4:SU:=⟨[.st 47, .str,i6],[i6],false,false,fun(a:D.aAH×ByteArray×Int)=>gd (a.2.1.size≤34359738300) (some (kG a.1 a.2.1 a.2.2))⟩
theorem U5:OK 85 U4:=mkS .n [.tmp 6] (gc Yh (gc lM aD)) func85 ntmps85 (fun a _=>aC (Q4 a.1 a.2.1 a.2.2)) (fun _=>by kernel_rfl)
def Yi:SU:=⟨[.st 85,i6],[i6],false,false,fun(a:D.Site×Int)=>gd (a.1.Accounts.length≤34359738368) (some (bE a.1 a.2))⟩
theorem Yj:OK 186 Yi:=mkS (.s .n (.s (.jx ⟨[(4,18)],[],[],[]⟩ (.s .n (.s (.l ⟨[(4,18)],[.nat (.s 5)],[],[]⟩ FUEL .n) .n))) .n)) [.tmp 4] aD func186 ntmps186 (fun a _=>aC (Xj a.1 a.2)) (fun _=>by kernel_rfl)
def Oh:SU:=⟨[.st 147,i6,i6],[.st 147, .bool],true,false,fun(a:D.aAF×Int×Int)=>gd (a.1.sz≤34359738300) (some (gD a.1 a.2.1 a.2.2))⟩
theorem Oi:OK 187 Oh:=mkS bIo [.cell 6 147, .tmp 7] (gc Oe (gc pR aD)) func187 ntmps187 (fun a _=>aC (Nt a.1 a.2.1 a.2.2)) (fun _=>by kernel_rfl)
def Yk:SU:=⟨[.st 85,i6,i6,i6],[.st 85, .bool],true,false,fun(a:D.Site×Int×Int×Int)=>gd (a.1.sz≤34359738300) (some (jZ a.1 a.2.1 a.2.2.1 a.2.2.2))⟩
theorem Yl:OK 84 Yk:=mkS bF0 [.cell 8 85, .tmp 9] (gc Og (gc Yj (gc wQ (gc Oi aD)))) func84 ntmps84 (fun a _=>aC (Xl a.1 a.2.1 a.2.2.1 a.2.2.2)) (fun _=>by kernel_rfl)
def aNs:SU:=⟨[.st 50],[.st 50],true,false,fun(a:D.aAC)=>gd (a.sz≤34359738368) (some (a))⟩
theorem lD:OK 189 aNs:=mkS .n [.cell 2 50] aD func189 ntmps189 (fun(a:D.aAC) _=>aC (aL9 a)) (fun _=>by kernel_rfl)
def aNt:SU:=⟨[.st 52],[.st 52],true,false,fun(a:D.Device)=>gd (a.sz≤34359738368) (some (a))⟩
theorem oJ:OK 86 aNt:=mkS .n [.cell 2 52] (gc jJ (gc lD aD)) func86 ntmps86 (fun(a:D.Device) _=>aC (aMc a)) (fun _=>by kernel_rfl)
def U6:SU:=⟨[.sl 109, .sl 109],[.bool],false,false,fun(a:(List D.aAB)×(List D.aAB))=>gd (a.1.length≤34359738368) (some (fJ a.1 a.2))⟩
theorem yY:OK 87 U6:=mkS bEx [.tmp 4] aD func87 ntmps87 (fun a _=>aC (O1 a.1 a.2)) (fun _=>by kernel_rfl)
def U7:SU:=⟨[.st 52, .sl 109,i6],[.st 52, .bool],true,false,fun(a:D.Device×(List D.aAB)×Int)=>gd (a.1.sz≤34359738368∧a.2.1.length≤34359738368) (some (qE a.1 a.2.1 a.2.2))⟩
theorem U8:OK 19 U7:=mkS bIn [.cell 6 52, .tmp 7] (gc oJ (gc jK (gc yY (gc lC (gc dO (gc jJ aD)))))) func19 ntmps19 (fun a _=>aC (Q8 a.1 a.2.1 a.2.2)) (fun _=>by kernel_rfl)
def aDo:SU:=⟨[.st 50,i6,i6],[i6],false,false,fun(a:D.aAC×Int×Int)=>gd (a.1.sz≤34359738368) (some (aH a.1 a.2.1 a.2.2))⟩
theorem lQ:OK 190 aDo:=mkS (.s .n (.s (.jx ⟨[(6,28)],[],[],[]⟩ (.s .n (.s (.l ⟨[(6,28)],[.nat (.s 7)],[],[]⟩ FUEL (.s .n (.s (.s (.s (.rj 9 ⟨[(23,10)],[.dat (.s 32) .bool],[],[]⟩ .n) .n) .n) .n))) .n))) .n)) [.tmp 6] aD func190 ntmps190 (fun a _=>aC (aCi a.1 a.2.1 a.2.2)) (fun _=>by kernel_rfl)
def aNu:SU:=⟨[.st 187,i6,i6],[.bool],false,false,fun(a:D.Entry×Int×Int)=>some (iE a.1 a.2.1 a.2.2)⟩
theorem Oj:OK 265 aNu:=mkS (.s .n (.s (.rj 5 ⟨[(6,1),(4,12)],[.dat (.s 6) .bool],[],[]⟩ .n) .n)) [.tmp 6] aD func265 ntmps265 (fun a _=>(aL8 a.1 a.2.1 a.2.2).trans) (fun _=>by kernel_rfl)
def aP3:SU:=⟨[.st 50, .st 187],[.st 50],true,false,fun(a:D.aAC×D.Entry)=>gd (a.1.sz≤34359738360) (some (nN a.1 a.2))⟩
theorem zL:OK 191 aP3:=mkS (.s .n (.s .n (.s .n (.s .n (.s (.j ⟨[(7,1),(16,19)],[.dat (.s 7) i6],[],[]⟩ (.s (.l ⟨[(7,1),(16,19)],[.dat (.s 7) i6],[],[]⟩ FUEL (.s (.s (.rj 6 ⟨[(29,12)],[.dat (.s 40) .bool],[],[]⟩ (.r none (od 17 [15]))) .n) .n)) .n)) (.s bFj .n)))))) [.cell 4 50] (gc lD (gc lQ (gc Oj aD))) func191 ntmps191 (fun a _=>aC (aPn a.1 a.2)) (fun _=>by kernel_rfl)
def aH6:SU:=⟨[.st 50],[.bool],false,false,fun(a:D.aAC)=>gd (a.sz≤34359738368) (some (aI a))⟩
theorem iL:OK 192 aH6:=mkS (.s .n (.s (.jx ⟨[(2,49)],[],[],[]⟩ (.s .n (.s (.l ⟨[(2,49)],[.nat (.s 3)],[],[]⟩ FUEL (.s .n (.s (.s (.s .n (.s (.rj 5 ⟨[(21,30)],[.dat (.s 50) .bool],[],[]⟩ (.r none (od 34 [2,7,13,30]))) .n)) .n) .n))) .n))) .n)) [.tmp 2] (gc dW (gc Oj aD)) func192 ntmps192 (fun(a:D.aAC) _=>aC (aHa a)) (fun _=>by kernel_rfl)
def aH7:SU:=⟨[.st 50,i6,i6],[.st 50, .bool],true,false,fun(a:D.aAC×Int×Int)=>gd (a.1.sz≤34359738360) (some (aBf a.1 a.2.1 a.2.2))⟩
theorem aH8:OK 88 aH7:=mkS (.s .n (.s .n (.s (.jx ⟨[(7,1),(1,1),(4,23)],[.dat (.c 2 2) i6],[],[]⟩ .n) (.s .n (.s (.s (.rj 4 ⟨[(43,5)],[.dat (.s 47) .bool],[],[]⟩ .n) .n) .n))))) [.cell 6 50, .tmp 7] (gc lQ (gc lD (gc zL (gc iL aD)))) func88 ntmps88 (fun a _=>aC (aHm a.1 a.2.1 a.2.2)) (fun _=>by kernel_rfl)
def Ym:SU:=⟨[.st 50,i6,i6],[.st 50, .bool],true,false,fun(a:D.aAC×Int×Int)=>gd (a.1.sz≤34359738360) (some (aBg a.1 a.2.1 a.2.2))⟩
theorem Yo:OK 90 Ym:=mkS (.s .n (.s .n (.s (.s (.rj 4 ⟨[(16,21)],[.dat (.s 36) .bool],[],[]⟩ .n) .n) (.s (.r (some 12) (od 14 [11,12,13])) .n)))) [.cell 6 50, .tmp 7] (gc lQ (gc iL (gc lD (gc zL aD)))) func90 ntmps90 (fun a _=>aC (Wx a.1 a.2.1 a.2.2)) (fun _=>by kernel_rfl)
def Re:SU:=⟨[.st 52, .str,i6, .bool],[.st 52, .bool],true,false,fun(a:D.Device×ByteArray×Int×Bool)=>gd (a.1.sz≤34359738360∧a.2.1.size≤34359738300) (some (jD a.1 a.2.1 a.2.2.1 a.2.2.2))⟩
theorem Rf:OK 20 Re:=mkS (.s .n (.s .n (.s bFp (.s bIp (.s (.j ⟨[(34,3)],[.nt (.c 4 8) 187 true],[],[3,5]⟩ .n) .n))))) [.cell 8 52, .tmp 9] (gc oJ (gc Hy (gc aH8 (gc Yo aD)))) func20 ntmps20 (fun a _=>aC (Qo a.1 a.2.1 a.2.2.1 a.2.2.2)) (fun _=>by kernel_rfl)
def aH9:SU:=⟨[i6,i6,i6],[.bool],false,false,fun(a:Int×Int×Int)=>some (dG a.1&&(cK a.2.1 0 1000000&&cK a.2.2 0 1000000))⟩
theorem Hz:OK 194 aH9:=mkS (.s .n (.s (.rj 3 ⟨[(6,1),(2,8)],[.dat (.s 6) .bool],[],[]⟩ .n) .n)) [.tmp 6] (gc dO (gc dW aD)) func194 ntmps194 (fun a _=>(aHo a.1 a.2.1 a.2.2).trans) (fun _=>by kernel_rfl)
def aP4:SU:=⟨[i6,i6,i6],[i6],false,false,fun(a:Int×Int×Int)=>some (kY a.1 a.2.1 a.2.2)⟩
theorem Uj:OK 196 aP4:=mkS .n [.tmp 6] (gc fM aD) func196 ntmps196 (fun a _=>(aPx a.1 a.2.1 a.2.2).trans) (fun _=>by kernel_rfl)
def Rh:SU:=⟨[.st 50],[.sl 5],true,false,fun(a:D.aAC)=>gd (a.sz≤34359738368) (some (oO a))⟩
theorem tF:OK 197 Rh:=mkS (.s .n (.s .n (.s .n (.s (.j ⟨[(3,3),(8,35)],[.tr (.s 3) 1 3 true],[],[]⟩ (.s .n (.s (.l ⟨[(3,3),(8,35)],[.tr (.s 3) 1 3 true, .nat (.s 4)],[],[]⟩ FUEL (.s .n (.s (.j ⟨[(3,1),(1,1),(15,28)],[.tr (.s 3) 1 3 true],[],[]⟩ (.s (.s .n (.s (.j ⟨[(5,1),(15,6)],[.dat (.s 5) i6],[],[]⟩ .n) (.r (some 21) (od 23 [20,21,22])))) .n)) .n))) .n))) .n)))) [.tmp 2] (gc iL (gc yX aD)) func197 ntmps197 (fun(a:D.aAC) _=>aC (Qq a)) (fun _=>by kernel_rfl)
def aDp:SU:=⟨[i6, .st 70],[i6],false,false,fun(a:Int×D.aAA)=>gd (a.2.Data.length≤34359738200) (some (iF a.1 a.2))⟩
theorem Cz:OK 198 aDp:=mkS bFl [.tmp 4] (gc mQ (gc eG aD)) func198 ntmps198 (fun a _=>aC (aCu a.1 a.2)) (fun _=>by kernel_rfl)
def U9:SU:=⟨[i6,i6,i6, .st 50],[.st 70, .bool],true,false,fun(a:Int×Int×Int×D.aAC)=>gd (a.2.2.2.sz≤34359738368) (some (rA a.1 a.2.1 a.2.2.1 a.2.2.2))⟩
theorem V3:OK 91 U9:=mkS (.s .n (.s (.s (.rj 6 ⟨[(16,5)],[.dat (.s 20) .bool],[],[]⟩ .n) .n) (.s (.y false (some 10) (some 11) [(0,true),(1,true),(2,true),(3,true),(4,true),(6,true),(5,false),(7,false),(8,false),(9,true),(10,false),(11,false)]) .n))) [.cell 8 70, .tmp 9] (gc Hz (gc iL (gc Uj (gc tF (gc Oa (gc Cz aD)))))) func91 ntmps91 (fun a _=>aC (P9 a.1 a.2.1 a.2.2.1 a.2.2.2)) (fun _=>by kernel_rfl)
def Yp:SU:=⟨[.st 52],[.st 52, .st 70, .bool],true,false,fun(a:D.Device)=>gd (a.sz≤34359738368) (some (mP a))⟩
theorem Yq:OK 22 Yp:=mkS bF3 [.cell 2 52, .cell 3 70, .tmp 4] (gc oJ (gc V3 aD)) func22 ntmps22 (fun(a:D.Device) _=>aC (Xe a)) (fun _=>by kernel_rfl)
def aNv:SU:=⟨[.st 70],[.st 70],true,false,fun(a:D.aAA)=>gd (a.sz≤34359738368) (some (a))⟩
theorem wR:OK 94 aNv:=mkS .n [.cell 2 70] aD func94 ntmps94 (fun(a:D.aAA) _=>aC (aMe a)) (fun _=>by kernel_rfl)
def aNw:SU:=⟨[.st 30],[.st 30],true,false,fun(a:D.aAJ)=>gd (a.sz≤34359738368) (some (a))⟩
theorem aNx:OK 92 aNw:=mkS (.s .n (.s bFw (.s (.j ⟨[(4,1),(7,18)],[.nt (.c 4 3) 70 true],[],[]⟩ (.s .n (.s (.l ⟨[(4,1),(7,18)],[.nat (.s 4), .nt (.c 4 3) 70 true],[],[]⟩ FUEL bF6) .n))) .n))) [.cell 2 30] (gc jJ (gc Oc (gc wR aD))) func92 ntmps92 (fun(a:D.aAJ) _=>aC (aMf a)) (fun _=>by kernel_rfl)
def aDq:SU:=⟨[.st 70, .st 70],[.bool],false,false,fun(a:D.aAA×D.aAA)=>some (rV a.1 a.2)⟩
theorem aDr:OK 93 aDq:=mkS bDj [.tmp 4] aD func93 ntmps93 (fun a _=>(aCy a.1 a.2).trans) (fun _=>by kernel_rfl)
def Ri:SU:=⟨[.st 30, .st 70],[.st 30, .bool],true,false,fun(a:D.aAJ×D.aAA)=>gd (a.1.sz≤34359738300∧a.2.sz≤34359738300) (some (gJ a.1 a.2))⟩
theorem Rj:OK 23 Ri:=mkS bFq [.cell 4 30, .tmp 5] (gc aNx (gc lC (gc aDr (gc wR aD)))) func23 ntmps23 (fun a _=>aC (Qv a.1 a.2)) (fun _=>by kernel_rfl)
def Yr:SU:=⟨[.st 30,i6],[.st 70, .bool],true,false,fun(a:D.aAJ×Int)=>gd (a.1.sz≤34359738368) (some (qB a.1 a.2))⟩
theorem Yt:OK 95 Yr:=mkS .n [.cell 4 70, .tmp 5] (gc dW (gc wR aD)) func95 ntmps95 (fun a _=>aC (Wz a.1 a.2)) (fun _=>by kernel_rfl)
def aNy:SU:=⟨[i6, .sl 5],[.sl 5],true,false,fun(a:Int×(List Int))=>gd (a.2.length≤34359738368) (some (aBd a.1 a.2))⟩
theorem Ol:OK 270 aNy:=mkS (.s .n (.s .n (.s (.j ⟨[(5,2),(1,22)],[.tr (.s 5) 0 5 true],[],[]⟩ (.s .n (.s (.l ⟨[(5,2),(1,22)],[.tr (.s 5) 0 5 true, .nat (.s 6)],[],[]⟩ FUEL (.s .n (.s (.s (.r (some 15) (od 17 [8,9,12,14,15,16])) .n) .n))) .n))) .n))) [.tmp 4] (gc eG (gc wO aD)) func270 ntmps270 (fun a _=>aC (aMt a.1 a.2)) (fun _=>by kernel_rfl)
def aNz:SU:=⟨[i6, .st 178],[.sl 5, .bool],true,false,fun(a:Int×D.Box)=>some (gL a.1 a.2)⟩
theorem aN0:OK 292 aNz:=mkS bFv [.tmp 4, .tmp 5] (gc dO (gc lM (gc Uh (gc Ui (gc Ol aD))))) func292 ntmps292 (fun a _=>(aMv a.1 a.2).trans) (fun _=>by kernel_rfl)
def aN1:SU:=⟨[.sl 178,i6],[.sl 5, .bool],true,false,fun(a:(List D.Box)×Int)=>gd (a.1.length≤34359738368) (some (gX a.1 a.2))⟩
theorem aN2:OK 267 aN1:=mkS (.s .n (.s (.jx ⟨[(4,22)],[],[],[]⟩ (.s .n (.s (.l ⟨[(4,22)],[.nat (.s 6)],[],[]⟩ FUEL .n) .n))) .n)) [.tmp 4, .tmp 5] (gc aN0 aD) func267 ntmps267 (fun a _=>aC (aMw a.1 a.2)) (fun _=>by kernel_rfl)
def Yu:SU:=⟨[.sl 5,i6],[i6,i6, .bool],false,false,fun(a:(List Int)×Int)=>gd (aW a.1) (some (xB a.1 a.2))⟩
theorem wT:OK 293 Yu:=mkS (.s .n (.s .n (.s (.jx ⟨[(4,51)],[],[],[]⟩ (.s .n (.s (.l ⟨[(4,51)],[.dat (.s 7) i6, .nat (.s 8)],[],[]⟩ FUEL (.s .n (.s (.s (.s (.s (.rj 3 ⟨[(16,8)],[.dat (.s 23) .bool],[],[]⟩ .n) .n) (.s .n (.s .n (.s .n (.s (.s (.s (.rj 3 ⟨[(42,8)],[.dat (.s 49) .bool],[],[]⟩ .n) .n) .n) .n))))) .n) .n))) .n))) .n))) [.tmp 4, .tmp 5, .tmp 6] aD func293 ntmps293 (fun a _=>aC (Xb a.1 a.2)) (fun _=>by kernel_rfl)
def V4:SU:=⟨[.sl 5,i6,i6],[.sl 3,i6, .bool],true,false,fun(a:(List Int)×Int×Int)=>gd (aW a.1) (some (iG a.1 a.2.1 a.2.2))⟩
theorem yZ:OK 268 V4:=mkS (.s .n (.s .n (.s (.s (.rj 4 ⟨[(18,7)],[.dat (.s 24) .bool],[],[]⟩ .n) .n) (.s (.jx ⟨[(1,1),(4,8),(12,20)],[.dat (.s 1) i6, .tr (.s 9) 0 3 true],[],[]⟩ (.s .n (.s (.l ⟨[(1,1),(4,8),(12,20)],[.dat (.s 1) i6, .tr (.s 9) 0 3 true, .nat (.s 10)],[],[]⟩ FUEL .n) .n))) .n)))) [.tmp 6, .tmp 7, .tmp 8] (gc dW (gc wT aD)) func268 ntmps268 (fun a _=>aC (O5 a.1 a.2.1 a.2.2)) (fun _=>by kernel_rfl)
def Jf:SU:=⟨[.st 47, .st 27],[i6, .bool],false,false,fun(a:D.aAH×D.aAD)=>gd (a.2.sz≤34359738368) (some (dD a.1 a.2))⟩
theorem Jg:OK 199 Jf:=mkS (.s .n (.s (.r none (od 10 [3,4])) (.s .n (.s (.s (.rj 3 ⟨[(27,25)],[.dat (.s 51) .bool],[],[]⟩ (.r none (od 27 [24]))) .n) .n)))) [.tmp 4, .tmp 5] (gc qH (gc aN2 (gc yZ (gc dO aD)))) func199 ntmps199 (fun a _=>aC (Iu a.1 a.2)) (fun _=>by kernel_rfl)
def V5:SU:=⟨[.sl 5, .sl 5],[.bool],false,false,fun(a:(List Int)×(List Int))=>gd (aW a.1∧aW a.2) (some ((a.1==a.2)))⟩
theorem V6:OK 294 V5:=mkS .n [.tmp 4] aD func294 ntmps294 (fun a _=>aC (O7 a.1 a.2)) (fun _=>by kernel_rfl)
def Rk:SU:=⟨[.sl 5],[.st 50, .bool],true,false,fun(a:(List Int))=>gd (aW a) (some (Kw a))⟩
theorem Rl:OK 269 Rk:=mkS (.s .n (.s .n (.s (.s (.rj 3 ⟨[(21,4)],[.dat (.s 24) .bool],[],[]⟩ .n) .n) (.s .n (.s (.jx ⟨[(3,1),(1,1),(2,5),(14,40)],[.nt (.c 1 0) 187 true],[],[]⟩ (.s .n (.s (.l ⟨[(3,1),(1,1),(2,5),(14,40)],[.dat (.s 5) i6, .nat (.s 8), .nt (.c 1 0) 187 true],[],[]⟩ FUEL .n) .n))) (.s (.s (.rj 4 ⟨[(70,7)],[.dat (.s 76) .bool],[],[]⟩ .n) .n) .n)))))) [.cell 2 50, .tmp 3] (gc wT (gc yZ (gc iL (gc tF (gc V6 aD))))) func269 ntmps269 (fun(a:(List Int)) _=>aC (Qs a)) (fun _=>by kernel_rfl)
def V7:SU:=⟨[i6, .st 70],[.st 50, .bool],true,false,fun(a:Int×D.aAA)=>gd (a.2.Data.length≤34359738200) (some (kN a.1 a.2))⟩
theorem V8:OK 200 V7:=mkS (.s .n (.s (.s (.rj 8 ⟨[(13,8)],[.dat (.s 20) .bool],[],[]⟩ (.r none (od 15 [5,12]))) .n) (.s (.r (some 12) [(0,true),(1,true),(2,true),(3,true),(4,true),(6,true),(7,true),(5,false),(8,false),(9,false),(10,true),(11,true),(12,false),(13,false)]) .n))) [.cell 4 50, .tmp 5] (gc Hz (gc Cz (gc Uj (gc Ol (gc Rl aD))))) func200 ntmps200 (fun a _=>aC (O9 a.1 a.2)) (fun _=>by kernel_rfl)
def Rm:SU:=⟨[.st 50, .st 50],[.st 50, .bool],true,false,fun(a:D.aAC×D.aAC)=>gd (a.1.sz≤34359738368∧a.2.sz≤34359738368) (some (kX a.1 a.2))⟩
theorem Rn:OK 201 Rm:=mkS (.s .n (.s (.s (.rj 4 ⟨[(13,5)],[.dat (.s 17) .bool],[],[]⟩ .n) .n) (.s .n (.s (.j ⟨[(7,3),(12,49)],[.tr (.c 4 0) 3 187 true],[],[]⟩ (.s .n (.s (.l ⟨[(7,3),(12,49)],[.nat (.s 7), .tr (.c 4 0) 3 187 true],[],[]⟩ FUEL (.s .n (.s (.j ⟨[(8,2),(19,42)],[.tr (.c 4 0) 3 187 true],[],[]⟩ (.s (.s .n (.s .n (.s (.rj 3 ⟨[(42,26)],[.dat (.s 67) .bool],[],[]⟩ (.r none (od 28 []))) .n))) .n)) .n))) .n))) .n)))) [.cell 4 50, .tmp 5] (gc iL (gc lD (gc lQ (gc zL aD)))) func201 ntmps201 (fun a _=>aC (Qm a.1 a.2)) (fun _=>by kernel_rfl)
def V9:SU:=⟨[.st 52, .sl 109, .st 27, .st 70],[.st 52,i6],true,false,fun(a:D.Device×(List D.aAB)×D.aAD×D.aAA)=>gd (a.1.sz≤34359738368∧a.2.1.length≤34359738368∧a.2.2.1.sz≤34359738368∧a.2.2.2.Data.length≤34359738200) (some (eP a.1 a.2.1 a.2.2.1 a.2.2.2))⟩
theorem W9:OK 96 V9:=mkS (.s .n (.s .n (.s .n (.s (.s (.rj 4 ⟨[(25,7)],[.dat (.s 31) .bool],[],[]⟩ .n) .n) (.s bFz (.s .n (.s bF8 (.s bF7 (.s .n (.s .n (.s (.s (.rj 3 ⟨[(98,4)],[.dat (.s 101) .bool],[],[]⟩ .n) .n) bFo))))))))))) [.cell 8 52, .tmp 9] (gc oJ (gc lC (gc jK (gc yY (gc lN (gc lV (gc zK (gc Jg (gc V8 (gc Rn (gc jJ aD))))))))))) func96 ntmps96 (fun a _=>aC (P6 a.1 a.2.1 a.2.2.1 a.2.2.2)) (fun _=>by kernel_rfl)
def aN3:SU:=⟨[.st 52, .st 30,i6],[.st 52,i6],true,false,fun(a:D.Device×D.aAJ×Int)=>gd (a.1.sz≤34359738100∧a.2.1.sz≤34359738100) (some (eP a.1 a.2.1.Log a.2.1.Boxes (qB a.2.1 a.2.2).1))⟩
theorem aN4:OK 24 aN3:=mkS .n [.cell 6 52, .tmp 7] (gc Yt (gc W9 aD)) func24 ntmps24 (fun a _=>aC (aMz a.1 a.2.1 a.2.2)) (fun _=>by kernel_rfl)
def aTt:SU:=⟨[i6],[i6],false,false,fun(a:Int)=>some (iJ a 1019)⟩
theorem aTu:OK 271 aTt:=mkS .n [.tmp 2] (gc wO aD) func271 ntmps271 (fun a _=>(aTp a).trans) (fun _=>by kernel_rfl)
def aP5:SU:=⟨[i6, .sl 3,i6],[i6],false,false,fun(a:Int×(List Int)×Int)=>gd (0≤a.2.2∧a.2.2≤1000∧a.2.1.length≤34359738368) (some (xH a.1 a.2.1 a.2.2))⟩
theorem aP6:OK 202 aP5:=mkS bFr [.tmp 6] (gc aTu aD) func202 ntmps202 (fun a _=>aC (aPs a.1 a.2.1 a.2.2)) (fun _=>by kernel_rfl)
def Yv:SU:=⟨[i6, .sl 3,i6],[.sl 136],true,false,fun(a:Int×(List Int)×Int)=>gd (a.2.1.length≤34359738368) (some (lU a.1 a.2.1 a.2.2))⟩
theorem Yw:OK 99 Yv:=mkS (.s .n (.s .n (.s (.s (.rj 4 ⟨[(13,6)],[.dat (.s 18) .bool],[],[]⟩ .n) .n) (.s (.j ⟨[(7,2),(11,14)],[.tr (.s 7) 0 136 true],[],[]⟩ (.s .n (.s (.l ⟨[(7,2),(11,14)],[.tr (.s 7) 0 136 true, .dat (.s 8) i6],[],[]⟩ FUEL .n) .n))) .n)))) [.tmp 6] (gc dW (gc aP6 aD)) func99 ntmps99 (fun a _=>aC (Xq a.1 a.2.1 a.2.2)) (fun _=>by kernel_rfl)
def aTv:SU:=⟨[i6,i6],[i6],false,false,fun(a:Int×Int)=>nU a.1 a.2⟩
theorem X3:OK 273 aTv:=mkS bIq [.tmp 4] aD func273 ntmps273 (fun _ _=>id) (fun _=>by kernel_rfl)
def Jh:SU:=⟨[i6],[.bool],false,false,fun(a:Int)=>some (aGt a)⟩
theorem Ji:OK 272 Jh:=mkS bF5 [.tmp 2] (gc dW (gc X3 aD)) func272 ntmps272 (fun a _=>(Ja a).trans) (fun _=>by kernel_rfl)
def aIa:SU:=⟨[i6,i6],[i6],false,false,fun(a:Int×Int)=>some (rW a.1 a.2)⟩
theorem Ia:OK 203 aIa:=mkS .n [.tmp 4] (gc Ji (gc wO (gc X3 aD))) func203 ntmps203 (fun a _=>(aHr a.1 a.2).trans) (fun _=>by kernel_rfl)
def Yx:SU:=⟨[i6,i6],[i6],false,false,fun(a:Int×Int)=>some (Ed a.1 a.2)⟩
theorem Yy:OK 204 Yx:=mkS .n [.tmp 4] (gc eG (gc Ia aD)) func204 ntmps204 (fun a _=>(Xn a.1 a.2).trans) (fun _=>by kernel_rfl)
def Ro:SU:=⟨[i6,i6,i6],[i6],false,false,fun(a:Int×Int×Int)=>some (qO a.1 a.2.1 a.2.2)⟩
theorem Rp:OK 102 Ro:=mkS .n [.tmp 6] (gc Yy (gc Ia aD)) func102 ntmps102 (fun a _=>(Qy a.1 a.2.1 a.2.2).trans) (fun _=>by kernel_rfl)
def aDs:SU:=⟨[i6,i6],[i6],false,false,fun(a:Int×Int)=>some (nQ a.1 a.2)⟩
theorem aDt:OK 101 aDs:=mkS .n [.tmp 4] (gc eG (gc Xv aD)) func101 ntmps101 (fun a _=>(aC5 a.1 a.2).trans) (fun _=>by kernel_rfl)
def aN5:SU:=⟨[.st 138],[i6],false,false,fun(a:D.aAL)=>some (Kn a)⟩
theorem aN6:OK 205 aN5:=mkS .n [.tmp 2] aD func205 ntmps205 (fun a _=>(aMq a).trans) (fun _=>by kernel_rfl)
def aDu:SU:=⟨[.st 138],[.st 141],true,false,fun(a:D.aAL)=>some (xJ a)⟩
theorem aDv:OK 103 aDu:=mkS (.s .n (.s (.r (some 4) (od 5 [2,4])) .n)) [.cell 2 141] (gc aN6 aD) func103 ntmps103 (fun a _=>(aC7 a).trans) (fun _=>by kernel_rfl)
def X4:SU:=⟨[i6,i6],[i6],false,false,fun(a:Int×Int)=>some (Ee a.1 a.2)⟩
theorem X5:OK 104 X4:=mkS .n [.tmp 4] (gc eG aD) func104 ntmps104 (fun a _=>(R4 a.1 a.2).trans) (fun _=>by kernel_rfl)
def aN7:SU:=⟨[i6,i6],[i6],false,false,fun(a:Int×Int)=>some (K3 a.1 a.2)⟩
theorem aN8:OK 105 aN7:=mkS .n [.tmp 4] (gc dW (gc fM aD)) func105 ntmps105 (fun a _=>(aM6 a.1 a.2).trans) (fun _=>by kernel_rfl)
def aDw:SU:=⟨[i6,i6,i6,i6, .sl 3,i6,i6],[.st 33, .sl 141, .bool],true,false,fun(a:Int×Int×Int×Int×(List Int)×Int×Int)=>gd (a.2.2.2.2.1.length≤34359738368) (some (qF a.1 a.2.1 a.2.2.1 a.2.2.2.1 a.2.2.2.2.1 a.2.2.2.2.2.1 a.2.2.2.2.2.2))⟩
theorem aDx:OK 26 aDw:=mkS (.s .n (.s .n (.s (.s (.rj 4 ⟨[(28,25)],[.dat (.s 52) .bool],[],[]⟩ .n) .n) (.s .n (.s .n (.s (.j ⟨[(19,2),(41,16)],[.tr (.s 19) 2 141 true],[],[]⟩ (.s .n (.s (.l ⟨[(19,2),(41,16)],[.tr (.s 19) 2 141 true, .nat (.s 20)],[],[]⟩ FUEL .n) .n))) .n)))))) [.cell 14 33, .tmp 15, .tmp 16] (gc Yw (gc dW (gc dO (gc wO (gc Rp (gc aDt (gc aDv (gc X5 (gc aN8 aD))))))))) func26 ntmps26 (fun a _=>aC (aC9 a.1 a.2.1 a.2.2.1 a.2.2.2.1 a.2.2.2.2.1 a.2.2.2.2.2.1 a.2.2.2.2.2.2)) (fun _=>by kernel_rfl)
def aIb:SU:=⟨[i6,i6,i6,i6,i6],[.st 39],false,false,fun(a:Int×Int×Int×Int×Int)=>some (bG a.1 a.2.1 a.2.2.1 a.2.2.2.1 a.2.2.2.2)⟩
theorem aIc:OK 4 aIb:=mkS (.s .n (.s (.s (.rj 4 ⟨[(30,21)],[.dat (.s 50) .bool],[],[]⟩ .n) .n) (.s .n (.s .n (.s (.j ⟨[(12,3),(41,33)],[.tr (.s 12) 2 109 true, .nt (.c 1 2) 52 true, .nt (.c 1 3) 4 true],[],[]⟩ (.s .n (.s (.l ⟨[(12,3),(41,33)],[.tr (.s 12) 2 109 true, .nat (.s 13), .nt (.c 1 2) 52 true, .nt (.c 1 3) 4 true],[],[]⟩ FUEL (.s .n (.s (.s (.s .n (.s .n (.s .n (.r none [(0,true),(1,true),(2,true),(4,true),(5,true),(6,true),(7,true),(8,true),(3,false),(9,false),(10,true),(11,true),(12,true),(13,true)])))) .n) .n))) .n))) (.s .n (.s .n (.s .n (.s (.il 3 (.s .n (.s .n (.s (.j ⟨[(5,5),(1,40)],[.tr (.s 5) 10 85 false],[],[]⟩ (.s .n (.s (.l ⟨[(5,5),(1,40)],[.tr (.s 5) 10 85 false, .nat (.s 6)],[],[]⟩ FUEL (.s .n (.s (.j ⟨[(5,1),(1,3),(5,36)],[.tr (.s 5) 10 85 false],[],[]⟩ (.s (.s .n (.s (.j ⟨[(9,1),(16,21)],[.dat (.c 12 0) (.str), .dat (.c 12 1) (.sl 147), .dat (.c 12 2) i6, .dat (.c 12 3) i6, .dat (.c 12 4) (.sl 232), .dat (.c 12 5) (.sl 3)],[],[]⟩ (.s .n (.s (.l ⟨[(9,1),(16,21)],[.nat (.s 9), .dat (.c 12 0) (.str), .dat (.c 12 1) (.sl 147), .dat (.c 12 2) i6, .dat (.c 12 3) i6, .dat (.c 12 4) (.sl 232), .dat (.c 12 5) (.sl 3)],[],[]⟩ FUEL (.s .n (.s (.s (.y false none (some 15) [(0,true),(1,true),(2,true),(3,true),(4,true),(5,true),(6,true),(7,true),(9,true),(8,false),(10,false),(11,false),(12,true),(13,true),(14,true),(15,false)]) .n) .n))) .n))) .n)) .n)) .n))) .n))) .n))) .n) (.s (.j ⟨[(18,1),(90,20)],[.tr (.c 1 2) 3 52 true],[],[]⟩ (.s .n (.s (.l ⟨[(18,1),(90,20)],[.nat (.s 18), .tr (.c 1 2) 3 52 true],[],[]⟩ FUEL (.s .n (.s (.s bDk .n) .n))) .n))) (.s (.j ⟨[(19,2),(108,23)],[.tr (.c 1 2) 3 52 true],[],[]⟩ (.s .n (.s (.l ⟨[(19,2),(108,23)],[.nat (.s 19), .tr (.c 1 2) 3 52 true],[],[]⟩ FUEL (.s .n (.s (.j ⟨[(20,1),(112,19)],[.tr (.c 1 2) 3 52 true],[],[]⟩ (.s (.s .n (.s (.l ⟨[(20,1),(112,19)],[.nat (.s 20), .tr (.c 1 2) 3 52 true],[],[]⟩ FUEL bIr) .n)) .n)) .n))) .n))) (.s .n (.s .n (.s .n (.s (.j ⟨[(24,1),(148,20)],[.tr (.c 1 2) 3 52 true],[],[]⟩ (.s .n (.s (.l ⟨[(24,1),(148,20)],[.dat (.s 24) i6, .tr (.c 1 2) 3 52 true],[],[]⟩ FUEL (.s .n (.s (.s bDk .n) .n))) .n))) (.s .n (.s (.j ⟨[(25,2),(167,12)],[.tr (.s 25) 19 3 true],[],[]⟩ (.s .n (.s (.l ⟨[(25,2),(167,12)],[.tr (.s 25) 19 3 true, .dat (.s 26) i6],[],[]⟩ FUEL .n) .n))) .n))))))))))))))))) [.cell 10 39] (gc dW (gc dO (gc T9 (gc aDe (gc lV (gc Xy (gc aHz (gc Jd (gc aH1 (gc (sIl 18) (gc U8 (gc aH3 (gc Rf (gc Yq (gc Rj (gc aN4 (gc fM (gc aDx (gcp Od (gc Yf (gc U5 (gcp Yl aD)))))))))))))))))))))) func4 ntmps4 (fun a _=>(aHv a.1 a.2.1 a.2.2.1 a.2.2.2.1 a.2.2.2.2).trans) (fun _=>by kernel_rfl)
def aN9:SU:=⟨[i6,i6,i6],[.bool],false,false,fun(a:Int×Int×Int)=>some (cK a.1 a.2.1 a.2.2)⟩
theorem eZ:OK 27 aN9:=mkS bF4 [.tmp 6] aD func27 ntmps27 (fun a _=>(aL6 a.1 a.2.1 a.2.2).trans) (fun _=>by kernel_rfl)
def X6:SU:=⟨[i6],[.bool],false,false,fun(a:Int)=>some (dG a)⟩
theorem cZ:OK 28 X6:=mkS .n [.tmp 2] (gc eZ aD) func28 ntmps28 (fun a _=>(M5 a).trans) (fun _=>by kernel_rfl)
def aP7:SU:=⟨[.sl 3, .sl 76],[.sl 3],true,false,fun(a:(List Int)×(List (List Int)))=>gd (uP a.1 a.2) (some (nJ a.1 a.2))⟩
theorem kL:OK 123 aP7:=mkS (.s .n (.s .n (.s (.j ⟨[(5,1),(1,1),(3,10)],[.tr (.s 5) 0 3 true],[],[]⟩ (.s .n (.s (.l ⟨[(5,1),(1,1),(5,8)],[.tr (.s 5) 0 3 true, .nat (.s 13)],[],[]⟩ FUEL .n) .n))) .n))) [.tmp 4] aD func123 ntmps123 (fun a _=>aC (aPl a.1 a.2)) (fun _=>by kernel_rfl)
def aX8:SU:=⟨[i6,i6],[i6],false,false,fun(a:Int×Int)=>some (iJ a.1 a.2)⟩
theorem wU:OK 140 aX8:=mkS (.s .n (.s (.s (.rj 3 ⟨[(8,4)],[.dat (.s 11) .bool],[],[]⟩ .n) .n) (.s .n (.s (.j ⟨[(5,1),(9,5)],[.dat (.s 5) i6],[],[]⟩ .n) .n)))) [.tmp 4] aD func140 ntmps140 (fun a _=>(aXy a.1 a.2).trans) (fun _=>by kernel_rfl)
def aWl:SU:=⟨[.sl 3],[i6],false,false,fun(a:(List Int))=>gd (a.length≤1099511627776) (some (zR a))⟩
theorem aGh:OK 209 aWl:=mkS (.s .n (.s .n (.s (.j ⟨[(3,1),(1,15)],[.dat (.s 3) i6],[],[]⟩ (.s .n (.s (.l ⟨[(3,1),(1,1),(2,12)],[.dat (.s 3) i6, .nat (.s 8)],[],[]⟩ FUEL .n) .n))) .n))) [.tmp 2] (gc wU aD) func209 ntmps209 (fun(a:(List Int)) _=>aC (aV8 a)) (fun _=>by kernel_rfl)
def aDy:SU:=⟨[i6, .sl 3],[i6],false,false,fun(a:Int×(List Int))=>gd (a.2.length≤34359738368) (some (dH a.1 a.2))⟩
theorem eH:OK 122 aDy:=mkS .n [.tmp 4] (gc kL (gc aGh aD)) func122 ntmps122 (fun a _=>aC (aCa a.1 a.2)) (fun _=>by kernel_rfl)
def aTw:SU:=⟨[i6],[i6],false,false,fun(a:Int)=>some (rT a)⟩
theorem Ew:OK 121 aTw:=mkS .n [.tmp 2] aD func121 ntmps121 (fun a _=>(aTm a).trans) (fun _=>by kernel_rfl)
def aDz:SU:=⟨[i6, .sl 3],[i6],false,false,fun(a:Int×(List Int))=>gd (a.2.length≤34359738300) (some (aY a.1 a.2))⟩
theorem dN:OK 39 aDz:=mkS .n [.tmp 4] (gc kL (gc eH (gc Ew aD))) func39 ntmps39 (fun a _=>aC (aCc a.1 a.2)) (fun _=>by kernel_rfl)
def X7:SU:=⟨[i6,i6],[.st 47],false,false,fun(a:Int×Int)=>some (dZ a.1 a.2)⟩
theorem X8:OK 30 X7:=mkS .n [.cell 4 47] (gc dN aD) func30 ntmps30 (fun a _=>(Q3 a.1 a.2).trans) (fun _=>by kernel_rfl)
def aD0:SU:=⟨[.st 47],[.st 52],true,false,fun(a:D.aAH)=>some (dR a)⟩
theorem aD1:OK 29 aD0:=mkS .n [.cell 2 52] aD func29 ntmps29 (fun a _=>(aC0 a).trans) (fun _=>by kernel_rfl)
def aD2:SU:=⟨[i6],[i6],false,false,fun(a:Int)=>some (fZ a)⟩
theorem qJ:OK 111 aD2:=mkS .n [.tmp 2] (gc cZ aD) func111 ntmps111 (fun a _=>(aCe a).trans) (fun _=>by kernel_rfl)
def Rq:SU:=⟨[.st 47],[i6],false,false,fun(a:D.aAH)=>some (dY a)⟩
theorem lW:OK 32 Rq:=mkS .n [.tmp 2] (gc dN (gc qJ aD)) func32 ntmps32 (fun a _=>(Ql a).trans) (fun _=>by kernel_rfl)
def aX9:SU:=⟨[.sl 3,i6],[.bool],false,false,fun(a:(List Int)×Int)=>gd (a.1.length≤1099511627776) (some (jP a.1 a.2))⟩
theorem Yz:OK 136 aX9:=mkS (.s .n (.s (.jx ⟨[(4,1),(1,11)],[],[],[]⟩ (.s .n (.s (.l ⟨[(4,1),(1,1),(2,8)],[.nat (.s 9)],[],[]⟩ FUEL .n) .n))) .n)) [.tmp 4] aD func136 ntmps136 (fun a _=>aC (aX0 a.1 a.2)) (fun _=>by kernel_rfl)
def aD3:SU:=⟨[.sl 109],[.sl 3],true,false,fun(a:(List D.aAB))=>gd (a.length≤34359738368) (some (aJ a))⟩
theorem lS:OK 114 aD3:=mkS (.s .n (.s .n (.s (.j ⟨[(3,1),(1,2),(1,1),(1,40)],[.tr (.s 3) 0 3 true],[],[]⟩ (.s .n (.s (.l ⟨[(3,1),(1,2),(1,1),(3,38)],[.tr (.s 3) 0 3 true, .nat (.s 12)],[],[]⟩ FUEL (.s .n (.s .n (.s (.j ⟨[(3,1),(1,2),(1,1),(5,35)],[.tr (.s 3) 0 3 true],[],[]⟩ (.s (.s .n (.s .n (.s (.s .n (.s .n (.s .n (.s (.s .n (.s (.j ⟨[(6,1),(1,1),(24,15)],[.tr (.s 6) 2 3 true],[],[]⟩ (.s .n (.s (.l ⟨[(6,1),(1,1),(26,13)],[.tr (.s 6) 2 3 true, .nat (.s 35)],[],[]⟩ FUEL (.s .n (.s .n (.s (.j ⟨[(6,1),(1,1),(28,10)],[.tr (.s 6) 2 3 true],[],[]⟩ .n) .n)))) .n))) .n)) .n)))) .n))) .n)) .n)))) .n))) .n))) [.tmp 2] (gc Yz aD) func114 ntmps114 (fun(a:(List D.aAB)) _=>aC (aCh a)) (fun _=>by kernel_rfl)
def aD4:SU:=⟨[.st 109],[i6],false,false,fun(a:D.aAB)=>some (dE a)⟩
theorem qK:OK 110 aD4:=mkS .n [.tmp 2] (gc aGh aD) func110 ntmps110 (fun a _=>(aCp a).trans) (fun _=>by kernel_rfl)
def aOa:SU:=⟨[.sl 109],[i6],false,false,fun(a:(List D.aAB))=>gd (a.length≤34359738368) (some (gP a))⟩
theorem Om:OK 108 aOa:=mkS .n [.tmp 2] (gc qK aD) func108 ntmps108 (fun(a:(List D.aAB)) _=>aC (aMl a)) (fun _=>by kernel_rfl)
def X9:SU:=⟨[.sl 109,i6],[.bool],false,false,fun(a:(List D.aAB)×Int)=>gd (a.1.length≤34359738368) (some (nL a.1 a.2))⟩
theorem Y1:OK 206 X9:=mkS (.s .n (.s (.jx ⟨[(4,1),(1,17)],[],[],[]⟩ (.s .n (.s (.l ⟨[(4,1),(1,1),(2,14)],[.nat (.s 9)],[],[]⟩ FUEL (.s .n (.s .n (.s (.s (.s .n (.s (.rj 4 ⟨[(16,6)],[.dat (.s 21) .bool],[],[]⟩ .n) .n)) .n) .n)))) .n))) .n)) [.tmp 4] aD func206 ntmps206 (fun a _=>aC (N8 a.1 a.2)) (fun _=>by kernel_rfl)
def aTx:SU:=⟨[i6,i6,i6],[i6],false,false,fun(a:Int×Int×Int)=>iR a.1 a.2.1 a.2.2⟩
theorem Ex:OK 284 aTx:=mkS (.s .n (.s .n (.s .n (.s (.j ⟨[(0,2),(5,1),(5,17)],[.dat (.s 7) i6],[],[]⟩ (.s (.l ⟨[(0,2),(5,1),(5,17)],[.dat (.s 0) i6, .dat (.s 1) i6, .dat (.s 7) i6],[],[]⟩ FUEL (.s .n (.s (.s (.j ⟨[(7,1),(7,8)],[.dat (.s 7) i6],[],[]⟩ .n) .n) .n))) .n)) .n)))) [.tmp 6] aD func284 ntmps284 (fun _ _=>id) (fun _=>by kernel_rfl)
def Y2:SU:=⟨[i6],[i6],false,false,fun(a:Int)=>some (fQ a)⟩
theorem oK:OK 274 Y2:=mkS .n [.tmp 2] (gc cZ (gc Ex aD)) func274 ntmps274 (fun a _=>(N7 a).trans) (fun _=>by kernel_rfl)
def Za:SU:=⟨[i6, .sl 3],[i6],false,false,fun(a:Int×(List Int))=>gd (a.2.length≤34359738300) (some (Gb a.1 a.2))⟩
theorem wV:OK 208 Za:=mkS .n [.tmp 4] (gc cZ (gc kL (gc eH aD))) func208 ntmps208 (fun a _=>aC (Wm a.1 a.2)) (fun _=>by kernel_rfl)
def Ey:SU:=⟨[i6, .sl 3,i6],[.bool],false,false,fun(a:Int×(List Int)×Int)=>gd (a.2.1.length≤34359738300) (some (kP a.1 a.2.1 a.2.2))⟩
theorem Ez:OK 207 Ey:=mkS bF2 [.tmp 6] (gc oK (gc wV aD)) func207 ntmps207 (fun a _=>aC (Ep a.1 a.2.1 a.2.2)) (fun _=>by kernel_rfl)
def aD5:SU:=⟨[.sl 109],[.bool],false,false,fun(a:(List D.aAB))=>gd (a.length≤34359738368) (some (cO a))⟩
theorem jL:OK 106 aD5:=mkS (.s .n (.s (.s (.rj 4 ⟨[(10,5)],[.dat (.s 14) .bool],[],[]⟩ .n) .n) (.s (.jx ⟨[(2,5),(8,83)],[],[],[]⟩ (.s .n (.s (.l ⟨[(2,5),(10,81)],[.nat (.s 17)],[],[]⟩ FUEL (.s .n (.s .n (.s (.jx ⟨[(2,5),(12,78)],[],[],[]⟩ (.s (.s .n (.s .n (.s .n (.s (.s (.rj 5 ⟨[(31,26)],[.dat (.s 56) .bool],[],[]⟩ (.r none (od 30 [8,15]))) .n) (.s (.jx ⟨[(2,1),(54,31)],[],[],[]⟩ (.s .n (.s (.s .n (.s (.s (.rj 5 ⟨[(65,11)],[.dat (.s 75) .bool],[],[]⟩ .n) .n) (.s .n (.s (.s (.rj 6 ⟨[(83,5)],[.dat (.s 87) .bool],[],[]⟩ .n) .n) .n)))) .n))) (.s (.r none [(0,true),(1,true),(2,true),(5,true),(6,true),(3,false),(4,false),(7,false),(8,true)]) .n)))))) .n)) .n)))) .n))) .n))) [.tmp 2] (gc lS (gc Om (gc Yz (gc Y1 (gc qK (gc Ez aD)))))) func106 ntmps106 (fun(a:(List D.aAB)) _=>aC (aCr a)) (fun _=>by kernel_rfl)
def aOb:SU:=⟨[.sl 109],[.sl 109],true,false,fun(a:(List D.aAB))=>gd (a.length≤34359738368) (some (a))⟩
theorem jM:OK 107 aOb:=mkS .n [.tmp 2] aD func107 ntmps107 (fun(a:(List D.aAB)) _=>aC (aMb a)) (fun _=>by kernel_rfl)
def Rt:SU:=⟨[.st 47, .sl 3],[i6],false,false,fun(a:D.aAH×(List Int))=>gd (a.2.length≤34359738300) (some (kZ a.1 a.2))⟩
theorem Ru:OK 109 Rt:=mkS .n [.tmp 4] (gc dN (gc wV aD)) func109 ntmps109 (fun a _=>aC (Qx a.1 a.2)) (fun _=>by kernel_rfl)
def Zb:SU:=⟨[.sl 109,i6,i6, .st 47],[.sl 109, .bool],true,false,fun(a:(List D.aAB)×Int×Int×D.aAH)=>gd (a.1.length≤34359738300) (some (mI a.1 a.2.1 a.2.2.1 a.2.2.2))⟩
theorem Zc:OK 31 Zb:=mkS (.s .n (.s (.s (.rj 4 ⟨[(15,5)],[.dat (.s 19) .bool],[],[]⟩ .n) .n) (.s .n (.s (.r (some 6) (od 7 [2,3,4,6])) (.s bFy .n))))) [.tmp 8, .tmp 9] (gc jL (gc jM (gc lW (gc Om (gc qK (gc Ru aD)))))) func31 ntmps31 (fun a _=>aC (Xi a.1 a.2.1 a.2.2.1 a.2.2.2)) (fun _=>by kernel_rfl)
def aId:SU:=⟨[i6,i6],[i6],false,false,fun(a:Int×Int)=>some (gH a.1 a.2)⟩
theorem aIe:OK 33 aId:=mkS .n [.tmp 4] (gc dN aD) func33 ntmps33 (fun a _=>(aHq a.1 a.2).trans) (fun _=>by kernel_rfl)
def aOc:SU:=⟨[.sl 109],[i6],false,false,fun(a:(List D.aAB))=>gd (a.length≤34359738368) (some (bC a))⟩
theorem lF:OK 112 aOc:=mkS (.s .n (.s .n (.s (.j ⟨[(3,1),(1,13)],[.dat (.s 3) i6],[],[]⟩ (.s .n (.s (.l ⟨[(3,1),(1,1),(2,10)],[.dat (.s 3) i6, .nat (.s 8)],[],[]⟩ FUEL (.s .n (.s .n (.s (.j ⟨[(3,1),(1,1),(4,7)],[.dat (.s 3) i6],[],[]⟩ .n) .n)))) .n))) .n))) [.tmp 2] aD func112 ntmps112 (fun(a:(List D.aAB)) _=>aC (aMs a)) (fun _=>by kernel_rfl)
def aD6:SU:=⟨[.sl 5],[.sl 5],true,false,fun(a:(List Int))=>gd (a.length≤34359738368) (some (a))⟩
theorem qL:OK 229 aD6:=mkS .n [.tmp 2] aD func229 ntmps229 (fun(a:(List Int)) _=>aC (aCj a)) (fun _=>by kernel_rfl)
def Oo:SU:=⟨[.sl 5,i6],[.sl 5],true,false,fun(a:(List Int)×Int)=>gd (a.1.length≤34359738300) (some (nP a.1 a.2))⟩
theorem Oq:OK 211 Oo:=mkS (.s .n (.s .n (.s (.s (.rj 3 ⟨[(10,4)],[.dat (.s 13) .bool],[],[]⟩ .n) .n) (.s (.j ⟨[(1,1),(3,1),(9,11)],[.dat (.s 1) i6, .tr (.s 5) 0 5 true],[],[]⟩ (.s (.l ⟨[(1,1),(3,1),(9,11)],[.dat (.s 1) i6, .tr (.s 5) 0 5 true],[],[]⟩ FUEL .n) .n)) .n)))) [.tmp 4] (gc qL aD) func211 ntmps211 (fun a _=>aC (Ns a.1 a.2)) (fun _=>by kernel_rfl)
def Y3:SU:=⟨[.sl 3],[.sl 5],true,false,fun(a:(List Int))=>gd (a.length≤5000000000) (some (kF a))⟩
theorem zA:OK 115 Y3:=mkS (.s .n (.s .n (.s (.j ⟨[(3,1),(1,1),(1,10)],[.tr (.s 3) 0 5 true],[],[]⟩ (.s .n (.s (.l ⟨[(3,1),(1,1),(3,8)],[.tr (.s 3) 0 5 true, .nat (.s 9)],[],[]⟩ FUEL .n) .n))) .n))) [.tmp 2] (gc Oq aD) func115 ntmps115 (fun(a:(List Int)) _=>aC (P7 a)) (fun _=>by kernel_rfl)
def aP8:SU:=⟨[i6,i6],[i6],false,false,fun(a:Int×Int)=>some (gB a.1 a.2)⟩
theorem Uk:OK 275 aP8:=mkS .n [.tmp 4] (gc dN aD) func275 ntmps275 (fun a _=>(aPt a.1 a.2).trans) (fun _=>by kernel_rfl)
def aOd:SU:=⟨[i6, .sl 5],[.sl 5],true,false,fun(a:Int×(List Int))=>gd (aW a.2) (some (oP a.1 a.2))⟩
theorem Ot:OK 226 aOd:=mkS bFn [.tmp 4] (gc eH aD) func226 ntmps226 (fun a _=>aC (aM0 a.1 a.2)) (fun _=>by kernel_rfl)
def Zd:SU:=⟨[.sl 5],[.sl 3],true,false,fun(a:(List Int))=>gd (a.length≤34359738360) (some (rU a))⟩
theorem mR:OK 279 Zd:=mkS (.s .n (.s .n (.s (.j ⟨[(3,1),(1,1),(3,12)],[.tr (.s 3) 0 3 true],[],[]⟩ (.s .n (.s (.l ⟨[(3,1),(1,1),(5,10)],[.tr (.s 3) 0 3 true, .nat (.s 11)],[],[]⟩ FUEL .n) .n))) .n))) [.tmp 2] aD func279 ntmps279 (fun(a:(List Int)) _=>aC (Ww a)) (fun _=>by kernel_rfl)
def aP9:SU:=⟨[i6, .st 178],[i6],false,false,fun(a:Int×D.Box)=>gd (a.2.Data.length≤34359738200) (some (Pw a.1 a.2))⟩
theorem Ul:OK 276 aP9:=mkS bFk [.tmp 4] (gc mR (gc kL (gc eH aD))) func276 ntmps276 (fun a _=>aC (aPw a.1 a.2)) (fun _=>by kernel_rfl)
def aOe:SU:=⟨[i6,i6, .sl 5],[.st 178, .bool],true,false,fun(a:Int×Int×(List Int))=>gd (aW a.2.2) (some (fK a.1 a.2.1 a.2.2))⟩
theorem aOf:OK 210 aOe:=mkS bF1 [.cell 6 178, .tmp 7] (gc oK (gc cZ (gc Uk (gc Ot (gc Ul aD))))) func210 ntmps210 (fun a _=>aC (aM4 a.1 a.2.1 a.2.2)) (fun _=>by kernel_rfl)
def aD7:SU:=⟨[.sl 3,i6, .sl 5],[.sl 178, .bool],true,false,fun(a:(List Int)×Int×(List Int))=>gd (a.1.length≤34359738300∧aW a.2.2) (some (gQ a.2.1 a.2.2 0 a.1))⟩
theorem aD8:OK 113 aD7:=mkS (.s .n (.s .n (.s (.jx ⟨[(6,7),(1,23)],[.tr (.s 8) 0 178 true],[],[]⟩ (.s .n (.s (.l ⟨[(6,7),(3,21)],[.tr (.s 8) 0 178 true, .nat (.s 16)],[],[]⟩ FUEL .n) .n))) .n))) [.tmp 6, .tmp 7] (gc aOf aD) func113 ntmps113 (fun a _=>aC (aC2 a.1 a.2.1 a.2.2)) (fun _=>by kernel_rfl)
def Jj:SU:=⟨[.sl 109,i6,i6],[.st 27, .bool],true,false,fun(a:(List D.aAB)×Int×Int)=>gd (a.1.length≤34359738300) (some (dL a.1 a.2.1 a.2.2))⟩
theorem Jk:OK 34 Jj:=mkS (.s .n (.s bF9 .n)) [.cell 6 27, .tmp 7] (gc jL (gc cZ (gc lF (gc lS (gc zA (gc aD8 aD)))))) func34 ntmps34 (fun a _=>aC (Iz a.1 a.2.1 a.2.2)) (fun _=>by kernel_rfl)
def Y4:SU:=⟨[.st 27,i6],[i6],false,false,fun(a:D.aAD×Int)=>gd (a.1.Boxes.length≤34359738368) (some (jX a.1 a.2))⟩
theorem Y5:OK 212 Y4:=mkS (.s .n (.s .n (.s (.j ⟨[(5,1),(1,15)],[.dat (.s 5) i6],[],[]⟩ (.s .n (.s (.l ⟨[(5,1),(1,1),(3,11)],[.dat (.s 5) i6, .nat (.s 11)],[],[]⟩ FUEL (.s .n (.s .n (.s (.j ⟨[(5,1),(1,1),(5,8)],[.dat (.s 5) i6],[],[]⟩ .n) .n)))) .n))) .n))) [.tmp 4] aD func212 ntmps212 (fun a _=>aC (Q7 a.1 a.2)) (fun _=>by kernel_rfl)
def aD9:SU:=⟨[.st 27, .sl 109],[.bool],false,false,fun(a:D.aAD×(List D.aAB))=>gd (a.1.Boxes.length≤34359738368∧a.2.length≤34359738368) (some (jY a.1 a.2))⟩
theorem aEa:OK 116 aD9:=mkS (.s .n (.s .n (.s (.s (.rj 6 ⟨[(15,8)],[.dat (.s 22) .bool],[],[]⟩ (.r none (od 13 [3]))) .n) (.s (.jx ⟨[(4,1),(2,1),(15,11)],[],[],[]⟩ (.s .n (.s (.l ⟨[(4,1),(2,1),(17,9)],[.nat (.s 25)],[],[]⟩ FUEL .n) .n))) .n)))) [.tmp 4] (gc lS (gc lF (gc Y5 aD))) func116 ntmps116 (fun a _=>aC (aC4 a.1 a.2)) (fun _=>by kernel_rfl)
def aEb:SU:=⟨[.sl 178],[.sl 178],true,false,fun(a:(List D.Box))=>gd (szL D.Box.sz a≤34359738368) (some (a))⟩
theorem aEc:OK 213 aEb:=mkS (.s .n (.s .n (.s (.j ⟨[(3,1),(1,1),(1,15)],[.tr (.s 3) 0 178 true],[],[]⟩ (.s .n (.s (.l ⟨[(3,1),(1,1),(3,13)],[.tr (.s 3) 0 178 true, .nat (.s 9)],[],[]⟩ FUEL .n) .n))) .n))) [.tmp 2] (gc qL aD) func213 ntmps213 (fun(a:(List D.Box)) _=>aC (aCk a)) (fun _=>by kernel_rfl)
def Jl:SU:=⟨[.st 27],[.st 27],true,false,fun(a:D.aAD)=>gd (a.sz≤34359738368) (some (a))⟩
theorem pU:OK 117 Jl:=mkS (.s .n (.s (.r (some 6) (od 7 [4,6])) .n)) [.cell 2 27] (gc aEc aD) func117 ntmps117 (fun(a:D.aAD) _=>aC (Ip a)) (fun _=>by kernel_rfl)
def aIf:SU:=⟨[.sl 109, .st 27],[.st 30, .bool],true,false,fun(a:(List D.aAB)×D.aAD)=>gd (a.1.length≤34359738368∧a.2.sz≤34359738368) (some (dS a.1 a.2))⟩
theorem aIg:OK 35 aIf:=mkS bFm [.cell 4 30, .tmp 5] (gc jL (gc aEa (gc jM (gc pU aD)))) func35 ntmps35 (fun a _=>aC (aHu a.1 a.2)) (fun _=>by kernel_rfl)
def aIh:SU:=⟨[i6],[.str],false,false,fun(a:Int)=>some (aQ a)⟩
theorem aIi:OK 38 aIh:=mkS .n [.tmp 2] aD func38 ntmps38 (fun a _=>(aHh a).trans) (fun _=>by kernel_rfl)
def aQa:SU:=⟨[.str],[.bool],false,false,fun(a:ByteArray)=>some (iH a)⟩
theorem Um:OK 218 aQa:=mkS (.s .n (.s .n (.s (.jx ⟨[(2,1),(1,3),(3,57)],[],[],[]⟩ (.s .n (.s (.l ⟨[(2,1),(1,3),(6,54)],[.nat (.s 13)],[],[]⟩ FUEL (.s .n (.s .n (.s (.jx ⟨[(2,1),(1,3),(8,51)],[],[],[]⟩ (.s (.s .n (.s (.s (.rj 4 ⟨[(20,18)],[.dat (.s 37) .bool],[],[]⟩ .n) .n) (.s .n (.s (.l ⟨[(2,1),(2,2),(31,28)],[.nat (.s 5)],[],[]⟩ FUEL (.s .n (.s (.s (.s .n (.s (.rj 3 ⟨[(49,17)],[.dat (.s 65) .bool],[],[]⟩ .n) .n)) .n) .n))) .n)))) .n)) .n)))) .n))) .n))) [.tmp 2] (gc Gc aD) func218 ntmps218 (fun a _=>(aPq a).trans) (fun _=>by kernel_rfl)
def Ze:SU:=⟨[.str],[.str],false,false,fun(a:ByteArray)=>some (bAr a)⟩
theorem Zg:OK 219 Ze:=mkS .n [.tmp 2] (gc Um (gc Gc (gc aLn aD))) func219 ntmps219 (fun a _=>(Wq a).trans) (fun _=>by kernel_rfl)
def aQb:SU:=⟨[.str],[.bool],false,false,fun(a:ByteArray)=>gd (a.size≤9223372036854775807) (some (Pm a))⟩
theorem aQc:OK 220 aQb:=mkS (.s .n (.s (.jx ⟨[(2,12)],[],[],[]⟩ (.s .n (.s (.l ⟨[(2,12)],[.nat (.s 3)],[],[]⟩ FUEL .n) .n))) .n)) [.tmp 2] aD func220 ntmps220 (fun(a:ByteArray) _=>aC (aPr a)) (fun _=>by kernel_rfl)
def Zh:SU:=⟨[.str,i6],[.bool],false,false,fun(a:ByteArray×Int)=>gd (a.1.size≤9223372036854775807) (some (jB a.1 a.2))⟩
theorem wW:OK 120 Zh:=mkS (.s .n (.s (.rj 3 ⟨[(4,1),(2,13)],[.dat (.s 4) .bool],[],[]⟩ .n) .n)) [.tmp 4] (gc Um (gc Zg (gc aQc (gc cZ aD)))) func120 ntmps120 (fun a _=>aC (Ws a.1 a.2)) (fun _=>by kernel_rfl)
def aOg:SU:=⟨[.str,i6],[.st 85],true,false,fun(a:ByteArray×Int)=>gd (a.1.size≤34359738368) (some (eY a.1 a.2))⟩
theorem aOh:OK 37 aOg:=mkS .n [.cell 4 85] (gc wW aD) func37 ntmps37 (fun a _=>aC (aM8 a.1 a.2)) (fun _=>by kernel_rfl)
def Zi:SU:=⟨[.st 83],[.bool],false,false,fun(a:D.aAG)=>gd (a.sz≤34359738368) (some (nM a))⟩
theorem Zj:OK 214 Zi:=mkS (.s .n (.s (.s (.rj 5 ⟨[(9,6)],[.dat (.s 14) .bool],[],[]⟩ .n) .n) (.s (.jx ⟨[(2,3),(10,44)],[],[],[]⟩ (.s .n (.s (.l ⟨[(2,3),(13,41)],[.nat (.s 18)],[],[]⟩ FUEL (.s .n (.s .n (.s (.s (.s .n (.s (.rj 8 ⟨[(30,28)],[.dat (.s 57) .bool],[],[]⟩ (.r none (od 35 [5,26,32]))) .n)) .n) .n)))) .n))) .n))) [.tmp 2] (gc eZ aD) func214 ntmps214 (fun(a:D.aAG) _=>aC (Wp a)) (fun _=>by kernel_rfl)
def Jm:SU:=⟨[.st 147],[.bool],false,false,fun(a:D.aAF)=>gd (a.sz≤34359738368) (some (bP a))⟩
theorem pV:OK 215 Jm:=mkS (.s .n (.s (.s (.rj 5 ⟨[(11,12)],[.dat (.s 22) .bool],[],[]⟩ .n) .n) (.s (.jx ⟨[(2,3),(1,1),(16,56)],[],[],[]⟩ (.s .n (.s (.l ⟨[(2,3),(1,1),(19,53)],[.nat (.s 26)],[],[]⟩ FUEL (.s .n (.s .n (.s (.jx ⟨[(2,3),(1,1),(21,50)],[],[],[]⟩ (.s (.s .n (.s (.s (.rj 5 ⟨[(35,28)],[.dat (.s 62) .bool],[],[]⟩ (.r none (od 32 [2,23,29]))) .n) (.s .n (.s (.l ⟨[(2,1),(3,1),(61,10)],[.nat (.s 68)],[],[]⟩ FUEL .n) .n)))) .n)) .n)))) .n))) .n))) [.tmp 2] (gc eZ (gc oK aD)) func215 ntmps215 (fun(a:D.aAF) _=>aC (Ir a)) (fun _=>by kernel_rfl)
def Zk:SU:=⟨[.st 85],[.bool],false,false,fun(a:D.Site)=>gd (a.sz≤34359738368) (some (fP a))⟩
theorem wX:OK 118 Zk:=mkS (.s .n (.s (.s (.rj 8 ⟨[(12,12)],[.dat (.s 23) .bool],[],[]⟩ .n) .n) (.s (.jx ⟨[(2,3),(19,28)],[],[],[]⟩ (.s .n (.s (.l ⟨[(2,3),(22,25)],[.nat (.s 27)],[],[]⟩ FUEL (.s .n (.s .n (.s (.s (.s .n (.s (.rj 4 ⟨[(35,16)],[.dat (.s 50) .bool],[],[]⟩ (.r none (od 19 [1]))) .n)) .n) .n)))) .n))) .n))) [.tmp 2] (gc wW (gc Zj (gc pV aD))) func118 ntmps118 (fun(a:D.Site) _=>aC (Wu a)) (fun _=>by kernel_rfl)
def aIj:SU:=⟨[.st 83],[.st 83],true,false,fun(a:D.aAG)=>gd (a.sz≤34359738368) (some (a))⟩
theorem aIk:OK 216 aIj:=mkS bFu [.cell 2 83] aD func216 ntmps216 (fun(a:D.aAG) _=>aC (aHc a)) (fun _=>by kernel_rfl)
def Zl:SU:=⟨[.st 147],[.st 147],true,false,fun(a:D.aAF)=>gd (a.sz≤34359738368) (some (a))⟩
theorem wY:OK 217 Zl:=mkS bFu [.cell 2 147] aD func217 ntmps217 (fun(a:D.aAF) _=>aC (Wj a)) (fun _=>by kernel_rfl)
def aIl:SU:=⟨[.st 85],[.st 85],true,false,fun(a:D.Site)=>gd (a.sz≤34359738368) (some (a))⟩
theorem rX:OK 119 aIl:=mkS (.s .n (.s (.y false (some 9) (some 10) [(0,true),(1,true),(2,true),(3,true),(5,true),(6,true),(4,false),(7,false),(8,true),(9,false),(10,false)]) (.s (.j ⟨[(5,1),(9,15)],[.nt (.c 4 1) 147 true],[],[]⟩ (.s .n (.s (.l ⟨[(5,1),(12,12)],[.nat (.s 18), .nt (.c 4 1) 147 true],[],[]⟩ FUEL bEy) .n))) .n))) [.cell 2 85] (gc aIk (gc kL (gc wY aD))) func119 ntmps119 (fun(a:D.Site) _=>aC (aHd a)) (fun _=>by kernel_rfl)
def Zm:SU:=⟨[.st 85,i6,i6],[.st 85, .bool],false,false,fun(a:D.Site×Int×Int)=>gd (a.1.sz≤34359738300) (some (iP a.1 a.2.1 a.2.2))⟩
theorem Zn:OK 36 Zm:=mkS (.s .n (.s .n (.s .n (.s .n (.s (.j ⟨[(9,1),(7,17)],[.dat (.s 9) i6],[],[]⟩ (.s (.l ⟨[(9,1),(7,17)],[.dat (.s 9) i6],[],[]⟩ FUEL (.s (.s (.rj 6 ⟨[(22,10)],[.dat (.s 31) .bool],[],[]⟩ .n) .n) .n)) .n)) (.s bHl .n)))))) [.cell 6 85, .tmp 7] (gc wX (gcp rX aD)) func36 ntmps36 (fun a _=>aC (Xu a.1 a.2.1 a.2.2)) (fun _=>by kernel_rfl)
def Da:SU:=⟨[i6, .str],[i6],false,false,fun(a:Int×ByteArray)=>gd (a.2.size≤34359738300) (some (nK a.1 a.2))⟩
theorem Db:OK 225 Da:=mkS .n [.tmp 4] (gc mR (gc eH (gc Ew (gc (bFe 1000068) aD)))) func225 ntmps225 (fun a _=>aC (Cw a.1 a.2)) (fun _=>by kernel_rfl)
def aIm:SU:=⟨[.str],[i6],false,false,fun(a:ByteArray)=>gd (a.size≤34359738300) (some (fI a))⟩
theorem Ib:OK 130 aIm:=mkS .n [.tmp 2] (gc Db aD) func130 ntmps130 (fun(a:ByteArray) _=>aC (aHl a)) (fun _=>by kernel_rfl)
def Zo:SU:=⟨[.st 47, .str,i6],[i6],false,false,fun(a:D.aAH×ByteArray×Int)=>gd (a.2.1.size≤34359738300) (some (qD a.1 a.2.1 a.2.2))⟩
theorem Zp:OK 126 Zo:=mkS bFx [.tmp 6] (gc Ib (gc dN aD)) func126 ntmps126 (fun a _=>aC (Xg a.1 a.2.1 a.2.2)) (fun _=>by kernel_rfl)
def Y6:SU:=⟨[.st 47, .str,i6],[i6],false,false,fun(a:D.aAH×ByteArray×Int)=>gd (a.2.1.size≤34359738300) (some (kG a.1 a.2.1 a.2.2))⟩
theorem Y7:OK 41 Y6:=mkS .n [.tmp 6] (gc Zp (gc qJ aD)) func41 ntmps41 (fun a _=>aC (Q5 a.1 a.2.1 a.2.2)) (fun _=>by kernel_rfl)
def Zq:SU:=⟨[.st 85,i6],[i6],false,false,fun(a:D.Site×Int)=>gd (a.1.Accounts.length≤34359738368) (some (bE a.1 a.2))⟩
theorem Zr:OK 124 Zq:=mkS (.s .n (.s (.jx ⟨[(4,17)],[],[],[]⟩ (.s .n (.s (.l ⟨[(4,3),(3,11)],[.nat (.s 10)],[],[]⟩ FUEL .n) .n))) .n)) [.tmp 4] aD func124 ntmps124 (fun a _=>aC (Xk a.1 a.2)) (fun _=>by kernel_rfl)
def Ou:SU:=⟨[.st 147,i6,i6],[.st 147, .bool],true,false,fun(a:D.aAF×Int×Int)=>gd (a.1.sz≤34359738300) (some (gD a.1 a.2.1 a.2.2))⟩
theorem Ov:OK 125 Ou:=mkS (.s .n (.s .n (.s .n (.s (.j ⟨[(8,1),(6,17)],[.dat (.s 8) i6],[],[]⟩ (.s (.l ⟨[(8,1),(6,17)],[.dat (.s 8) i6],[],[]⟩ FUEL (.s (.s (.rj 6 ⟨[(20,10)],[.dat (.s 29) .bool],[],[]⟩ .n) .n) .n)) .n)) (.s .n (.s bHl .n)))))) [.cell 6 147, .tmp 7] (gc pV (gc wY aD)) func125 ntmps125 (fun a _=>aC (Nu a.1 a.2.1 a.2.2)) (fun _=>by kernel_rfl)
def Zt:SU:=⟨[.st 85,i6,i6,i6],[.st 85, .bool],true,false,fun(a:D.Site×Int×Int×Int)=>gd (a.1.sz≤34359738300) (some (jZ a.1 a.2.1 a.2.2.1 a.2.2.2))⟩
theorem Zu:OK 40 Zt:=mkS bF0 [.cell 8 85, .tmp 9] (gc rX (gc Zr (gc wX (gc Ov aD)))) func40 ntmps40 (fun a _=>aC (Xm a.1 a.2.1 a.2.2.1 a.2.2.2)) (fun _=>by kernel_rfl)
def Y8:SU:=⟨[.st 50],[.st 50],true,false,fun(a:D.aAC)=>gd (a.sz≤34359738368) (some (a))⟩
theorem kQ:OK 221 Y8:=mkS .n [.cell 2 50] aD func221 ntmps221 (fun(a:D.aAC) _=>aC (M6 a)) (fun _=>by kernel_rfl)
def Y9:SU:=⟨[.st 52],[.st 52],true,false,fun(a:D.Device)=>gd (a.sz≤34359738368) (some (a))⟩
theorem iT:OK 127 Y9:=mkS .n [.cell 2 52] (gc jM (gc kQ aD)) func127 ntmps127 (fun(a:D.Device) _=>aC (M7 a)) (fun _=>by kernel_rfl)
def Z0:SU:=⟨[.sl 109, .sl 109],[.bool],false,false,fun(a:(List D.aAB)×(List D.aAB))=>gd (a.1.length≤34359738368) (some (fJ a.1 a.2))⟩
theorem zB:OK 128 Z0:=mkS (.s .n (.s .n (.s (.jx ⟨[(4,2),(5,15)],[],[],[]⟩ (.s .n (.s (.l ⟨[(4,2),(7,13)],[.nat (.s 13)],[],[]⟩ FUEL (.s .n (.s .n (.s (.s (.s .n (.s (.r none (od 9 [])) .n)) .n) .n)))) .n))) .n))) [.tmp 4] aD func128 ntmps128 (fun a _=>aC (O3 a.1 a.2)) (fun _=>by kernel_rfl)
def Z4:SU:=⟨[.st 52, .sl 109,i6],[.st 52, .bool],true,false,fun(a:D.Device×(List D.aAB)×Int)=>gd (a.1.sz≤34359738368∧a.2.1.length≤34359738368) (some (qE a.1 a.2.1 a.2.2))⟩
theorem Z5:OK 42 Z4:=mkS bIn [.cell 6 52, .tmp 7] (gc iT (gc jL (gc zB (gc lF (gc cZ (gc jM aD)))))) func42 ntmps42 (fun a _=>aC (Q9 a.1 a.2.1 a.2.2)) (fun _=>by kernel_rfl)
def Zv:SU:=⟨[.st 187, .st 187],[.bool],false,false,fun(a:D.Entry×D.Entry)=>some (eD a.1 a.2)⟩
theorem mU:OK 224 Zv:=mkS bDj [.tmp 4] aD func224 ntmps224 (fun a _=>(Wi a.1 a.2).trans) (fun _=>by kernel_rfl)
def aIn:SU:=⟨[.st 50],[.bool],false,false,fun(a:D.aAC)=>gd (a.sz≤34359738368) (some (aI a))⟩
theorem iM:OK 222 aIn:=mkS (.s .n (.s .n (.s (.jx ⟨[(2,3),(4,40)],[],[],[]⟩ (.s .n (.s (.l ⟨[(2,3),(7,37)],[.nat (.s 12)],[],[]⟩ FUEL (.s .n (.s .n (.s (.s (.s .n (.s (.rj 5 ⟨[(21,27)],[.dat (.s 47) .bool],[],[]⟩ (.r none (od 31 [2,7,13,27]))) .n)) .n) .n)))) .n))) .n))) [.tmp 2] (gc eZ (gc mU aD)) func222 ntmps222 (fun(a:D.aAC) _=>aC (aHb a)) (fun _=>by kernel_rfl)
def aEd:SU:=⟨[.st 50,i6,i6],[i6],false,false,fun(a:D.aAC×Int×Int)=>gd (a.1.sz≤34359738368) (some (aH a.1 a.2.1 a.2.2))⟩
theorem Dc:OK 223 aEd:=mkS (.s .n (.s (.jx ⟨[(6,23)],[],[],[]⟩ (.s .n (.s (.l ⟨[(6,3),(3,17)],[.nat (.s 12)],[],[]⟩ FUEL (.s .n (.s .n (.s (.s (.s .n (.s (.rj 5 ⟨[(21,6)],[.dat (.s 26) .bool],[],[]⟩ .n) .n)) .n) .n)))) .n))) .n)) [.tmp 6] aD func223 ntmps223 (fun a _=>aC (aCs a.1 a.2.1 a.2.2)) (fun _=>by kernel_rfl)
def aIo:SU:=⟨[.st 50,i6,i6],[.st 50, .bool],true,false,fun(a:D.aAC×Int×Int)=>gd (a.1.sz≤34359738360) (some (aBf a.1 a.2.1 a.2.2))⟩
theorem aIp:OK 129 aIo:=mkS (.s .n (.s .n (.s .n (.s (.jx ⟨[(7,1),(1,3),(7,63)],[.tr (.c 3 0) 2 187 true],[],[]⟩ (.s .n (.s .n (.s .n (.s .n (.s .n (.s (.j ⟨[(11,1),(39,16)],[.dat (.s 11) i6],[],[]⟩ (.s (.l ⟨[(11,1),(39,16)],[.dat (.s 11) i6],[],[]⟩ FUEL (.s (.s (.rj 6 ⟨[(56,9)],[.dat (.s 64) .bool],[],[]⟩ (.r none (od 14 [12]))) .n) .n)) .n)) bFj))))))) .n)))) [.cell 6 50, .tmp 7] (gc iM (gc kQ (gc Dc (gc mU aD)))) func129 ntmps129 (fun a _=>aC (aHn a.1 a.2.1 a.2.2)) (fun _=>by kernel_rfl)
def Zw:SU:=⟨[.st 50,i6,i6],[.st 50, .bool],true,false,fun(a:D.aAC×Int×Int)=>gd (a.1.sz≤34359738360) (some (aBg a.1 a.2.1 a.2.2))⟩
theorem Zx:OK 131 Zw:=mkS (.s .n (.s .n (.s (.s (.rj 4 ⟨[(17,12)],[.dat (.s 28) .bool],[],[]⟩ .n) .n) .n))) [.cell 6 50, .tmp 7] (gc Dc (gc iM (gc kQ aD))) func131 ntmps131 (fun a _=>aC (Wy a.1 a.2.1 a.2.2)) (fun _=>by kernel_rfl)
def Rv:SU:=⟨[.st 52, .str,i6, .bool],[.st 52, .bool],true,false,fun(a:D.Device×ByteArray×Int×Bool)=>gd (a.1.sz≤34359738360∧a.2.1.size≤34359738300) (some (jD a.1 a.2.1 a.2.2.1 a.2.2.2))⟩
theorem Rw:OK 43 Rv:=mkS (.s .n (.s .n (.s bFp (.s bIp .n)))) [.cell 8 52, .tmp 9] (gc iT (gc Ib (gc aIp (gc Zx aD)))) func43 ntmps43 (fun a _=>aC (Qp a.1 a.2.1 a.2.2.1 a.2.2.2)) (fun _=>by kernel_rfl)
def aYa:SU:=⟨[.bool],[i6],false,false,fun(a:Bool)=>Vq a⟩
theorem aYb:OK 280 aYa:=mkS .n [.tmp 2] aD func280 ntmps280 (fun _ _=>id) (fun _=>by kernel_rfl)
def Rx:SU:=⟨[.st 50],[.sl 5],true,false,fun(a:D.aAC)=>gd (a.sz≤34359738368) (some (oO a))⟩
theorem Ry:OK 227 Rx:=mkS (.s .n (.s .n (.s .n (.s (.j ⟨[(3,1),(1,1),(7,20)],[.tr (.s 3) 1 3 true],[],[]⟩ (.s .n (.s (.l ⟨[(3,1),(1,1),(10,17)],[.tr (.s 3) 1 3 true, .nat (.s 16)],[],[]⟩ FUEL (.s .n (.s .n (.s (.s (.s .n (.r (some 11) (od 13 [9,10,11,12]))) .n) .n)))) .n))) .n)))) [.tmp 2] (gc iM (gc aYb (gc zA aD))) func227 ntmps227 (fun(a:D.aAC) _=>aC (Qt a)) (fun _=>by kernel_rfl)
def aEe:SU:=⟨[i6, .st 70],[i6],false,false,fun(a:Int×D.aAA)=>gd (a.2.Data.length≤34359738200) (some (iF a.1 a.2))⟩
theorem De:OK 228 aEe:=mkS bFk [.tmp 4] (gc mR (gc kL (gc eH aD))) func228 ntmps228 (fun a _=>aC (aCv a.1 a.2)) (fun _=>by kernel_rfl)
def Z6:SU:=⟨[i6,i6,i6, .st 50],[.st 70, .bool],true,false,fun(a:Int×Int×Int×D.aAC)=>gd (a.2.2.2.sz≤34359738368) (some (rA a.1 a.2.1 a.2.2.1 a.2.2.2))⟩
theorem Z7:OK 132 Z6:=mkS (.s .n (.s (.s (.rj 4 ⟨[(14,15)],[.dat (.s 28) .bool],[],[]⟩ .n) .n) (.s (.y false (some 11) (some 12) [(0,true),(1,true),(2,true),(3,true),(4,true),(7,true),(5,false),(6,false),(8,false),(9,false),(10,true),(11,false),(12,false)]) .n))) [.cell 8 70, .tmp 9] (gc cZ (gc eZ (gc iM (gc dN (gc Ry (gc Ot (gc De aD))))))) func132 ntmps132 (fun a _=>aC (P8 a.1 a.2.1 a.2.2.1 a.2.2.2)) (fun _=>by kernel_rfl)
def Zy:SU:=⟨[.st 52],[.st 52, .st 70, .bool],true,false,fun(a:D.Device)=>gd (a.sz≤34359738368) (some (mP a))⟩
theorem Zz:OK 44 Zy:=mkS bF3 [.cell 2 52, .cell 3 70, .tmp 4] (gc Z7 (gc iT aD)) func44 ntmps44 (fun(a:D.Device) _=>aC (Xd a)) (fun _=>by kernel_rfl)
def Z8:SU:=⟨[.st 70],[.st 70],true,false,fun(a:D.aAA)=>gd (a.sz≤34359738368) (some (a))⟩
theorem zC:OK 135 Z8:=mkS .n [.cell 2 70] (gc qL aD) func135 ntmps135 (fun(a:D.aAA) _=>aC (M8 a)) (fun _=>by kernel_rfl)
def aEf:SU:=⟨[.st 30],[.st 30],true,false,fun(a:D.aAJ)=>gd (a.sz≤34359738368) (some (a))⟩
theorem Df:OK 133 aEf:=mkS (.s .n (.s bFw (.s (.j ⟨[(5,1),(7,15)],[.nt (.c 4 3) 70 true],[],[]⟩ (.s .n (.s (.l ⟨[(5,1),(10,12)],[.nat (.s 16), .nt (.c 4 3) 70 true],[],[]⟩ FUEL bEy) .n))) .n))) [.cell 2 30] (gc jM (gc pU (gc zC aD))) func133 ntmps133 (fun(a:D.aAJ) _=>aC (aCl a)) (fun _=>by kernel_rfl)
def aEg:SU:=⟨[.st 70, .st 70],[.bool],false,false,fun(a:D.aAA×D.aAA)=>some (rV a.1 a.2)⟩
theorem aEh:OK 134 aEg:=mkS bDj [.tmp 4] aD func134 ntmps134 (fun a _=>(aCx a.1 a.2).trans) (fun _=>by kernel_rfl)
def Rz:SU:=⟨[.st 30, .st 70],[.st 30, .bool],true,false,fun(a:D.aAJ×D.aAA)=>gd (a.1.sz≤34359738300∧a.2.sz≤34359738300) (some (gJ a.1 a.2))⟩
theorem Sa:OK 45 Rz:=mkS bFq [.cell 4 30, .tmp 5] (gc Df (gc lF (gc aEh (gc zC aD)))) func45 ntmps45 (fun a _=>aC (Qu a.1 a.2)) (fun _=>by kernel_rfl)
def aOi:SU:=⟨[i6, .sl 5],[.sl 5],true,false,fun(a:Int×(List Int))=>gd (a.2.length≤34359738368) (some (aBd a.1 a.2))⟩
theorem Ox:OK 233 aOi:=mkS bFn [.tmp 4] (gc eH (gc wU aD)) func233 ntmps233 (fun a _=>aC (aMu a.1 a.2)) (fun _=>by kernel_rfl)
def aOj:SU:=⟨[i6, .st 178],[.sl 5, .bool],true,false,fun(a:Int×D.Box)=>some (gL a.1 a.2)⟩
theorem aOk:OK 281 aOj:=mkS bFv [.tmp 4, .tmp 5] (gc cZ (gc qJ (gc Uk (gc Ul (gc Ox aD))))) func281 ntmps281 (fun a _=>(aMx a.1 a.2).trans) (fun _=>by kernel_rfl)
def aOl:SU:=⟨[.sl 178,i6],[.sl 5, .bool],true,false,fun(a:(List D.Box)×Int)=>gd (a.1.length≤34359738368) (some (gX a.1 a.2))⟩
theorem aOm:OK 230 aOl:=mkS (.s .n (.s (.jx ⟨[(4,2),(1,18)],[],[],[]⟩ (.s .n (.s (.l ⟨[(4,2),(1,3),(2,13)],[.nat (.s 12)],[],[]⟩ FUEL .n) .n))) .n)) [.tmp 4, .tmp 5] (gc aOk aD) func230 ntmps230 (fun a _=>aC (aMy a.1 a.2)) (fun _=>by kernel_rfl)
def d9:SU:=⟨[.sl 5,i6],[i6,i6, .bool],false,false,fun(a:(List Int)×Int)=>gd (aW a.1) (some (xB a.1 a.2))⟩
theorem wZ:OK 282 d9:=mkS (.s .n (.s (.s (.rj 3 ⟨[(13,6)],[.dat (.s 18) .bool],[],[]⟩ .n) .n) (.s .n (.s .n (.s (.jx ⟨[(4,7),(8,42)],[],[],[]⟩ (.s .n (.s (.l ⟨[(4,7),(8,42)],[.dat (.s 7) i6, .dat (.s 8) i6, .nat (.s 9)],[],[]⟩ FUEL (.s .n (.s (.s (.s .n (.s .n (.s .n (.s .n (.s .n (.s (.s (.s (.rj 3 ⟨[(48,8)],[.dat (.s 55) .bool],[],[]⟩ .n) .n) .n) .n)))))) .n) .n))) .n))) .n))))) [.tmp 4, .tmp 5, .tmp 6] aD func282 ntmps282 (fun a _=>aC (Xa a.1 a.2)) (fun _=>by kernel_rfl)
def Z9:SU:=⟨[.sl 5,i6,i6],[.sl 3,i6, .bool],true,false,fun(a:(List Int)×Int×Int)=>gd (aW a.1) (some (iG a.1 a.2.1 a.2.2))⟩
theorem zD:OK 231 Z9:=mkS (.s .n (.s (.s (.rj 3 ⟨[(16,14)],[.dat (.s 29) .bool],[],[]⟩ .n) .n) (.s .n (.s (.jx ⟨[(1,1),(4,8),(17,19)],[.dat (.s 1) i6, .tr (.s 9) 0 3 true],[],[]⟩ (.s .n (.s (.l ⟨[(1,1),(4,8),(17,19)],[.dat (.s 1) i6, .tr (.s 9) 0 3 true, .nat (.s 10)],[],[]⟩ FUEL .n) .n))) .n)))) [.tmp 6, .tmp 7, .tmp 8] (gc wZ aD) func231 ntmps231 (fun a _=>aC (O4 a.1 a.2.1 a.2.2)) (fun _=>by kernel_rfl)
def Jn:SU:=⟨[.st 47, .st 27],[i6, .bool],false,false,fun(a:D.aAH×D.aAD)=>gd (a.2.sz≤34359738368) (some (dD a.1 a.2))⟩
theorem Jo:OK 137 Jn:=mkS (.s .n (.s (.r none (od 12 [4,5,6])) (.s .n (.s .n (.s (.s (.rj 3 ⟨[(31,21)],[.dat (.s 51) .bool],[],[]⟩ (.r none (od 23 [20]))) .n) .n))))) [.tmp 4, .tmp 5] (gc dN (gc aOm (gc zD (gc cZ aD)))) func137 ntmps137 (fun a _=>aC (Iw a.1 a.2)) (fun _=>by kernel_rfl)
def Sb:SU:=⟨[.sl 5],[.st 50, .bool],true,false,fun(a:(List Int))=>gd (aW a) (some (Kw a))⟩
theorem Sc:OK 232 Sb:=mkS (.s .n (.s .n (.s (.s (.rj 3 ⟨[(20,4)],[.dat (.s 23) .bool],[],[]⟩ .n) .n) (.s .n (.s (.s (.rj 3 ⟨[(36,6)],[.dat (.s 41) .bool],[],[]⟩ .n) .n) (.s .n (.s (.jx ⟨[(3,1),(6,2),(32,33)],[.nt (.c 1 0) 187 true],[],[]⟩ (.s .n (.s (.l ⟨[(3,1),(6,2),(32,33)],[.nat (.s 10), .nt (.c 1 0) 187 true],[],[]⟩ FUEL (.s .n (.s (.s (.s .n (.s .n (.r (some 17) (od 20 [16,17,18,19])))) .n) .n))) .n))) .n))))))) [.cell 2 50, .tmp 3] (gc wZ (gcp zD (gc iM aD))) func232 ntmps232 (fun(a:(List Int)) _=>aC (Qr a)) (fun _=>by kernel_rfl)
def aAa:SU:=⟨[i6, .st 70],[.st 50, .bool],true,false,fun(a:Int×D.aAA)=>gd (a.2.Data.length≤34359738200) (some (kN a.1 a.2))⟩
theorem aAb:OK 138 aAa:=mkS (.s .n (.s (.s (.rj 4 ⟨[(11,20)],[.dat (.s 30) .bool],[],[]⟩ (.r none (od 23 [1,6,12,20]))) .n) (.s (.y false (some 14) (some 15) [(0,true),(1,true),(2,true),(3,true),(4,true),(7,true),(8,true),(5,false),(6,false),(9,false),(10,false),(11,true),(12,true),(13,true),(14,false),(15,false),(16,true)]) .n))) [.cell 4 50, .tmp 5] (gc cZ (gc eZ (gc De (gc dN (gc Ox (gc Sc aD)))))) func138 ntmps138 (fun a _=>aC (O8 a.1 a.2)) (fun _=>by kernel_rfl)
def Sd:SU:=⟨[.st 50, .st 50],[.st 50, .bool],true,false,fun(a:D.aAC×D.aAC)=>gd (a.1.sz≤34359738368∧a.2.sz≤34359738368) (some (kX a.1 a.2))⟩
theorem Sg:OK 139 Sd:=mkS (.s .n (.s bF9 (.s .n (.s .n (.s .n (.s (.j ⟨[(7,4),(11,118)],[.nt (.c 3 0) 187 true],[],[]⟩ (.s (.l ⟨[(7,4),(11,118)],[.dat (.s 7) i6, .dat (.s 8) i6, .nt (.c 3 0) 187 true],[],[]⟩ FUEL (.s (.s (.rj 6 ⟨[(27,7)],[.dat (.s 33) .bool],[],[]⟩ .n) .n) (.s (.s (.s (.rj 6 ⟨[(71,1),(5,20)],[.dat (.s 71) .bool],[],[]⟩ (.r none (od 26 [22]))) (.s (.s (.r (some 8) (od 11 [7,8,9,10])) .n) (.s (.rj 6 ⟨[(109,1),(5,13)],[.dat (.s 109) .bool],[],[]⟩ (.r none (od 19 [16]))) (.s (.s (.r (some 8) (od 11 [7,8,9,10])) .n) (.s .n (.s .n (.s (.j ⟨[(44,17)],[.dat (.c 5 0) i6, .dat (.c 5 1) i6, .dat (.c 5 2) i6, .dat (.c 5 3) .bool],[],[]⟩ (.s (.rj 6 ⟨[(49,11)],[.dat (.s 59) .bool],[],[]⟩ .n) .n)) .n))))))) .n) .n))) .n)) .n)))))) [.cell 4 50, .tmp 5] (gc iM (gc kQ (gc mU aD))) func139 ntmps139 (fun a _=>aC (Qn a.1 a.2)) (fun _=>by kernel_rfl)
def aAc:SU:=⟨[.st 52, .sl 109, .st 27, .st 70],[.st 52,i6],true,false,fun(a:D.Device×(List D.aAB)×D.aAD×D.aAA)=>gd (a.1.sz≤34359738368∧a.2.1.length≤34359738368∧a.2.2.1.sz≤34359738368∧a.2.2.2.Data.length≤34359738200) (some (eP a.1 a.2.1 a.2.2.1 a.2.2.2))⟩
theorem aAd:OK 46 aAc:=mkS (.s .n (.s .n (.s (.s (.rj 4 ⟨[(23,7)],[.dat (.s 29) .bool],[],[]⟩ .n) .n) (.s bFz (.s .n (.s .n (.s bF8 (.s bF7 (.s .n (.s .n (.s .n (.s .n bFo)))))))))))) [.cell 8 52, .tmp 9] (gc iT (gc jL (gc zB (gc lS (gc lW (gc Yz (gc lF (gc Jo (gc aAb (gc Sg (gc jM aD))))))))))) func46 ntmps46 (fun a _=>aC (P5 a.1 a.2.1 a.2.2.1 a.2.2.2)) (fun _=>by kernel_rfl)
def o5:SU:=⟨[.st 39],[i6],false,false,fun(a:D.World)=>some (aJs a)⟩
theorem o6:OK 48 o5:=mkS .n [.tmp 2] (gc dN aD) func48 ntmps48 (fun a _=>(Xp a).trans) (fun _=>by kernel_rfl)
def aAe:SU:=⟨[i6, .sl 3,i6],[i6],false,false,fun(a:Int×(List Int)×Int)=>gd (0≤a.2.2∧a.2.2≤1000∧a.2.1.length≤34359738368) (some (xH a.1 a.2.1 a.2.2))⟩
theorem aAf:OK 234 aAe:=mkS bFr [.tmp 6] (gc wU aD) func234 ntmps234 (fun a _=>aC (N9 a.1 a.2.1 a.2.2)) (fun _=>by kernel_rfl)
def o7:SU:=⟨[i6, .sl 3,i6],[.sl 136],true,false,fun(a:Int×(List Int)×Int)=>gd (a.2.1.length≤34359738368) (some (lU a.1 a.2.1 a.2.2))⟩
theorem o8:OK 141 o7:=mkS (.s .n (.s (.s (.rj 4 ⟨[(12,6)],[.dat (.s 17) .bool],[],[]⟩ .n) .n) (.s .n (.s (.j ⟨[(7,2),(10,14)],[.tr (.s 7) 0 136 true],[],[]⟩ (.s .n (.s (.l ⟨[(7,2),(10,14)],[.tr (.s 7) 0 136 true, .dat (.s 8) i6],[],[]⟩ FUEL .n) .n))) .n)))) [.tmp 6] (gc eZ (gc aAf aD)) func141 ntmps141 (fun a _=>aC (Xr a.1 a.2.1 a.2.2)) (fun _=>by kernel_rfl)
def Jp:SU:=⟨[i6],[.bool],false,false,fun(a:Int)=>some (aGt a)⟩
theorem Jq:OK 283 Jp:=mkS bF5 [.tmp 2] (gc eZ (gc Ex aD)) func283 ntmps283 (fun a _=>(Jb a).trans) (fun _=>by kernel_rfl)
def aIq:SU:=⟨[i6,i6],[i6],false,false,fun(a:Int×Int)=>some (rW a.1 a.2)⟩
theorem Ic:OK 235 aIq:=mkS .n [.tmp 4] (gc Jq (gc wU (gc Ex aD))) func235 ntmps235 (fun a _=>(aHs a.1 a.2).trans) (fun _=>by kernel_rfl)
def o9:SU:=⟨[i6,i6],[i6],false,false,fun(a:Int×Int)=>some (Ed a.1 a.2)⟩
theorem p9:OK 236 o9:=mkS .n [.tmp 4] (gc eH (gc Ic aD)) func236 ntmps236 (fun a _=>(Xo a.1 a.2).trans) (fun _=>by kernel_rfl)
def Si:SU:=⟨[i6,i6,i6],[i6],false,false,fun(a:Int×Int×Int)=>some (qO a.1 a.2.1 a.2.2)⟩
theorem Sj:OK 143 Si:=mkS .n [.tmp 6] (gc p9 (gc Ic aD)) func143 ntmps143 (fun a _=>(Qz a.1 a.2.1 a.2.2).trans) (fun _=>by kernel_rfl)
def aEi:SU:=⟨[i6,i6],[i6],false,false,fun(a:Int×Int)=>some (nQ a.1 a.2)⟩
theorem aEj:OK 142 aEi:=mkS .n [.tmp 4] (gc eH (gc Ew aD)) func142 ntmps142 (fun a _=>(aC6 a.1 a.2).trans) (fun _=>by kernel_rfl)
def aIr:SU:=⟨[.st 138],[i6],false,false,fun(a:D.aAL)=>some (Kn a)⟩
theorem aIs:OK 237 aIr:=mkS .n [.tmp 2] aD func237 ntmps237 (fun a _=>(aHj a).trans) (fun _=>by kernel_rfl)
def aEk:SU:=⟨[.st 138],[.st 141],true,false,fun(a:D.aAL)=>some (xJ a)⟩
theorem aEl:OK 144 aEk:=mkS (.s .n (.s (.r (some 4) (od 5 [2,4])) .n)) [.cell 2 141] (gc aIs aD) func144 ntmps144 (fun a _=>(aC8 a).trans) (fun _=>by kernel_rfl)
def aAg:SU:=⟨[i6,i6],[i6],false,false,fun(a:Int×Int)=>some (Ee a.1 a.2)⟩
theorem aAh:OK 145 aAg:=mkS .n [.tmp 4] (gc eH aD) func145 ntmps145 (fun a _=>(R5 a.1 a.2).trans) (fun _=>by kernel_rfl)
def aOn:SU:=⟨[i6,i6],[i6],false,false,fun(a:Int×Int)=>some (K3 a.1 a.2)⟩
theorem aOo:OK 146 aOn:=mkS .n [.tmp 4] (gc eZ (gc dN aD)) func146 ntmps146 (fun a _=>(aM7 a.1 a.2).trans) (fun _=>by kernel_rfl)
def aEm:SU:=⟨[i6,i6,i6,i6, .sl 3,i6,i6],[.st 33, .sl 141, .bool],true,false,fun(a:Int×Int×Int×Int×(List Int)×Int×Int)=>gd (a.2.2.2.2.1.length≤34359738368) (some (qF a.1 a.2.1 a.2.2.1 a.2.2.2.1 a.2.2.2.2.1 a.2.2.2.2.2.1 a.2.2.2.2.2.2))⟩
theorem aEn:OK 47 aEm:=mkS (.s .n (.s (.s (.rj 4 ⟨[(25,20)],[.dat (.s 44) .bool],[],[]⟩ .n) .n) (.s .n (.s .n (.s .n (.s .n (.s (.j ⟨[(19,1),(1,1),(39,14)],[.tr (.s 19) 2 141 true],[],[]⟩ (.s .n (.s (.l ⟨[(19,1),(1,1),(41,12)],[.tr (.s 19) 2 141 true, .nat (.s 63)],[],[]⟩ FUEL .n) .n))) .n))))))) [.cell 14 33, .tmp 15, .tmp 16] (gc eZ (gc cZ (gc wU (gc o8 (gc Sj (gc aEj (gc aEl (gc aAh (gc aOo aD))))))))) func47 ntmps47 (fun a _=>aC (aDa a.1 a.2.1 a.2.2.1 a.2.2.2.1 a.2.2.2.2.1 a.2.2.2.2.2.1 a.2.2.2.2.2.2)) (fun _=>by kernel_rfl)
def aIt:SU:=⟨[.st 141],[.st 141],true,false,fun(a:D.aAE)=>gd (a.sz≤34359738368) (some (a))⟩
theorem aIu:OK 238 aIt:=mkS .n [.cell 2 141] aD func238 ntmps238 (fun(a:D.aAE) _=>aC (aHe a)) (fun _=>by kernel_rfl)
def aEo:SU:=⟨[.sl 141],[.sl 141],true,false,fun(a:(List D.aAE))=>gd (szL D.aAE.sz a≤34359738368) (some (a))⟩
theorem aEp:OK 147 aEo:=mkS (.s .n (.s .n (.s (.j ⟨[(3,1),(1,1),(1,12)],[.tr (.s 3) 0 141 true],[],[]⟩ (.s .n (.s (.l ⟨[(3,1),(1,1),(3,10)],[.tr (.s 3) 0 141 true, .nat (.s 9)],[],[]⟩ FUEL .n) .n))) .n))) [.tmp 2] (gc aIu aD) func147 ntmps147 (fun(a:(List D.aAE)) _=>aC (aCm a)) (fun _=>by kernel_rfl)
def aIv:SU:=⟨[.st 37],[.st 37],true,false,fun(a:D.aAO)=>gd (a.sz≤34359738368) (some (a))⟩
theorem aIw:OK 148 aIv:=mkS .n [.cell 2 37] aD func148 ntmps148 (fun(a:D.aAO) _=>aC (aHf a)) (fun _=>by kernel_rfl)
def aEq:SU:=⟨[.st 39],[.st 39],true,false,fun(a:D.World)=>gd (a.sz≤34359738368) (some (a))⟩
theorem aEr:OK 49 aEq:=mkS (.s .n (.s (.y true (some 22) (some 23) [(0,true),(1,true),(2,true),(3,true),(5,true),(6,true),(8,true),(9,true),(11,true),(12,true),(13,true),(14,true),(16,true),(17,true),(18,true),(19,true),(4,false),(7,false),(10,false),(15,false),(20,false),(21,false),(22,false),(23,false)]) (.s (.j ⟨[(5,1),(24,15)],[.nt (.c 8 2) 52 true],[],[]⟩ (.s .n (.s (.l ⟨[(5,1),(27,12)],[.nat (.s 33), .nt (.c 8 2) 52 true],[],[]⟩ FUEL bEy) .n))) (.s (.j ⟨[(7,1),(37,15)],[.nt (.c 8 8) 85 true],[],[]⟩ (.s .n (.s (.l ⟨[(7,1),(40,12)],[.nat (.s 48), .nt (.c 8 8) 85 true],[],[]⟩ FUEL bEy) .n))) .n)))) [.cell 2 39] (gc Df (gc aEp (gc aIw (gc iT (gc rX aD))))) func49 ntmps49 (fun(a:D.World) _=>aC (aCn a)) (fun _=>by kernel_rfl)
def aIx:SU:=⟨[i6,i6,i6,i6,i6],[.st 39],true,false,fun(a:Int×Int×Int×Int×Int)=>some (bG a.1 a.2.1 a.2.2.1 a.2.2.2.1 a.2.2.2.2)⟩
theorem aIy:OK 5 aIx:=mkS (.s .n (.s (.s (.rj 4 ⟨[(34,21)],[.dat (.s 54) .bool],[],[]⟩ .n) .n) (.s .n (.s .n (.s (.j ⟨[(12,2),(48,31)],[.tr (.s 12) 3 109 true, .nt (.c 2 2) 52 true],[],[]⟩ (.s .n (.s (.l ⟨[(12,2),(48,31)],[.tr (.s 12) 3 109 true, .nat (.s 13), .nt (.c 2 2) 52 true],[],[]⟩ FUEL (.s .n (.s (.s (.s (.r (some 7) (od 10 [4,5,6,7,8,9])) (.r none [(0,true),(1,true),(2,true),(3,true),(4,true),(5,true),(6,true),(8,true),(9,true),(10,true),(11,true),(12,true),(7,false),(13,false),(14,true),(15,true),(16,true),(17,true)])) .n) .n))) .n))) (.s .n (.s .n (.s .n (.s (.j ⟨[(17,5),(86,42)],[.nt (.c 2 8) 85 false],[],[]⟩ (.s .n (.s (.l ⟨[(17,5),(86,42)],[.nat (.s 17), .nt (.c 2 8) 85 false],[],[]⟩ FUEL (.s .n (.s (.j ⟨[(18,4),(90,38)],[.tr (.c 2 8) 10 85 false],[],[]⟩ (.s (.s .n (.s (.j ⟨[(20,2),(101,21)],[.dat (.c 12 0) (.str), .dat (.c 12 1) (.sl 147), .dat (.c 12 2) i6, .dat (.c 12 3) i6, .dat (.c 12 4) (.sl 232), .dat (.c 12 5) (.sl 3)],[],[]⟩ (.s .n (.s (.l ⟨[(20,2),(104,18)],[.nat (.s 126), .dat (.c 12 0) (.str), .dat (.c 12 1) (.sl 147), .dat (.c 12 2) i6, .dat (.c 12 3) i6, .dat (.c 12 4) (.sl 232), .dat (.c 12 5) (.sl 3)],[],[]⟩ FUEL (.s .n (.s .n (.s (.s (.s .n (.y false none (some 12) [(0,true),(1,true),(2,true),(3,true),(4,true),(6,true),(5,false),(7,false),(8,false),(9,true),(10,true),(11,true),(12,false)])) .n) .n)))) .n))) .n)) .n)) .n))) .n))) (.s (.j ⟨[(22,1),(127,22)],[.tr (.c 2 2) 4 52 true],[],[]⟩ (.s .n (.s (.l ⟨[(22,1),(130,19)],[.nat (.s 153), .tr (.c 2 2) 4 52 true],[],[]⟩ FUEL (.s .n (.s .n (.s (.s (.s .n bDk) .n) .n)))) .n))) (.s (.j ⟨[(23,2),(147,23)],[.tr (.c 2 2) 4 52 true],[],[]⟩ (.s .n (.s (.l ⟨[(23,2),(147,23)],[.nat (.s 23), .tr (.c 2 2) 4 52 true],[],[]⟩ FUEL (.s .n (.s (.j ⟨[(24,1),(151,19)],[.tr (.c 2 2) 4 52 true],[],[]⟩ (.s (.s .n (.s (.l ⟨[(24,1),(151,19)],[.nat (.s 24), .tr (.c 2 2) 4 52 true],[],[]⟩ FUEL bIr) .n)) .n)) .n))) .n))) (.s .n (.s .n (.s .n (.s (.j ⟨[(28,1),(187,21)],[.tr (.c 2 2) 4 52 true],[],[]⟩ (.s .n (.s (.l ⟨[(28,1),(187,21)],[.dat (.s 28) i6, .tr (.c 2 2) 4 52 true],[],[]⟩ FUEL (.s .n (.s (.s (.y false none (some 16) (od 17 [11,16])) .n) .n))) .n))) (.s .n (.s (.j ⟨[(29,2),(207,12)],[.tr (.s 29) 19 3 true],[],[]⟩ (.s .n (.s (.l ⟨[(29,2),(207,12)],[.tr (.s 29) 19 3 true, .dat (.s 30) i6],[],[]⟩ FUEL .n) .n))) .n))))))))))))))))) [.cell 10 39] (gc eZ (gc cZ (gc X8 (gc aD1 (gc lW (gc Zc (gc aIe (gc Jk (gc aIg (gc aIi (gc dN (gcp aOh (gc Zn (gc Y7 (gcp Zu (gc Z5 (gc Rw (gc Zz (gc Sa (gc aAd (gc o6 (gc aEn (gc aEr aD))))))))))))))))))))))) func5 ntmps5 (fun a _=>(aHw a.1 a.2.1 a.2.2.1 a.2.2.2.1 a.2.2.2.2).trans) (fun _=>by kernel_rfl)
def aAi:SU:=⟨[.st 47, .st 47],[.bool],false,false,fun(a:D.aAH×D.aAH)=>gd (eO (0) a.1 a.2) (some true)⟩
theorem aAj:OK 239 aAi:=mkS .n [.tmp 4] aD func239 ntmps239 (fun a _=>aC (L6 a.1 a.2)) (fun _=>by kernel_rfl)
def aAk:SU:=⟨[.st 109, .st 109],[.bool],false,false,fun(a:D.aAB×D.aAB)=>gd (eO (0) a.1 a.2) (some true)⟩
theorem aAl:OK 241 aAk:=mkS .n [.tmp 4] aD func241 ntmps241 (fun a _=>aC (L8 a.1 a.2)) (fun _=>by kernel_rfl)
def q9:SU:=⟨[.sl 109, .sl 109],[.bool],false,false,fun(a:(List D.aAB)×(List D.aAB))=>gd (eO (a.1.length) a.1 a.2) (some true)⟩
theorem xA:OK 150 q9:=mkS aHx [.tmp 4] (gc aAl aD) func150 ntmps150 (fun a _=>aC (Vt a.1 a.2)) (fun _=>by kernel_rfl)
def aOp:SU:=⟨[.st 187, .st 187],[.bool],false,false,fun(a:D.Entry×D.Entry)=>gd (eO (0) a.1 a.2) (some true)⟩
theorem aOq:OK 299 aOp:=mkS .n [.tmp 4] aD func299 ntmps299 (fun a _=>aC (aLy a.1 a.2)) (fun _=>by kernel_rfl)
def aIz:SU:=⟨[.sl 187, .sl 187],[.bool],false,false,fun(a:(List D.Entry)×(List D.Entry))=>gd (eO (a.1.length) a.1 a.2) (some true)⟩
theorem aI0:OK 285 aIz:=mkS aHx [.tmp 4] (gc aOq aD) func285 ntmps285 (fun a _=>aC (aG1 a.1 a.2)) (fun _=>by kernel_rfl)
def aI1:SU:=⟨[.st 50, .st 50],[.bool],false,false,fun(a:D.aAC×D.aAC)=>gd (eO (a.1.sz) a.1 a.2) (some true)⟩
theorem aI2:OK 240 aI1:=mkS .n [.tmp 4] (gc aI0 aD) func240 ntmps240 (fun a _=>aC (aG2 a.1 a.2)) (fun _=>by kernel_rfl)
def aI3:SU:=⟨[.st 52, .st 52],[.bool],false,false,fun(a:D.Device×D.Device)=>gd (eO (a.1.sz) a.1 a.2) (some true)⟩
theorem aI4:OK 149 aI3:=mkS .n [.tmp 4] (gc aAj (gc xA (gc aI2 aD))) func149 ntmps149 (fun a _=>aC (aG3 a.1 a.2)) (fun _=>by kernel_rfl)
def aEs:SU:=⟨[.sl 52, .sl 52],[.bool],false,false,fun(a:(List D.Device)×(List D.Device))=>gd (eO (a.1.length+(a.1.map D.Device.sz).sum) a.1 a.2) (some true)⟩
theorem aEt:OK 50 aEs:=mkS aHx [.tmp 4] (gc aI4 aD) func50 ntmps50 (fun a _=>aC (aBu a.1 a.2)) (fun _=>by kernel_rfl)
def aOr:SU:=⟨[.sl 4, .sl 4],[.bool],false,false,fun(a:(List Bool)×(List Bool))=>gd (eO (a.1.length) a.1 a.2) (some true)⟩
theorem aOs:OK 51 aOr:=mkS bEx [.tmp 4] aD func51 ntmps51 (fun a _=>aC (aLz a.1 a.2)) (fun _=>by kernel_rfl)
def aOt:SU:=⟨[.sl 5, .sl 5],[.bool],false,false,fun(a:(List Int)×(List Int))=>gd (eO (a.1.length) a.1 a.2) (some true)⟩
theorem Oy:OK 287 aOt:=mkS bEx [.tmp 4] aD func287 ntmps287 (fun a _=>aC (aL0 a.1 a.2)) (fun _=>by kernel_rfl)
def aTy:SU:=⟨[.st 178, .st 178],[.bool],false,false,fun(a:D.Box×D.Box)=>gd (eO (a.1.sz) a.1 a.2) (some true)⟩
theorem aTz:OK 286 aTy:=mkS .n [.tmp 4] (gc Oy aD) func286 ntmps286 (fun a _=>aC (aTl a.1 a.2)) (fun _=>by kernel_rfl)
def aQd:SU:=⟨[.sl 178, .sl 178],[.bool],false,false,fun(a:(List D.Box)×(List D.Box))=>gd (eO (a.1.length+(a.1.map D.Box.sz).sum) a.1 a.2) (some true)⟩
theorem aQe:OK 242 aQd:=mkS aHx [.tmp 4] (gc aTz aD) func242 ntmps242 (fun a _=>aC (aPi a.1 a.2)) (fun _=>by kernel_rfl)
def Sk:SU:=⟨[.st 27, .st 27],[.bool],false,false,fun(a:D.aAD×D.aAD)=>gd (eO (a.1.sz) a.1 a.2) (some true)⟩
theorem Sl:OK 151 Sk:=mkS .n [.tmp 4] (gc aQe aD) func151 ntmps151 (fun a _=>aC (Qe a.1 a.2)) (fun _=>by kernel_rfl)
def Jr:SU:=⟨[.st 70, .st 70],[.bool],false,false,fun(a:D.aAA×D.aAA)=>gd (eO (a.1.sz) a.1 a.2) (some true)⟩
theorem Js:OK 243 Jr:=mkS .n [.tmp 4] (gc Oy aD) func243 ntmps243 (fun a _=>aC (Ii a.1 a.2)) (fun _=>by kernel_rfl)
def Fa:SU:=⟨[.sl 70, .sl 70],[.bool],false,false,fun(a:(List D.aAA)×(List D.aAA))=>gd (eO (a.1.length+(a.1.map D.aAA.sz).sum) a.1 a.2) (some true)⟩
theorem Fb:OK 152 Fa:=mkS aHx [.tmp 4] (gc Js aD) func152 ntmps152 (fun a _=>aC (Eg a.1 a.2)) (fun _=>by kernel_rfl)
def aOu:SU:=⟨[.st 30, .st 30],[.bool],false,false,fun(a:D.aAJ×D.aAJ)=>gd (eO (a.1.sz) a.1 a.2) (some true)⟩
theorem aOv:OK 52 aOu:=mkS .n [.tmp 4] (gc xA (gc Sl (gc Fb aD))) func52 ntmps52 (fun a _=>aC (aL1 a.1 a.2)) (fun _=>by kernel_rfl)
def Sm:SU:=⟨[.st 207, .st 207],[.bool],false,false,fun(a:D.aAI×D.aAI)=>gd (eO (0) a.1 a.2) (some true)⟩
theorem Sq:OK 307 Sm:=mkS .n [.tmp 4] aD func307 ntmps307 (fun a _=>aC (Qf a.1 a.2)) (fun _=>by kernel_rfl)
def Oz:SU:=⟨[.sl 207, .sl 207],[.bool],false,false,fun(a:(List D.aAI)×(List D.aAI))=>gd (eO (a.1.length) a.1 a.2) (some true)⟩
theorem Pb:OK 300 Oz:=mkS aHx [.tmp 4] (gc Sq aD) func300 ntmps300 (fun a _=>aC (Nl a.1 a.2)) (fun _=>by kernel_rfl)
def aEu:SU:=⟨[.st 147, .st 147],[.bool],false,false,fun(a:D.aAF×D.aAF)=>gd (eO (a.1.sz) a.1 a.2) (some true)⟩
theorem aEv:OK 288 aEu:=mkS .n [.tmp 4] (gc Pb aD) func288 ntmps288 (fun a _=>aC (aBv a.1 a.2)) (fun _=>by kernel_rfl)
def aAm:SU:=⟨[.sl 147, .sl 147],[.bool],false,false,fun(a:(List D.aAF)×(List D.aAF))=>gd (eO (a.1.length+(a.1.map D.aAF.sz).sum) a.1 a.2) (some true)⟩
theorem aAn:OK 244 aAm:=mkS aHx [.tmp 4] (gc aEv aD) func244 ntmps244 (fun a _=>aC (L9 a.1 a.2)) (fun _=>by kernel_rfl)
def r9:SU:=⟨[.st 232, .st 232],[.bool],false,false,fun(a:D.aAK×D.aAK)=>gd (eO (0) a.1 a.2) (some true)⟩
theorem w9:OK 301 r9:=mkS .n [.tmp 4] aD func301 ntmps301 (fun a _=>aC (Vu a.1 a.2)) (fun _=>by kernel_rfl)
def Sr:SU:=⟨[.sl 232, .sl 232],[.bool],false,false,fun(a:(List D.aAK)×(List D.aAK))=>gd (eO (a.1.length) a.1 a.2) (some true)⟩
theorem Su:OK 289 Sr:=mkS aHx [.tmp 4] (gc w9 aD) func289 ntmps289 (fun a _=>aC (Qg a.1 a.2)) (fun _=>by kernel_rfl)
def Fe:SU:=⟨[.st 83, .st 83],[.bool],false,false,fun(a:D.aAG×D.aAG)=>gd (eO (a.1.sz) a.1 a.2) (some true)⟩
theorem Ff:OK 245 Fe:=mkS .n [.tmp 4] (gc Su aD) func245 ntmps245 (fun a _=>aC (Eh a.1 a.2)) (fun _=>by kernel_rfl)
def aQf:SU:=⟨[.sl 3, .sl 3],[.bool],false,false,fun(a:(List Int)×(List Int))=>gd (eO (a.1.length) a.1 a.2) (some true)⟩
theorem aQg:OK 246 aQf:=mkS bEx [.tmp 4] aD func246 ntmps246 (fun a _=>aC (aPj a.1 a.2)) (fun _=>by kernel_rfl)
def aQh:SU:=⟨[.st 85, .st 85],[.bool],false,false,fun(a:D.Site×D.Site)=>gd (eO (a.1.sz) a.1 a.2) (some true)⟩
theorem aQi:OK 153 aQh:=mkS .n [.tmp 4] (gc aAn (gc Ff (gc aQg aD))) func153 ntmps153 (fun a _=>aC (aPk a.1 a.2)) (fun _=>by kernel_rfl)
def aOw:SU:=⟨[.sl 85, .sl 85],[.bool],false,false,fun(a:(List D.Site)×(List D.Site))=>gd (eO (a.1.length+(a.1.map D.Site.sz).sum) a.1 a.2) (some true)⟩
theorem aOx:OK 53 aOw:=mkS aHx [.tmp 4] (gc aQi aD) func53 ntmps53 (fun a _=>aC (aL2 a.1 a.2)) (fun _=>by kernel_rfl)
def aOy:SU:=⟨[.st 33, .st 33],[.bool],false,false,fun(a:D.aAQ×D.aAQ)=>gd (eO (0) a.1 a.2) (some true)⟩
theorem aOz:OK 54 aOy:=mkS .n [.tmp 4] aD func54 ntmps54 (fun a _=>aC (aL3 a.1 a.2)) (fun _=>by kernel_rfl)
def aO0:SU:=⟨[.st 136, .st 136],[.bool],false,false,fun(a:D.aAM×D.aAM)=>gd (eO (0) a.1 a.2) (some true)⟩
theorem aO1:OK 290 aO0:=mkS .n [.tmp 4] aD func290 ntmps290 (fun a _=>aC (aL4 a.1 a.2)) (fun _=>by kernel_rfl)
def aI5:SU:=⟨[.st 138, .st 138],[.bool],false,false,fun(a:D.aAL×D.aAL)=>gd (eO (0) a.1 a.2) (some true)⟩
theorem Ie:OK 247 aI5:=mkS .n [.tmp 4] (gc aO1 aD) func247 ntmps247 (fun a _=>aC (aG4 a.1 a.2)) (fun _=>by kernel_rfl)
def aEw:SU:=⟨[.sl 138, .sl 138],[.bool],false,false,fun(a:(List D.aAL)×(List D.aAL))=>gd (eO (a.1.length) a.1 a.2) (some true)⟩
theorem aEx:OK 248 aEw:=mkS aHx [.tmp 4] (gc Ie aD) func248 ntmps248 (fun a _=>aC (aBw a.1 a.2)) (fun _=>by kernel_rfl)
def Sw:SU:=⟨[.st 141, .st 141],[.bool],false,false,fun(a:D.aAE×D.aAE)=>gd (eO (a.1.sz) a.1 a.2) (some true)⟩
theorem Sy:OK 154 Sw:=mkS .n [.tmp 4] (gc Ie (gc aEx aD)) func154 ntmps154 (fun a _=>aC (Qh a.1 a.2)) (fun _=>by kernel_rfl)
def Pd:SU:=⟨[.sl 141, .sl 141],[.bool],false,false,fun(a:(List D.aAE)×(List D.aAE))=>gd (eO (a.1.length+(a.1.map D.aAE.sz).sum) a.1 a.2) (some true)⟩
theorem Pe:OK 55 Pd:=mkS aHx [.tmp 4] (gc Sy aD) func55 ntmps55 (fun a _=>aC (Nn a.1 a.2)) (fun _=>by kernel_rfl)
def aI6:SU:=⟨[.st 227, .st 227],[.bool],false,false,fun(a:D.aAP×D.aAP)=>gd (eO (0) a.1 a.2) (some true)⟩
theorem aI7:OK 249 aI6:=mkS .n [.tmp 4] aD func249 ntmps249 (fun a _=>aC (aG5 a.1 a.2)) (fun _=>by kernel_rfl)
def aEy:SU:=⟨[.sl 227, .sl 227],[.bool],false,false,fun(a:(List D.aAP)×(List D.aAP))=>gd (eO (a.1.length) a.1 a.2) (some true)⟩
theorem aEz:OK 155 aEy:=mkS aHx [.tmp 4] (gc aI7 aD) func155 ntmps155 (fun a _=>aC (aBx a.1 a.2)) (fun _=>by kernel_rfl)
def aE0:SU:=⟨[.st 37, .st 37],[.bool],false,false,fun(a:D.aAO×D.aAO)=>gd (eO (a.1.sz) a.1 a.2) (some true)⟩
theorem aE1:OK 56 aE0:=mkS .n [.tmp 4] (gc aEz aD) func56 ntmps56 (fun a _=>aC (aBy a.1 a.2)) (fun _=>by kernel_rfl)
def aO2:SU:=⟨[.st 39, .st 39],[.bool],false,false,fun(a:D.World×D.World)=>gd (eO (a.1.sz) a.1 a.2) (some true)⟩
theorem aO3:OK 6 aO2:=mkS .n [.tmp 4] (gc aEt (gc aOs (gc aOv (gc aOx (gc aOz (gc Pe (gc aE1 aD))))))) func6 ntmps6 (fun a _=>aC (aL5 a.1 a.2)) (fun _=>by kernel_rfl)
def Pf:SU:=⟨[.sl 109,i6],[.sl 109,i6],false,true,fun(a:(List D.aAB)×Int)=>gd (jO (a.1.length) (aA aG a.1) a.2) (some (bF aS a.1 a.2))⟩
theorem rP:OK 156 Pf:=mkW (.s .n (.s (.j ⟨[(1,1),(3,49)],[.dat (.s 1) i6, .ti 0 109 true],[],[]⟩ (.s .n (.s (.l ⟨[(1,1),(3,49)],[.dat (.s 1) i6, .nat (.s 5), .ti 0 109 true],[],[]⟩ FUEL .n) .n))) .n)) [.tmp 4] aD func156 ntmps156 (fun a _=>aC (Np a.1 a.2)) (fun _=>by kernel_rfl)
def aAo:SU:=⟨[.sl 187,i6],[.sl 187,i6],false,true,fun(a:(List D.Entry)×Int)=>gd (jO (a.1.length) (aA dI a.1) a.2) (some (bF gF a.1 a.2))⟩
theorem aAp:OK 157 aAo:=mkW (.s .n (.s (.j ⟨[(1,1),(3,37)],[.dat (.s 1) i6, .ti 0 187 true],[],[]⟩ (.s .n (.s (.l ⟨[(1,1),(3,37)],[.dat (.s 1) i6, .nat (.s 5), .ti 0 187 true],[],[]⟩ FUEL .n) .n))) .n)) [.tmp 4] aD func157 ntmps157 (fun a _=>aC (M0 a.1 a.2)) (fun _=>by kernel_rfl)
def x8:SU:=⟨[.sl 52,i6],[.sl 52,i6],false,true,fun(a:(List D.Device)×Int)=>gd (jO (a.1.length+(a.1.map D.Device.sz).sum) (aA aP a.1) a.2) (some (bF bW a.1 a.2))⟩
theorem x9:OK 57 x8:=mkW (.s .n (.s (.j ⟨[(1,1),(3,75)],[.dat (.s 1) i6, .ti 0 52 true],[],[]⟩ (.s .n (.s (.l ⟨[(1,1),(3,75)],[.dat (.s 1) i6, .nat (.s 5), .ti 0 52 true],[],[]⟩ FUEL .n) .n))) .n)) [.tmp 4] (gc rP (gc aAp aD)) func57 ntmps57 (fun a _=>aC (Vv a.1 a.2)) (fun _=>by kernel_rfl)
def aE2:SU:=⟨[.sl 4,i6],[.sl 4,i6],false,true,fun(a:(List Bool)×Int)=>gd (jO (a.1.length) (aA fT a.1) a.2) (some (bF mkB a.1 a.2))⟩
theorem aE3:OK 58 aE2:=mkW (.s .n (.s (.j ⟨[(1,1),(3,15)],[.dat (.s 1) i6, .ti 0 4 true],[],[]⟩ (.s .n (.s (.l ⟨[(1,1),(3,15)],[.dat (.s 1) i6, .nat (.s 5), .ti 0 4 true],[],[]⟩ FUEL .n) .n))) .n)) [.tmp 4] aD func58 ntmps58 (fun a _=>aC (aBz a.1 a.2)) (fun _=>by kernel_rfl)
def aE4:SU:=⟨[.sl 5,i6],[.sl 5,i6],false,true,fun(a:(List Int)×Int)=>gd (jO (a.1.length) (aA fT a.1) a.2) (some (bF mkU a.1 a.2))⟩
theorem Dh:OK 251 aE4:=mkW (.s .n (.s (.j ⟨[(1,1),(3,14)],[.dat (.s 1) i6, .ti 0 5 true],[],[]⟩ (.s .n (.s (.l ⟨[(1,1),(3,14)],[.dat (.s 1) i6, .nat (.s 5), .ti 0 5 true],[],[]⟩ FUEL .n) .n))) .n)) [.tmp 4] aD func251 ntmps251 (fun a _=>aC (aB0 a.1 a.2)) (fun _=>by kernel_rfl)
def aI8:SU:=⟨[.sl 178,i6],[.sl 178,i6],false,true,fun(a:(List D.Box)×Int)=>gd (jO (a.1.length+(a.1.map D.Box.sz).sum) (aA eT a.1) a.2) (some (bF fE a.1 a.2))⟩
theorem aI9:OK 250 aI8:=mkW (.s .n (.s (.j ⟨[(1,1),(3,35)],[.dat (.s 1) i6, .ti 0 178 true],[],[]⟩ (.s .n (.s (.l ⟨[(1,1),(3,35)],[.dat (.s 1) i6, .nat (.s 5), .ti 0 178 true],[],[]⟩ FUEL .n) .n))) .n)) [.tmp 4] (gc Dh aD) func250 ntmps250 (fun a _=>aC (aG6 a.1 a.2)) (fun _=>by kernel_rfl)
def Jt:SU:=⟨[.st 27,i6],[.st 27,i6],false,true,fun(a:D.aAD×Int)=>gd (jO (a.1.sz) (aN a.1) a.2) (some (dQ a.1 a.2))⟩
theorem Ju:OK 158 Jt:=mkW .n [.tmp 4] (gc aI9 aD) func158 ntmps158 (fun a _=>aC (Ij a.1 a.2)) (fun _=>by kernel_rfl)
def zM:SU:=⟨[.sl 70,i6],[.sl 70,i6],false,true,fun(a:(List D.aAA)×Int)=>gd (jO (a.1.length+(a.1.map D.aAA.sz).sum) (aA aM a.1) a.2) (some (bF bA a.1 a.2))⟩
theorem zN:OK 159 zM:=mkW (.s .n (.s (.j ⟨[(1,1),(3,35)],[.dat (.s 1) i6, .ti 0 70 true],[],[]⟩ (.s .n (.s (.l ⟨[(1,1),(3,35)],[.dat (.s 1) i6, .nat (.s 5), .ti 0 70 true],[],[]⟩ FUEL .n) .n))) .n)) [.tmp 4] (gc Dh aD) func159 ntmps159 (fun a _=>aC (zH a.1 a.2)) (fun _=>by kernel_rfl)
def aE5:SU:=⟨[.st 30,i6],[.st 30,i6],false,true,fun(a:D.aAJ×Int)=>gd (jO (a.1.sz) (aX a.1) a.2) (some (gT a.1 a.2))⟩
theorem aE6:OK 59 aE5:=mkW .n [.tmp 4] (gc rP (gc Ju (gc zN aD))) func59 ntmps59 (fun a _=>aC (aB1 a.1 a.2)) (fun _=>by kernel_rfl)
def aJa:SU:=⟨[i6],[.str],false,false,fun(a:Int)=>gI a⟩
theorem Ig:OK 160 aJa:=mkS (.s .n (.s .n (.s .n (.s (.j ⟨[(0,1),(2,1),(2,12)],[.dat (.s 3) (.str)],[],[]⟩ (.s (.l ⟨[(0,1),(2,1),(2,12)],[.dat (.s 0) i6, .dat (.s 3) (.str)],[],[]⟩ FUEL .n) .n)) .n)))) [.tmp 2] aD func160 ntmps160 (fun _ _=>id) (fun _=>by kernel_rfl)
def Fg:SU:=⟨[.sl 207,i6],[.sl 207,i6],false,true,fun(a:(List D.aAI)×Int)=>gd (jO (a.1.length) (aA aZ a.1) a.2) (some (bF bY a.1 a.2))⟩
theorem Fh:OK 252 Fg:=mkW (.s .n (.s (.j ⟨[(1,1),(3,37)],[.dat (.s 1) i6, .ti 0 207 true],[],[]⟩ (.s .n (.s (.l ⟨[(1,1),(3,37)],[.dat (.s 1) i6, .nat (.s 5), .ti 0 207 true],[],[]⟩ FUEL .n) .n))) .n)) [.tmp 4] aD func252 ntmps252 (fun a _=>aC (Ei a.1 a.2)) (fun _=>by kernel_rfl)
def Sz:SU:=⟨[.sl 147,i6],[.sl 147,i6],false,true,fun(a:(List D.aAF)×Int)=>gd (jO (a.1.length+(a.1.map D.aAF.sz).sum) (aA aO a.1) a.2) (some (bF dM a.1 a.2))⟩
theorem Ta:OK 161 Sz:=mkW (.s .n (.s (.j ⟨[(1,1),(3,28)],[.dat (.s 1) i6, .ti 0 147 true],[],[]⟩ (.s .n (.s (.l ⟨[(1,1),(3,28)],[.dat (.s 1) i6, .nat (.s 5), .ti 0 147 true],[],[]⟩ FUEL .n) .n))) .n)) [.tmp 4] (gc Fh aD) func161 ntmps161 (fun a _=>aC (Qi a.1 a.2)) (fun _=>by kernel_rfl)
def Jv:SU:=⟨[.sl 232,i6],[.sl 232,i6],false,true,fun(a:(List D.aAK)×Int)=>gd (jO (a.1.length) (aA aU a.1) a.2) (some (bF dF a.1 a.2))⟩
theorem Jw:OK 162 Jv:=mkW (.s .n (.s (.j ⟨[(1,1),(3,28)],[.dat (.s 1) i6, .ti 0 232 true],[],[]⟩ (.s .n (.s (.l ⟨[(1,1),(3,28)],[.dat (.s 1) i6, .nat (.s 5), .ti 0 232 true],[],[]⟩ FUEL .n) .n))) .n)) [.tmp 4] aD func162 ntmps162 (fun a _=>aC (Ik a.1 a.2)) (fun _=>by kernel_rfl)
def aJb:SU:=⟨[.sl 3,i6],[.sl 3,i6],false,true,fun(a:(List Int)×Int)=>gd (jO (a.1.length) (aA fT a.1) a.2) (some (bF mkI a.1 a.2))⟩
theorem aJc:OK 163 aJb:=mkW (.s .n (.s (.j ⟨[(1,1),(3,13)],[.dat (.s 1) i6, .ti 0 3 true],[],[]⟩ (.s .n (.s (.l ⟨[(1,1),(3,13)],[.dat (.s 1) i6, .nat (.s 5), .ti 0 3 true],[],[]⟩ FUEL .n) .n))) .n)) [.tmp 4] aD func163 ntmps163 (fun a _=>aC (aG7 a.1 a.2)) (fun _=>by kernel_rfl)
def aE7:SU:=⟨[.sl 85,i6],[.sl 85,i6],false,true,fun(a:(List D.Site)×Int)=>gd (jO (a.1.length+(a.1.map D.Site.sz).sum) (aA cB a.1) a.2) (some (bF gG a.1 a.2))⟩
theorem aE8:OK 60 aE7:=mkW (.s .n (.s (.j ⟨[(1,1),(3,53)],[.dat (.s 1) i6, .ti 0 85 true],[],[]⟩ (.s .n (.s (.l ⟨[(1,1),(3,53)],[.dat (.s 1) i6, .nat (.s 5), .ti 0 85 true],[],[]⟩ FUEL .n) .n))) .n)) [.tmp 4] (gc Ig (gc Ta (gc Jw (gc aJc aD)))) func60 ntmps60 (fun a _=>aC (aB2 a.1 a.2)) (fun _=>by kernel_rfl)
def y5:SU:=⟨[.sl 138,i6],[.sl 138,i6],false,true,fun(a:(List D.aAL)×Int)=>gd (jO (a.1.length) (aA bO a.1) a.2) (some (bF eF a.1 a.2))⟩
theorem y7:OK 164 y5:=mkW (.s .n (.s (.j ⟨[(1,1),(3,44)],[.dat (.s 1) i6, .ti 0 138 true],[],[]⟩ (.s .n (.s (.l ⟨[(1,1),(3,44)],[.dat (.s 1) i6, .nat (.s 5), .ti 0 138 true],[],[]⟩ FUEL .n) .n))) .n)) [.tmp 4] aD func164 ntmps164 (fun a _=>aC (Vw a.1 a.2)) (fun _=>by kernel_rfl)
def Fj:SU:=⟨[.sl 141,i6],[.sl 141,i6],false,true,fun(a:(List D.aAE)×Int)=>gd (jO (a.1.length+(a.1.map D.aAE.sz).sum) (aA aR a.1) a.2) (some (bF bK a.1 a.2))⟩
theorem Fp:OK 61 Fj:=mkW (.s .n (.s (.j ⟨[(1,1),(3,63)],[.dat (.s 1) i6, .ti 0 141 true],[],[]⟩ (.s .n (.s (.l ⟨[(1,1),(3,63)],[.dat (.s 1) i6, .nat (.s 5), .ti 0 141 true],[],[]⟩ FUEL .n) .n))) .n)) [.tmp 4] (gc y7 aD) func61 ntmps61 (fun a _=>aC (Ej a.1 a.2)) (fun _=>by kernel_rfl)
def y9:SU:=⟨[.sl 227,i6],[.sl 227,i6],false,true,fun(a:(List D.aAP)×Int)=>gd (jO (a.1.length) (aA bU a.1) a.2) (some (bF dX a.1 a.2))⟩
theorem A7:OK 165 y9:=mkW (.s .n (.s (.j ⟨[(1,1),(3,37)],[.dat (.s 1) i6, .ti 0 227 true],[],[]⟩ (.s .n (.s (.l ⟨[(1,1),(3,37)],[.dat (.s 1) i6, .nat (.s 5), .ti 0 227 true],[],[]⟩ FUEL .n) .n))) .n)) [.tmp 4] aD func165 ntmps165 (fun a _=>aC (Vx a.1 a.2)) (fun _=>by kernel_rfl)
def A8:SU:=⟨[.st 37,i6],[.st 37,i6],false,true,fun(a:D.aAO×Int)=>gd (jO (a.1.sz) (bB a.1) a.2) (some (fG a.1 a.2))⟩
theorem A9:OK 62 A8:=mkW .n [.tmp 4] (gc A7 aD) func62 ntmps62 (fun a _=>aC (Vy a.1 a.2)) (fun _=>by kernel_rfl)
def aE9:SU:=⟨[.st 39,i6],[.st 39,i6],false,true,fun(a:D.World×Int)=>gd (jO (a.1.sz) (eQ a.1) a.2) (some (dK a.1 a.2))⟩
theorem aFa:OK 7 aE9:=mkW .n [.tmp 4] (gc x9 (gc aE3 (gc aE6 (gc aE8 (gc Fp (gc A9 aD)))))) func7 ntmps7 (fun a _=>aC (aB3 a.1 a.2)) (fun _=>by kernel_rfl)
def Pg:SU:=⟨[.sl 109,i6],[i6],false,false,fun(a:(List D.aAB)×Int)=>gd (bL (bF aS) (aA aG) a.1 a.2) (some (a.2+((aA aG a.1:Nat):Int)))⟩
theorem rQ:OK 166 Pg:=mkS (.s .n (.s (.jx ⟨[(1,1),(2,62)],[.dat (.s 1) i6],[],[]⟩ (.s .n (.s (.l ⟨[(1,1),(2,62)],[.dat (.s 1) i6, .nat (.s 5)],[],[]⟩ FUEL .n) .n))) .n)) [.tmp 4] aD func166 ntmps166 (fun a _=>aC (Nq a.1 a.2)) (fun _=>by kernel_rfl)
def aAq:SU:=⟨[.sl 187,i6],[i6],false,false,fun(a:(List D.Entry)×Int)=>gd (bL (bF gF) (aA dI) a.1 a.2) (some (a.2+((aA dI a.1:Nat):Int)))⟩
theorem aAr:OK 167 aAq:=mkS bHm [.tmp 4] aD func167 ntmps167 (fun a _=>aC (M3 a.1 a.2)) (fun _=>by kernel_rfl)
def C8:SU:=⟨[.sl 52,i6],[i6],false,false,fun(a:(List D.Device)×Int)=>gd (bL (bF bW) (aA aP) a.1 a.2) (some (a.2+((aA aP a.1:Nat):Int)))⟩
theorem C9:OK 63 C8:=mkS (.s .n (.s (.jx ⟨[(1,1),(2,94)],[.dat (.s 1) i6],[],[]⟩ (.s .n (.s (.l ⟨[(1,1),(2,94)],[.dat (.s 1) i6, .nat (.s 5)],[],[]⟩ FUEL .n) .n))) .n)) [.tmp 4] (gc rQ (gc aAr aD)) func63 ntmps63 (fun a _=>aC (Vz a.1 a.2)) (fun _=>by kernel_rfl)
def aFb:SU:=⟨[.sl 4,i6],[i6],false,false,fun(a:(List Bool)×Int)=>gd (bL (bF mkB) (aA fT) a.1 a.2) (some (a.2+((aA fT a.1:Nat):Int)))⟩
theorem aFc:OK 64 aFb:=mkS (.s .n (.s (.jx ⟨[(1,1),(2,18)],[.dat (.s 1) i6],[],[]⟩ (.s .n (.s (.l ⟨[(1,1),(2,18)],[.dat (.s 1) i6, .nat (.s 5)],[],[]⟩ FUEL .n) .n))) .n)) [.tmp 4] aD func64 ntmps64 (fun a _=>aC (aB4 a.1 a.2)) (fun _=>by kernel_rfl)
def aFd:SU:=⟨[.sl 5,i6],[i6],false,false,fun(a:(List Int)×Int)=>gd (bL (bF mkU) (aA fT) a.1 a.2) (some (a.2+((aA fT a.1:Nat):Int)))⟩
theorem Di:OK 254 aFd:=mkS (.s .n (.s (.jx ⟨[(1,1),(2,17)],[.dat (.s 1) i6],[],[]⟩ (.s .n (.s (.l ⟨[(1,1),(2,17)],[.dat (.s 1) i6, .nat (.s 5)],[],[]⟩ FUEL .n) .n))) .n)) [.tmp 4] aD func254 ntmps254 (fun a _=>aC (aB5 a.1 a.2)) (fun _=>by kernel_rfl)
def aJd:SU:=⟨[.sl 178,i6],[i6],false,false,fun(a:(List D.Box)×Int)=>gd (bL (bF fE) (aA eT) a.1 a.2) (some (a.2+((aA eT a.1:Nat):Int)))⟩
theorem aJe:OK 253 aJd:=mkS bFs [.tmp 4] (gc Di aD) func253 ntmps253 (fun a _=>aC (aG8 a.1 a.2)) (fun _=>by kernel_rfl)
def Jy:SU:=⟨[.st 27,i6],[i6],false,false,fun(a:D.aAD×Int)=>gd (bL dQ aN a.1 a.2) (some (a.2+((aN a.1:Nat):Int)))⟩
theorem Jz:OK 168 Jy:=mkS .n [.tmp 4] (gc aJe aD) func168 ntmps168 (fun a _=>aC (Im a.1 a.2)) (fun _=>by kernel_rfl)
def zO:SU:=⟨[.sl 70,i6],[i6],false,false,fun(a:(List D.aAA)×Int)=>gd (bL (bF bA) (aA aM) a.1 a.2) (some (a.2+((aA aM a.1:Nat):Int)))⟩
theorem zP:OK 169 zO:=mkS bFs [.tmp 4] (gc Di aD) func169 ntmps169 (fun a _=>aC (zI a.1 a.2)) (fun _=>by kernel_rfl)
def aFe:SU:=⟨[.st 30,i6],[i6],false,false,fun(a:D.aAJ×Int)=>gd (bL gT aX a.1 a.2) (some (a.2+((aX a.1:Nat):Int)))⟩
theorem aFf:OK 65 aFe:=mkS .n [.tmp 4] (gc rQ (gc Jz (gc zP aD))) func65 ntmps65 (fun a _=>aC (aB6 a.1 a.2)) (fun _=>by kernel_rfl)
def Fq:SU:=⟨[.sl 207,i6],[i6],false,false,fun(a:(List D.aAI)×Int)=>gd (bL (bF bY) (aA aZ) a.1 a.2) (some (a.2+((aA aZ a.1:Nat):Int)))⟩
theorem Fs:OK 255 Fq:=mkS bHm [.tmp 4] aD func255 ntmps255 (fun a _=>aC (Em a.1 a.2)) (fun _=>by kernel_rfl)
def Tc:SU:=⟨[.sl 147,i6],[i6],false,false,fun(a:(List D.aAF)×Int)=>gd (bL (bF dM) (aA aO) a.1 a.2) (some (a.2+((aA aO a.1:Nat):Int)))⟩
theorem Td:OK 170 Tc:=mkS bFt [.tmp 4] (gc Fs aD) func170 ntmps170 (fun a _=>aC (Qj a.1 a.2)) (fun _=>by kernel_rfl)
def Ka:SU:=⟨[.sl 232,i6],[i6],false,false,fun(a:(List D.aAK)×Int)=>gd (bL (bF dF) (aA aU) a.1 a.2) (some (a.2+((aA aU a.1:Nat):Int)))⟩
theorem Kb:OK 171 Ka:=mkS bFt [.tmp 4] aD func171 ntmps171 (fun a _=>aC (Io a.1 a.2)) (fun _=>by kernel_rfl)
def aJf:SU:=⟨[.sl 3,i6],[i6],false,false,fun(a:(List Int)×Int)=>gd (bL (bF mkI) (aA fT) a.1 a.2) (some (a.2+((aA fT a.1:Nat):Int)))⟩
theorem aJg:OK 172 aJf:=mkS (.s .n (.s (.jx ⟨[(1,1),(2,16)],[.dat (.s 1) i6],[],[]⟩ (.s .n (.s (.l ⟨[(1,1),(2,16)],[.dat (.s 1) i6, .nat (.s 5)],[],[]⟩ FUEL .n) .n))) .n)) [.tmp 4] aD func172 ntmps172 (fun a _=>aC (aG9 a.1 a.2)) (fun _=>by kernel_rfl)
def aFg:SU:=⟨[.sl 85,i6],[i6],false,false,fun(a:(List D.Site)×Int)=>gd (bL (bF gG) (aA cB) a.1 a.2) (some (a.2+((aA cB a.1:Nat):Int)))⟩
theorem aFh:OK 66 aFg:=mkS (.s .n (.s (.jx ⟨[(1,1),(2,66)],[.dat (.s 1) i6],[],[]⟩ (.s .n (.s (.l ⟨[(1,1),(2,66)],[.dat (.s 1) i6, .nat (.s 5)],[],[]⟩ FUEL (.s .n (.s (.s (.s (.s (.r none (od 8 [6])) .n) .n) .n) .n))) .n))) .n)) [.tmp 4] (gc Ig (gc Td (gc Kb (gc aJg aD)))) func66 ntmps66 (fun a _=>aC (aB7 a.1 a.2)) (fun _=>by kernel_rfl)
def D5:SU:=⟨[.sl 138,i6],[i6],false,false,fun(a:(List D.aAL)×Int)=>gd (bL (bF eF) (aA bO) a.1 a.2) (some (a.2+((aA bO a.1:Nat):Int)))⟩
theorem D6:OK 173 D5:=mkS (.s .n (.s (.jx ⟨[(1,1),(2,55)],[.dat (.s 1) i6],[],[]⟩ (.s .n (.s (.l ⟨[(1,1),(2,55)],[.dat (.s 1) i6, .nat (.s 5)],[],[]⟩ FUEL .n) .n))) .n)) [.tmp 4] aD func173 ntmps173 (fun a _=>aC (Wd a.1 a.2)) (fun _=>by kernel_rfl)
def Fu:SU:=⟨[.sl 141,i6],[i6],false,false,fun(a:(List D.aAE)×Int)=>gd (bL (bF bK) (aA aR) a.1 a.2) (some (a.2+((aA aR a.1:Nat):Int)))⟩
theorem Fv:OK 67 Fu:=mkS (.s .n (.s (.jx ⟨[(1,1),(2,78)],[.dat (.s 1) i6],[],[]⟩ (.s .n (.s (.l ⟨[(1,1),(2,78)],[.dat (.s 1) i6, .nat (.s 5)],[],[]⟩ FUEL .n) .n))) .n)) [.tmp 4] (gc D6 aD) func67 ntmps67 (fun a _=>aC (En a.1 a.2)) (fun _=>by kernel_rfl)
def D7:SU:=⟨[.sl 227,i6],[i6],false,false,fun(a:(List D.aAP)×Int)=>gd (bL (bF dX) (aA bU) a.1 a.2) (some (a.2+((aA bU a.1:Nat):Int)))⟩
theorem D8:OK 174 D7:=mkS bHm [.tmp 4] aD func174 ntmps174 (fun a _=>aC (We a.1 a.2)) (fun _=>by kernel_rfl)
def D9:SU:=⟨[.st 37,i6],[i6],false,false,fun(a:D.aAO×Int)=>gd (bL fG bB a.1 a.2) (some (a.2+((bB a.1:Nat):Int)))⟩
theorem E5:OK 68 D9:=mkS .n [.tmp 4] (gc D8 aD) func68 ntmps68 (fun a _=>aC (Wh a.1 a.2)) (fun _=>by kernel_rfl)
def aFi:SU:=⟨[.st 39,i6],[i6],false,false,fun(a:D.World×Int)=>gd (bL dK eQ a.1 a.2) (some (a.2+((eQ a.1:Nat):Int)))⟩
theorem aFj:OK 8 aFi:=mkS .n [.tmp 4] (gc C9 (gc aFc (gc aFf (gc aFh (gc Fv (gc E5 aD)))))) func8 ntmps8 (fun a _=>aC (aB8 a.1 a.2)) (fun _=>by kernel_rfl)
def oL:SU:=⟨[i6,i6,i6,i6,i6],[.bool],false,false,fun(a:Int×Int×Int×Int×Int)=>some true⟩
theorem Fw:OK 3 oL:=mkS .n [.tmp 10] (gc aIc (gc aIy (gc aO3 (gc aFa (gc aFj aD))))) func3 ntmps3 (fun a _=>(Es a.1 a.2.1 a.2.2.1 a.2.2.2.1 a.2.2.2.2).trans) (fun _=>by kernel_rfl)
end
end Go.VK
