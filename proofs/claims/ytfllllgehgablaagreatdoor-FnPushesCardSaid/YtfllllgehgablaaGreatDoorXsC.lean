import Derived.Test.YtfllllgehgablaaGreatDoorXsL
import Derived.Test.YtfllllgehgablaaGreatDoorXsM
import Derived.Test.YtfllllgehgablaaGreatDoorXsPatoPzh
/- Printed by wip/tools: models, walks, proofs. -/
set_option linter.all false
set_option maxRecDepth 100000
set_option maxHeartbeats 4000000
namespace Go.VK
open Go.RowKit Go.Proofs Tryz
noncomputable section
def i6:EV.Kd:= .int .i64
def bQ5:EV.An:=(.s .n (.s .n (.s .n (.s (.j ⟨[(9,1),(2,17)],[.dat (.s 9) i6],[],[]⟩ (.s (.l ⟨[(9,1),(2,17)],[.dat (.s 9) i6],[],[]⟩ FUEL (.s (.s (.rj 6 ⟨[(17,10)],[.dat (.s 26) .bool],[],[]⟩ .n) .n) .n)) .n)) (.s (.y true (some 9) (some 17) [(1,true),(2,true),(3,true),(4,true),(6,true),(7,true),(8,true),(11,true),(12,true),(13,true),(14,true),(0,false),(5,false),(9,false),(10,false),(15,false),(16,false),(17,false)]) (.s (.s (.rj 4 ⟨[(49,5)],[.dat (.s 53) .bool],[],[]⟩ .n) .n) .n))))))
def bPl:EV.An:=(.s .n (.s (.s (.rj 6 ⟨[(11,16)],[.dat (.s 26) .bool],[],[]⟩ .n) .n) (.s (.jx ⟨[(4,2),(21,18)],[],[],[]⟩ (.s .n (.s (.l ⟨[(4,2),(21,18)],[.nat (.s 5)],[],[]⟩ FUEL (.s .n (.s (.s (.s (.r none (od 11 [])) .n) .n) .n))) .n))) .n)))
def bQ6:EV.An:=(.s .n (.s (.r none (od 21 [15])) (.s (.j ⟨[(4,1),(33,16)],[.dat (.s 4) i6],[],[]⟩ .n) (.s .n (.s (.y false (some 10) (some 11) (od 13 [6,10,11])) (.s (.s (.rj 3 ⟨[(76,8)],[.dat (.s 83) .bool],[],[]⟩ .n) .n) (.s .n (.s (.s .n (.s (.s .n (.s (.r (some 7) (od 8 [7])) .n)) .n)) .n))))))))
def bQ7:EV.An:=(.j ⟨[(12,1),(11,10)],[.dat (.s 12) .bool, .tr (.c 6 0) 5 149 true],[],[]⟩ (.s .n (.s (.y false none (some 9) [(0,true),(1,true),(2,true),(4,true),(3,false),(5,false),(6,true),(7,true),(8,true),(9,false),(10,true)]) .n)))
def bQ8:EV.An:=(.s .n (.s .n (.s (.j ⟨[(0,2),(3,16)],[.dat (.s 5) i6],[],[]⟩ (.s (.l ⟨[(0,2),(3,16)],[.dat (.s 0) i6, .dat (.s 1) i6, .dat (.s 5) i6],[],[]⟩ FUEL (.s .n (.s (.s (.j ⟨[(5,1),(2,7)],[.dat (.s 5) i6],[],[]⟩ .n) .n) .n))) .n)) .n)))
def bQ9:EV.An:=(.il 1 (.s .n (.s .n (.s (.j ⟨[(3,2),(3,20)],[.dat (.s 3) i6],[],[]⟩ (.s .n (.s (.l ⟨[(3,2),(3,20)],[.dat (.s 3) i6, .dat (.s 4) i6],[],[]⟩ FUEL (.s (.s (.rj 5 ⟨[(12,4)],[.dat (.s 15) .bool],[],[]⟩ .n) .n) .n)) .n))) .n))) .n)
def bL5:EV.An:=(.s .n (.s .n (.s (.s (.s .n (.r (some 5) (od 8 [3,4,5,6,7]))) .n) .n)))
def bRa:EV.An:=(.y true (some 7) (some 15) [(1,true),(2,true),(3,true),(4,true),(6,true),(9,true),(10,true),(11,true),(12,true),(0,false),(5,false),(7,false),(8,false),(13,false),(14,false),(15,false)])
def bPm:EV.An:=(.s .n (.s (.jx ⟨[(4,18)],[],[],[]⟩ (.s .n (.s (.l ⟨[(4,18)],[.nat (.s 5)],[],[]⟩ FUEL .n) .n))) .n))
def bJm:EV.An:=(.s .n (.s (.s (.s (.r none (od 12 [10])) .n) .n) .n))
def bMv:EV.An:=(.s .n (.s (.s (.s (.y false (some 9) (some 10) [(0,true),(1,true),(3,true),(4,true),(2,false),(5,false),(6,true),(7,true),(8,true),(9,false),(10,false),(11,true)]) .n) .n) .n))
def bMw:EV.An:=(.s .n (.s (.y false (some 5) none [(0,true),(1,true),(2,true),(3,true),(4,true),(6,true),(7,true),(8,false),(9,false),(5,false),(10,false),(11,false),(12,true)]) .n))
def bMx:EV.An:=(.s .n (.s (.y false (some 5) (some 9) [(0,true),(1,true),(2,true),(3,true),(4,true),(6,true),(7,true),(8,false),(5,false),(9,false),(10,false),(11,true)]) .n))
def bMy:EV.An:=(.s .n (.s .n (.s (.jx ⟨[(4,2),(7,18)],[],[],[]⟩ (.s .n (.s (.l ⟨[(4,2),(7,18)],[.nat (.s 5)],[],[]⟩ FUEL (.s .n (.s (.s (.s (.r none (od 11 [])) .n) .n) .n))) .n))) .n)))
def bMz:EV.An:=(.s .n (.s .n (.s (.jx ⟨[(4,2),(5,15)],[],[],[]⟩ (.s .n (.s (.l ⟨[(4,2),(5,15)],[.nat (.s 5)],[],[]⟩ FUEL (.s .n (.s (.s (.s (.r none (od 9 [])) .n) .n) .n))) .n))) .n)))
def bCw:EV.An:=(.s .n (.s (.s (.r (some 9) (od 12 [7,8,9,10,11])) .n) .n))
def bM0:EV.An:=(.s .n (.s .n (.s (.j ⟨[(5,3),(1,20)],[.tr (.s 5) 0 5 true],[],[]⟩ (.s .n (.s (.l ⟨[(5,3),(3,18)],[.tr (.s 5) 0 5 true, .nat (.s 11)],[],[]⟩ FUEL .n) .n))) .n)))
def bM1:EV.An:=(.s (.r (some 11) [(0,true),(1,true),(2,true),(4,true),(5,true),(6,true),(7,true),(8,true),(9,true),(3,false),(10,true),(11,false),(12,false)]) .n)
def bM2:EV.An:=(.y false (some 9) (some 10) [(0,true),(1,true),(2,true),(4,true),(3,false),(5,false),(6,true),(7,true),(8,true),(9,false),(10,false),(11,true)])
def bM3:EV.An:=(.s .n (.s .n (.s (.y false (some 9) (some 10) (od 12 [5,9,10])) (.s (.s (.rj 3 ⟨[(33,4)],[.dat (.s 36) .bool],[],[]⟩ .n) .n) (.s (.r (some 7) (od 8 [7])) .n)))))
def bM4:EV.An:=(.s .n (.s .n (.s .n (.s (.s (.rj 7 ⟨[(19,19)],[.dat (.s 37) .bool],[],[]⟩ (.r none (od 25 [4,17]))) .n) (.s (.r (some 5) (od 8 [3,4,5,6,7])) .n)))))
def bM5:EV.An:=(.s .n (.s (.y true none (some 9) [(0,true),(1,true),(2,true),(3,true),(5,true),(6,true),(4,false),(7,false),(8,false),(9,false)]) .n))
def bJn:EV.An:=(.s .n (.s .n (.s .n (.s .n (.s (.u none [1,2] [] (od 5 [2,3,4])) .n)))))
def bJo:EV.An:=(.s .n (.s (.rj 6 ⟨[(4,1),(5,14)],[.dat (.s 4) .bool],[],[]⟩ .n) .n))
def bM6:EV.An:=(.s .n (.s (.s (.rj 4 ⟨[(10,19)],[.dat (.s 28) .bool],[],[]⟩ (.r none (od 22 [1,7,13]))) .n) (.s .n (.s (.s (.r none (od 6 [4])) .n) .n))))
def bM7:EV.An:=(.y false (some 7) (some 8) [(0,true),(1,true),(3,true),(4,true),(2,false),(5,false),(6,true),(7,false),(8,false)])
def bM8:EV.An:=(.s .n (.s (.s (.s .n (.s (.rj 5 ⟨[(21,28)],[.dat (.s 48) .bool],[],[]⟩ (.r none (od 32 [2,7,13]))) .n)) .n) .n))
def bM9:EV.An:=(.s (.r none [(0,true),(2,true),(3,true),(1,false),(4,false),(5,false),(6,true)]) .n)
def bJp:EV.An:=(.s (.u none [2,3] [] (od 5 [2,3,4])) .n)
def bNa:EV.An:=(.s .n (.s .n (.s (.rj 3 ⟨[(6,1),(5,7)],[.dat (.s 6) .bool],[],[]⟩ .n) .n)))
def bNb:EV.An:=(.s (.il 0 (.s (.y false (some 13) (some 14) (od 16 [9,13,14])) .n) .n) .n)
def bNc:EV.An:=(.s .n (.s (.rj 6 ⟨[(4,1),(5,21)],[.dat (.s 4) .bool],[],[]⟩ .n) .n))
def bNd:EV.An:=(.s .n (.s (.rj 4 ⟨[(6,1),(3,5)],[.dat (.s 6) .bool],[],[]⟩ .n) .n))
def bNe:EV.An:=(.s .n (.s (.s (.y false none (some 15) (od 16 [10,15])) .n) .n))
def bNf:EV.An:=(.s (.rj 5 ⟨[(61,21)],[.dat (.s 81) .bool],[],[]⟩ .n) .n)
def bNg:EV.An:=(.s (.rj 5 ⟨[(52,4)],[.dat (.s 55) .bool],[],[]⟩ .n) .n)
def bAu:SU:=⟨[.sl 5],[.bool],false,false,λ(a:(List Int))=>some (bEh a)⟩
def bAv:OK 5 bAu:=mkS .n [.tmp 2] aF func5 ntmps5 (λa _=>(bAn a).trans) (λ_=>by kernel_rfl)
def aPv:SU:=⟨[.st 97],[.st 97,i6],true,true,λ(a:D.aAQ)=>gd (aX a) (some (jW a))⟩
def aPw:OK 43 aPv:=mkP (.s .n (.s .n (.s (.r none (od 13 [])) (.s (.j ⟨[(3,1),(21,32)],[.dat (.s 3) i6, .dat (.c 0 1) i6],[],[]⟩ (.s (.r none (od 10 [])) (.s (.s (.r none (od 15 [])) .n) .n))) .n)))) [.tmp 2] aF func43 ntmps43 (λ(a:D.aAQ) _=>aC (aPt a)) (λ_=>by kernel_rfl)
def aNa:SU:=⟨[.st 97,i6],[.st 97,i6],true,true,λ(a:D.aAQ×Int)=>gd (aX a.1) (some (bL a.1 a.2))⟩
def iU:OK 19 aNa:=mkP .n [.tmp 4] (gc aPw aF) func19 ntmps19 (λa _=>aC (aM8 a.1 a.2)) (λ_=>by kernel_rfl)
def aYa:SU:=⟨[i6,i6,i6],[.bool],false,false,λ(a:Int×Int×Int)=>some (bF a.1 a.2.1 a.2.2)⟩
def bU:OK 71 aYa:=mkS bNd [.tmp 6] aF func71 ntmps71 (λa _=>(aXs a.1 a.2.1 a.2.2).trans) (λ_=>by kernel_rfl)
def aAq:SU:=⟨[i6],[.bool],false,false,λ(a:Int)=>some (bG a)⟩
def cZ:OK 134 aAq:=mkS .n [.tmp 2] (gc bU aF) func134 ntmps134 (λa _=>(V6 a).trans) (λ_=>by kernel_rfl)
def bAw:SU:=⟨[i6,i6],[i6],false,false,λ(a:Int×Int)=>some (gP a.1 a.2)⟩
def zG:OK 231 bAw:=mkS .n [.tmp 4] (gc bU aF) func231 ntmps231 (λa _=>(aZ7 a.1 a.2).trans) (λ_=>by kernel_rfl)
def aYb:SU:=⟨[.sl 3],[i6],false,false,λ(a:(List Int))=>gd (a.length<=1099511627776) (some (vC a))⟩
def aGq:OK 232 aYb:=mkS (.s .n (.s .n (.s (.j ⟨[(3,18)],[.dat (.s 3) i6],[],[]⟩ (.s .n (.s (.l ⟨[(3,18)],[.dat (.s 3) i6, .nat (.s 4)],[],[]⟩ FUEL .n) .n))) .n))) [.tmp 2] (gc zG aF) func232 ntmps232 (λ(a:(List Int)) _=>aC (aXt a)) (λ_=>by kernel_rfl)
def aEl:SU:=⟨[i6, .sl 3],[i6],false,false,λ(a:Int×(List Int))=>gd (a.2.length<=34359738368) (some (bJ a.1 a.2))⟩
def dO:OK 189 aEl:=mkS .n [.tmp 4] (gc aGq aF) func189 ntmps189 (λa _=>aC (aDg a.1 a.2)) (λ_=>by kernel_rfl)
def bAx:SU:=⟨[i6,i6],[i6],false,false,λ(a:Int×Int)=>some (aTy a.1 a.2)⟩
def Zz:OK 188 bAx:=mkS .n [.tmp 4] aF func188 ntmps188 (λa _=>(aZ9 a.1 a.2).trans) (λ_=>by kernel_rfl)
def aEm:SU:=⟨[i6, .sl 3],[i6],false,false,λ(a:Int×(List Int))=>gd (a.2.length<=34359738300) (some (aU a.1 a.2))⟩
def dU:OK 205 aEm:=mkS .n [.tmp 4] (gc dO (gc Zz aF)) func205 ntmps205 (λa _=>aC (aDi a.1 a.2)) (λ_=>by kernel_rfl)
def aAr:SU:=⟨[i6,i6],[.st 55],false,false,λ(a:Int×Int)=>some (aP a.1 a.2)⟩
def Cc:OK 201 aAr:=mkS .n [.cell 4 55] (gc dU aF) func201 ntmps201 (λa _=>(Z8 a.1 a.2).trans) (λ_=>by kernel_rfl)
def aEn:SU:=⟨[.st 55],[.st 60],true,false,λ(a:D.aAI)=>some (bQ a)⟩
def Fw:OK 200 aEn:=mkS .n [.cell 2 60] aF func200 ntmps200 (λa _=>(aD9 a).trans) (λ_=>by kernel_rfl)
def aEo:SU:=⟨[.st 55],[i6],false,false,λ(a:D.aAI)=>some (fU a)⟩
def sZ:OK 180 aEo:=mkS .n [.tmp 2] (gc dU aF) func180 ntmps180 (λa _=>(aDm a).trans) (λ_=>by kernel_rfl)
def aEp:SU:=⟨[i6],[i6],false,false,λ(a:Int)=>some (cK a)⟩
def nJ:OK 179 aEp:=mkS .n [.tmp 2] (gc cZ aF) func179 ntmps179 (λa _=>(aDk a).trans) (λ_=>by kernel_rfl)
def Uo:SU:=⟨[.st 55],[i6],false,false,λ(a:D.aAI)=>some (bA a)⟩
def eP:OK 139 Uo:=mkS .n [.tmp 2] (gc sZ (gc nJ aF)) func139 ntmps139 (λa _=>(Tn a).trans) (λ_=>by kernel_rfl)
def aEq:SU:=⟨[.st 165],[i6],false,false,λ(a:D.aAC)=>some (cB a)⟩
def tC:OK 228 aEq:=mkS .n [.tmp 2] (gc aGq aF) func228 ntmps228 (λa _=>(aDw a).trans) (λ_=>by kernel_rfl)
def aNb:SU:=⟨[.sl 165],[i6],false,false,λ(a:(List D.aAC))=>gd (a.length<=34359738368) (some (fV a))⟩
def Qu:OK 226 aNb:=mkS .n [.tmp 2] (gc tC aF) func226 ntmps226 (λ(a:(List D.aAC)) _=>aC (aMh a)) (λ_=>by kernel_rfl)
def d9:SU:=⟨[i6, .sl 3],[i6],false,false,λ(a:Int×(List Int))=>gd (a.2.length<=34359738300) (some (Ab a.1 a.2))⟩
def oO:OK 257 d9:=mkS .n [.tmp 4] (gc cZ (gc dO aF)) func257 ntmps257 (λa _=>aC (Yo a.1 a.2)) (λ_=>by kernel_rfl)
def Uq:SU:=⟨[.st 55, .sl 3],[i6],false,false,λ(a:D.aAI×(List Int))=>gd (a.2.length<=34359738300) (some (qE a.1 a.2))⟩
def Ur:OK 235 Uq:=mkS .n [.tmp 4] (gc sZ (gc oO aF)) func235 ntmps235 (λa _=>aC (Uf a.1 a.2)) (λ_=>by kernel_rfl)
def aNc:SU:=⟨[.sl 165],[.sl 165],true,false,λ(a:(List D.aAC))=>gd (a.length<=34359738368) (some (a))⟩
def iW:OK 124 aNc:=mkS .n [.tmp 2] aF func124 ntmps124 (λ(a:(List D.aAC)) _=>aC (aL4 a)) (λ_=>by kernel_rfl)
def aPx:SU:=⟨[.sl 3,i6],[.bool],false,false,λ(a:(List Int)×Int)=>gd (a.1.length<=1099511627776) (some (gX a.1 a.2))⟩
def tV:OK 137 aPx:=mkS (.s .n (.s (.jx ⟨[(4,14)],[],[],[]⟩ (.s .n (.s (.l ⟨[(4,14)],[.nat (.s 5)],[],[]⟩ FUEL .n) .n))) .n)) [.tmp 4] aF func137 ntmps137 (λa _=>aC (aPe a.1 a.2)) (λ_=>by kernel_rfl)
def aEr:SU:=⟨[.sl 165],[.sl 3],true,false,λ(a:(List D.aAC))=>gd (a.length<=34359738368) (some (aH a))⟩
def kH:OK 138 aEr:=mkS (.s .n (.s .n (.s (.j ⟨[(3,5),(1,56)],[.tr (.s 3) 0 3 true],[],[]⟩ (.s .n (.s (.l ⟨[(3,5),(1,56)],[.tr (.s 3) 0 3 true, .nat (.s 4)],[],[]⟩ FUEL (.s .n (.s (.j ⟨[(3,1),(1,3),(7,50)],[.tr (.s 3) 0 3 true],[],[]⟩ (.s (.s .n (.s (.s (.rj 7 ⟨[(20,1),(6,6)],[.dat (.s 20) .bool],[],[]⟩ .n) (.s .n (.s .n (.s (.s .n (.s (.j ⟨[(6,2),(37,19)],[.tr (.s 6) 1 3 true],[],[]⟩ (.s .n (.s (.l ⟨[(6,2),(37,19)],[.tr (.s 6) 1 3 true, .nat (.s 7)],[],[]⟩ FUEL (.s .n (.s (.j ⟨[(6,1),(44,13)],[.tr (.s 6) 1 3 true],[],[]⟩ .n) .n))) .n))) .n)) .n)))) .n)) .n)) .n))) .n))) .n))) [.tmp 2] (gc tV aF) func138 ntmps138 (λ(a:(List D.aAC)) _=>aC (aDn a)) (λ_=>by kernel_rfl)
def aNd:SU:=⟨[i6,i6],[i6],false,false,λ(a:Int×Int)=>qJ a.1 a.2⟩
def aNe:OK 255 aNd:=mkS bQ8 [.tmp 4] aF func255 ntmps255 (λ_ _=>id) (λ_=>by kernel_rfl)
def aAs:SU:=⟨[i6],[i6],false,false,λ(a:Int)=>some (eU a)⟩
def qR:OK 223 aAs:=mkS .n [.tmp 2] (gc bU (gc aNe (gc nJ aF))) func223 ntmps223 (λa _=>(X3 a).trans) (λ_=>by kernel_rfl)
def Im:SU:=⟨[i6, .sl 3,i6],[.bool],false,false,λ(a:Int×(List Int)×Int)=>gd (a.2.1.length<=34359738300) (some (gI a.1 a.2.1 a.2.2))⟩
def qU:OK 227 Im:=mkS bNa [.tmp 6] (gc qR (gc oO aF)) func227 ntmps227 (λa _=>aC (Ie a.1 a.2.1 a.2.2)) (λ_=>by kernel_rfl)
def aNf:SU:=⟨[.sl 165, .st 165],[.bool],false,false,λ(a:(List D.aAC)×D.aAC)=>gd (a.1.length<=34359738368) (some (lS a.1 a.2))⟩
def aNg:OK 178 aNf:=mkS (.s .n (.s .n (.s (.rj 5 ⟨[(6,1),(7,12)],[.dat (.s 6) .bool],[],[]⟩ .n) (.s (.s (.rj 6 ⟨[(31,22)],[.dat (.s 52) .bool],[],[]⟩ (.r none [(0,true),(1,true),(2,true),(3,true),(4,true),(5,true),(6,true),(7,true),(8,true),(9,false),(10,true),(11,true),(12,true),(13,true),(14,true),(15,true),(16,true),(17,true),(18,true),(19,true),(22,true),(23,true),(20,false),(21,false),(24,false),(25,true),(26,true)])) .n) (.s (.s .n (.s (.s (.rj 5 ⟨[(4,1),(55,5)],[.dat (.s 4) .bool],[],[]⟩ .n) .n) .n)) (.s (.jx ⟨[(4,1),(2,1),(57,22)],[],[],[]⟩ (.s .n (.s (.l ⟨[(4,1),(2,1),(57,22)],[.nat (.s 7)],[],[]⟩ FUEL (.s .n (.s (.s (.s (.rj 7 ⟨[(77,10)],[.dat (.s 86) .bool],[],[]⟩ (.r none (od 16 []))) .n) .n) .n))) .n))) (.s (.rj 4 ⟨[(4,1),(85,12)],[.dat (.s 4) .bool],[],[]⟩ .n) .n))))))) [.tmp 4] (gc kH (gc tV (gc Qu (gc tC (gc qU aF))))) func178 ntmps178 (λa _=>aC (aMm a.1 a.2)) (λ_=>by kernel_rfl)
def aEs:SU:=⟨[.sl 165],[.bool],false,false,λ(a:(List D.aAC))=>gd (a.length<=34359738368) (some (bB a))⟩
def gG:OK 133 aEs:=mkS (.s .n (.s (.jx ⟨[(2,17)],[],[],[]⟩ (.s .n (.s (.l ⟨[(2,17)],[.nat (.s 3)],[],[]⟩ FUEL (.s .n (.s (.s (.s (.r none (od 9 [7])) .n) .n) .n))) .n))) .n)) [.tmp 2] (gc aNg (gc bU aF)) func133 ntmps133 (λ(a:(List D.aAC)) _=>aC (aDy a)) (λ_=>by kernel_rfl)
def o5:SU:=⟨[.sl 165,i6,i6, .st 55],[.sl 165, .bool],true,false,λ(a:(List D.aAC)×Int×Int×D.aAI)=>gd (a.1.length<=34359738300) (some (dS a.1 a.2.1 a.2.2.1 a.2.2.2))⟩
def kV:OK 195 o5:=mkS (.s .n (.s .n (.s (.r (some 6) (od 7 [2,3,4,6])) (.s (.y false (some 3) (some 4) [(0,true),(2,true),(1,false),(3,false),(4,false),(5,true)]) (.s (.s (.rj 4 ⟨[(35,10)],[.dat (.s 44) .bool],[],[]⟩ .n) .n) .n))))) [.tmp 8, .tmp 9] (gc eP (gc Qu (gc tC (gc Ur (gc iW (gc gG aF)))))) func195 ntmps195 (λa _=>aC (Zk a.1 a.2.1 a.2.2.1 a.2.2.2)) (λ_=>by kernel_rfl)
def aHz:SU:=⟨[i6,i6],[i6],false,false,λ(a:Int×Int)=>some (bP a.1 a.2)⟩
def uW:OK 202 aHz:=mkS .n [.tmp 4] (gc dU aF) func202 ntmps202 (λa _=>(aHr a.1 a.2).trans) (λ_=>by kernel_rfl)
def aNh:SU:=⟨[.sl 165],[i6],false,false,λ(a:(List D.aAC))=>gd (a.length<=34359738368) (some (aL a))⟩
def gL:OK 135 aNh:=mkS (.s .n (.s .n (.s (.j ⟨[(3,16)],[.dat (.s 3) i6],[],[]⟩ (.s .n (.s (.l ⟨[(3,16)],[.dat (.s 3) i6, .nat (.s 4)],[],[]⟩ FUEL (.s .n (.s (.j ⟨[(3,1),(7,8)],[.dat (.s 3) i6],[],[]⟩ .n) .n))) .n))) .n))) [.tmp 2] aF func135 ntmps135 (λ(a:(List D.aAC)) _=>aC (aMo a)) (λ_=>by kernel_rfl)
def Qv:SU:=⟨[.sl 5,i6],[.sl 5],true,false,λ(a:(List Int)×Int)=>gd (a.1.length<=34359738300) (some (qD a.1 a.2))⟩
def Qw:OK 237 Qv:=mkS (.s .n (.s .n (.s .n (.s (.j ⟨[(1,1),(3,1),(7,11)],[.dat (.s 1) i6, .tr (.s 5) 0 5 true],[],[]⟩ (.s (.l ⟨[(1,1),(3,1),(7,11)],[.dat (.s 1) i6, .tr (.s 5) 0 5 true],[],[]⟩ FUEL .n) .n)) .n)))) [.tmp 4] (gc bU aF) func237 ntmps237 (λa _=>aC (Qf a.1 a.2)) (λ_=>by kernel_rfl)
def aAt:SU:=⟨[.sl 3],[.sl 5],true,false,λ(a:(List Int))=>gd (a.length<=5000000000) (some (gF a))⟩
def Ce:OK 198 aAt:=mkS (.s .n (.s .n (.s (.j ⟨[(3,2),(1,12)],[.tr (.s 3) 0 5 true],[],[]⟩ (.s .n (.s (.l ⟨[(3,2),(1,12)],[.tr (.s 3) 0 5 true, .nat (.s 4)],[],[]⟩ FUEL .n) .n))) .n))) [.tmp 2] (gc Qw aF) func198 ntmps198 (λ(a:(List Int)) _=>aC (Y4 a)) (λ_=>by kernel_rfl)
def aPy:SU:=⟨[i6,i6],[i6],false,false,λ(a:Int×Int)=>some (fH a.1 a.2)⟩
def Xe:OK 258 aPy:=mkS .n [.tmp 4] (gc dU aF) func258 ntmps258 (λa _=>(aPn a.1 a.2).trans) (λ_=>by kernel_rfl)
def aNi:SU:=⟨[i6, .sl 5],[.sl 5],true,false,λ(a:Int×(List Int))=>gd (aQ a.2) (some (jC a.1 a.2))⟩
def Qx:OK 193 aNi:=mkS (.s .n (.s .n (.s (.j ⟨[(5,2),(1,22)],[.tr (.s 5) 0 5 true],[],[]⟩ (.s .n (.s (.l ⟨[(5,2),(1,22)],[.tr (.s 5) 0 5 true, .nat (.s 6)],[],[]⟩ FUEL (.s .n (.s (.s (.r (some 15) (od 17 [8,9,14,15,16])) .n) .n))) .n))) .n))) [.tmp 4] (gc dO aF) func193 ntmps193 (λa _=>aC (aM1 a.1 a.2)) (λ_=>by kernel_rfl)
def o6:SU:=⟨[.sl 5],[.sl 3],true,false,λ(a:(List Int))=>gd (a.length<=34359738360) (some (uU a))⟩
def oP:OK 190 o6:=mkS (.s .n (.s .n (.s (.j ⟨[(3,2),(3,14)],[.tr (.s 3) 0 3 true],[],[]⟩ (.s .n (.s (.l ⟨[(3,2),(3,14)],[.tr (.s 3) 0 3 true, .nat (.s 4)],[],[]⟩ FUEL .n) .n))) .n))) [.tmp 2] aF func190 ntmps190 (λ(a:(List Int)) _=>aC (Yx a)) (λ_=>by kernel_rfl)
def aPz:SU:=⟨[i6, .st 186],[i6],false,false,λ(a:Int×D.Box)=>gd (a.2.Data.length<=34359738200) (some (Np a.1 a.2))⟩
def Xf:OK 259 aPz:=mkS bMx [.tmp 4] (gc oP (gc dO aF)) func259 ntmps259 (λa _=>aC (aPo a.1 a.2)) (λ_=>by kernel_rfl)
def aNj:SU:=⟨[i6,i6, .sl 5],[.st 186, .bool],true,false,λ(a:Int×Int×(List Int))=>gd (aQ a.2.2) (some (eG a.1 a.2.1 a.2.2))⟩
def aNk:OK 236 aNj:=mkS (.s .n (.s .n (.s (.s (.rj 3 ⟨[(15,10)],[.dat (.s 24) .bool],[],[]⟩ .n) .n) .n))) [.cell 6 186, .tmp 7] (gc qR (gc cZ (gc Xe (gc Qx (gc Xf aF))))) func236 ntmps236 (λa _=>aC (aM2 a.1 a.2.1 a.2.2)) (λ_=>by kernel_rfl)
def aEt:SU:=⟨[.sl 3,i6, .sl 5],[.sl 186, .bool],true,false,λ(a:(List Int)×Int×(List Int))=>gd (a.1.length<=34359738300/\aQ a.2.2) (some (eH a.2.1 a.2.2 0 a.1))⟩
def aEu:OK 197 aEt:=mkS (.s .n (.s .n (.s (.jx ⟨[(6,6),(1,25)],[.tr (.s 8) 0 186 true],[],[]⟩ (.s .n (.s (.l ⟨[(6,6),(1,25)],[.tr (.s 8) 0 186 true, .nat (.s 9)],[],[]⟩ FUEL .n) .n))) .n))) [.tmp 6, .tmp 7] (gc aNk aF) func197 ntmps197 (λa _=>aC (aEa a.1 a.2.1 a.2.2)) (λ_=>by kernel_rfl)
def Lh:SU:=⟨[.sl 165,i6,i6],[.st 29, .bool],true,false,λ(a:(List D.aAC)×Int×Int)=>gd (a.1.length<=34359738300) (some (bC a.1 a.2.1 a.2.2))⟩
def lM:OK 155 Lh:=mkS (.s .n (.s .n (.s .n (.s (.s (.rj 4 ⟨[(27,9)],[.dat (.s 35) .bool],[],[]⟩ .n) .n) .n)))) [.cell 6 29, .tmp 7] (gc gL (gc kH (gc Ce (gc aEu (gc gG (gc cZ aF)))))) func155 ntmps155 (λa _=>aC (Kv a.1 a.2.1 a.2.2)) (λ_=>by kernel_rfl)
def aAu:SU:=⟨[.st 29,i6],[i6],false,false,λ(a:D.aAF×Int)=>gd (a.1.Boxes.length<=34359738368) (some (qF a.1 a.2))⟩
def aAv:OK 238 aAu:=mkS (.s .n (.s .n (.s (.j ⟨[(5,19)],[.dat (.s 5) i6],[],[]⟩ (.s .n (.s (.l ⟨[(5,19)],[.dat (.s 5) i6, .nat (.s 6)],[],[]⟩ FUEL (.s .n (.s (.j ⟨[(5,1),(8,10)],[.dat (.s 5) i6],[],[]⟩ .n) .n))) .n))) .n))) [.tmp 4] aF func238 ntmps238 (λa _=>aC (aAa a.1 a.2)) (λ_=>by kernel_rfl)
def aEv:SU:=⟨[.st 29, .sl 165],[.bool],false,false,λ(a:D.aAF×(List D.aAC))=>gd (a.1.Boxes.length<=34359738368/\a.2.length<=34359738368) (some (gK a.1 a.2))⟩
def Fx:OK 199 aEv:=mkS (.s .n (.s .n (.s (.jx ⟨[(4,1),(1,1),(2,13)],[],[],[]⟩ (.s .n (.s (.l ⟨[(4,1),(1,1),(2,13)],[.nat (.s 6)],[],[]⟩ FUEL (.s .n (.s (.s (.s (.r none (od 7 [5])) .n) .n) .n))) .n))) (.s (.rj 6 ⟨[(4,1),(22,8)],[.dat (.s 4) .bool],[],[]⟩ (.r none (od 14 [3]))) .n)))) [.tmp 4] (gc kH (gc aAv (gc gL aF))) func199 ntmps199 (λa _=>aC (aEb a.1 a.2)) (λ_=>by kernel_rfl)
def aNl:SU:=⟨[.st 29],[.st 29],true,false,λ(a:D.aAF)=>gd (a.sz<=34359738368) (some (a))⟩
def zH:OK 125 aNl:=mkS (.s .n (.s .n (.s (.j ⟨[(4,2),(3,27)],[.nt (.c 2 1) 186 true],[],[]⟩ (.s .n (.s (.l ⟨[(4,2),(3,27)],[.nat (.s 4), .nt (.c 2 1) 186 true],[],[]⟩ FUEL .n) .n))) .n))) [.cell 2 29] aF func125 ntmps125 (λ(a:D.aAF) _=>aC (aL7 a)) (λ_=>by kernel_rfl)
def aH0:SU:=⟨[.sl 165, .st 29],[.st 32, .bool],true,false,λ(a:(List D.aAC)×D.aAF)=>gd (a.1.length<=34359738368/\a.2.sz<=34359738368) (some (dE a.1 a.2))⟩
def aH1:OK 156 aH0:=mkS (.s .n (.s (.s (.rj 4 ⟨[(9,6)],[.dat (.s 14) .bool],[],[]⟩ .n) .n) (.s (.r (some 5) [(0,true),(2,true),(1,false),(3,false),(4,true),(5,false),(6,false)]) .n))) [.cell 4 32, .tmp 5] (gc gG (gc Fx (gc iW (gc zH aF)))) func156 ntmps156 (λa _=>aC (aHw a.1 a.2)) (λ_=>by kernel_rfl)
def aH2:SU:=⟨[i6],[.str],false,false,λ(a:Int)=>some (aA a)⟩
def jG:OK 131 aH2:=mkS .n [.tmp 2] aF func131 ntmps131 (λa _=>(aHi a).trans) (λ_=>by kernel_rfl)
def aH3:SU:=⟨[.str],[.sl 9],true,false,λ(a:ByteArray)=>gd (a.size<=34359738368) (some (bI a))⟩
def uX:OK 225 aH3:=mkS (.s .n (.s .n (.s .n (.s (.j ⟨[(3,3),(1,25)],[.tr (.s 3) 0 9 true],[],[]⟩ (.s .n (.s (.l ⟨[(3,3),(1,25)],[.tr (.s 3) 0 9 true, .dat (.s 4) i6, .dat (.s 5) i6],[],[]⟩ FUEL (.s .n (.s (.j ⟨[(3,2),(8,19)],[.tr (.s 3) 0 9 true, .dat (.s 4) i6],[],[]⟩ (.s (.s (.rj 5 ⟨[(17,6)],[.dat (.s 22) .bool],[],[]⟩ .n) .n) .n)) .n))) .n))) .n)))) [.tmp 2] aF func225 ntmps225 (λ(a:ByteArray) _=>aC (aHk a)) (λ_=>by kernel_rfl)
def aNm:SU:=⟨[.str],[.bool],false,false,λ(a:ByteArray)=>gd (a.size<=34359738368) (some (uD a))⟩
def aNn:OK 256 aNm:=mkS (.s .n (.s (.jx ⟨[(2,39)],[],[],[]⟩ (.s .n (.s (.l ⟨[(2,39)],[.nat (.s 3)],[],[]⟩ FUEL (.s .n (.s (.s (.s (.rj 5 ⟨[(4,1),(10,24)],[.dat (.s 4) .bool],[],[]⟩ .n) .n) .n) .n))) .n))) (.s (.rj 4 ⟨[(2,1),(41,13)],[.dat (.s 2) .bool],[],[]⟩ .n) .n))) [.tmp 2] (gc bU aF) func256 ntmps256 (λ(a:ByteArray) _=>aC (aMk a)) (λ_=>by kernel_rfl)
def aP0:SU:=⟨[.str],[.bool],false,false,λ(a:ByteArray)=>gd (a.size<=34359738368) (some (fI a))⟩
def Ct:OK 224 aP0:=mkS (.s .n (.s .n (.s (.jx ⟨[(2,1),(1,1),(2,12)],[],[],[]⟩ (.s .n (.s (.l ⟨[(2,1),(1,1),(2,12)],[.nat (.s 4)],[],[]⟩ FUEL .n) .n))) .n))) [.tmp 2] (gc uX (gc aNn aF)) func224 ntmps224 (λ(a:ByteArray) _=>aC (aPi a)) (λ_=>by kernel_rfl)
def aNo:SU:=⟨[.str,i6],[.st 83],true,false,λ(a:ByteArray×Int)=>gd (a.1.size<=34359738368) (some (fD a.1 a.2))⟩
def Qy:OK 176 aNo:=mkS (.s .n (.s (.s (.rj 4 ⟨[(8,11)],[.dat (.s 18) .bool],[],[]⟩ .n) .n) .n)) [.cell 4 83] (gc Ct (gc uX (gc cZ aF))) func176 ntmps176 (λa _=>aC (aMl a.1 a.2)) (λ_=>by kernel_rfl)
def aNp:SU:=⟨[.st 127],[.st 127],true,false,λ(a:D.aAH)=>gd (a.sz<=34359738368) (some (a))⟩
def qV:OK 127 aNp:=mkS .n [.cell 2 127] aF func127 ntmps127 (λ(a:D.aAH) _=>aC (aMa a)) (λ_=>by kernel_rfl)
def aNq:SU:=⟨[.st 80],[.st 80],true,false,λ(a:D.aAE)=>gd (a.sz<=34359738368) (some (a))⟩
def zI:OK 128 aNq:=mkS .n [.cell 2 80] aF func128 ntmps128 (λ(a:D.aAE) _=>aC (aMb a)) (λ_=>by kernel_rfl)
def aNr:SU:=⟨[.st 83],[.st 83],true,false,λ(a:D.Site)=>gd (a.sz<=34359738368) (some (a))⟩
def mU:OK 67 aNr:=mkS (.s .n (.s .n (.s .n (.s (.j ⟨[(4,1),(3,18)],[.tr (.c 2 1) 3 127 true],[],[]⟩ (.s .n (.s (.l ⟨[(4,1),(3,18)],[.nat (.s 4), .tr (.c 2 1) 3 127 true],[],[]⟩ FUEL bCw) .n))) .n)))) [.cell 2 83] (gc qV (gc zI aF)) func67 ntmps67 (λ(a:D.Site) _=>aC (aMc a)) (λ_=>by kernel_rfl)
def Li:SU:=⟨[.st 127],[.bool],false,false,λ(a:D.aAH)=>gd (a.sz<=34359738368) (some (aZ a))⟩
def gD:OK 175 Li:=mkS (.s .n (.s (.jx ⟨[(2,62)],[],[],[]⟩ (.s .n (.s (.l ⟨[(2,62)],[.nat (.s 3)],[],[]⟩ FUEL (.s .n (.s (.jx ⟨[(2,1),(1,2),(7,51)],[],[],[]⟩ (.s (.s .n (.s (.s (.rj 5 ⟨[(22,28)],[.dat (.s 49) .bool],[],[]⟩ (.r none (od 32 [2,23,29]))) .n) (.s .n (.s (.l ⟨[(2,1),(2,1),(44,14)],[.nat (.s 5)],[],[]⟩ FUEL (.s .n (.s (.s (.s (.r none (od 9 [])) .n) .n) .n))) .n)))) .n)) .n))) .n))) (.s (.rj 4 ⟨[(2,1),(64,11)],[.dat (.s 2) .bool],[],[]⟩ .n) .n))) [.tmp 2] (gc bU (gc qR aF)) func175 ntmps175 (λ(a:D.aAH) _=>aC (Kq a)) (λ_=>by kernel_rfl)
def o7:SU:=⟨[.st 80],[.bool],false,false,λ(a:D.aAE)=>gd (a.sz<=34359738368) (some (eD a))⟩
def oQ:OK 177 o7:=mkS (.s .n (.s (.jx ⟨[(2,50)],[],[],[]⟩ (.s .n (.s (.l ⟨[(2,50)],[.nat (.s 3)],[],[]⟩ FUEL (.s .n (.s (.s (.s .n (.s (.rj 8 ⟨[(24,28)],[.dat (.s 51) .bool],[],[]⟩ (.r none (od 35 [5,26,32]))) .n)) .n) .n))) .n))) (.s (.rj 4 ⟨[(2,1),(52,6)],[.dat (.s 2) .bool],[],[]⟩ .n) .n))) [.tmp 2] (gc bU aF) func177 ntmps177 (λ(a:D.aAE) _=>aC (Yq a)) (λ_=>by kernel_rfl)
def o8:SU:=⟨[.st 83],[.bool],false,false,λ(a:D.Site)=>gd (a.sz<=34359738368) (some (dD a))⟩
def iX:OK 130 o8:=mkS (.s .n (.s (.jx ⟨[(2,36)],[],[],[]⟩ (.s .n (.s (.l ⟨[(2,36)],[.nat (.s 3)],[],[]⟩ FUEL (.s .n (.s (.s (.s (.rj 8 ⟨[(18,20)],[.dat (.s 37) .bool],[],[]⟩ (.r none (od 27 [5]))) .n) .n) .n))) .n))) (.s (.rj 9 ⟨[(2,1),(43,11)],[.dat (.s 2) .bool],[],[]⟩ .n) .n))) [.tmp 2] (gc gD (gc Qy (gc oQ aF))) func130 ntmps130 (λ(a:D.Site) _=>aC (Yv a)) (λ_=>by kernel_rfl)
def o9:SU:=⟨[.st 83,i6,i6],[.st 83, .bool],false,false,λ(a:D.Site×Int×Int)=>gd (a.1.sz<=34359738300) (some (lC a.1 a.2.1 a.2.2))⟩
def p8:OK 239 o9:=mkS bQ5 [.cell 6 83, .tmp 7] (gcp mU (gc iX aF)) func239 ntmps239 (λa _=>aC (Zu a.1 a.2.1 a.2.2)) (λ_=>by kernel_rfl)
def Fy:SU:=⟨[i6, .str],[i6],false,false,λ(a:Int×ByteArray)=>gd (a.2.size<=34359738300) (some (mK a.1 a.2))⟩
def pV:OK 146 Fy:=mkS .n [.tmp 4] (gc oP (gc dO (gc Zz (gc (aSr 1000022) aF)))) func146 ntmps146 (λa _=>aC (Fs a.1 a.2)) (λ_=>by kernel_rfl)
def aH4:SU:=⟨[.str],[i6],false,false,λ(a:ByteArray)=>gd (a.size<=34359738300) (some (bH a))⟩
def uY:OK 85 aH4:=mkS .n [.tmp 2] (gc pV aF) func85 ntmps85 (λ(a:ByteArray) _=>aC (aHl a)) (λ_=>by kernel_rfl)
def p9:SU:=⟨[.st 55, .str,i6],[i6],false,false,λ(a:D.aAI×ByteArray×Int)=>gd (a.2.1.size<=34359738300) (some (eT a.1 a.2.1 a.2.2))⟩
def zJ:OK 249 p9:=mkS (.s .n (.s (.r none [(0,true),(1,true),(2,true),(4,true),(3,false),(5,false),(6,false),(7,true)]) .n)) [.tmp 6] (gc uY (gc dU aF)) func249 ntmps249 (λa _=>aC (Zj a.1 a.2.1 a.2.2)) (λ_=>by kernel_rfl)
def aAw:SU:=⟨[.st 55, .str,i6],[i6],false,false,λ(a:D.aAI×ByteArray×Int)=>gd (a.2.1.size<=34359738300) (some (dP a.1 a.2.1 a.2.2))⟩
def Cf:OK 212 aAw:=mkS .n [.tmp 6] (gc zJ (gc nJ aF)) func212 ntmps212 (λa _=>aC (Z9 a.1 a.2.1 a.2.2)) (λ_=>by kernel_rfl)
def w9:SU:=⟨[.st 83,i6],[i6],false,false,λ(a:D.Site×Int)=>gd (a.1.Accounts.length<=34359738368) (some (aD a.1 a.2))⟩
def kW:OK 216 w9:=mkS bPm [.tmp 4] aF func216 ntmps216 (λa _=>aC (Zl a.1 a.2)) (λ_=>by kernel_rfl)
def Qz:SU:=⟨[.st 127,i6,i6],[.st 127, .bool],true,false,λ(a:D.aAH×Int×Int)=>gd (a.1.sz<=34359738300) (some (iB a.1 a.2.1 a.2.2))⟩
def Ra:OK 248 Qz:=mkS bQ5 [.cell 6 127, .tmp 7] (gc qV (gc gD aF)) func248 ntmps248 (λa _=>aC (Qi a.1 a.2.1 a.2.2)) (λ_=>by kernel_rfl)
def x8:SU:=⟨[.st 83,i6,i6,i6],[.st 83, .bool],true,false,λ(a:D.Site×Int×Int×Int)=>gd (a.1.sz<=34359738300) (some (eQ a.1 a.2.1 a.2.2.1 a.2.2.2))⟩
def zK:OK 211 x8:=mkS (.s .n (.s .n (.s .n (.s (.s (.rj 4 ⟨[(22,4)],[.dat (.s 25) .bool],[],[]⟩ .n) .n) .n)))) [.cell 8 83, .tmp 9] (gc mU (gc kW (gc iX (gc Ra aF)))) func211 ntmps211 (λa _=>aC (Zm a.1 a.2.1 a.2.2.1 a.2.2.2)) (λ_=>by kernel_rfl)
def aNs:SU:=⟨[.st 58],[.st 58],true,false,λ(a:D.aAB)=>gd (a.sz<=34359738368) (some (a))⟩
def mV:OK 92 aNs:=mkS .n [.cell 2 58] aF func92 ntmps92 (λ(a:D.aAB) _=>aC (aL3 a)) (λ_=>by kernel_rfl)
def aNt:SU:=⟨[.st 60],[.st 60],true,false,λ(a:D.Device)=>gd (a.sz<=34359738368) (some (a))⟩
def mW:OK 65 aNt:=mkS .n [.cell 2 60] (gc iW (gc mV aF)) func65 ntmps65 (λ(a:D.Device) _=>aC (aL6 a)) (λ_=>by kernel_rfl)
def aAx:SU:=⟨[.sl 165, .sl 165],[.bool],false,false,λ(a:(List D.aAC)×(List D.aAC))=>gd (a.1.length<=34359738368) (some (cO a.1 a.2))⟩
def lV:OK 136 aAx:=mkS bMz [.tmp 4] aF func136 ntmps136 (λa _=>aC (X9 a.1 a.2)) (λ_=>by kernel_rfl)
def aAy:SU:=⟨[.st 60, .sl 165,i6],[.st 60, .bool],true,false,λ(a:D.Device×(List D.aAC)×Int)=>gd (a.1.sz<=34359738368/\a.2.1.length<=34359738368) (some (mQ a.1 a.2.1 a.2.2))⟩
def qW:OK 204 aAy:=mkS (.s .n (.s .n (.s (.s (.rj 4 ⟨[(14,19)],[.dat (.s 32) .bool],[],[]⟩ (.r none [(0,true),(1,false),(2,true),(3,true),(4,true),(5,true),(6,true),(7,false),(8,true),(9,true),(10,true),(11,true),(13,true),(14,true),(12,false),(15,true),(16,true),(17,true),(18,true),(19,false),(20,true),(21,true)])) .n) .n))) [.cell 6 60, .tmp 7] (gc mW (gc gG (gc lV (gc gL (gc cZ (gc iW aF)))))) func204 ntmps204 (λa _=>aC (aAd a.1 a.2.1 a.2.2)) (λ_=>by kernel_rfl)
def aEw:SU:=⟨[.st 58,i6,i6],[i6],false,false,λ(a:D.aAB×Int×Int)=>gd (a.1.sz<=34359738368) (some (aG a.1 a.2.1 a.2.2))⟩
def nK:OK 93 aEw:=mkS (.s .n (.s (.jx ⟨[(6,28)],[],[],[]⟩ (.s .n (.s (.l ⟨[(6,28)],[.nat (.s 7)],[],[]⟩ FUEL (.s .n (.s (.s (.s (.rj 9 ⟨[(23,10)],[.dat (.s 32) .bool],[],[]⟩ .n) .n) .n) .n))) .n))) .n)) [.tmp 6] aF func93 ntmps93 (λa _=>aC (aDq a.1 a.2.1 a.2.2)) (λ_=>by kernel_rfl)
def aNu:SU:=⟨[.st 149,i6,i6],[.bool],false,false,λ(a:D.Entry×Int×Int)=>some (iQ a.1 a.2.1 a.2.2)⟩
def Rb:OK 151 aNu:=mkS (.s .n (.s (.rj 5 ⟨[(6,1),(4,12)],[.dat (.s 6) .bool],[],[]⟩ .n) .n)) [.tmp 6] aF func151 ntmps151 (λa _=>(aL2 a.1 a.2.1 a.2.2).trans) (λ_=>by kernel_rfl)
def aP1:SU:=⟨[.st 58, .st 149],[.st 58],true,false,λ(a:D.aAB×D.Entry)=>gd (a.1.sz<=34359738360) (some (nE a.1 a.2))⟩
def Cu:OK 94 aP1:=mkS (.s .n (.s .n (.s .n (.s .n (.s (.j ⟨[(7,1),(16,19)],[.dat (.s 7) i6],[],[]⟩ (.s (.l ⟨[(7,1),(16,19)],[.dat (.s 7) i6],[],[]⟩ FUEL (.s (.s (.rj 6 ⟨[(29,12)],[.dat (.s 40) .bool],[],[]⟩ (.r none (od 17 [15]))) .n) .n)) .n)) (.s bRa .n)))))) [.cell 4 58] (gc mV (gc nK (gc Rb aF))) func94 ntmps94 (λa _=>aC (aPg a.1 a.2)) (λ_=>by kernel_rfl)
def aH5:SU:=⟨[.st 58],[.bool],false,false,λ(a:D.aAB)=>gd (a.sz<=34359738368) (some (aK a))⟩
def jH:OK 91 aH5:=mkS (.s .n (.s (.jx ⟨[(2,49)],[],[],[]⟩ (.s .n (.s (.l ⟨[(2,49)],[.nat (.s 3)],[],[]⟩ FUEL (.s .n (.s (.s (.s .n (.s (.rj 5 ⟨[(21,30)],[.dat (.s 50) .bool],[],[]⟩ (.r none (od 34 [2,7,13,30]))) .n)) .n) .n))) .n))) .n)) [.tmp 2] (gc bU (gc Rb aF)) func91 ntmps91 (λ(a:D.aAB) _=>aC (aHb a)) (λ_=>by kernel_rfl)
def aH6:SU:=⟨[.st 58,i6,i6],[.st 58, .bool],true,false,λ(a:D.aAB×Int×Int)=>gd (a.1.sz<=34359738360) (some (Xx a.1 a.2.1 a.2.2))⟩
def aH7:OK 84 aH6:=mkS (.s .n (.s .n (.s (.jx ⟨[(7,1),(1,1),(4,23)],[.dat (.c 2 2) i6],[],[]⟩ .n) (.s .n (.s (.s (.rj 4 ⟨[(43,5)],[.dat (.s 47) .bool],[],[]⟩ .n) .n) .n))))) [.cell 6 58, .tmp 7] (gc nK (gc mV (gc Cu (gc jH aF)))) func84 ntmps84 (λa _=>aC (aHn a.1 a.2.1 a.2.2)) (λ_=>by kernel_rfl)
def x9:SU:=⟨[.st 58,i6,i6],[.st 58, .bool],true,false,λ(a:D.aAB×Int×Int)=>gd (a.1.sz<=34359738360) (some (Xz a.1 a.2.1 a.2.2))⟩
def y7:OK 86 x9:=mkS (.s .n (.s .n (.s (.s (.rj 4 ⟨[(16,21)],[.dat (.s 36) .bool],[],[]⟩ .n) .n) (.s (.r (some 12) (od 14 [11,12,13])) .n)))) [.cell 6 58, .tmp 7] (gc nK (gc jH (gc mV (gc Cu aF)))) func86 ntmps86 (λa _=>aC (Yz a.1 a.2.1 a.2.2)) (λ_=>by kernel_rfl)
def Ut:SU:=⟨[.st 60, .str,i6, .bool],[.st 60, .bool],true,false,λ(a:D.Device×ByteArray×Int×Bool)=>gd (a.1.sz<=34359738360/\a.2.1.size<=34359738300) (some (bW a.1 a.2.1 a.2.2.1 a.2.2.2))⟩
def nS:OK 36 Ut:=mkS (.s .n (.s .n (.s bM2 (.s bQ7 (.s (.j ⟨[(34,3)],[.nt (.c 4 8) 149 true],[],[3,5]⟩ .n) .n))))) [.cell 8 60, .tmp 9] (gc mW (gc uY (gc aH7 (gc y7 aF)))) func36 ntmps36 (λa _=>aC (Tx a.1 a.2.1 a.2.2.1 a.2.2.2)) (λ_=>by kernel_rfl)
def aH8:SU:=⟨[i6,i6,i6],[.bool],false,false,λ(a:Int×Int×Int)=>some (bG a.1&&(bF a.2.1 0 1000000&&bF a.2.2 0 1000000))⟩
def Ke:OK 183 aH8:=mkS (.s .n (.s (.rj 3 ⟨[(6,1),(2,8)],[.dat (.s 6) .bool],[],[]⟩ .n) .n)) [.tmp 6] (gc cZ (gc bU aF)) func183 ntmps183 (λa _=>(aHq a.1 a.2.1 a.2.2).trans) (λ_=>by kernel_rfl)
def aP2:SU:=⟨[i6,i6,i6],[i6],false,false,λ(a:Int×Int×Int)=>some (jP a.1 a.2.1 a.2.2)⟩
def Xg:OK 187 aP2:=mkS .n [.tmp 6] (gc dU aF) func187 ntmps187 (λa _=>(aPq a.1 a.2.1 a.2.2).trans) (λ_=>by kernel_rfl)
def Uu:SU:=⟨[.st 58],[.sl 5],true,false,λ(a:D.aAB)=>gd (a.sz<=34359738368) (some (lT a))⟩
def wB:OK 194 Uu:=mkS (.s .n (.s .n (.s .n (.s (.j ⟨[(3,3),(8,35)],[.tr (.s 3) 1 3 true],[],[]⟩ (.s .n (.s (.l ⟨[(3,3),(8,35)],[.tr (.s 3) 1 3 true, .nat (.s 4)],[],[]⟩ FUEL (.s .n (.s (.j ⟨[(3,1),(1,1),(15,28)],[.tr (.s 3) 1 3 true],[],[]⟩ (.s (.s .n (.s (.j ⟨[(5,1),(15,6)],[.dat (.s 5) i6],[],[]⟩ .n) (.r (some 21) (od 23 [20,21,22])))) .n)) .n))) .n))) .n)))) [.tmp 2] (gc jH (gc Ce aF)) func194 ntmps194 (λ(a:D.aAB) _=>aC (Tz a)) (λ_=>by kernel_rfl)
def aEx:SU:=⟨[i6, .st 69],[i6],false,false,λ(a:Int×D.aAA)=>gd (a.2.Data.length<=34359738200) (some (fZ a.1 a.2))⟩
def Ga:OK 184 aEx:=mkS bMx [.tmp 4] (gc oP (gc dO aF)) func184 ntmps184 (λa _=>aC (aD2 a.1 a.2)) (λ_=>by kernel_rfl)
def aAz:SU:=⟨[i6,i6,i6, .st 58],[.st 69, .bool],true,false,λ(a:Int×Int×Int×D.aAB)=>gd (a.2.2.2.sz<=34359738368) (some (jD a.1 a.2.1 a.2.2.1 a.2.2.2))⟩
def Cg:OK 149 aAz:=mkS (.s .n (.s (.s (.rj 6 ⟨[(16,5)],[.dat (.s 20) .bool],[],[]⟩ .n) .n) (.s (.y false (some 10) (some 11) [(0,true),(1,true),(2,true),(3,true),(4,true),(6,true),(5,false),(7,false),(8,false),(9,true),(10,false),(11,false)]) .n))) [.cell 8 69, .tmp 9] (gc Ke (gc jH (gc Xg (gc wB (gc Qx (gc Ga aF)))))) func149 ntmps149 (λa _=>aC (Z5 a.1 a.2.1 a.2.2.1 a.2.2.2)) (λ_=>by kernel_rfl)
def y9:SU:=⟨[.st 60],[.st 60, .st 69, .bool],true,false,λ(a:D.Device)=>gd (a.sz<=34359738368) (some (bN a))⟩
def oU:OK 89 y9:=mkS (.s .n bJn) [.cell 2 60, .cell 3 69, .tmp 4] (gc mW (gc Cg aF)) func89 ntmps89 (λ(a:D.Device) _=>aC (Zi a)) (λ_=>by kernel_rfl)
def aNv:SU:=⟨[.st 69],[.st 69],true,false,λ(a:D.aAA)=>gd (a.sz<=34359738368) (some (a))⟩
def zL:OK 126 aNv:=mkS .n [.cell 2 69] aF func126 ntmps126 (λ(a:D.aAA) _=>aC (aL8 a)) (λ_=>by kernel_rfl)
def aNw:SU:=⟨[.st 32],[.st 32],true,false,λ(a:D.aAD)=>gd (a.sz<=34359738368) (some (a))⟩
def zM:OK 66 aNw:=mkS (.s .n (.s bM7 (.s (.j ⟨[(4,1),(7,18)],[.nt (.c 4 3) 69 true],[],[]⟩ (.s .n (.s (.l ⟨[(4,1),(7,18)],[.nat (.s 4), .nt (.c 4 3) 69 true],[],[]⟩ FUEL bCw) .n))) .n))) [.cell 2 32] (gc iW (gc zH (gc zL aF))) func66 ntmps66 (λ(a:D.aAD) _=>aC (aL9 a)) (λ_=>by kernel_rfl)
def aEy:SU:=⟨[.st 69, .st 69],[.bool],false,false,λ(a:D.aAA×D.aAA)=>some (kF a.1 a.2)⟩
def aEz:OK 150 aEy:=mkS bJo [.tmp 4] aF func150 ntmps150 (λa _=>(aD8 a.1 a.2).trans) (λ_=>by kernel_rfl)
def Uv:SU:=⟨[.st 32, .st 69],[.st 32, .bool],true,false,λ(a:D.aAD×D.aAA)=>gd (a.1.sz<=34359738300/\a.2.sz<=34359738300) (some (bO a.1 a.2))⟩
def nT:OK 90 Uv:=mkS bM4 [.cell 4 32, .tmp 5] (gc zM (gc gL (gc aEz (gc zL aF)))) func90 ntmps90 (λa _=>aC (Ue a.1 a.2)) (λ_=>by kernel_rfl)
def A7:SU:=⟨[.st 32,i6],[.st 69, .bool],true,false,λ(a:D.aAD×Int)=>gd (a.1.sz<=34359738368) (some (dI a.1 a.2))⟩
def A8:OK 72 A7:=mkS .n [.cell 4 69, .tmp 5] (gc bU (gc zL aF)) func72 ntmps72 (λa _=>aC (Zb a.1 a.2)) (λ_=>by kernel_rfl)
def aNx:SU:=⟨[i6, .sl 5],[.sl 5],true,false,λ(a:Int×(List Int))=>gd (a.2.length<=34359738368) (some (Kl a.1 a.2))⟩
def Rc:OK 186 aNx:=mkS (.s .n (.s .n (.s (.j ⟨[(5,2),(1,22)],[.tr (.s 5) 0 5 true],[],[]⟩ (.s .n (.s (.l ⟨[(5,2),(1,22)],[.tr (.s 5) 0 5 true, .nat (.s 6)],[],[]⟩ FUEL (.s .n (.s (.s (.r (some 15) (od 17 [8,9,12,14,15,16])) .n) .n))) .n))) .n))) [.tmp 4] (gc dO (gc zG aF)) func186 ntmps186 (λa _=>aC (aMq a.1 a.2)) (λ_=>by kernel_rfl)
def aNy:SU:=⟨[i6, .st 186],[.sl 5, .bool],true,false,λ(a:Int×D.Box)=>some (eF a.1 a.2)⟩
def aNz:OK 229 aNy:=mkS bM6 [.tmp 4, .tmp 5] (gc cZ (gc nJ (gc Xe (gc Xf (gc Rc aF))))) func229 ntmps229 (λa _=>(aMs a.1 a.2).trans) (λ_=>by kernel_rfl)
def aN0:SU:=⟨[.sl 186,i6],[.sl 5, .bool],true,false,λ(a:(List D.Box)×Int)=>gd (a.1.length<=34359738368) (some (fC a.1 a.2))⟩
def aN1:OK 181 aN0:=mkS (.s .n (.s (.jx ⟨[(4,22)],[],[],[]⟩ (.s .n (.s (.l ⟨[(4,22)],[.nat (.s 6)],[],[]⟩ FUEL .n) .n))) .n)) [.tmp 4, .tmp 5] (gc aNz aF) func181 ntmps181 (λa _=>aC (aMt a.1 a.2)) (λ_=>by kernel_rfl)
def A9:SU:=⟨[.sl 5,i6],[i6,i6, .bool],false,false,λ(a:(List Int)×Int)=>gd (aQ a.1) (some (wK a.1 a.2))⟩
def zN:OK 230 A9:=mkS (.s .n (.s .n (.s (.jx ⟨[(4,51)],[],[],[]⟩ (.s .n (.s (.l ⟨[(4,51)],[.dat (.s 7) i6, .nat (.s 8)],[],[]⟩ FUEL (.s .n (.s (.s (.s (.s (.rj 3 ⟨[(16,8)],[.dat (.s 23) .bool],[],[]⟩ .n) .n) (.s .n (.s .n (.s .n (.s (.s (.s (.rj 3 ⟨[(42,8)],[.dat (.s 49) .bool],[],[]⟩ .n) .n) .n) .n))))) .n) .n))) .n))) .n))) [.tmp 4, .tmp 5, .tmp 6] aF func230 ntmps230 (λa _=>aC (Ze a.1 a.2)) (λ_=>by kernel_rfl)
def aA0:SU:=⟨[.sl 5,i6,i6],[.sl 3,i6, .bool],true,false,λ(a:(List Int)×Int×Int)=>gd (aQ a.1) (some (gT a.1 a.2.1 a.2.2))⟩
def Ch:OK 182 aA0:=mkS (.s .n (.s .n (.s (.s (.rj 4 ⟨[(18,7)],[.dat (.s 24) .bool],[],[]⟩ .n) .n) (.s (.jx ⟨[(1,1),(4,8),(12,20)],[.dat (.s 1) i6, .tr (.s 9) 0 3 true],[],[]⟩ (.s .n (.s (.l ⟨[(1,1),(4,8),(12,20)],[.dat (.s 1) i6, .tr (.s 9) 0 3 true, .nat (.s 10)],[],[]⟩ FUEL .n) .n))) .n)))) [.tmp 6, .tmp 7, .tmp 8] (gc bU (gc zN aF)) func182 ntmps182 (λa _=>aC (Y3 a.1 a.2.1 a.2.2)) (λ_=>by kernel_rfl)
def Lj:SU:=⟨[.st 55, .st 29],[i6, .bool],false,false,λ(a:D.aAI×D.aAF)=>gd (a.2.sz<=34359738368) (some (bD a.1 a.2))⟩
def Ll:OK 140 Lj:=mkS (.s .n (.s (.r none (od 10 [3,4])) (.s .n (.s (.s (.rj 3 ⟨[(27,25)],[.dat (.s 51) .bool],[],[]⟩ (.r none (od 27 [24]))) .n) .n)))) [.tmp 4, .tmp 5] (gc sZ (gc aN1 (gc Ch (gc cZ aF)))) func140 ntmps140 (λa _=>aC (Kt a.1 a.2)) (λ_=>by kernel_rfl)
def aA1:SU:=⟨[.sl 5, .sl 5],[.bool],false,false,λ(a:(List Int)×(List Int))=>gd (aQ a.1/\aQ a.2) (some ((a.1==a.2)))⟩
def qX:OK 143 aA1:=mkS .n [.tmp 4] aF func143 ntmps143 (λa _=>aC (Y5 a.1 a.2)) (λ_=>by kernel_rfl)
def Uw:SU:=⟨[.sl 5],[.st 58, .bool],true,false,λ(a:(List Int))=>gd (aQ a) (some (xN a))⟩
def Ux:OK 185 Uw:=mkS (.s .n (.s .n (.s (.s (.rj 3 ⟨[(21,4)],[.dat (.s 24) .bool],[],[]⟩ .n) .n) (.s .n (.s (.jx ⟨[(3,1),(1,1),(2,5),(14,40)],[.nt (.c 1 0) 149 true],[],[]⟩ (.s .n (.s (.l ⟨[(3,1),(1,1),(2,5),(14,40)],[.dat (.s 5) i6, .nat (.s 8), .nt (.c 1 0) 149 true],[],[]⟩ FUEL .n) .n))) (.s (.s (.rj 4 ⟨[(70,7)],[.dat (.s 76) .bool],[],[]⟩ .n) .n) .n)))))) [.cell 2 58, .tmp 3] (gc zN (gc Ch (gc jH (gc wB (gc qX aF))))) func185 ntmps185 (λ(a:(List Int)) _=>aC (Ub a)) (λ_=>by kernel_rfl)
def aA2:SU:=⟨[i6, .st 69],[.st 58, .bool],true,false,λ(a:Int×D.aAA)=>gd (a.2.Data.length<=34359738200) (some (eZ a.1 a.2))⟩
def aA3:OK 141 aA2:=mkS (.s .n (.s (.s (.rj 8 ⟨[(13,8)],[.dat (.s 20) .bool],[],[]⟩ (.r none (od 15 [5,12]))) .n) (.s (.r (some 12) [(0,true),(1,true),(2,true),(3,true),(4,true),(6,true),(7,true),(5,false),(8,false),(9,false),(10,true),(11,true),(12,false),(13,false)]) .n))) [.cell 4 58, .tmp 5] (gc Ke (gc Ga (gc Xg (gc Rc (gc Ux aF))))) func141 ntmps141 (λa _=>aC (Y7 a.1 a.2)) (λ_=>by kernel_rfl)
def Uy:SU:=⟨[.st 58, .st 58],[.st 58, .bool],true,false,λ(a:D.aAB×D.aAB)=>gd (a.1.sz<=34359738368/\a.2.sz<=34359738368) (some (dX a.1 a.2))⟩
def wC:OK 39 Uy:=mkS (.s .n (.s (.s (.rj 4 ⟨[(13,5)],[.dat (.s 17) .bool],[],[]⟩ .n) .n) (.s .n (.s (.j ⟨[(7,3),(12,49)],[.tr (.c 4 0) 3 149 true],[],[]⟩ (.s .n (.s (.l ⟨[(7,3),(12,49)],[.nat (.s 7), .tr (.c 4 0) 3 149 true],[],[]⟩ FUEL (.s .n (.s (.j ⟨[(8,2),(19,42)],[.tr (.c 4 0) 3 149 true],[],[]⟩ (.s (.s .n (.s .n (.s (.rj 3 ⟨[(42,26)],[.dat (.s 67) .bool],[],[]⟩ (.r none (od 28 []))) .n))) .n)) .n))) .n))) .n)))) [.cell 4 58, .tmp 5] (gc jH (gc mV (gc nK (gc Cu aF)))) func39 ntmps39 (λa _=>aC (Tt a.1 a.2)) (λ_=>by kernel_rfl)
def aA4:SU:=⟨[.st 60, .sl 165, .st 29, .st 69],[.st 60,i6],true,false,λ(a:D.Device×(List D.aAC)×D.aAF×D.aAA)=>gd (a.1.sz<=34359738368/\a.2.1.length<=34359738368/\a.2.2.1.sz<=34359738368/\a.2.2.2.Data.length<=34359738200) (some (bS a.1 a.2.1 a.2.2.1 a.2.2.2))⟩
def aA5:OK 73 aA4:=mkS (.s .n (.s .n (.s .n (.s (.s (.rj 4 ⟨[(25,7)],[.dat (.s 31) .bool],[],[]⟩ .n) .n) (.s bM9 (.s .n (.s bNg (.s bNf (.s .n (.s .n (.s (.s (.rj 3 ⟨[(98,4)],[.dat (.s 101) .bool],[],[]⟩ .n) .n) bM1))))))))))) [.cell 8 60, .tmp 9] (gc mW (gc gL (gc gG (gc lV (gc kH (gc eP (gc tV (gc Ll (gc aA3 (gc wC (gc iW aF))))))))))) func73 ntmps73 (λa _=>aC (Y9 a.1 a.2.1 a.2.2.1 a.2.2.2)) (λ_=>by kernel_rfl)
def aN2:SU:=⟨[.st 60, .st 32,i6],[.st 60,i6],true,false,λ(a:D.Device×D.aAD×Int)=>gd (a.1.sz<=34359738100/\a.2.1.sz<=34359738100) (some (bS a.1 a.2.1.Log a.2.1.Boxes (dI a.2.1 a.2.2).1))⟩
def Re:OK 27 aN2:=mkS .n [.cell 6 60, .tmp 7] (gc A8 (gc aA5 aF)) func27 ntmps27 (λa _=>aC (aMx a.1 a.2.1 a.2.2)) (λ_=>by kernel_rfl)
def aUx:SU:=⟨[i6],[i6],false,false,λ(a:Int)=>some (gP a 1019)⟩
def aUy:OK 273 aUx:=mkS .n [.tmp 2] (gc zG aF) func273 ntmps273 (λa _=>(aUo a).trans) (λ_=>by kernel_rfl)
def aP3:SU:=⟨[i6, .sl 3,i6],[i6],false,false,λ(a:Int×(List Int)×Int)=>gd (0<=a.2.2/\a.2.2<=1000/\a.2.1.length<=34359738368) (some (Wi a.1 a.2.1 a.2.2))⟩
def aP4:OK 261 aP3:=mkS (.s .n (.s .n (.s (.j ⟨[(7,19)],[.dat (.s 7) i6],[],[]⟩ (.s .n (.s (.l ⟨[(7,2),(3,14)],[.dat (.s 7) i6, .dat (.s 8) i6],[],[]⟩ FUEL .n) .n))) .n))) [.tmp 6] (gc aUy aF) func261 ntmps261 (λa _=>aC (aPl a.1 a.2.1 a.2.2)) (λ_=>by kernel_rfl)
def C8:SU:=⟨[i6, .sl 3,i6],[.sl 132],true,false,λ(a:Int×(List Int)×Int)=>gd (a.2.1.length<=34359738368) (some (xR a.1 a.2.1 a.2.2))⟩
def C9:OK 240 C8:=mkS (.s .n (.s .n (.s (.s (.rj 4 ⟨[(13,6)],[.dat (.s 18) .bool],[],[]⟩ .n) .n) (.s (.j ⟨[(7,2),(11,14)],[.tr (.s 7) 0 132 true],[],[]⟩ (.s .n (.s (.l ⟨[(7,2),(11,14)],[.tr (.s 7) 0 132 true, .dat (.s 8) i6],[],[]⟩ FUEL .n) .n))) .n)))) [.tmp 6] (gc bU (gc aP4 aF)) func240 ntmps240 (λa _=>aC (Zt a.1 a.2.1 a.2.2)) (λ_=>by kernel_rfl)
def aUz:SU:=⟨[i6,i6],[i6],false,false,λ(a:Int×Int)=>qL a.1 a.2⟩
def aA6:OK 275 aUz:=mkS bQ8 [.tmp 4] aF func275 ntmps275 (λ_ _=>id) (λ_=>by kernel_rfl)
def Lm:SU:=⟨[i6],[.bool],false,false,λ(a:Int)=>some (aLa a)⟩
def Lp:OK 274 Lm:=mkS (.s .n (.s (.rj 3 ⟨[(2,1),(2,5)],[.dat (.s 2) .bool],[],[]⟩ .n) .n)) [.tmp 2] (gc bU (gc aA6 aF)) func274 ntmps274 (λa _=>(Lc a).trans) (λ_=>by kernel_rfl)
def aH9:SU:=⟨[i6,i6],[i6],false,false,λ(a:Int×Int)=>some (xQ a.1 a.2)⟩
def Kg:OK 262 aH9:=mkS .n [.tmp 4] (gc Lp (gc zG (gc aA6 aF))) func262 ntmps262 (λa _=>(aHv a.1 a.2).trans) (λ_=>by kernel_rfl)
def D5:SU:=⟨[i6,i6],[i6],false,false,λ(a:Int×Int)=>some (R7 a.1 a.2)⟩
def D6:OK 263 D5:=mkS .n [.tmp 4] (gc dO (gc Kg aF)) func263 ntmps263 (λa _=>(Zr a.1 a.2).trans) (λ_=>by kernel_rfl)
def Uz:SU:=⟨[i6,i6,i6],[i6],false,false,λ(a:Int×Int×Int)=>some (Sr a.1 a.2.1 a.2.2)⟩
def Va:OK 242 Uz:=mkS .n [.tmp 6] (gc D6 (gc Kg aF)) func242 ntmps242 (λa _=>(Uk a.1 a.2.1 a.2.2).trans) (λ_=>by kernel_rfl)
def aE0:SU:=⟨[i6,i6],[i6],false,false,λ(a:Int×Int)=>some (Ad a.1 a.2)⟩
def aE1:OK 241 aE0:=mkS .n [.tmp 4] (gc dO (gc Zz aF)) func241 ntmps241 (λa _=>(aEh a.1 a.2).trans) (λ_=>by kernel_rfl)
def aN3:SU:=⟨[.st 134],[i6],false,false,λ(a:D.aAV)=>some (Wh a)⟩
def aN4:OK 264 aN3:=mkS .n [.tmp 2] aF func264 ntmps264 (λa _=>(aMn a).trans) (λ_=>by kernel_rfl)
def aE2:SU:=⟨[.st 134],[.st 137],true,false,λ(a:D.aAV)=>some (R9 a)⟩
def aE3:OK 243 aE2:=mkS (.s .n (.s (.r (some 4) (od 5 [2,4])) .n)) [.cell 2 137] (gc aN4 aF) func243 ntmps243 (λa _=>(aEi a).trans) (λ_=>by kernel_rfl)
def aA7:SU:=⟨[i6,i6],[i6],false,false,λ(a:Int×Int)=>some (R8 a.1 a.2)⟩
def aA8:OK 244 aA7:=mkS .n [.tmp 4] (gc dO aF) func244 ntmps244 (λa _=>(aAg a.1 a.2).trans) (λ_=>by kernel_rfl)
def aN5:SU:=⟨[i6,i6],[i6],false,false,λ(a:Int×Int)=>some (aSf a.1 a.2)⟩
def aN6:OK 245 aN5:=mkS .n [.tmp 4] (gc bU (gc dU aF)) func245 ntmps245 (λa _=>(aM5 a.1 a.2).trans) (λ_=>by kernel_rfl)
def aE4:SU:=⟨[i6,i6,i6,i6, .sl 3,i6,i6],[.st 35, .sl 137, .bool],true,false,λ(a:Int×Int×Int×Int×(List Int)×Int×Int)=>gd (a.2.2.2.2.1.length<=34359738368) (some (Hz a.1 a.2.1 a.2.2.1 a.2.2.2.1 a.2.2.2.2.1 a.2.2.2.2.2.1 a.2.2.2.2.2.2))⟩
def aE5:OK 206 aE4:=mkS (.s .n (.s .n (.s (.s (.rj 4 ⟨[(28,25)],[.dat (.s 52) .bool],[],[]⟩ .n) .n) (.s .n (.s .n (.s (.j ⟨[(19,2),(41,16)],[.tr (.s 19) 2 137 true],[],[]⟩ (.s .n (.s (.l ⟨[(19,2),(41,16)],[.tr (.s 19) 2 137 true, .nat (.s 20)],[],[]⟩ FUEL .n) .n))) .n)))))) [.cell 14 35, .tmp 15, .tmp 16] (gc C9 (gc bU (gc cZ (gc zG (gc Va (gc aE1 (gc aE3 (gc aA8 (gc aN6 aF))))))))) func206 ntmps206 (λa _=>aC (aEj a.1 a.2.1 a.2.2.1 a.2.2.2.1 a.2.2.2.2.1 a.2.2.2.2.2.1 a.2.2.2.2.2.2)) (λ_=>by kernel_rfl)
def aN7:SU:=⟨[.st 137],[.st 137],true,false,λ(a:D.aAG)=>gd (a.sz<=34359738368) (some (a))⟩
def aN8:OK 129 aN7:=mkS .n [.cell 2 137] aF func129 ntmps129 (λ(a:D.aAG) _=>aC (aMd a)) (λ_=>by kernel_rfl)
def aIa:SU:=⟨[.sl 137],[.sl 137],true,false,λ(a:(List D.aAG))=>gd (Q0 D.aAG.sz a<=34359738368) (some (a))⟩
def aIb:OK 68 aIa:=mkS (.s .n (.s .n (.s (.j ⟨[(3,2),(1,14)],[.tr (.s 3) 0 137 true],[],[]⟩ (.s .n (.s (.l ⟨[(3,2),(1,14)],[.tr (.s 3) 0 137 true, .nat (.s 4)],[],[]⟩ FUEL .n) .n))) .n))) [.tmp 2] (gc aN8 aF) func68 ntmps68 (λ(a:(List D.aAG)) _=>aC (aHg a)) (λ_=>by kernel_rfl)
def aN9:SU:=⟨[.st 39],[.st 39],true,false,λ(a:D.aAJ)=>gd (a.sz<=34359738368) (some (a))⟩
def zO:OK 69 aN9:=mkS .n [.cell 2 39] aF func69 ntmps69 (λ(a:D.aAJ) _=>aC (aMe a)) (λ_=>by kernel_rfl)
def aOa:SU:=⟨[.st 41],[.st 41],true,false,λ(a:D.World)=>gd (a.sz<=34359738368) (some (a))⟩
def gM:OK 25 aOa:=mkS (.s .n (.s .n (.s .n (.s (.j ⟨[(4,1),(4,18)],[.tr (.c 2 2) 3 60 true],[],[]⟩ (.s .n (.s (.l ⟨[(4,1),(4,18)],[.nat (.s 4), .tr (.c 2 2) 3 60 true],[],[]⟩ FUEL bCw) .n))) (.s .n (.s .n (.s .n (.s (.j ⟨[(5,1),(32,18)],[.tr (.c 2 8) 8 83 true],[],[]⟩ (.s .n (.s (.l ⟨[(5,1),(32,18)],[.nat (.s 5), .tr (.c 2 8) 8 83 true],[],[]⟩ FUEL bCw) .n))) .n)))))))) [.cell 2 41] (gc mW (gc zM (gc mU (gc aIb (gc zO aF))))) func25 ntmps25 (λ(a:D.World) _=>aC (aMf a)) (λ_=>by kernel_rfl)
def Lr:SU:=⟨[.st 39],[.bool],false,false,λ(a:D.aAJ)=>gd (a.sz<=34359738368) (some (dZ a))⟩
def sD:OK 132 Lr:=mkS (.s .n (.s (.jx ⟨[(2,47)],[],[],[]⟩ (.s .n (.s (.l ⟨[(2,47)],[.nat (.s 3)],[],[]⟩ FUEL bM8) .n))) .n)) [.tmp 2] (gc bU aF) func132 ntmps132 (λ(a:D.aAJ) _=>aC (Kn a)) (λ_=>by kernel_rfl)
def Vb:SU:=⟨[.st 41],[.bool],false,false,λ(a:D.World)=>gd (a.sz<=34359738368) (some (aR a))⟩
def wD:OK 70 Vb:=mkS (.s .n (.s (.jx ⟨[(2,27)],[],[],[]⟩ (.s .n (.s (.l ⟨[(2,27)],[.nat (.s 3)],[],[]⟩ FUEL (.s .n (.s (.s (.s (.rj 8 ⟨[(18,11)],[.dat (.s 28) .bool],[],[]⟩ (.r none (od 18 [5,15]))) .n) .n) .n))) .n))) (.s (.rj 4 ⟨[(2,1),(29,37)],[.dat (.s 2) .bool],[],[]⟩ .n) .n))) [.tmp 2] (gc iX (gc jG (gc bU (gc sD (gc gG (gc cZ aF)))))) func70 ntmps70 (λ(a:D.World) _=>aC (Tv a)) (λ_=>by kernel_rfl)
def aIc:SU:=⟨[.st 41,i6,i6],[.bool],false,false,λ(a:D.World×Int×Int)=>gd (a.1.sz<=34359738368) (some (eO a.1 a.2.1 a.2.2))⟩
def uZ:OK 207 aIc:=mkS (.s .n (.s (.rj 3 ⟨[(6,1),(2,12)],[.dat (.s 6) .bool],[],[]⟩ .n) .n)) [.tmp 6] (gc wD (gc bU aF)) func207 ntmps207 (λa _=>aC (aHt a.1 a.2.1 a.2.2)) (λ_=>by kernel_rfl)
def D7:SU:=⟨[.st 41,i6],[.st 41, .bool],true,false,λ(a:D.World×Int)=>gd (a.1.sz<=34359738368) (some (nR a.1 a.2))⟩
def D8:OK 158 D7:=mkS (.s .n (.s .n (.s (.s (.rj 5 ⟨[(13,7)],[.dat (.s 19) .bool],[],[]⟩ .n) .n) .n))) [.cell 4 41, .tmp 5] (gc gM (gc uZ aF)) func158 ntmps158 (λa _=>aC (Zv a.1 a.2)) (λ_=>by kernel_rfl)
def aE6:SU:=⟨[.str],[.st 231],false,false,λ(a:ByteArray)=>some ((D.aAN.mk true a 443))⟩
def aE7:OK 209 aE6:=mkS .n [.cell 2 231] aF func209 ntmps209 (λa _=>(aEg a).trans) (λ_=>by kernel_rfl)
def Ls:SU:=⟨[.st 80,i6,i6],[.st 80, .st 181, .bool],false,false,λ(a:D.aAE×Int×Int)=>gd (a.1.sz<=34359738368) (some (jE a.1 a.2.1 a.2.2))⟩
def Lt:OK 276 Ls:=mkS (.s .n (.s .n (.s (.s (.rj 4 ⟨[(16,15)],[.dat (.s 30) .bool],[],[]⟩ .n) .n) bJn))) [.cell 6 80, .cell 7 181, .tmp 8] (gc zI (gc oQ (gc bU (gc (aSr 2000000) aF)))) func276 ntmps276 (λa _=>aC (La a.1 a.2.1 a.2.2)) (λ_=>by kernel_rfl)
def Lu:SU:=⟨[.st 80,i6],[i6],false,false,λ(a:D.aAE×Int)=>some (jR a.1 a.2)⟩
def sF:OK 277 Lu:=mkS .n [.tmp 4] (gc dO aF) func277 ntmps277 (λa _=>(Ky a.1 a.2).trans) (λ_=>by kernel_rfl)
def aA9:SU:=⟨[.st 83,i6,i6],[.st 83,i6,i6, .bool],false,false,λ(a:D.Site×Int×Int)=>gd (a.1.sz<=34359738368) (some (sS a.1 a.2.1 a.2.2))⟩
def aBa:OK 265 aA9:=mkS (.s .n (.s .n (.s .n (.s (.s (.rj 4 ⟨[(28,10)],[.dat (.s 37) .bool],[],[]⟩ .n) .n) (.s .n (.s (.u none [1] [] (od 11 [6,7,8,9,10])) .n)))))) [.cell 6 83, .tmp 7, .tmp 8, .tmp 9] (gc mU (gc Lt (gc iX (gc kW (gc sF aF))))) func265 ntmps265 (λa _=>aC (aAe a.1 a.2.1 a.2.2)) (λ_=>by kernel_rfl)
def aId:SU:=⟨[.st 231],[.bool],false,false,λ(a:D.aAN)=>gd (a.Host.size<=34359738368) (some (pM a))⟩
def vB:OK 291 aId:=mkS (.s .n (.s (.rj 4 ⟨[(2,1),(3,5)],[.dat (.s 2) .bool],[],[]⟩ .n) .n)) [.tmp 2] (gc Ct (gc bU aF)) func291 ntmps291 (λ(a:D.aAN) _=>aC (aHs a)) (λ_=>by kernel_rfl)
def Vd:SU:=⟨[.st 231],[.str],false,false,λ(a:D.aAN)=>gd (pK a) (some (oC a))⟩
def wE:OK 278 Vd:=mkS (.s .n (.s .n (.s .n (.s .n (.s (.j ⟨[(3,2),(3,2)],[.dat (.s 3) (.str), .dat (.s 4) i6],[],[]⟩ .n) (.s .n (.s (.r none (od 10 [7])) .n))))))) [.tmp 2] (gc vB (gc aDc aF)) func278 ntmps278 (λ(a:D.aAN) _=>aC (Uj a)) (λ_=>by kernel_rfl)
def Gb:SU:=⟨[.st 257],[.sl 3],true,false,λ(a:D.aAL)=>gd (a.Site.size<=34359738300/\a.aAN.size<=34359738300) (some (dA a))⟩
def pW:OK 280 Gb:=mkS (.s .n (.s .n (.s (.j ⟨[(3,3)],[.dat (.s 3) i6],[],[]⟩ .n) (.s (.r none [(0,true),(1,true),(3,true),(4,true),(6,true),(7,true),(8,true),(9,true),(10,true),(2,false),(5,false),(11,false),(12,true)]) .n)))) [.tmp 2] (gc uY (gc pV aF)) func280 ntmps280 (λ(a:D.aAL) _=>aC (Fv a)) (λ_=>by kernel_rfl)
def Ve:SU:=⟨[.st 55],[.bool],false,false,λ(a:D.aAI)=>some (uG a)⟩
def Vf:OK 293 Ve:=mkS (.s .n (.s (.rj 4 ⟨[(2,1),(3,15)],[.dat (.s 2) .bool],[],[]⟩ .n) .n)) [.tmp 2] (gc bU (gc cZ aF)) func293 ntmps293 (λa _=>(Uh a).trans) (λ_=>by kernel_rfl)
def Rf:SU:=⟨[.st 55, .str,i6, .sl 3],[.st 55,i6, .bool],false,false,λ(a:D.aAI×ByteArray×Int×(List Int))=>gd (a.2.1.size<=34359738300/\a.2.2.2.length<=34359738200) (some (fK a.1 a.2.1 a.2.2.1 a.2.2.2))⟩
def Rh:OK 279 Rf:=mkS (.s .n (.s (.s (.rj 4 ⟨[(15,5)],[.dat (.s 19) .bool],[],[]⟩ .n) .n) (.s .n (.s .n (.s (.u none [1] [4,10] [(0,true),(1,true),(2,true),(3,true),(6,true),(8,true),(9,true),(5,false),(4,false),(7,false),(10,false),(11,false),(12,false),(13,false),(14,false),(15,false)]) .n))))) [.cell 8 55, .tmp 9, .tmp 10] (gc Vf (gc zJ (gc oO aF))) func279 ntmps279 (λa _=>aC (Qn a.1 a.2.1 a.2.2.1 a.2.2.2)) (λ_=>by kernel_rfl)
def aP5:SU:=⟨[.st 231, .str],[.bool],false,false,λ(a:D.aAN×ByteArray)=>gd (Jc a.1 a.2) (some (tN a.1 a.2))⟩
def Xh:OK 281 aP5:=mkS (.s .n (.s (.s (.rj 4 ⟨[(9,16)],[.dat (.s 24) .bool],[],[]⟩ .n) .n) (.s .n (.s (.rj 5 ⟨[(4,1),(30,20)],[.dat (.s 4) .bool],[],[]⟩ .n) .n)))) [.tmp 4] (gc vB (gc Ct (gc uX aF))) func281 ntmps281 (λa _=>aC (aPr a.1 a.2)) (λ_=>by kernel_rfl)
def Ri:SU:=⟨[.st 55, .st 231, .str,i6,i6, .bool],[.st 55, .st 257, .bool],false,false,λ(a:D.aAI×D.aAN×ByteArray×Int×Int×Bool)=>gd (Jc a.2.1 a.2.2.1) (some (jS a.1 a.2.1 a.2.2.1 a.2.2.2.1 a.2.2.2.2.1 a.2.2.2.2.2))⟩
def Rj:OK 266 Ri:=mkS (.s .n (.s .n (.s (.y false (some 10) (some 11) (od 14 [4,5,10,11])) (.s (.s (.rj 5 ⟨[(40,4)],[.dat (.s 43) .bool],[],[]⟩ .n) .n) (.s .n (.s .n bJp)))))) [.cell 12 55, .cell 13 257, .tmp 14] (gc wE (gc pW (gc Rh (gc Xh aF)))) func266 ntmps266 (λa _=>aC (Qo a.1 a.2.1 a.2.2.1 a.2.2.2.1 a.2.2.2.2.1 a.2.2.2.2.2)) (λ_=>by kernel_rfl)
def Rk:SU:=⟨[.st 80,i6],[i6],false,false,λ(a:D.aAE×Int)=>gd (a.1.Open.length<=34359738368) (some (dJ a.1 a.2))⟩
def Rl:OK 294 Rk:=mkS bPm [.tmp 4] aF func294 ntmps294 (λa _=>aC (Ql a.1 a.2)) (λ_=>by kernel_rfl)
def Rm:SU:=⟨[.st 80,i6,i6,i6],[.st 80, .bool],true,false,λ(a:D.aAE×Int×Int×Int)=>gd (a.1.sz<=34359738368) (some (uF a.1 a.2.1 a.2.2.1 a.2.2.2))⟩
def Rn:OK 282 Rm:=mkS (.s .n (.s .n (.s (.s (.rj 4 ⟨[(18,4)],[.dat (.s 21) .bool],[],[]⟩ .n) .n) (.s .n (.s (.y true none (some 13) [(1,true),(2,true),(3,true),(4,true),(6,true),(7,true),(8,true),(9,true),(10,true),(0,false),(5,false),(11,false),(12,false),(13,false)]) (.s (.u none [1] [] (od 21 [19,20])) .n)))))) [.cell 8 80, .tmp 9] (gc Rl (gc oQ (gc zI aF))) func282 ntmps282 (λa _=>aC (Qm a.1 a.2.1 a.2.2.1 a.2.2.2)) (λ_=>by kernel_rfl)
def Vg:SU:=⟨[.st 127,i6],[.bool],false,false,λ(a:D.aAH×Int)=>gd (a.1.sz<=34359738368) (some (Ac a.1 a.2))⟩
def Vh:OK 283 Vg:=mkS (.s .n (.s (.s (.rj 4 ⟨[(9,7)],[.dat (.s 15) .bool],[],[]⟩ .n) .n) (.s (.jx ⟨[(4,2),(10,14)],[],[],[]⟩ (.s .n (.s (.l ⟨[(4,2),(10,14)],[.nat (.s 5)],[],[]⟩ FUEL .n) .n))) .n))) [.tmp 4] (gc gD (gc bU aF)) func283 ntmps283 (λa _=>aC (Ui a.1 a.2)) (λ_=>by kernel_rfl)
def Lv:SU:=⟨[.st 127,i6],[i6],false,false,λ(a:D.aAH×Int)=>gd (a.1.Credentials.length<=34359738368) (some (aW a.1 a.2))⟩
def sG:OK 250 Lv:=mkS bPm [.tmp 4] aF func250 ntmps250 (λa _=>aC (Kw a.1 a.2)) (λ_=>by kernel_rfl)
def D9:SU:=⟨[.str],[.st 231, .bool],false,false,λ(a:ByteArray)=>gd (bEb a) (some (wV a))⟩
def E5:OK 301 D9:=mkS (.s .n (.s .n (.s .n (.s (.j ⟨[(5,1),(4,24)],[.dat (.s 5) (.str), .dat (.c 1 0) .bool, .dat (.c 1 1) (.str), .dat (.c 1 2) i6],[],[]⟩ (.s (.s (.rj 4 ⟨[(10,1),(3,5)],[.dat (.s 10) .bool],[],[]⟩ .n) (.s .n (.s (.rj 4 ⟨[(22,1),(3,5)],[.dat (.s 22) .bool],[],[]⟩ .n) .n))) .n)) (.s .n (.s (.jx ⟨[(3,1),(2,3),(27,27)],[.dat (.c 1 1) (.str), .dat (.c 1 2) i6],[],[]⟩ (.s .n (.s (.l ⟨[(3,1),(2,3),(27,27)],[.nat (.s 6)],[],[]⟩ FUEL .n) .n))) (.s (.s (.rj 4 ⟨[(66,6)],[.dat (.s 71) .bool],[],[]⟩ .n) .n) .n))))))) [.cell 2 231, .tmp 3] (gc aHa (gc vB (gc wE aF))) func301 ntmps301 (λ(a:ByteArray) _=>aC (Zo a)) (λ_=>by kernel_rfl)
def Lx:SU:=⟨[i6, .st 257, .str,i6,i6],[i6],false,false,λ(a:Int×D.aAL×ByteArray×Int×Int)=>gd (AsP a.2.1 a.2.2.1) (some (kZ a.1 a.2.1 a.2.2.1 a.2.2.2.1 a.2.2.2.2))⟩
def Ma:OK 295 Lx:=mkS (.s .n (.s .n (.s (.s (.s (.rj 5 ⟨[(19,1),(4,10)],[.dat (.s 19) .bool],[],[]⟩ .n) (.s .n (.s .n (.s .n (.s .n (.s .n (.s (.y true (some 5) none [(0,true),(1,true),(3,true),(4,true),(7,true),(8,true),(2,false),(5,false),(6,false),(9,false),(10,false),(11,true)]) .n))))))) .n) .n))) [.tmp 10] (gc E5 (gc Xh (gc pW (gc qU aF)))) func295 ntmps295 (λa _=>aC (Lb a.1 a.2.1 a.2.2.1 a.2.2.2.1 a.2.2.2.2)) (λ_=>by kernel_rfl)
def Ro:SU:=⟨[.st 127, .st 257, .str,i6],[.st 127,i6],true,false,λ(a:D.aAH×D.aAL×ByteArray×Int)=>gd (AsP a.2.1 a.2.2.1/\a.1.sz<=34359738368) (some (nP a.1 a.2.1 a.2.2.1 a.2.2.2))⟩
def Rp:OK 284 Ro:=mkS (.s .n (.s .n (.s .n (.s (.s (.rj 4 ⟨[(22,12)],[.dat (.s 33) .bool],[],[]⟩ .n) .n) (.s (.r none (od 17 [15])) (.s (.j ⟨[(51,17)],[.ti 3 183 true],[],[]⟩ .n) .n)))))) [.cell 8 127, .tmp 9] (gc qV (gc sG (gc gD (gc Ma aF)))) func284 ntmps284 (λa _=>aC (Qp a.1 a.2.1 a.2.2.1 a.2.2.2)) (λ_=>by kernel_rfl)
def E8:SU:=⟨[.st 83,i6,i6,i6, .st 257],[.st 83,i6,i6],true,false,λ(a:D.Site×Int×Int×Int×D.aAL)=>gd (AsP a.2.2.2.2 a.1.Name/\a.1.sz<=34359738300) (some (tO a.1 a.2.1 a.2.2.1 a.2.2.2.1 a.2.2.2.2))⟩
def E9:OK 267 E8:=mkS (.s .n (.s .n (.s .n (.s (.s (.rj 4 ⟨[(27,4)],[.dat (.s 30) .bool],[],[]⟩ .n) .n) (.s .n (.s .n (.s .n (.s .n (.s (.y false (some 16) (some 17) (od 19 [11,12,16,17])) .n))))))))) [.cell 10 83, .tmp 11, .tmp 12] (gc mU (gc kW (gc iX (gc Rn (gc Vh (gc sF (gc Rp aF))))))) func267 ntmps267 (λa _=>aC (Zp a.1 a.2.1 a.2.2.1 a.2.2.2.1 a.2.2.2.2)) (λ_=>by kernel_rfl)
def aBb:SU:=⟨[.st 39,i6,i6,i6],[.st 39, .bool],true,false,λ(a:D.aAJ×Int×Int×Int)=>gd (a.1.sz<=34359738300) (some (vI a.1 a.2.1 a.2.2.1 a.2.2.2))⟩
def lW:OK 152 aBb:=mkS (.s .n (.s .n (.s .n (.s (.j ⟨[(10,3),(12,26)],[.tr (.s 10) 2 139 true],[],[]⟩ (.s .n (.s (.s .n (.s (.j ⟨[(11,2),(15,13)],[.dat (.s 11) i6],[],[]⟩ (.s .n (.s (.l ⟨[(11,2),(18,10)],[.dat (.s 11) i6, .dat (.s 12) i6],[],[]⟩ FUEL (.s .n (.s (.j ⟨[(11,1),(23,6)],[.dat (.s 11) i6],[],[]⟩ .n) .n))) .n))) (.y true none (some 9) [(1,true),(2,true),(3,true),(5,true),(6,true),(7,true),(8,true),(0,false),(4,false),(9,false),(10,true)]))) .n))) (.s .n (.s (.s (.rj 4 ⟨[(56,5)],[.dat (.s 60) .bool],[],[]⟩ .n) .n) .n)))))) [.cell 8 39, .tmp 9] (gc sD (gc zO aF)) func152 ntmps152 (λa _=>aC (aAc a.1 a.2.1 a.2.2.1 a.2.2.2)) (λ_=>by kernel_rfl)
def aP6:SU:=⟨[.st 41,i6,i6, .st 231],[.st 41, .st 257,i6],true,false,λ(a:D.World×Int×Int×D.aAN)=>gd (pK a.2.2.2/\a.1.sz<=34359738200) (some (lJ a.1 a.2.1 a.2.2.1 a.2.2.2))⟩
def aP7:OK 246 aP6:=mkS (.s .n (.s .n (.s .n (.s (.y false (some 13) (some 14) (od 18 [7,13,14])) (.s .n (.s (.u none [] [16,17] [(0,true),(1,true),(2,true),(3,true),(4,true),(5,true),(6,true),(7,true),(9,true),(10,true),(8,false),(11,false),(12,true),(13,true),(14,true),(15,true),(16,false),(17,false),(18,false),(19,false),(20,false)]) (.s .n (.s .n (.s .n (.s (.s .n (.s bJp .n)) (.s .n (.s .n bJp)))))))))))) [.cell 8 41, .cell 9 257, .tmp 10] (gc gM (gc uZ (gc aBa (gc jG (gc Rj (gc E9 (gc lW aF))))))) func246 ntmps246 (λa _=>aC (aPs a.1 a.2.1 a.2.2.1 a.2.2.2)) (λ_=>by kernel_rfl)
def aIe:SU:=⟨[.st 41,i6,i6, .st 231],[.st 41,i6],true,false,λ(a:D.World×Int×Int×D.aAN)=>gd (pK a.2.2.2/\a.1.sz<=34359738200) (some (Hy a.1 a.2.1 a.2.2.1 a.2.2.2))⟩
def aIf:OK 208 aIe:=mkS .n [.cell 8 41, .tmp 9] (gc aP7 aF) func208 ntmps208 (λa _=>aC (aHu a.1 a.2.1 a.2.2.1 a.2.2.2)) (λ_=>by kernel_rfl)
def F3:SU:=⟨[.st 41,i6,i6],[.st 41,i6],true,false,λ(a:D.World×Int×Int)=>gd (a.1.sz<=34359738200) (some (qH a.1 a.2.1 a.2.2))⟩
def F4:OK 159 F3:=mkS (.s .n (.s (.s (.rj 6 ⟨[(13,7)],[.dat (.s 19) .bool],[],[]⟩ .n) .n) (.s (.r (some 10) (od 12 [4,6,7,10,11])) .n))) [.cell 6 41, .tmp 7] (gc uZ (gc gM (gc jG (gc aE7 (gc aIf aF))))) func159 ntmps159 (λa _=>aC (Zq a.1 a.2.1 a.2.2)) (λ_=>by kernel_rfl)
def aU0:SU:=⟨[.st 97, .sl 9],[.st 97, .str],true,true,λ(a:D.aAQ×(List ByteArray))=>qM a.1 a.2⟩
def aBc:OK 33 aU0:=mkP .n [.tmp 4] (gc iU aF) func33 ntmps33 (λ_ _=>id) (λ_=>by kernel_rfl)
def aP8:SU:=⟨[.st 97,i6],[.st 97, .bool],true,true,λ(a:D.aAQ×Int)=>gd (aX a.1) (some (oF a.1 a.2))⟩
def tX:OK 34 aP8:=mkP .n [.tmp 4] (gc iU aF) func34 ntmps34 (λa _=>aC (aPu a.1 a.2)) (λ_=>by kernel_rfl)
def aIg:SU:=⟨[.st 41,i6],[.bool],false,false,λ(a:D.World×Int)=>gd (a.1.sz<=34359738368) (some (aR a.1&&aM a.1 a.2))⟩
def Kh:OK 26 aIg:=mkS (.s .n (.s (.rj 3 ⟨[(4,1),(2,8)],[.dat (.s 4) .bool],[],[]⟩ .n) .n)) [.tmp 4] (gc wD (gc bU aF)) func26 ntmps26 (λa _=>aC (aHp a.1 a.2)) (λ_=>by kernel_rfl)
def aBd:SU:=⟨[.st 41,i6, .str,i6, .bool],[.st 41, .bool],true,false,λ(a:D.World×Int×ByteArray×Int×Bool)=>gd (a.1.sz<=34359738300/\a.2.2.1.size<=34359738300) (some (jB a.1 a.2.1 a.2.2.1 a.2.2.2.1 a.2.2.2.2))⟩
def Ci:OK 12 aBd:=mkS .n [.cell 10 41, .tmp 11] (gc gM (gc Kh (gc nS aF))) func12 ntmps12 (λa _=>aC (X6 a.1 a.2.1 a.2.2.1 a.2.2.2.1 a.2.2.2.2)) (λ_=>by kernel_rfl)
def aOb:SU:=⟨[.st 41,i6,i6],[.st 41,i6],true,false,λ(a:D.World×Int×Int)=>gd (a.1.sz<=34359738100) (some (aI a.1 a.2.1 a.2.2))⟩
def qY:OK 8 aOb:=mkS (.s .n (.s .n (.s .n (.s (.y false (some 12) (some 13) (od 15 [8,12,13])) .n)))) [.cell 6 41, .tmp 7] (gc gM (gc Kh (gc Re aF))) func8 ntmps8 (λa _=>aC (aMy a.1 a.2.1 a.2.2)) (λ_=>by kernel_rfl)
def aBe:SU:=⟨[.st 41,i6],[.st 41, .bool],true,false,λ(a:D.World×Int)=>gd (a.1.sz<=10000000000) (some (dL a.1 a.2))⟩
def qZ:OK 14 aBe:=mkS (.s .n (.s .n (.s (.s (.il 4 bM3 .n) .n) .n))) [.cell 4 41, .tmp 5] (gc qY (gc (sIl 38) (gc gM (gc oU (gc nT aF))))) func14 ntmps14 (λa _=>aC (Z6 a.1 a.2)) (λ_=>by kernel_rfl)
def aE8:SU:=⟨[.st 32, .sl 165, .st 29],[.st 32, .bool],true,false,λ(a:D.aAD×(List D.aAC)×D.aAF)=>gd (a.1.sz<=34359738368/\a.2.1.length<=34359738368/\a.2.2.sz<=34359738368) (some (jV a.1 a.2.1 a.2.2))⟩
def Gc:OK 247 aE8:=mkS (.s .n (.s .n (.s (.s (.rj 4 ⟨[(14,13)],[.dat (.s 26) .bool],[],[]⟩ .n) .n) .n))) [.cell 6 32, .tmp 7] (gc zM (gc gG (gc lV (gc Fx (gc iW (gc zH aF)))))) func247 ntmps247 (λa _=>aC (aEc a.1 a.2.1 a.2.2)) (λ_=>by kernel_rfl)
def aBf:SU:=⟨[.st 60,i6, .bool],[.st 60],true,false,λ(a:D.Device×Int×Bool)=>gd (a.1.sz<=34359738300) (some (nH a.1 a.2.1 a.2.2))⟩
def Cj:OK 213 aBf:=mkS (.s .n (.s (.j ⟨[(7,17)],[.dat (.c 0 0) i6, .dat (.c 0 1) i6, .dat (.c 0 2) i6, .dat (.c 0 3) i6, .nt (.c 0 4) 165 true, .dat (.c 0 5) i6, .dat (.c 0 6) i6, .dat (.c 0 7) i6, .nt (.c 0 8) 149 true],[],[]⟩ (.s .n (.s (.s bMv (.l ⟨[(7,17)],[.dat (.s 7) i6, .dat (.c 0 0) i6, .dat (.c 0 1) i6, .dat (.c 0 2) i6, .dat (.c 0 3) i6, .tr (.c 0 4) 2 165 true, .dat (.c 0 5) i6, .dat (.c 0 6) i6, .dat (.c 0 7) i6, .tr (.c 0 8) 3 149 true],[],[]⟩ FUEL bMv)) .n))) .n)) [.cell 6 60] (gc jG (gc nS aF)) func213 ntmps213 (λa _=>aC (aAb a.1 a.2.1 a.2.2)) (λ_=>by kernel_rfl)
def Vi:SU:=⟨[.st 41,i6],[.st 41, .bool],true,false,λ(a:D.World×Int)=>gd (a.1.sz<=100000000) (some (iG a.1 a.2))⟩
def Vj:OK 160 Vi:=mkS (.s .n (.s .n (.s .n (.s (.s (.rj 3 ⟨[(28,11)],[.dat (.s 38) .bool],[],[]⟩ .n) .n) (.s .n (.s (.s (.il 9 bQ6 (.r (some 9) [(0,true),(1,true),(3,true),(4,true),(5,true),(6,true),(7,true),(8,true),(2,false),(9,false),(10,false)])) .n) (.s (.jx ⟨[(5,1),(4,3),(45,28)],[.ti 7 83 true],[],[]⟩ (.s .n (.s (.l ⟨[(5,1),(4,3),(45,28)],[.nat (.s 10), .ti 7 83 true],[],[]⟩ FUEL (.s .n (.s (.s (.s (.y false (some 15) (some 16) [(0,true),(1,true),(2,true),(3,true),(4,true),(5,true),(6,true),(7,true),(9,true),(8,false),(10,false),(11,false),(12,true),(13,true),(14,true),(15,false),(16,false),(17,true)]) .n) .n) .n))) .n))) (.s (.r (some 11) (od 12 [9,11])) (.s (.r (some 5) (od 8 [3,4,5,6,7])) (.s .n (.s .n (.s .n (.s (.s (.rj 3 ⟨[(123,4)],[.dat (.s 126) .bool],[],[]⟩ .n) .n) bNb))))))))))))) [.cell 4 41, .tmp 5] (gc qY (gc gM (gc Cc (gc eP (gc (sIl 210) (gc jG (gc Cf (gc zK (gc Cj (gc Fw (gc qZ (gc (sIl 214) (gc kV (gc dU (gc gL (gc uW (gc lM (gc Gc (gc qW (gc lW aF)))))))))))))))))))) func160 ntmps160 (λa _=>aC (Ug a.1 a.2)) (λ_=>by kernel_rfl)
def aP9:SU:=⟨[.st 41,i6],[.bool],false,false,λ(a:D.World×Int)=>gd (WOk a.1) (some (kN a.1 a.2))⟩
def aQa:OK 215 aP9:=mkS (.s .n (.s (.rj 7 ⟨[(4,1),(6,14)],[.dat (.s 4) .bool],[],[]⟩ (.r none [(0,true),(1,true),(2,true),(3,true),(4,true),(5,false),(6,true),(7,true),(8,true),(9,true),(11,true),(12,true),(13,true),(14,true),(15,true),(16,true),(10,false),(17,false),(18,false),(19,true),(20,true)])) .n)) [.tmp 4] (gc bU (gc kH (gc eP (gc tV aF)))) func215 ntmps215 (λa _=>aC (aPf a.1 a.2)) (λ_=>by kernel_rfl)
def Rq:SU:=⟨[.st 127,i6],[.st 127, .bool],true,false,λ(a:D.aAH×Int)=>gd (a.1.sz<=34359738368) (some (nZ a.1 a.2))⟩
def Rt:OK 217 Rq:=mkS (.s .n (.s .n (.s .n (.s (.s (.rj 4 ⟨[(16,12)],[.dat (.s 27) .bool],[],[]⟩ .n) .n) .n)))) [.cell 4 127, .tmp 5] (gc qV (gc sG (gc gD aF))) func217 ntmps217 (λa _=>aC (Qk a.1 a.2)) (λ_=>by kernel_rfl)
def aE9:SU:=⟨[.st 41,i6,i6],[.st 41, .bool],true,false,λ(a:D.World×Int×Int)=>gd (a.1.sz<=100000000) (some (iH a.1 a.2.1 a.2.2))⟩
def aFa:OK 161 aE9:=mkS (.s .n (.s .n (.s (.s (.rj 3 ⟨[(22,18)],[.dat (.s 39) .bool],[],[]⟩ .n) .n) (.s (.s (.il 8 bQ6 .n) .n) (.s (.j ⟨[(10,4),(40,35)],[.ti 7 83 true],[],[]⟩ (.s .n (.s (.l ⟨[(10,4),(40,35)],[.nat (.s 10), .ti 7 83 true],[],[]⟩ FUEL (.s .n (.s (.j ⟨[(11,3),(44,31)],[.ti 7 83 true],[],[]⟩ (.s (.s .n (.s .n (.s (.s .n (.r (some 9) (od 10 [9]))) .n))) .n)) .n))) .n))) (.s (.r (some 11) (od 12 [9,11])) (.s (.s (.il 1 bM3 .n) .n) bNb))))))) [.cell 6 41, .tmp 7] (gc qY (gc aQa (gc gM (gc eP (gc (sIl 210) (gc kW (gc Rt (gc Cj (gc (sIl 38) (gc (sIl 214) (gc kV (gc dU (gc gL (gc uW (gc lM (gc Gc (gc qW (gc oU (gc nT (gc lW aF)))))))))))))))))))) func161 ntmps161 (λa _=>aC (aEf a.1 a.2.1 a.2.2)) (λ_=>by kernel_rfl)
def aU1:SU:=⟨[.st 97, .sl 3],[.st 97,i6],true,true,λ(a:D.aAQ×(List Int))=>gd (aX a.1/\0<a.2.length) (some (Yf a.1 a.2))⟩
def aBg:OK 95 aU1:=mkP .n [.tmp 4] (gc iU aF) func95 ntmps95 (λa _=>aC (aUs a.1 a.2)) (λ_=>by kernel_rfl)
def F5:SU:=⟨[.st 39],[.st 39, .sl 139],true,false,λ(a:D.aAJ)=>kT a⟩
def F6:OK 153 F5:=mkS (.s .n (.s .n (.s .n (.s (.j ⟨[(5,2),(3,27)],[.tr (.s 5) 4 139 true, .ti 2 139 true],[],[]⟩ (.s .n (.s (.l ⟨[(5,2),(3,27)],[.tr (.s 5) 4 139 true, .nat (.s 6), .ti 2 139 true],[],[]⟩ FUEL (.s .n (.s (.j ⟨[(5,1),(11,20)],[.tr (.s 5) 4 139 true, .ti 2 139 true],[],[]⟩ (.s (.s (.j ⟨[(5,1),(11,15)],[.tr (.s 5) 4 139 true],[],[]⟩ .n) .n) .n)) .n))) .n))) .n)))) [.cell 2 39, .tmp 3] (gc zO aF) func153 ntmps153 (λ_ _=>id) (λ_=>by kernel_rfl)
def aU2:SU:=⟨[.st 97],[.st 97,i6],true,true,λ(a:D.aAQ)=>gd (aX a) (some (aLh a))⟩
def aU3:OK 97 aU2:=mkP .n [.tmp 2] (gc tX (gc aBg (gc iU (gc (aSr 3000000) aF)))) func97 ntmps97 (λ(a:D.aAQ) _=>aC (aUt a)) (λ_=>by kernel_rfl)
def aIh:SU:=⟨[i6],[.st 55],false,false,λ(a:Int)=>lD a⟩
def aIi:OK 196 aIh:=mkS .n [.cell 2 55] aF func196 ntmps196 (λ_ _=>id) (λ_=>by kernel_rfl)
def aQb:SU:=⟨[.st 97,i6],[.st 97, .sl 165],true,true,λ(a:D.aAQ×Int)=>tT a.1 a.2⟩
def aQc:OK 154 aQb:=mkP (.s .n (.s .n (.s (.j ⟨[(5,5),(1,33)],[.tr (.s 5) 1 165 true, .dat (.c 0 0) (.sl 5), .dat (.c 0 1) i6, .dat (.c 0 2) i6],[],[]⟩ (.s .n (.s (.l ⟨[(5,5),(4,30)],[.tr (.s 5) 1 165 true, .dat (.s 6) i6, .dat (.c 0 0) (.sl 5), .dat (.c 0 1) i6, .dat (.c 0 2) i6],[],[]⟩ FUEL (.s .n (.s (.j ⟨[(5,1),(1,3),(8,26)],[.tr (.s 5) 1 165 true, .dat (.c 0 0) (.sl 5), .dat (.c 0 1) i6, .dat (.c 0 2) i6],[],[]⟩ (.s (.s .n (.s .n (.s (.j ⟨[(8,1),(13,4)],[.dat (.s 8) i6],[],[]⟩ .n) (.s .n (.s (.j ⟨[(9,1),(16,7)],[.dat (.s 9) i6, .dat (.c 0 0) (.sl 5), .dat (.c 0 1) i6, .dat (.c 0 2) i6],[],[]⟩ (.s (.rj 4 ⟨[(29,4)],[.dat (.s 32) .bool, .dat (.c 0 0) (.sl 5), .dat (.c 0 1) i6, .dat (.c 0 2) i6],[],[]⟩ .n) .n)) .n))))) .n)) .n))) .n))) .n))) [.tmp 4] (gc iU (gc tX (gc aIi (gc eP (gc kV aF))))) func154 ntmps154 (λ_ _=>id) (λ_=>by kernel_rfl)
def F7:SU:=⟨[.sl 5],[.st 41,i6,i6],false,false,λ(a:(List Int))=>kU a⟩
def F8:OK 6 F7:=mkS (.s .n (.s bQ9 (.s (.il 1 (.s .n (.s (.il 2 (.s .n (.s (.il 1 (.s .n (.s .n (.s (.j ⟨[(7,14)],[.dat (.c 1 0) (.sl 5), .dat (.c 1 1) i6, .dat (.c 1 2) i6, .dat (.c 4 0) i6, .dat (.c 4 1) i6, .nt (.c 4 2) 60 true, .nt (.c 4 3) 4 true, .nt (.c 4 4) 165 true, .dat (.c 4 5) i6, .nt (.c 4 6) 186 true, .nt (.c 4 7) 69 true, .nt (.c 4 8) 83 false, .dat (.c 4 9) i6, .dat (.c 4 10) i6, .dat (.c 4 11) i6, .dat (.c 4 12) i6, .nt (.c 4 13) 137 true, .dat (.c 4 14) i6, .nt (.c 4 15) 139 true],[],[]⟩ (.il 13 (.s .n (.s (.s (.rj 4 ⟨[(30,21)],[.dat (.s 50) .bool],[],[]⟩ .n) .n) (.s .n (.s .n (.s (.j ⟨[(12,3),(41,33)],[.tr (.s 12) 7 165 true, .nt (.c 6 2) 60 true, .nt (.c 6 3) 4 true],[],[]⟩ (.s .n (.s (.l ⟨[(12,3),(41,33)],[.tr (.s 12) 7 165 true, .nat (.s 13), .nt (.c 6 2) 60 true, .nt (.c 6 3) 4 true],[],[]⟩ FUEL (.s .n (.s (.s (.s .n (.s .n (.s .n (.r none [(0,true),(1,true),(2,true),(4,true),(5,true),(6,true),(7,true),(8,true),(3,false),(9,false),(10,true),(11,true),(12,true),(13,true)])))) .n) .n))) .n))) (.s .n (.s .n (.s .n (.s (.il 3 (.s .n (.s .n (.s (.j ⟨[(5,5),(1,40)],[.tr (.s 5) 15 83 false],[],[]⟩ (.s .n (.s (.l ⟨[(5,5),(1,40)],[.tr (.s 5) 15 83 false, .nat (.s 6)],[],[]⟩ FUEL (.s .n (.s (.j ⟨[(5,1),(1,3),(5,36)],[.tr (.s 5) 15 83 false],[],[]⟩ (.s (.s .n (.s (.j ⟨[(9,1),(16,21)],[.dat (.c 16 0) (.str), .dat (.c 16 1) (.sl 127), .dat (.c 16 2) i6, .dat (.c 16 3) i6, .dat (.c 16 4) (.sl 181), .dat (.c 16 5) (.sl 3)],[],[]⟩ (.s .n (.s (.l ⟨[(9,1),(16,21)],[.nat (.s 9), .dat (.c 16 0) (.str), .dat (.c 16 1) (.sl 127), .dat (.c 16 2) i6, .dat (.c 16 3) i6, .dat (.c 16 4) (.sl 181), .dat (.c 16 5) (.sl 3)],[],[]⟩ FUEL (.s .n (.s (.s (.y false none (some 15) [(0,true),(1,true),(2,true),(3,true),(4,true),(5,true),(6,true),(7,true),(9,true),(8,false),(10,false),(11,false),(12,true),(13,true),(14,true),(15,false)]) .n) .n))) .n))) .n)) .n)) .n))) .n))) .n))) .n) (.s (.j ⟨[(18,1),(90,20)],[.tr (.c 6 2) 8 60 true],[],[]⟩ (.s .n (.s (.l ⟨[(18,1),(90,20)],[.nat (.s 18), .tr (.c 6 2) 8 60 true],[],[]⟩ FUEL bNe) .n))) (.s (.j ⟨[(19,2),(108,23)],[.tr (.c 6 2) 8 60 true],[],[]⟩ (.s .n (.s (.l ⟨[(19,2),(108,23)],[.nat (.s 19), .tr (.c 6 2) 8 60 true],[],[]⟩ FUEL (.s .n (.s (.j ⟨[(20,1),(112,19)],[.tr (.c 6 2) 8 60 true],[],[]⟩ (.s (.s .n (.s (.l ⟨[(20,1),(112,19)],[.nat (.s 20), .tr (.c 6 2) 8 60 true],[],[]⟩ FUEL (.s .n (.s (.s (.y false none (some 14) [(0,true),(1,true),(2,true),(3,true),(4,true),(5,true),(6,true),(8,true),(7,false),(9,false),(10,true),(11,true),(12,true),(13,true),(14,false)]) .n) .n))) .n)) .n)) .n))) .n))) (.s .n (.s .n (.s .n (.s (.j ⟨[(24,1),(148,20)],[.tr (.c 6 2) 8 60 true],[],[]⟩ (.s .n (.s (.l ⟨[(24,1),(148,20)],[.dat (.s 24) i6, .tr (.c 6 2) 8 60 true],[],[]⟩ FUEL bNe) .n))) (.s .n (.s (.j ⟨[(25,2),(167,12)],[.tr (.s 25) 24 3 true],[],[]⟩ (.s .n (.s (.l ⟨[(25,2),(167,12)],[.tr (.s 25) 24 3 true, .dat (.s 26) i6],[],[]⟩ FUEL .n) .n))) .n))))))))))))))))) .n)) .n))) .n) (.s (.j ⟨[(6,1),(2,10)],[.dat (.c 1 0) (.sl 5), .dat (.c 1 1) i6, .dat (.c 1 2) i6, .dat (.c 13 0) i6, .dat (.c 13 1) i6, .tr (.c 13 2) 5 60 true, .tr (.c 13 3) 6 4 true, .tr (.c 13 4) 7 165 true, .dat (.c 13 5) i6, .tr (.c 13 6) 8 186 true, .tr (.c 13 7) 9 69 true, .tr (.c 13 8) 10 83 false, .dat (.c 13 9) i6, .dat (.c 13 10) i6, .dat (.c 13 11) i6, .dat (.c 13 12) i6, .tr (.c 13 13) 11 137 true, .dat (.c 13 14) i6, .tr (.c 13 15) 12 139 true],[],[]⟩ (.s .n (.s (.l ⟨[(6,1),(5,7)],[.dat (.s 6) i6, .dat (.c 1 0) (.sl 5), .dat (.c 1 1) i6, .dat (.c 1 2) i6, .dat (.c 13 0) i6, .dat (.c 13 1) i6, .tr (.c 13 2) 5 60 true, .tr (.c 13 3) 6 4 true, .tr (.c 13 4) 7 165 true, .dat (.c 13 5) i6, .tr (.c 13 6) 8 186 true, .tr (.c 13 7) 9 69 true, .tr (.c 13 8) 10 83 false, .dat (.c 13 9) i6, .dat (.c 13 10) i6, .dat (.c 13 11) i6, .dat (.c 13 12) i6, .tr (.c 13 13) 11 137 true, .dat (.c 13 14) i6, .tr (.c 13 15) 12 139 true],[],[]⟩ FUEL (.s .n (.s (.s (.il 2 (.s .n (.s .n (.s (.j ⟨[(12,79)],[.dat (.c 1 0) (.sl 5), .dat (.c 1 1) i6, .dat (.c 1 2) i6, .dat (.c 14 0) i6, .dat (.c 14 1) i6, .tr (.c 14 2) 5 60 true, .tr (.c 14 3) 6 4 true, .tr (.c 14 4) 7 165 true, .dat (.c 14 5) i6, .tr (.c 14 6) 8 186 true, .tr (.c 14 7) 9 69 true, .tr (.c 14 8) 10 83 false, .dat (.c 14 9) i6, .dat (.c 14 10) i6, .dat (.c 14 11) i6, .dat (.c 14 12) i6, .tr (.c 14 13) 11 137 true, .dat (.c 14 14) i6, .tr (.c 14 15) 12 139 true],[],[]⟩ (.s .n (.s (.s .n (.s .n (.s .n (.s (.u (some 8) [1] [] (od 9 [3,4,5,8])) (.s .n (.s (.u (some 13) [1] [] [(0,true),(1,true),(2,true),(5,true),(7,true),(3,false),(4,false),(6,false),(8,false),(9,false),(10,false),(11,true),(12,true),(13,false)]) (.s (.j ⟨[(55,3)],[.dat (.s 55) .bool],[],[]⟩ .n) (.s .n (.s .n (.s .n (.s .n (.s (.u (some 11) [1] [] (od 12 [5,6,7,8,11])) (.s .n (.s .n (.u (some 8) [1] [] (od 9 [3,4,5,8])))))))))))))))) .n))) .n))) .n) .n) .n))) .n))) .n))) (.il 3 (.s .n (.s (.s .n (.s (.s .n (.s .n (.s .n (.s .n (.s .n (.s .n (.s .n (.s (.il 1 (.s .n (.s .n (.s .n (.s (.j ⟨[(4,2),(1,29)],[.dat (.c 1 0) (.sl 5), .dat (.c 1 1) i6, .dat (.c 1 2) i6, .nt (.c 17 0) 139 true],[],[]⟩ (.s .n (.s (.l ⟨[(4,2),(4,26)],[.dat (.s 4) i6, .dat (.s 5) i6, .dat (.c 1 0) (.sl 5), .dat (.c 1 1) i6, .dat (.c 1 2) i6, .nt (.c 17 0) 139 true],[],[]⟩ FUEL (.s .n (.s (.j ⟨[(4,1),(9,22)],[.dat (.s 4) i6, .dat (.c 1 0) (.sl 5), .dat (.c 1 1) i6, .dat (.c 1 2) i6, .tr (.c 17 0) 18 139 true],[],[]⟩ (.s (.s .n (.s (.u (some 11) [1] [] [(0,true),(1,true),(4,true),(6,true),(2,false),(3,true),(5,false),(7,false),(8,false),(9,true),(10,true),(11,false)]) .n)) .n)) .n))) .n))) (.s (.j ⟨[(36,19)],[.dat (.c 1 0) (.sl 5), .dat (.c 1 1) i6, .dat (.c 1 2) i6, .tr (.c 17 0) 18 139 true],[],[]⟩ (.s .n (.s (.s .n (.s (.u (some 13) [1] [6,9] [(0,true),(1,true),(2,true),(5,true),(8,true),(3,false),(4,false),(6,false),(7,false),(9,false),(10,false),(11,false),(12,false),(13,false),(14,false),(15,false)]) .n)) .n))) .n))))) .n) (.s .n (.s .n (.s .n (.s (.il 1 (.s .n (.s .n (.s .n (.s .n (.s .n (.s .n (.s (.j ⟨[(9,4),(20,32)],[.dat (.c 1 0) (.sl 5), .dat (.c 1 1) i6, .dat (.c 1 2) i6, .tr (.c 22 0) 19 165 true, .dat (.c 22 1) i6, .tr (.c 22 2) 20 186 true, .tr (.c 22 3) 21 69 true],[],[]⟩ (.s .n (.s (.l ⟨[(9,4),(23,29)],[.dat (.s 9) i6, .dat (.s 10) i6, .dat (.c 1 0) (.sl 5), .dat (.c 1 1) i6, .dat (.c 1 2) i6, .tr (.c 22 0) 19 165 true, .dat (.c 22 1) i6, .tr (.c 22 2) 20 186 true, .tr (.c 22 3) 21 69 true],[],[]⟩ FUEL .n) .n))) .n))))))) .n) .n)))))))))))) .n)) .n)) .n)) .n)) .n) (.s .n (.s (.u none [0,1] [] (od 8 [3,5,6,7])) .n))))) [.cell 2 41, .tmp 3, .tmp 4] (gc (sIl 17) (gc (sIl 18) (gc iU (gc (sIl 42) (gc (sIl 41) (gc (sIl 99) (gc (sIl 100) (gc aBg (gc (sIl 96) (gc aU3 (gc (sIl 98) (gc (sIl 157) (gc D8 (gc F4 (gc aBc (gc tX (gc Ci (gc qZ (gc Vj (gc aFa (gc qY (gc lW (gc F6 (gc aQc (gc lM (gc aH1 (gc gL (gc Cg (gc nT (gc bU (gc cZ (gc Cc (gc Fw (gc eP (gc kV (gc uW (gc (sIl 203) (gc qW (gc jG (gc nS (gc oU (gc Re (gc dU (gc aE5 (gcp Qy (gc p8 (gc Cf (gcp zK (gc (aSr 3000000) aF))))))))))))))))))))))))))))))))))))))))))))))))) func6 ntmps6 (λ_ _=>id) (λ_=>by kernel_rfl)
def aOc:SU:=⟨[.sl 165],[.sl 165],true,false,λ(a:(List D.aAC))=>gd (a.length<=34359738368) (some (a))⟩
def zP:OK 64 aOc:=mkS .n [.tmp 2] aF func64 ntmps64 (λ(a:(List D.aAC)) _=>aC (aL5 a)) (λ_=>by kernel_rfl)
def aFb:SU:=⟨[.sl 5],[.sl 5],true,false,λ(a:(List Int))=>gd (a.length<=34359738368) (some (a))⟩
def tF:OK 114 aFb:=mkS .n [.tmp 2] aF func114 ntmps114 (λ(a:(List Int)) _=>aC (aDr a)) (λ_=>by kernel_rfl)
def aFc:SU:=⟨[.sl 186],[.sl 186],true,false,λ(a:(List D.Box))=>gd (Q0 D.Box.sz a<=34359738368) (some (a))⟩
def aFd:OK 162 aFc:=mkS (.s .n (.s .n (.s (.j ⟨[(3,1),(1,1),(1,15)],[.tr (.s 3) 0 186 true],[],[]⟩ (.s .n (.s (.l ⟨[(3,1),(1,1),(3,13)],[.tr (.s 3) 0 186 true, .nat (.s 9)],[],[]⟩ FUEL .n) .n))) .n))) [.tmp 2] (gc tF aF) func162 ntmps162 (λ(a:(List D.Box)) _=>aC (aDs a)) (λ_=>by kernel_rfl)
def Mc:SU:=⟨[.st 29],[.st 29],true,false,λ(a:D.aAF)=>gd (a.sz<=34359738368) (some (a))⟩
def Md:OK 101 Mc:=mkS (.s .n (.s (.r (some 6) (od 7 [4,6])) .n)) [.cell 2 29] (gc aFd aF) func101 ntmps101 (λ(a:D.aAF) _=>aC (Km a)) (λ_=>by kernel_rfl)
def aBh:SU:=⟨[.st 69],[.st 69],true,false,λ(a:D.aAA)=>gd (a.sz<=34359738368) (some (a))⟩
def rA:OK 55 aBh:=mkS .n [.cell 2 69] (gc tF aF) func55 ntmps55 (λ(a:D.aAA) _=>aC (W9 a)) (λ_=>by kernel_rfl)
def aFe:SU:=⟨[.st 32],[.st 32],true,false,λ(a:D.aAD)=>gd (a.sz<=34359738368) (some (a))⟩
def Gd:OK 44 aFe:=mkS (.s .n (.s bM7 (.s (.j ⟨[(5,1),(7,15)],[.nt (.c 4 3) 69 true],[],[]⟩ (.s .n (.s (.l ⟨[(5,1),(10,12)],[.nat (.s 16), .nt (.c 4 3) 69 true],[],[]⟩ FUEL bL5) .n))) .n))) [.cell 2 32] (gc zP (gc Md (gc rA aF))) func44 ntmps44 (λ(a:D.aAD) _=>aC (aDt a)) (λ_=>by kernel_rfl)
def aIj:SU:=⟨[.st 137],[.st 137],true,false,λ(a:D.aAG)=>gd (a.sz<=34359738368) (some (a))⟩
def aIk:OK 102 aIj:=mkS .n [.cell 2 137] aF func102 ntmps102 (λ(a:D.aAG) _=>aC (aHf a)) (λ_=>by kernel_rfl)
def aFf:SU:=⟨[.sl 137],[.sl 137],true,false,λ(a:(List D.aAG))=>gd (Q0 D.aAG.sz a<=34359738368) (some (a))⟩
def aFg:OK 45 aFf:=mkS (.s .n (.s .n (.s (.j ⟨[(3,1),(1,1),(1,12)],[.tr (.s 3) 0 137 true],[],[]⟩ (.s .n (.s (.l ⟨[(3,1),(1,1),(3,10)],[.tr (.s 3) 0 137 true, .nat (.s 9)],[],[]⟩ FUEL .n) .n))) .n))) [.tmp 2] (gc aIk aF) func45 ntmps45 (λ(a:(List D.aAG)) _=>aC (aDu a)) (λ_=>by kernel_rfl)
def aIl:SU:=⟨[.st 39],[.st 39],true,false,λ(a:D.aAJ)=>gd (a.sz<=34359738368) (some (a))⟩
def aIm:OK 46 aIl:=mkS .n [.cell 2 39] aF func46 ntmps46 (λ(a:D.aAJ) _=>aC (aHh a)) (λ_=>by kernel_rfl)
def aBi:SU:=⟨[.st 58],[.st 58],true,false,λ(a:D.aAB)=>gd (a.sz<=34359738368) (some (a))⟩
def lX:OK 103 aBi:=mkS .n [.cell 2 58] aF func103 ntmps103 (λ(a:D.aAB) _=>aC (V8 a)) (λ_=>by kernel_rfl)
def aBj:SU:=⟨[.st 60],[.st 60],true,false,λ(a:D.Device)=>gd (a.sz<=34359738368) (some (a))⟩
def lY:OK 47 aBj:=mkS .n [.cell 2 60] (gc zP (gc lX aF)) func47 ntmps47 (λ(a:D.Device) _=>aC (V9 a)) (λ_=>by kernel_rfl)
def aIn:SU:=⟨[.st 80],[.st 80],true,false,λ(a:D.aAE)=>gd (a.sz<=34359738368) (some (a))⟩
def aIo:OK 104 aIn:=mkS bM5 [.cell 2 80] aF func104 ntmps104 (λ(a:D.aAE) _=>aC (aHd a)) (λ_=>by kernel_rfl)
def aQd:SU:=⟨[.sl 3, .sl 81],[.sl 3],true,false,λ(a:(List Int)×(List (List Int)))=>gd (xK a.1 a.2) (some (qB a.1 a.2))⟩
def lH:OK 105 aQd:=mkS (.s .n (.s .n (.s (.j ⟨[(5,1),(1,1),(3,10)],[.tr (.s 5) 0 3 true],[],[]⟩ (.s .n (.s (.l ⟨[(5,1),(1,1),(5,8)],[.tr (.s 5) 0 3 true, .nat (.s 13)],[],[]⟩ FUEL .n) .n))) .n))) [.tmp 4] aF func105 ntmps105 (λa _=>aC (aPd a.1 a.2)) (λ_=>by kernel_rfl)
def F9:SU:=⟨[.st 127],[.st 127],true,false,λ(a:D.aAH)=>gd (a.sz<=34359738368) (some (a))⟩
def G5:OK 106 F9:=mkS bM5 [.cell 2 127] aF func106 ntmps106 (λ(a:D.aAH) _=>aC (Ym a)) (λ_=>by kernel_rfl)
def aIp:SU:=⟨[.st 83],[.st 83],true,false,λ(a:D.Site)=>gd (a.sz<=34359738368) (some (a))⟩
def aIq:OK 48 aIp:=mkS (.s .n (.s (.y false (some 9) (some 10) [(0,true),(1,true),(2,true),(3,true),(5,true),(6,true),(4,false),(7,false),(8,true),(9,false),(10,false)]) (.s (.j ⟨[(5,1),(9,15)],[.nt (.c 4 1) 127 true],[],[]⟩ (.s .n (.s (.l ⟨[(5,1),(12,12)],[.nat (.s 18), .nt (.c 4 1) 127 true],[],[]⟩ FUEL bL5) .n))) .n))) [.cell 2 83] (gc aIo (gc lH (gc G5 aF))) func48 ntmps48 (λ(a:D.Site) _=>aC (aHe a)) (λ_=>by kernel_rfl)
def aFh:SU:=⟨[.st 41],[.st 41],true,false,λ(a:D.World)=>gd (a.sz<=34359738368) (some (a))⟩
def nL:OK 20 aFh:=mkS (.s .n (.s (.y true (some 22) (some 23) [(0,true),(1,true),(2,true),(3,true),(5,true),(6,true),(8,true),(9,true),(11,true),(12,true),(13,true),(14,true),(16,true),(17,true),(18,true),(19,true),(4,false),(7,false),(10,false),(15,false),(20,false),(21,false),(22,false),(23,false)]) (.s (.j ⟨[(5,1),(24,15)],[.nt (.c 8 2) 60 true],[],[]⟩ (.s .n (.s (.l ⟨[(5,1),(27,12)],[.nat (.s 33), .nt (.c 8 2) 60 true],[],[]⟩ FUEL bL5) .n))) (.s (.j ⟨[(7,1),(37,15)],[.nt (.c 8 8) 83 true],[],[]⟩ (.s .n (.s (.l ⟨[(7,1),(40,12)],[.nat (.s 48), .nt (.c 8 8) 83 true],[],[]⟩ FUEL bL5) .n))) .n)))) [.cell 2 41] (gc Gd (gc aFg (gc aIm (gc lY (gc aIq aF))))) func20 ntmps20 (λ(a:D.World) _=>aC (aDv a)) (λ_=>by kernel_rfl)
def aOd:SU:=⟨[i6,i6,i6],[.bool],false,false,λ(a:Int×Int×Int)=>some (bF a.1 a.2.1 a.2.2)⟩
def gN:OK 49 aOd:=mkS bNd [.tmp 6] aF func49 ntmps49 (λa _=>(aL0 a.1 a.2.1 a.2.2).trans) (λ_=>by kernel_rfl)
def aQe:SU:=⟨[.str],[.bool],false,false,λ(a:ByteArray)=>some (fI a)⟩
def Xi:OK 163 aQe:=mkS (.s .n (.s .n (.s (.jx ⟨[(2,1),(1,3),(3,57)],[],[],[]⟩ (.s .n (.s (.l ⟨[(2,1),(1,3),(6,54)],[.nat (.s 13)],[],[]⟩ FUEL (.s .n (.s .n (.s (.jx ⟨[(2,1),(1,3),(8,51)],[],[],[]⟩ (.s (.s .n (.s (.s (.rj 4 ⟨[(20,18)],[.dat (.s 37) .bool],[],[]⟩ .n) .n) (.s .n (.s (.l ⟨[(2,1),(2,2),(31,28)],[.nat (.s 5)],[],[]⟩ FUEL (.s .n (.s (.s (.s .n (.s (.rj 3 ⟨[(49,17)],[.dat (.s 65) .bool],[],[]⟩ .n) .n)) .n) .n))) .n)))) .n)) .n)))) .n))) .n))) [.tmp 2] (gc Je aF) func163 ntmps163 (λa _=>(aPj a).trans) (λ_=>by kernel_rfl)
def G6:SU:=⟨[.str],[.str],false,false,λ(a:ByteArray)=>some (bD4 a)⟩
def G7:OK 164 G6:=mkS .n [.tmp 2] (gc Xi (gc Je (gc aLt aF))) func164 ntmps164 (λa _=>(Yt a).trans) (λ_=>by kernel_rfl)
def aQf:SU:=⟨[.str],[.bool],false,false,λ(a:ByteArray)=>gd (a.size<=9223372036854775807) (some (Sm a))⟩
def aQg:OK 165 aQf:=mkS (.s .n (.s (.jx ⟨[(2,12)],[],[],[]⟩ (.s .n (.s (.l ⟨[(2,12)],[.nat (.s 3)],[],[]⟩ FUEL .n) .n))) .n)) [.tmp 2] aF func165 ntmps165 (λ(a:ByteArray) _=>aC (aPk a)) (λ_=>by kernel_rfl)
def aBk:SU:=⟨[i6],[.bool],false,false,λ(a:Int)=>some (bG a)⟩
def dW:OK 54 aBk:=mkS .n [.tmp 2] (gc gN aF) func54 ntmps54 (λa _=>(V7 a).trans) (λ_=>by kernel_rfl)
def G8:SU:=⟨[.str,i6],[.bool],false,false,λ(a:ByteArray×Int)=>gd (a.1.size<=9223372036854775807) (some (jO a.1 a.2))⟩
def G9:OK 107 G8:=mkS (.s .n (.s (.rj 3 ⟨[(4,1),(2,13)],[.dat (.s 4) .bool],[],[]⟩ .n) .n)) [.tmp 4] (gc Xi (gc G7 (gc aQg (gc dW aF)))) func107 ntmps107 (λa _=>aC (Yu a.1 a.2)) (λ_=>by kernel_rfl)
def H5:SU:=⟨[.st 80],[.bool],false,false,λ(a:D.aAE)=>gd (a.sz<=34359738368) (some (eD a))⟩
def H6:OK 108 H5:=mkS (.s .n (.s (.s (.rj 5 ⟨[(9,6)],[.dat (.s 14) .bool],[],[]⟩ .n) .n) (.s (.jx ⟨[(2,3),(10,44)],[],[],[]⟩ (.s .n (.s (.l ⟨[(2,3),(13,41)],[.nat (.s 18)],[],[]⟩ FUEL (.s .n (.s .n (.s (.s (.s .n (.s (.rj 8 ⟨[(30,28)],[.dat (.s 57) .bool],[],[]⟩ (.r none (od 35 [5,26,32]))) .n)) .n) .n)))) .n))) .n))) [.tmp 2] (gc gN aF) func108 ntmps108 (λ(a:D.aAE) _=>aC (Yr a)) (λ_=>by kernel_rfl)
def aU4:SU:=⟨[i6,i6,i6],[i6],false,false,λ(a:Int×Int×Int)=>wN a.1 a.2.1 a.2.2⟩
def aU5:OK 220 aU4:=mkS (.s .n (.s .n (.s .n (.s (.j ⟨[(0,2),(5,1),(5,17)],[.dat (.s 7) i6],[],[]⟩ (.s (.l ⟨[(0,2),(5,1),(5,17)],[.dat (.s 0) i6, .dat (.s 1) i6, .dat (.s 7) i6],[],[]⟩ FUEL (.s .n (.s (.s (.j ⟨[(7,1),(7,8)],[.dat (.s 7) i6],[],[]⟩ .n) .n) .n))) .n)) .n)))) [.tmp 6] aF func220 ntmps220 (λ_ _=>id) (λ_=>by kernel_rfl)
def aBl:SU:=⟨[i6],[i6],false,false,λ(a:Int)=>some (eU a)⟩
def Ck:OK 166 aBl:=mkS .n [.tmp 2] (gc dW (gc aU5 aF)) func166 ntmps166 (λa _=>(X4 a).trans) (λ_=>by kernel_rfl)
def Me:SU:=⟨[.st 127],[.bool],false,false,λ(a:D.aAH)=>gd (a.sz<=34359738368) (some (aZ a))⟩
def Mf:OK 109 Me:=mkS (.s .n (.s (.s (.rj 5 ⟨[(11,12)],[.dat (.s 22) .bool],[],[]⟩ .n) .n) (.s (.jx ⟨[(2,3),(1,1),(16,56)],[],[],[]⟩ (.s .n (.s (.l ⟨[(2,3),(1,1),(19,53)],[.nat (.s 26)],[],[]⟩ FUEL (.s .n (.s .n (.s (.jx ⟨[(2,3),(1,1),(21,50)],[],[],[]⟩ (.s (.s .n (.s (.s (.rj 5 ⟨[(35,28)],[.dat (.s 62) .bool],[],[]⟩ (.r none (od 32 [2,23,29]))) .n) (.s .n (.s (.l ⟨[(2,1),(3,1),(61,10)],[.nat (.s 68)],[],[]⟩ FUEL .n) .n)))) .n)) .n)))) .n))) .n))) [.tmp 2] (gc gN (gc Ck aF)) func109 ntmps109 (λ(a:D.aAH) _=>aC (Kr a)) (λ_=>by kernel_rfl)
def H7:SU:=⟨[.st 83],[.bool],false,false,λ(a:D.Site)=>gd (a.sz<=34359738368) (some (dD a))⟩
def H8:OK 50 H7:=mkS (.s .n (.s (.s (.rj 8 ⟨[(12,12)],[.dat (.s 23) .bool],[],[]⟩ .n) .n) (.s (.jx ⟨[(2,3),(19,28)],[],[],[]⟩ (.s .n (.s (.l ⟨[(2,3),(22,25)],[.nat (.s 27)],[],[]⟩ FUEL (.s .n (.s .n (.s (.s (.s .n (.s (.rj 4 ⟨[(35,16)],[.dat (.s 50) .bool],[],[]⟩ (.r none (od 19 [1]))) .n)) .n) .n)))) .n))) .n))) [.tmp 2] (gc G9 (gc H6 (gc Mf aF))) func50 ntmps50 (λ(a:D.Site) _=>aC (Yw a)) (λ_=>by kernel_rfl)
def aIr:SU:=⟨[i6],[.str],false,false,λ(a:Int)=>some (aA a)⟩
def aIs:OK 51 aIr:=mkS .n [.tmp 2] aF func51 ntmps51 (λa _=>(aHj a).trans) (λ_=>by kernel_rfl)
def Mg:SU:=⟨[.st 39],[.bool],false,false,λ(a:D.aAJ)=>gd (a.sz<=34359738368) (some (dZ a))⟩
def Mh:OK 52 Mg:=mkS (.s .n (.s .n (.s (.jx ⟨[(2,3),(4,41)],[],[],[]⟩ (.s .n (.s (.l ⟨[(2,3),(7,38)],[.nat (.s 12)],[],[]⟩ FUEL (.s .n bM8)) .n))) .n))) [.tmp 2] (gc gN aF) func52 ntmps52 (λ(a:D.aAJ) _=>aC (Ko a)) (λ_=>by kernel_rfl)
def bAy:SU:=⟨[.sl 3,i6],[.bool],false,false,λ(a:(List Int)×Int)=>gd (a.1.length<=1099511627776) (some (gX a.1 a.2))⟩
def H9:OK 57 bAy:=mkS (.s .n (.s (.jx ⟨[(4,1),(1,11)],[],[],[]⟩ (.s .n (.s (.l ⟨[(4,1),(1,1),(2,8)],[.nat (.s 9)],[],[]⟩ FUEL .n) .n))) .n)) [.tmp 4] aF func57 ntmps57 (λa _=>aC (bAa a.1 a.2)) (λ_=>by kernel_rfl)
def aFi:SU:=⟨[.sl 165],[.sl 3],true,false,λ(a:(List D.aAC))=>gd (a.length<=34359738368) (some (aH a))⟩
def Gf:OK 58 aFi:=mkS (.s .n (.s .n (.s (.j ⟨[(3,1),(1,2),(1,1),(1,40)],[.tr (.s 3) 0 3 true],[],[]⟩ (.s .n (.s (.l ⟨[(3,1),(1,2),(1,1),(3,38)],[.tr (.s 3) 0 3 true, .nat (.s 12)],[],[]⟩ FUEL (.s .n (.s .n (.s (.j ⟨[(3,1),(1,2),(1,1),(5,35)],[.tr (.s 3) 0 3 true],[],[]⟩ (.s (.s .n (.s .n (.s (.s .n (.s .n (.s .n (.s (.s .n (.s (.j ⟨[(6,1),(1,1),(24,15)],[.tr (.s 6) 2 3 true],[],[]⟩ (.s .n (.s (.l ⟨[(6,1),(1,1),(26,13)],[.tr (.s 6) 2 3 true, .nat (.s 35)],[],[]⟩ FUEL (.s .n (.s .n (.s (.j ⟨[(6,1),(1,1),(28,10)],[.tr (.s 6) 2 3 true],[],[]⟩ .n) .n)))) .n))) .n)) .n)))) .n))) .n)) .n)))) .n))) .n))) [.tmp 2] (gc H9 aF) func58 ntmps58 (λ(a:(List D.aAC)) _=>aC (aDo a)) (λ_=>by kernel_rfl)
def bAz:SU:=⟨[i6,i6],[i6],false,false,λ(a:Int×Int)=>some (gP a.1 a.2)⟩
def aOe:OK 174 bAz:=mkS (.s .n (.s (.s (.rj 3 ⟨[(8,4)],[.dat (.s 11) .bool],[],[]⟩ .n) .n) (.s .n (.s (.j ⟨[(5,1),(9,5)],[.dat (.s 5) i6],[],[]⟩ .n) .n)))) [.tmp 4] aF func174 ntmps174 (λa _=>(aZ8 a.1 a.2).trans) (λ_=>by kernel_rfl)
def aYc:SU:=⟨[.sl 3],[i6],false,false,λ(a:(List Int))=>gd (a.length<=1099511627776) (some (vC a))⟩
def aGr:OK 168 aYc:=mkS (.s .n (.s .n (.s (.j ⟨[(3,1),(1,15)],[.dat (.s 3) i6],[],[]⟩ (.s .n (.s (.l ⟨[(3,1),(1,1),(2,12)],[.dat (.s 3) i6, .nat (.s 8)],[],[]⟩ FUEL .n) .n))) .n))) [.tmp 2] (gc aOe aF) func168 ntmps168 (λ(a:(List Int)) _=>aC (aXu a)) (λ_=>by kernel_rfl)
def aFj:SU:=⟨[.st 165],[i6],false,false,λ(a:D.aAC)=>some (cB a)⟩
def Gg:OK 113 aFj:=mkS .n [.tmp 2] (gc aGr aF) func113 ntmps113 (λa _=>(aDx a).trans) (λ_=>by kernel_rfl)
def aOf:SU:=⟨[.sl 165],[i6],false,false,λ(a:(List D.aAC))=>gd (a.length<=34359738368) (some (fV a))⟩
def aOg:OK 110 aOf:=mkS .n [.tmp 2] (gc Gg aF) func110 ntmps110 (λ(a:(List D.aAC)) _=>aC (aMi a)) (λ_=>by kernel_rfl)
def aBm:SU:=⟨[.sl 165,i6],[.bool],false,false,λ(a:(List D.aAC)×Int)=>gd (a.1.length<=34359738368) (some (iN a.1 a.2))⟩
def aBn:OK 111 aBm:=mkS (.s .n (.s (.jx ⟨[(4,1),(1,17)],[],[],[]⟩ (.s .n (.s (.l ⟨[(4,1),(1,1),(2,14)],[.nat (.s 9)],[],[]⟩ FUEL (.s .n (.s .n (.s (.s (.s .n (.s (.rj 4 ⟨[(16,6)],[.dat (.s 21) .bool],[],[]⟩ .n) .n)) .n) .n)))) .n))) .n)) [.tmp 4] aF func111 ntmps111 (λa _=>aC (X5 a.1 a.2)) (λ_=>by kernel_rfl)
def aFk:SU:=⟨[i6, .sl 3],[i6],false,false,λ(a:Int×(List Int))=>gd (a.2.length<=34359738368) (some (bJ a.1 a.2))⟩
def gH:OK 170 aFk:=mkS .n [.tmp 4] (gc lH (gc aGr aF)) func170 ntmps170 (λa _=>aC (aDh a.1 a.2)) (λ_=>by kernel_rfl)
def I1:SU:=⟨[i6, .sl 3],[i6],false,false,λ(a:Int×(List Int))=>gd (a.2.length<=34359738300) (some (Ab a.1 a.2))⟩
def I4:OK 167 I1:=mkS .n [.tmp 4] (gc dW (gc lH (gc gH aF))) func167 ntmps167 (λa _=>aC (Yp a.1 a.2)) (λ_=>by kernel_rfl)
def Io:SU:=⟨[i6, .sl 3,i6],[.bool],false,false,λ(a:Int×(List Int)×Int)=>gd (a.2.1.length<=34359738300) (some (gI a.1 a.2.1 a.2.2))⟩
def Ip:OK 112 Io:=mkS bNa [.tmp 6] (gc Ck (gc I4 aF)) func112 ntmps112 (λa _=>aC (Ig a.1 a.2.1 a.2.2)) (λ_=>by kernel_rfl)
def aFl:SU:=⟨[.sl 165],[.bool],false,false,λ(a:(List D.aAC))=>gd (a.length<=34359738368) (some (bB a))⟩
def Gh:OK 53 aFl:=mkS (.s .n (.s (.s (.rj 4 ⟨[(10,5)],[.dat (.s 14) .bool],[],[]⟩ .n) .n) (.s (.jx ⟨[(2,5),(8,83)],[],[],[]⟩ (.s .n (.s (.l ⟨[(2,5),(10,81)],[.nat (.s 17)],[],[]⟩ FUEL (.s .n (.s .n (.s (.jx ⟨[(2,5),(12,78)],[],[],[]⟩ (.s (.s .n (.s .n (.s .n (.s (.s (.rj 5 ⟨[(31,26)],[.dat (.s 56) .bool],[],[]⟩ (.r none (od 30 [8,15]))) .n) (.s (.jx ⟨[(2,1),(54,31)],[],[],[]⟩ (.s .n (.s (.s .n (.s (.s (.rj 5 ⟨[(65,11)],[.dat (.s 75) .bool],[],[]⟩ .n) .n) (.s .n (.s (.s (.rj 6 ⟨[(83,5)],[.dat (.s 87) .bool],[],[]⟩ .n) .n) .n)))) .n))) (.s (.r none [(0,true),(1,true),(2,true),(5,true),(6,true),(3,false),(4,false),(7,false),(8,true)]) .n)))))) .n)) .n)))) .n))) .n))) [.tmp 2] (gc Gf (gc aOg (gc H9 (gc aBn (gc Gg (gc Ip aF)))))) func53 ntmps53 (λ(a:(List D.aAC)) _=>aC (aDz a)) (λ_=>by kernel_rfl)
def Vk:SU:=⟨[.st 41],[.bool],false,false,λ(a:D.World)=>gd (a.sz<=34359738368) (some (aR a))⟩
def nU:OK 21 Vk:=mkS (.s .n (.s (.s (.rj 5 ⟨[(9,22)],[.dat (.s 30) .bool],[],[]⟩ .n) .n) (.s (.jx ⟨[(2,3),(26,19)],[],[],[]⟩ (.s .n (.s (.l ⟨[(2,3),(29,16)],[.nat (.s 34)],[],[]⟩ FUEL (.s .n (.s .n (.s (.s (.s .n (.s (.rj 4 ⟨[(42,7)],[.dat (.s 48) .bool],[],[]⟩ (.r none (od 10 [1,7]))) .n)) .n) .n)))) .n))) (.s (.rj 4 ⟨[(2,1),(50,11)],[.dat (.s 2) .bool],[],[]⟩ .n) .n)))) [.tmp 2] (gc gN (gc H8 (gc aIs (gc Mh (gc Gh (gc dW aF)))))) func21 ntmps21 (λ(a:D.World) _=>aC (Tw a)) (λ_=>by kernel_rfl)
def aFm:SU:=⟨[.st 41,i6],[.bool],false,false,λ(a:D.World×Int)=>some (aM a.1 a.2)⟩
def tH:OK 22 aFm:=mkS (.s .n (.s (.rj 3 ⟨[(4,1),(2,7)],[.dat (.s 4) .bool],[],[]⟩ .n) .n)) [.tmp 4] aF func22 ntmps22 (λa _=>(aDp a.1 a.2).trans) (λ_=>by kernel_rfl)
def I5:SU:=⟨[.st 32,i6],[.st 69, .bool],true,false,λ(a:D.aAD×Int)=>gd (a.1.sz<=34359738368) (some (dI a.1 a.2))⟩
def I6:OK 23 I5:=mkS (.s .n (.s (.s (.rj 3 ⟨[(8,7)],[.dat (.s 14) .bool],[],[]⟩ .n) .n) .n)) [.cell 4 69, .tmp 5] (gc rA aF) func23 ntmps23 (λa _=>aC (Zc a.1 a.2)) (λ_=>by kernel_rfl)
def aBo:SU:=⟨[.sl 165, .sl 165],[.bool],false,false,λ(a:(List D.aAC)×(List D.aAC))=>gd (a.1.length<=34359738368) (some (cO a.1 a.2))⟩
def aBp:OK 56 aBo:=mkS (.s .n (.s .n (.s (.jx ⟨[(4,2),(5,15)],[],[],[]⟩ (.s .n (.s (.l ⟨[(4,2),(7,13)],[.nat (.s 13)],[],[]⟩ FUEL (.s .n (.s .n (.s (.s (.s .n (.s (.r none (od 9 [])) .n)) .n) .n)))) .n))) .n))) [.tmp 4] aF func56 ntmps56 (λa _=>aC (Y1 a.1 a.2)) (λ_=>by kernel_rfl)
def aU6:SU:=⟨[i6],[i6],false,false,λ(a:Int)=>some (iE a)⟩
def aBq:OK 169 aU6:=mkS .n [.tmp 2] aF func169 ntmps169 (λa _=>(aUl a).trans) (λ_=>by kernel_rfl)
def aFn:SU:=⟨[i6, .sl 3],[i6],false,false,λ(a:Int×(List Int))=>gd (a.2.length<=34359738300) (some (aU a.1 a.2))⟩
def kI:OK 116 aFn:=mkS .n [.tmp 4] (gc lH (gc gH (gc aBq aF))) func116 ntmps116 (λa _=>aC (aDj a.1 a.2)) (λ_=>by kernel_rfl)
def aFo:SU:=⟨[i6],[i6],false,false,λ(a:Int)=>some (cK a)⟩
def Gi:OK 115 aFo:=mkS .n [.tmp 2] (gc dW aF) func115 ntmps115 (λa _=>(aDl a).trans) (λ_=>by kernel_rfl)
def Vl:SU:=⟨[.st 55],[i6],false,false,λ(a:D.aAI)=>some (bA a)⟩
def Vm:OK 59 Vl:=mkS .n [.tmp 2] (gc kI (gc Gi aF)) func59 ntmps59 (λa _=>(Tq a).trans) (λ_=>by kernel_rfl)
def aOh:SU:=⟨[.sl 165],[i6],false,false,λ(a:(List D.aAC))=>gd (a.length<=34359738368) (some (aL a))⟩
def Ru:OK 60 aOh:=mkS (.s .n (.s .n (.s (.j ⟨[(3,1),(1,13)],[.dat (.s 3) i6],[],[]⟩ (.s .n (.s (.l ⟨[(3,1),(1,1),(2,10)],[.dat (.s 3) i6, .nat (.s 8)],[],[]⟩ FUEL (.s .n (.s .n (.s (.j ⟨[(3,1),(1,1),(4,7)],[.dat (.s 3) i6],[],[]⟩ .n) .n)))) .n))) .n))) [.tmp 2] aF func60 ntmps60 (λ(a:(List D.aAC)) _=>aC (aMp a)) (λ_=>by kernel_rfl)
def aQh:SU:=⟨[i6,i6],[i6],false,false,λ(a:Int×Int)=>some (fH a.1 a.2)⟩
def aQi:OK 221 aQh:=mkS .n [.tmp 4] (gc kI aF) func221 ntmps221 (λa _=>(aPm a.1 a.2).trans) (λ_=>by kernel_rfl)
def I7:SU:=⟨[.sl 5],[.sl 3],true,false,λ(a:(List Int))=>gd (a.length<=34359738360) (some (uU a))⟩
def oV:OK 173 I7:=mkS (.s .n (.s .n (.s (.j ⟨[(3,1),(1,1),(3,12)],[.tr (.s 3) 0 3 true],[],[]⟩ (.s .n (.s (.l ⟨[(3,1),(1,1),(5,10)],[.tr (.s 3) 0 3 true, .nat (.s 11)],[],[]⟩ FUEL .n) .n))) .n))) [.tmp 2] aF func173 ntmps173 (λ(a:(List Int)) _=>aC (Yy a)) (λ_=>by kernel_rfl)
def aQj:SU:=⟨[i6, .st 186],[i6],false,false,λ(a:Int×D.Box)=>gd (a.2.Data.length<=34359738200) (some (Np a.1 a.2))⟩
def aQk:OK 222 aQj:=mkS bMw [.tmp 4] (gc oV (gc lH (gc gH aF))) func222 ntmps222 (λa _=>aC (aPp a.1 a.2)) (λ_=>by kernel_rfl)
def aOi:SU:=⟨[i6, .sl 5],[.sl 5],true,false,λ(a:Int×(List Int))=>gd (a.2.length<=34359738368) (some (Kl a.1 a.2))⟩
def Rv:OK 121 aOi:=mkS bM0 [.tmp 4] (gc gH (gc aOe aF)) func121 ntmps121 (λa _=>aC (aMr a.1 a.2)) (λ_=>by kernel_rfl)
def aOj:SU:=⟨[i6, .st 186],[.sl 5, .bool],true,false,λ(a:Int×D.Box)=>some (eF a.1 a.2)⟩
def aOk:OK 171 aOj:=mkS bM6 [.tmp 4, .tmp 5] (gc dW (gc Gi (gc aQi (gc aQk (gc Rv aF))))) func171 ntmps171 (λa _=>(aMu a.1 a.2).trans) (λ_=>by kernel_rfl)
def aOl:SU:=⟨[.sl 186,i6],[.sl 5, .bool],true,false,λ(a:(List D.Box)×Int)=>gd (a.1.length<=34359738368) (some (fC a.1 a.2))⟩
def aOm:OK 117 aOl:=mkS (.s .n (.s (.jx ⟨[(4,2),(1,18)],[],[],[]⟩ (.s .n (.s (.l ⟨[(4,2),(1,3),(2,13)],[.nat (.s 12)],[],[]⟩ FUEL .n) .n))) .n)) [.tmp 4, .tmp 5] (gc aOk aF) func117 ntmps117 (λa _=>aC (aMv a.1 a.2)) (λ_=>by kernel_rfl)
def I8:SU:=⟨[.sl 5,i6],[i6,i6, .bool],false,false,λ(a:(List Int)×Int)=>gd (aQ a.1) (some (wK a.1 a.2))⟩
def zQ:OK 172 I8:=mkS (.s .n (.s (.s (.rj 3 ⟨[(13,6)],[.dat (.s 18) .bool],[],[]⟩ .n) .n) (.s .n (.s .n (.s (.jx ⟨[(4,7),(8,42)],[],[],[]⟩ (.s .n (.s (.l ⟨[(4,7),(8,42)],[.dat (.s 7) i6, .dat (.s 8) i6, .nat (.s 9)],[],[]⟩ FUEL (.s .n (.s (.s (.s .n (.s .n (.s .n (.s .n (.s .n (.s (.s (.s (.rj 3 ⟨[(48,8)],[.dat (.s 55) .bool],[],[]⟩ .n) .n) .n) .n)))))) .n) .n))) .n))) .n))))) [.tmp 4, .tmp 5, .tmp 6] aF func172 ntmps172 (λa _=>aC (Zd a.1 a.2)) (λ_=>by kernel_rfl)
def aBr:SU:=⟨[.sl 5,i6,i6],[.sl 3,i6, .bool],true,false,λ(a:(List Int)×Int×Int)=>gd (aQ a.1) (some (gT a.1 a.2.1 a.2.2))⟩
def Cm:OK 118 aBr:=mkS (.s .n (.s (.s (.rj 3 ⟨[(16,14)],[.dat (.s 29) .bool],[],[]⟩ .n) .n) (.s .n (.s (.jx ⟨[(1,1),(4,8),(17,19)],[.dat (.s 1) i6, .tr (.s 9) 0 3 true],[],[]⟩ (.s .n (.s (.l ⟨[(1,1),(4,8),(17,19)],[.dat (.s 1) i6, .tr (.s 9) 0 3 true, .nat (.s 10)],[],[]⟩ FUEL .n) .n))) .n)))) [.tmp 6, .tmp 7, .tmp 8] (gc zQ aF) func118 ntmps118 (λa _=>aC (Y2 a.1 a.2.1 a.2.2)) (λ_=>by kernel_rfl)
def Mi:SU:=⟨[.st 55, .st 29],[i6, .bool],false,false,λ(a:D.aAI×D.aAF)=>gd (a.2.sz<=34359738368) (some (bD a.1 a.2))⟩
def Mj:OK 61 Mi:=mkS (.s .n (.s (.r none (od 12 [4,5,6])) (.s .n (.s .n (.s (.s (.rj 3 ⟨[(31,21)],[.dat (.s 51) .bool],[],[]⟩ (.r none (od 23 [20]))) .n) .n))))) [.tmp 4, .tmp 5] (gc kI (gc aOm (gc Cm (gc dW aF)))) func61 ntmps61 (λa _=>aC (Ku a.1 a.2)) (λ_=>by kernel_rfl)
def aFp:SU:=⟨[i6, .st 69],[i6],false,false,λ(a:Int×D.aAA)=>gd (a.2.Data.length<=34359738200) (some (fZ a.1 a.2))⟩
def Gj:OK 119 aFp:=mkS bMw [.tmp 4] (gc oV (gc lH (gc gH aF))) func119 ntmps119 (λa _=>aC (aD3 a.1 a.2)) (λ_=>by kernel_rfl)
def I9:SU:=⟨[.st 149, .st 149],[.bool],false,false,λ(a:D.Entry×D.Entry)=>some (dF a.1 a.2)⟩
def oW:OK 123 I9:=mkS bJo [.tmp 4] aF func123 ntmps123 (λa _=>(Yl a.1 a.2).trans) (λ_=>by kernel_rfl)
def aIt:SU:=⟨[.st 58],[.bool],false,false,λ(a:D.aAB)=>gd (a.sz<=34359738368) (some (aK a))⟩
def jI:OK 122 aIt:=mkS (.s .n (.s .n (.s (.jx ⟨[(2,3),(4,40)],[],[],[]⟩ (.s .n (.s (.l ⟨[(2,3),(7,37)],[.nat (.s 12)],[],[]⟩ FUEL (.s .n (.s .n (.s (.s (.s .n (.s (.rj 5 ⟨[(21,27)],[.dat (.s 47) .bool],[],[]⟩ (.r none (od 31 [2,7,13,27]))) .n)) .n) .n)))) .n))) .n))) [.tmp 2] (gc gN (gc oW aF)) func122 ntmps122 (λ(a:D.aAB) _=>aC (aHc a)) (λ_=>by kernel_rfl)
def Vn:SU:=⟨[.sl 5],[.st 58, .bool],true,false,λ(a:(List Int))=>gd (aQ a) (some (xN a))⟩
def Vo:OK 120 Vn:=mkS (.s .n (.s .n (.s (.s (.rj 3 ⟨[(20,4)],[.dat (.s 23) .bool],[],[]⟩ .n) .n) (.s .n (.s (.s (.rj 3 ⟨[(36,6)],[.dat (.s 41) .bool],[],[]⟩ .n) .n) (.s .n (.s (.jx ⟨[(3,1),(6,2),(32,33)],[.nt (.c 1 0) 149 true],[],[]⟩ (.s .n (.s (.l ⟨[(3,1),(6,2),(32,33)],[.nat (.s 10), .nt (.c 1 0) 149 true],[],[]⟩ FUEL (.s .n (.s (.s (.s .n (.s .n (.r (some 17) (od 20 [16,17,18,19])))) .n) .n))) .n))) .n))))))) [.cell 2 58, .tmp 3] (gc zQ (gcp Cm (gc jI aF))) func120 ntmps120 (λ(a:(List Int)) _=>aC (Ua a)) (λ_=>by kernel_rfl)
def aBs:SU:=⟨[i6, .st 69],[.st 58, .bool],true,false,λ(a:Int×D.aAA)=>gd (a.2.Data.length<=34359738200) (some (eZ a.1 a.2))⟩
def aBt:OK 62 aBs:=mkS (.s .n (.s (.s (.rj 4 ⟨[(11,20)],[.dat (.s 30) .bool],[],[]⟩ (.r none (od 23 [1,6,12,20]))) .n) (.s (.y false (some 14) (some 15) [(0,true),(1,true),(2,true),(3,true),(4,true),(7,true),(8,true),(5,false),(6,false),(9,false),(10,false),(11,true),(12,true),(13,true),(14,false),(15,false),(16,true)]) .n))) [.cell 4 58, .tmp 5] (gc dW (gc gN (gc Gj (gc kI (gc Rv (gc Vo aF)))))) func62 ntmps62 (λa _=>aC (Y6 a.1 a.2)) (λ_=>by kernel_rfl)
def Vp:SU:=⟨[.st 58, .st 58],[.st 58, .bool],true,false,λ(a:D.aAB×D.aAB)=>gd (a.1.sz<=34359738368/\a.2.sz<=34359738368) (some (dX a.1 a.2))⟩
def Vq:OK 63 Vp:=mkS (.s .n (.s (.s (.rj 4 ⟨[(14,5)],[.dat (.s 18) .bool],[],[]⟩ .n) .n) (.s .n (.s .n (.s .n (.s (.j ⟨[(7,4),(11,118)],[.nt (.c 3 0) 149 true],[],[]⟩ (.s (.l ⟨[(7,4),(11,118)],[.dat (.s 7) i6, .dat (.s 8) i6, .nt (.c 3 0) 149 true],[],[]⟩ FUEL (.s (.s (.rj 6 ⟨[(27,7)],[.dat (.s 33) .bool],[],[]⟩ .n) .n) (.s (.s (.s (.rj 6 ⟨[(71,1),(5,20)],[.dat (.s 71) .bool],[],[]⟩ (.r none (od 26 [22]))) (.s (.s (.r (some 8) (od 11 [7,8,9,10])) .n) (.s (.rj 6 ⟨[(109,1),(5,13)],[.dat (.s 109) .bool],[],[]⟩ (.r none (od 19 [16]))) (.s (.s (.r (some 8) (od 11 [7,8,9,10])) .n) (.s .n (.s .n (.s (.j ⟨[(44,17)],[.dat (.c 5 0) i6, .dat (.c 5 1) i6, .dat (.c 5 2) i6, .dat (.c 5 3) .bool],[],[]⟩ (.s (.rj 6 ⟨[(49,11)],[.dat (.s 59) .bool],[],[]⟩ .n) .n)) .n))))))) .n) .n))) .n)) .n)))))) [.cell 4 58, .tmp 5] (gc jI (gc lX (gc oW aF))) func63 ntmps63 (λa _=>aC (Tu a.1 a.2)) (λ_=>by kernel_rfl)
def aBu:SU:=⟨[.st 60, .sl 165, .st 29, .st 69],[.st 60,i6],true,false,λ(a:D.Device×(List D.aAC)×D.aAF×D.aAA)=>gd (a.1.sz<=34359738368/\a.2.1.length<=34359738368/\a.2.2.1.sz<=34359738368/\a.2.2.2.Data.length<=34359738200) (some (bS a.1 a.2.1 a.2.2.1 a.2.2.2))⟩
def aBv:OK 24 aBu:=mkS (.s .n (.s .n (.s (.s (.rj 4 ⟨[(23,7)],[.dat (.s 29) .bool],[],[]⟩ .n) .n) (.s bM9 (.s .n (.s .n (.s bNg (.s bNf (.s .n (.s .n (.s .n (.s .n bM1)))))))))))) [.cell 8 60, .tmp 9] (gc lY (gc Gh (gc aBp (gc Gf (gc Vm (gc H9 (gc Ru (gc Mj (gc aBt (gc Vq (gc zP aF))))))))))) func24 ntmps24 (λa _=>aC (Y8 a.1 a.2.1 a.2.2.1 a.2.2.2)) (λ_=>by kernel_rfl)
def aOn:SU:=⟨[.st 41,i6,i6],[.st 41,i6],true,false,λ(a:D.World×Int×Int)=>gd (a.1.sz<=34359738100) (some (aI a.1 a.2.1 a.2.2))⟩
def Rw:OK 7 aOn:=mkS (.s .n (.s .n (.s (.s (.rj 4 ⟨[(18,6)],[.dat (.s 23) .bool],[],[]⟩ .n) .n) (.s .n (.s (.y false (some 16) (some 17) (od 19 [12,16,17])) .n))))) [.cell 6 41, .tmp 7] (gc nL (gc nU (gc tH (gc I6 (gc aBv aF))))) func7 ntmps7 (λa _=>aC (aMz a.1 a.2.1 a.2.2)) (λ_=>by kernel_rfl)
def aOo:SU:=⟨[.sl 165, .sl 165],[.bool],false,false,λ(a:(List D.aAC)×(List D.aAC))=>gd (nA a.1.length a.1 a.2/\a.1.length<=34359738368) (some true)⟩
def Rx:OK 74 aOo:=mkS (.s .n (.s (.rj 6 ⟨[(4,1),(5,5)],[.dat (.s 4) .bool],[],[]⟩ .n) .n)) [.tmp 4] (gc lV aF) func74 ntmps74 (λa _=>aC (aM7 a.1 a.2)) (λ_=>by kernel_rfl)
def Vr:SU:=⟨[.st 58, .st 58],[.bool],false,false,λ(a:D.aAB×D.aAB)=>gd (nA a.1.sz a.1 a.2/\a.1.sz<=34359738368) (some true)⟩
def wF:OK 40 Vr:=mkS bMy [.tmp 4] aF func40 ntmps40 (λa _=>aC (Ul a.1 a.2)) (λ_=>by kernel_rfl)
def Vs:SU:=⟨[.st 60, .st 60],[.bool],false,false,λ(a:D.Device×D.Device)=>gd (nA a.1.sz a.1 a.2/\a.1.sz<=34359738368) (some true)⟩
def Vt:OK 28 Vs:=mkS (.s .n (.s (.rj 6 ⟨[(4,1),(5,35)],[.dat (.s 4) .bool],[],[]⟩ .n) .n)) [.tmp 4] (gc Rx (gc wF aF)) func28 ntmps28 (λa _=>aC (Um a.1 a.2)) (λ_=>by kernel_rfl)
def aBw:SU:=⟨[.st 80, .st 80],[.bool],false,false,λ(a:D.aAE×D.aAE)=>gd (nA a.1.sz a.1 a.2/\a.1.sz<=34359738368) (some true)⟩
def aBx:OK 75 aBw:=mkS bPl [.tmp 4] aF func75 ntmps75 (λa _=>aC (aAj a.1 a.2)) (λ_=>by kernel_rfl)
def aFq:SU:=⟨[.sl 3, .sl 3],[.bool],false,false,λ(a:(List Int)×(List Int))=>gd (nA a.1.length a.1 a.2/\a.1.length<=34359738368) (some true)⟩
def aFr:OK 76 aFq:=mkS bMz [.tmp 4] aF func76 ntmps76 (λa _=>aC (aEk a.1 a.2)) (λ_=>by kernel_rfl)
def Ry:SU:=⟨[.st 127, .st 127],[.bool],false,false,λ(a:D.aAH×D.aAH)=>gd (nA a.1.sz a.1 a.2/\a.1.sz<=34359738368) (some true)⟩
def Rz:OK 77 Ry:=mkS bPl [.tmp 4] aF func77 ntmps77 (λa _=>aC (Qt a.1 a.2)) (λ_=>by kernel_rfl)
def aBy:SU:=⟨[.st 83, .st 83],[.bool],false,false,λ(a:D.Site×D.Site)=>gd (nA a.1.sz a.1 a.2/\a.1.sz<=34359738368) (some true)⟩
def aBz:OK 29 aBy:=mkS (.s .n (.s (.s (.rj 6 ⟨[(11,25)],[.dat (.s 35) .bool],[],[]⟩ .n) .n) (.s (.jx ⟨[(4,2),(30,19)],[],[],[]⟩ (.s .n (.s (.l ⟨[(4,2),(30,19)],[.nat (.s 5)],[],[]⟩ FUEL bJm) .n))) .n))) [.tmp 4] (gc aBx (gc aFr (gc Rz aF))) func29 ntmps29 (λa _=>aC (aAk a.1 a.2)) (λ_=>by kernel_rfl)
def aB0:SU:=⟨[.st 186, .st 186],[.bool],false,false,λ(a:D.Box×D.Box)=>gd (nA a.1.sz a.1 a.2/\aQ a.1.Data) (some true)⟩
def aB1:OK 142 aB0:=mkS bNc [.tmp 4] (gc qX aF) func142 ntmps142 (λa _=>aC (aAl a.1 a.2)) (λ_=>by kernel_rfl)
def Iq:SU:=⟨[.st 29, .st 29],[.bool],false,false,λ(a:D.aAF×D.aAF)=>gd (nA a.1.sz a.1 a.2/\(a.1.sz<=34359738368/\aUd a.1)) (some true)⟩
def Ir:OK 78 Iq:=mkS (.s .n (.s (.s (.rj 6 ⟨[(11,9)],[.dat (.s 19) .bool],[],[]⟩ .n) .n) (.s (.jx ⟨[(4,2),(14,19)],[],[],[]⟩ (.s .n (.s (.l ⟨[(4,2),(14,19)],[.nat (.s 5)],[],[]⟩ FUEL bJm) .n))) .n))) [.tmp 4] (gc aB1 aF) func78 ntmps78 (λa _=>aC (Ij a.1 a.2)) (λ_=>by kernel_rfl)
def J2:SU:=⟨[.st 69, .st 69],[.bool],false,false,λ(a:D.aAA×D.aAA)=>gd (nA a.1.sz a.1 a.2/\aQ a.1.Data) (some true)⟩
def J3:OK 79 J2:=mkS bNc [.tmp 4] (gc qX aF) func79 ntmps79 (λa _=>aC (Zw a.1 a.2)) (λ_=>by kernel_rfl)
def J4:SU:=⟨[.st 32, .st 32],[.bool],false,false,λ(a:D.aAD×D.aAD)=>gd (nA a.1.sz a.1 a.2/\(a.1.sz<=34359738368/\oM a.1)) (some true)⟩
def J5:OK 30 J4:=mkS (.s .n (.s (.s (.rj 7 ⟨[(12,17)],[.dat (.s 28) .bool],[],[]⟩ .n) .n) (.s (.jx ⟨[(4,2),(23,19)],[],[],[]⟩ (.s .n (.s (.l ⟨[(4,2),(23,19)],[.nat (.s 5)],[],[]⟩ FUEL bJm) .n))) .n))) [.tmp 4] (gc Rx (gc Ir (gc J3 aF))) func30 ntmps30 (λa _=>aC (Zx a.1 a.2)) (λ_=>by kernel_rfl)
def aB2:SU:=⟨[.st 137, .st 137],[.bool],false,false,λ(a:D.aAG×D.aAG)=>gd (nA a.1.sz a.1 a.2/\a.1.sz<=34359738368) (some true)⟩
def aB3:OK 80 aB2:=mkS bPl [.tmp 4] aF func80 ntmps80 (λa _=>aC (aAm a.1 a.2)) (λ_=>by kernel_rfl)
def Iu:SU:=⟨[.sl 137, .sl 137],[.bool],false,false,λ(a:(List D.aAG)×(List D.aAG))=>gd (nA (Q0 D.aAG.sz a.1) a.1 a.2/\Q0 D.aAG.sz a.1<=34359738368) (some true)⟩
def Iw:OK 31 Iu:=mkS (.s .n (.s .n (.s (.jx ⟨[(4,2),(5,16)],[],[],[]⟩ (.s .n (.s (.l ⟨[(4,2),(5,16)],[.nat (.s 5)],[],[]⟩ FUEL (.s .n (.s (.s (.s (.r none (od 10 [8])) .n) .n) .n))) .n))) .n))) [.tmp 4] (gc aB3 aF) func31 ntmps31 (λa _=>aC (Ik a.1 a.2)) (λ_=>by kernel_rfl)
def Mk:SU:=⟨[.st 39, .st 39],[.bool],false,false,λ(a:D.aAJ×D.aAJ)=>gd (nA a.1.sz a.1 a.2/\a.1.sz<=34359738368) (some true)⟩
def Ml:OK 32 Mk:=mkS bMy [.tmp 4] aF func32 ntmps32 (λa _=>aC (Ld a.1 a.2)) (λ_=>by kernel_rfl)
def J6:SU:=⟨[.st 41, .st 41],[.bool],false,false,λ(a:D.World×D.World)=>gd (nA a.1.sz a.1 a.2/\(a.1.sz<=34359738368/\oM a.1.aAD)) (some true)⟩
def J7:OK 9 J6:=mkS (.s .n (.s (.s (.rj 6 ⟨[(13,48)],[.dat (.s 60) .bool],[],[]⟩ .n) .n) (.s (.jx ⟨[(4,2),(55,19)],[],[],[]⟩ (.s .n (.s (.l ⟨[(4,2),(55,19)],[.nat (.s 5)],[],[]⟩ FUEL bJm) .n))) (.s (.jx ⟨[(4,1),(1,1),(73,18)],[],[],[]⟩ (.s .n (.s (.l ⟨[(4,1),(1,1),(73,18)],[.nat (.s 6)],[],[]⟩ FUEL (.s .n (.s (.s (.s (.r none (od 11 [])) .n) .n) .n))) .n))) (.s (.jx ⟨[(4,1),(2,1),(90,19)],[],[],[]⟩ (.s .n (.s (.l ⟨[(4,1),(2,1),(90,19)],[.nat (.s 7)],[],[]⟩ FUEL bJm) .n))) (.s (.rj 6 ⟨[(4,1),(117,14)],[.dat (.s 4) .bool],[],[]⟩ .n) .n)))))) [.tmp 4] (gc Vt (gc aBz (gc J5 (gc Iw (gc Ml aF))))) func9 ntmps9 (λa _=>aC (Zy a.1 a.2)) (λ_=>by kernel_rfl)
def Mo:SU:=⟨[.sl 5],[.st 41,i6, .str,i6, .bool],false,false,λ(a:(List Int))=>jA a⟩
def Mq:OK 10 Mo:=mkS (.s .n (.s .n (.s bQ9 (.s .n (.s (.u none [0,2] [] [(0,true),(1,true),(2,true),(3,true),(6,true),(4,false),(5,true),(7,false),(8,false),(9,false),(10,false),(11,false),(12,false)]) .n))))) [.cell 2 41, .tmp 3, .tmp 4, .tmp 5, .tmp 6] (gc F8 (gc (sIl 17) (gc aBc (gc iU (gc tX (gc (aSr 3000000) aF)))))) func10 ntmps10 (λ_ _=>id) (λ_=>by kernel_rfl)
def Gl:SU:=⟨[i6, .str],[i6],false,false,λ(a:Int×ByteArray)=>gd (a.2.size<=34359738300) (some (mK a.1 a.2))⟩
def Gm:OK 145 Gl:=mkS .n [.tmp 4] (gc oV (gc gH (gc aBq (gc (aSr 1000022) aF)))) func145 ntmps145 (λa _=>aC (Fu a.1 a.2)) (λ_=>by kernel_rfl)
def aIu:SU:=⟨[.str],[i6],false,false,λ(a:ByteArray)=>gd (a.size<=34359738300) (some (bH a))⟩
def aIv:OK 82 aIu:=mkS .n [.tmp 2] (gc Gm aF) func82 ntmps82 (λ(a:ByteArray) _=>aC (aHm a)) (λ_=>by kernel_rfl)
def aFs:SU:=⟨[.st 58,i6,i6],[i6],false,false,λ(a:D.aAB×Int×Int)=>gd (a.1.sz<=34359738368) (some (aG a.1 a.2.1 a.2.2))⟩
def Gn:OK 144 aFs:=mkS (.s .n (.s (.jx ⟨[(6,23)],[],[],[]⟩ (.s .n (.s (.l ⟨[(6,3),(3,17)],[.nat (.s 12)],[],[]⟩ FUEL (.s .n (.s .n (.s (.s (.s .n (.s (.rj 5 ⟨[(21,6)],[.dat (.s 26) .bool],[],[]⟩ .n) .n)) .n) .n)))) .n))) .n)) [.tmp 6] aF func144 ntmps144 (λa _=>aC (aD0 a.1 a.2.1 a.2.2)) (λ_=>by kernel_rfl)
def aIw:SU:=⟨[.st 58,i6,i6],[.st 58, .bool],true,false,λ(a:D.aAB×Int×Int)=>gd (a.1.sz<=34359738360) (some (Xx a.1 a.2.1 a.2.2))⟩
def aIx:OK 81 aIw:=mkS (.s .n (.s .n (.s .n (.s (.jx ⟨[(7,1),(1,3),(7,63)],[.tr (.c 3 0) 2 149 true],[],[]⟩ (.s .n (.s .n (.s .n (.s .n (.s .n (.s (.j ⟨[(11,1),(39,16)],[.dat (.s 11) i6],[],[]⟩ (.s (.l ⟨[(11,1),(39,16)],[.dat (.s 11) i6],[],[]⟩ FUEL (.s (.s (.rj 6 ⟨[(56,9)],[.dat (.s 64) .bool],[],[]⟩ (.r none (od 14 [12]))) .n) .n)) .n)) bRa))))))) .n)))) [.cell 6 58, .tmp 7] (gc jI (gc lX (gc Gn (gc oW aF)))) func81 ntmps81 (λa _=>aC (aHo a.1 a.2.1 a.2.2)) (λ_=>by kernel_rfl)
def J8:SU:=⟨[.st 58,i6,i6],[.st 58, .bool],true,false,λ(a:D.aAB×Int×Int)=>gd (a.1.sz<=34359738360) (some (Xz a.1 a.2.1 a.2.2))⟩
def J9:OK 83 J8:=mkS (.s .n (.s .n (.s (.s (.rj 4 ⟨[(17,12)],[.dat (.s 28) .bool],[],[]⟩ .n) .n) .n))) [.cell 6 58, .tmp 7] (gc Gn (gc jI (gc lX aF))) func83 ntmps83 (λa _=>aC (Za a.1 a.2.1 a.2.2)) (λ_=>by kernel_rfl)
def Vu:SU:=⟨[.st 60, .str,i6, .bool],[.st 60, .bool],true,false,λ(a:D.Device×ByteArray×Int×Bool)=>gd (a.1.sz<=34359738360/\a.2.1.size<=34359738300) (some (bW a.1 a.2.1 a.2.2.1 a.2.2.2))⟩
def Vv:OK 35 Vu:=mkS (.s .n (.s .n (.s bM2 (.s bQ7 .n)))) [.cell 8 60, .tmp 9] (gc lY (gc aIv (gc aIx (gc J9 aF)))) func35 ntmps35 (λa _=>aC (Ty a.1 a.2.1 a.2.2.1 a.2.2.2)) (λ_=>by kernel_rfl)
def aB4:SU:=⟨[.st 41,i6, .str,i6, .bool],[.st 41, .bool],true,false,λ(a:D.World×Int×ByteArray×Int×Bool)=>gd (a.1.sz<=34359738300/\a.2.2.1.size<=34359738300) (some (jB a.1 a.2.1 a.2.2.1 a.2.2.2.1 a.2.2.2.2))⟩
def aB5:OK 11 aB4:=mkS (.s .n (.s .n (.s (.s (.rj 4 ⟨[(20,6)],[.dat (.s 25) .bool],[],[]⟩ .n) .n) .n))) [.cell 10 41, .tmp 11] (gc nL (gc nU (gc tH (gc Vv aF)))) func11 ntmps11 (λa _=>aC (X7 a.1 a.2.1 a.2.2.1 a.2.2.2.1 a.2.2.2.2)) (λ_=>by kernel_rfl)
def bA0:SU:=⟨[.bool],[i6],false,false,λ(a:Bool)=>Yk a⟩
def bA1:OK 233 bA0:=mkS .n [.tmp 2] aF func233 ntmps233 (λ_ _=>id) (λ_=>by kernel_rfl)
def Sa:SU:=⟨[.sl 5,i6],[.sl 5],true,false,λ(a:(List Int)×Int)=>gd (a.1.length<=34359738300) (some (qD a.1 a.2))⟩
def Sb:OK 260 Sa:=mkS (.s .n (.s .n (.s (.s (.rj 3 ⟨[(10,4)],[.dat (.s 13) .bool],[],[]⟩ .n) .n) (.s (.j ⟨[(1,1),(3,1),(9,11)],[.dat (.s 1) i6, .tr (.s 5) 0 5 true],[],[]⟩ (.s (.l ⟨[(1,1),(3,1),(9,11)],[.dat (.s 1) i6, .tr (.s 5) 0 5 true],[],[]⟩ FUEL .n) .n)) .n)))) [.tmp 4] (gc tF aF) func260 ntmps260 (λa _=>aC (Qh a.1 a.2)) (λ_=>by kernel_rfl)
def aB6:SU:=⟨[.sl 3],[.sl 5],true,false,λ(a:(List Int))=>gd (a.length<=5000000000) (some (gF a))⟩
def aB7:OK 234 aB6:=mkS (.s .n (.s .n (.s (.j ⟨[(3,1),(1,1),(1,10)],[.tr (.s 3) 0 5 true],[],[]⟩ (.s .n (.s (.l ⟨[(3,1),(1,1),(3,8)],[.tr (.s 3) 0 5 true, .nat (.s 9)],[],[]⟩ FUEL .n) .n))) .n))) [.tmp 2] (gc Sb aF) func234 ntmps234 (λ(a:(List Int)) _=>aC (Z0 a)) (λ_=>by kernel_rfl)
def Vw:SU:=⟨[.st 58],[.sl 5],true,false,λ(a:D.aAB)=>gd (a.sz<=34359738368) (some (lT a))⟩
def Vx:OK 192 Vw:=mkS (.s .n (.s .n (.s .n (.s (.j ⟨[(3,1),(1,1),(7,20)],[.tr (.s 3) 1 3 true],[],[]⟩ (.s .n (.s (.l ⟨[(3,1),(1,1),(10,17)],[.tr (.s 3) 1 3 true, .nat (.s 16)],[],[]⟩ FUEL (.s .n (.s .n (.s (.s (.s .n (.r (some 11) (od 13 [9,10,11,12]))) .n) .n)))) .n))) .n)))) [.tmp 2] (gc jI (gc bA1 (gc aB7 aF))) func192 ntmps192 (λ(a:D.aAB) _=>aC (Uc a)) (λ_=>by kernel_rfl)
def aOp:SU:=⟨[i6, .sl 5],[.sl 5],true,false,λ(a:Int×(List Int))=>gd (aQ a.2) (some (jC a.1 a.2))⟩
def aOq:OK 191 aOp:=mkS bM0 [.tmp 4] (gc gH aF) func191 ntmps191 (λa _=>aC (aM0 a.1 a.2)) (λ_=>by kernel_rfl)
def aB8:SU:=⟨[i6,i6,i6, .st 58],[.st 69, .bool],true,false,λ(a:Int×Int×Int×D.aAB)=>gd (a.2.2.2.sz<=34359738368) (some (jD a.1 a.2.1 a.2.2.1 a.2.2.2))⟩
def aB9:OK 147 aB8:=mkS (.s .n (.s (.s (.rj 4 ⟨[(14,15)],[.dat (.s 28) .bool],[],[]⟩ .n) .n) (.s (.y false (some 11) (some 12) [(0,true),(1,true),(2,true),(3,true),(4,true),(7,true),(5,false),(6,false),(8,false),(9,false),(10,true),(11,false),(12,false)]) .n))) [.cell 8 69, .tmp 9] (gc dW (gc gN (gc jI (gc kI (gc Vx (gc aOq (gc Gj aF))))))) func147 ntmps147 (λa _=>aC (Z4 a.1 a.2.1 a.2.2.1 a.2.2.2)) (λ_=>by kernel_rfl)
def K3:SU:=⟨[.st 60],[.st 60, .st 69, .bool],true,false,λ(a:D.Device)=>gd (a.sz<=34359738368) (some (bN a))⟩
def K4:OK 87 K3:=mkS (.s .n bJn) [.cell 2 60, .cell 3 69, .tmp 4] (gc aB9 (gc lY aF)) func87 ntmps87 (λ(a:D.Device) _=>aC (Zh a)) (λ_=>by kernel_rfl)
def aFt:SU:=⟨[.st 69, .st 69],[.bool],false,false,λ(a:D.aAA×D.aAA)=>some (kF a.1 a.2)⟩
def aFu:OK 148 aFt:=mkS bJo [.tmp 4] aF func148 ntmps148 (λa _=>(aD7 a.1 a.2).trans) (λ_=>by kernel_rfl)
def Vy:SU:=⟨[.st 32, .st 69],[.st 32, .bool],true,false,λ(a:D.aAD×D.aAA)=>gd (a.1.sz<=34359738300/\a.2.sz<=34359738300) (some (bO a.1 a.2))⟩
def Vz:OK 88 Vy:=mkS bM4 [.cell 4 32, .tmp 5] (gc Gd (gc Ru (gc aFu (gc rA aF)))) func88 ntmps88 (λa _=>aC (Ud a.1 a.2)) (λ_=>by kernel_rfl)
def aCa:SU:=⟨[.st 41,i6],[.st 41, .bool],true,false,λ(a:D.World×Int)=>gd (a.1.sz<=10000000000) (some (dL a.1 a.2))⟩
def aCb:OK 13 aCa:=mkS (.s .n (.s .n (.s .n (.s (.il 2 .n .n) .n)))) [.cell 4 41, .tmp 5] (gc Rw (gc nL (gc (sIl 37) (gc K4 (gc Vz aF))))) func13 ntmps13 (λa _=>aC (Z7 a.1 a.2)) (λ_=>by kernel_rfl)
def aFv:SU:=⟨[.st 41,i6],[.st 41,i6],true,false,λ(a:D.World×Int)=>gd (a.1.sz<=34359738100) (some (dY a.1 a.2))⟩
def aFw:OK 15 aFv:=mkS (.s .n (.s (.s (.rj 4 ⟨[(11,14)],[.dat (.s 24) .bool],[],[]⟩ .n) .n) .n)) [.cell 4 41, .tmp 5] (gc nU (gc tH (gc nL (gc Rw aF)))) func15 ntmps15 (λa _=>aC (aD6 a.1 a.2)) (λ_=>by kernel_rfl)
def Mr:SU:=⟨[.st 58, .st 58],[.bool],false,false,λ(a:D.aAB×D.aAB)=>gd (aW9 a.1 a.2) (some true)⟩
def Mt:OK 16 Mr:=mkS (.s .n (.s .n (.s (.rj 2 ⟨[(4,1),(9,5)],[.dat (.s 4) .bool],[],[]⟩ .n) .n))) [.tmp 4] (gc wC (gc wF aF)) func16 ntmps16 (λa _=>aC (Lg a.1 a.2)) (λ_=>by kernel_rfl)
def Ki:SU:=⟨[.sl 5],[.bool],false,false,λ(a:(List Int))=>gd (aUc a) (some true)⟩
def aIy:OK 4 Ki:=mkS (.s .n (.s .n (.s .n (.s .n (.s (.s .n (.s (.rj 4 ⟨[(49,10)],[.dat (.s 58) .bool],[],[]⟩ .n) .n)) (.s .n (.s (.s .n (.s (.rj 4 ⟨[(74,10)],[.dat (.s 83) .bool],[],[]⟩ .n) .n)) (.s .n (.s (.s (.rj 3 ⟨[(92,29)],[.dat (.s 120) .bool],[],[]⟩ .n) .n) (.s (.rj 3 ⟨[(2,1),(120,27)],[.dat (.s 2) .bool],[],[]⟩ (.r none (od 30 [15]))) .n)))))))))) [.tmp 2] (gc bAv (gc Mq (gc aB5 (gc Ci (gc J7 (gc aCb (gc qZ (gc aFw (gc Mt aF))))))))) func4 ntmps4 (λ(a:(List Int)) _=>aC (aHy a)) (λ_=>by kernel_rfl)
end
end Go.VK
