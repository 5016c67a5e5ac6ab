import Derived.Test.YtjmlamaddedhlaaGreatDoorXrL
import Derived.Test.YtjmlamaddedhlaaGreatDoorXrM
import Derived.Test.YtjmlamaddedhlaaGreatDoorXrPzg
/- Printed by wip/tools: models, walks, proofs. -/
set_option linter.all false
set_option maxRecDepth 100000
set_option maxHeartbeats 4000000
namespace Go.VK
open Go.RowKit Go.Proofs Tryz
noncomputable section
def i6:EV.Kd:= .int .i64
def bH7:EV.An:=(.y true (some 9) (some 17) [(1,true),(2,true),(3,true),(4,true),(6,true),(7,true),(8,true),(11,true),(12,true),(13,true),(14,true),(0,false),(5,false),(9,false),(10,false),(15,false),(16,false),(17,false)])
def bH8:EV.An:=(.s .n (.s (.s (.rj 6 ⟨[(11,16)],[.dat (.s 26) .bool],[],[]⟩ .n) .n) (.s (.jx ⟨[(4,2),(21,18)],[],[],[]⟩ (.s .n (.s (.l ⟨[(4,2),(24,15)],[.nat (.s 30)],[],[]⟩ FUEL (.s .n (.s .n (.s (.s (.s .n (.s (.r none (od 11 [])) .n)) .n) .n)))) .n))) .n)))
def bJx:EV.An:=(.s .n (.s .n (.s (.s (.rj 4 ⟨[(14,19)],[.dat (.s 32) .bool],[],[]⟩ (.r none [(0,true),(1,false),(2,true),(3,true),(4,true),(5,true),(6,true),(7,false),(8,true),(9,true),(10,true),(11,true),(13,true),(14,true),(12,false),(15,true),(16,true),(17,true),(18,true),(19,false),(20,true),(21,true)])) .n) .n)))
def bJy:EV.An:=(.s .n (.s .n (.s .n (.s (.j ⟨[(9,1),(2,17)],[.dat (.s 9) i6],[],[]⟩ (.s (.l ⟨[(9,1),(2,17)],[.dat (.s 9) i6],[],[]⟩ FUEL (.s (.s (.rj 6 ⟨[(17,10)],[.dat (.s 26) .bool],[],[]⟩ .n) .n) .n)) .n)) (.s bH7 (.s (.s (.rj 4 ⟨[(49,5)],[.dat (.s 53) .bool],[],[]⟩ .n) .n) .n))))))
def bCd:EV.An:=(.s .n (.s .n (.s (.s (.s .n (.s (.r none (od 12 [10])) .n)) .n) .n)))
def bJz:EV.An:=(.j ⟨[(12,1),(11,10)],[.dat (.s 12) .bool, .tr (.c 6 0) 5 122 true],[],[]⟩ (.s .n (.s (.y false none (some 9) [(0,true),(1,true),(2,true),(4,true),(3,false),(5,false),(6,true),(7,true),(8,true),(9,false),(10,true)]) .n)))
def bJ0:EV.An:=(.s .n (.s .n (.s (.j ⟨[(0,2),(3,16)],[.dat (.s 5) i6],[],[]⟩ (.s (.l ⟨[(0,2),(3,16)],[.dat (.s 0) i6, .dat (.s 1) i6, .dat (.s 5) i6],[],[]⟩ FUEL (.s .n (.s (.s (.j ⟨[(5,1),(2,7)],[.dat (.s 5) i6],[],[]⟩ .n) .n) .n))) .n)) .n)))
def bJ1:EV.An:=(.s .n (.s (.s (.y false none (some 14) [(0,true),(1,true),(2,true),(3,true),(4,true),(5,true),(6,true),(8,true),(7,false),(9,false),(10,true),(11,true),(12,true),(13,true),(14,false)]) .n) .n))
def bEi:EV.An:=(.s .n (.s .n (.s (.s (.s .n (.r (some 5) (od 8 [3,4,5,6,7]))) .n) .n)))
def bJ2:EV.An:=(.y true (some 7) (some 15) [(1,true),(2,true),(3,true),(4,true),(6,true),(9,true),(10,true),(11,true),(12,true),(0,false),(5,false),(7,false),(8,false),(13,false),(14,false),(15,false)])
def bFi:EV.An:=(.s .n (.s .n (.s (.jx ⟨[(4,2),(7,18)],[],[],[]⟩ (.s .n (.s (.l ⟨[(4,2),(10,15)],[.nat (.s 16)],[],[]⟩ FUEL (.s .n (.s .n (.s (.s (.s .n (.s (.r none (od 11 [])) .n)) .n) .n)))) .n))) .n)))
def bFj:EV.An:=(.s .n (.s .n (.s (.jx ⟨[(4,2),(5,15)],[],[],[]⟩ (.s .n (.s (.l ⟨[(4,2),(7,13)],[.nat (.s 13)],[],[]⟩ FUEL (.s .n (.s .n (.s (.s (.s .n (.s (.r none (od 9 [])) .n)) .n) .n)))) .n))) .n)))
def bFk:EV.An:=(.s .n (.s (.y false (some 5) none [(0,true),(1,true),(2,true),(3,true),(4,true),(6,true),(7,true),(8,false),(9,false),(5,false),(10,false),(11,false),(12,true)]) .n))
def bFl:EV.An:=(.s .n (.s (.y false (some 5) (some 9) [(0,true),(1,true),(2,true),(3,true),(4,true),(6,true),(7,true),(8,false),(5,false),(9,false),(10,false),(11,true)]) .n))
def bFm:EV.An:=(.s .n (.s (.s (.rj 4 ⟨[(9,6)],[.dat (.s 14) .bool],[],[]⟩ .n) .n) (.s (.r (some 5) [(0,true),(2,true),(1,false),(3,false),(4,true),(5,false),(6,false)]) .n)))
def bFn:EV.An:=(.s .n (.s .n (.s (.j ⟨[(5,3),(1,20)],[.tr (.s 5) 0 5 true],[],[]⟩ (.s .n (.s (.l ⟨[(5,3),(3,18)],[.tr (.s 5) 0 5 true, .nat (.s 11)],[],[]⟩ FUEL .n) .n))) .n)))
def bFo:EV.An:=(.s (.r (some 11) [(0,true),(1,true),(2,true),(4,true),(5,true),(6,true),(7,true),(8,true),(9,true),(3,false),(10,true),(11,false),(12,false)]) .n)
def bFp:EV.An:=(.y false (some 9) (some 10) [(0,true),(1,true),(2,true),(4,true),(3,false),(5,false),(6,true),(7,true),(8,true),(9,false),(10,false),(11,true)])
def bFq:EV.An:=(.s .n (.s .n (.s .n (.s (.s (.rj 7 ⟨[(19,19)],[.dat (.s 37) .bool],[],[]⟩ (.r none (od 25 [4,17]))) .n) (.s (.r (some 5) (od 8 [3,4,5,6,7])) .n)))))
def bFr:EV.An:=(.s .n (.s .n (.s (.j ⟨[(7,19)],[.dat (.s 7) i6],[],[]⟩ (.s .n (.s (.l ⟨[(7,2),(3,14)],[.dat (.s 7) i6, .dat (.s 8) i6],[],[]⟩ FUEL .n) .n))) .n)))
def bFs:EV.An:=(.s .n (.s (.y true none (some 9) [(0,true),(1,true),(2,true),(3,true),(5,true),(6,true),(4,false),(7,false),(8,false),(9,false)]) .n))
def bCe:EV.An:=(.s .n (.s (.rj 6 ⟨[(4,1),(5,14)],[.dat (.s 4) .bool],[],[]⟩ .n) .n))
def bFt:EV.An:=(.s .n (.s (.s (.rj 4 ⟨[(10,19)],[.dat (.s 28) .bool],[],[]⟩ (.r none (od 22 [1,7,13]))) .n) (.s .n (.s (.s (.r none (od 6 [4])) .n) .n))))
def bFu:EV.An:=(.y false (some 7) (some 8) [(0,true),(1,true),(3,true),(4,true),(2,false),(5,false),(6,true),(7,false),(8,false)])
def bFv:EV.An:=(.s .n (.s (.r none [(0,true),(1,true),(2,true),(4,true),(3,false),(5,false),(6,false),(7,true)]) .n))
def bFw:EV.An:=(.y false (some 3) (some 4) [(0,true),(2,true),(1,false),(3,false),(4,false),(5,true)])
def bFx:EV.An:=(.s (.r none [(0,true),(2,true),(3,true),(1,false),(4,false),(5,false),(6,true)]) .n)
def bFy:EV.An:=(.s .n (.s .n (.s .n (.s (.s (.rj 4 ⟨[(22,4)],[.dat (.s 25) .bool],[],[]⟩ .n) .n) .n))))
def bFz:EV.An:=(.s .n (.s .n (.s (.s (.rj 3 ⟨[(15,10)],[.dat (.s 24) .bool],[],[]⟩ .n) .n) .n)))
def bF0:EV.An:=(.s .n (.s .n (.s .n (.s .n (.s .n (.s (.u none [1,2] [] (od 5 [2,3,4])) .n))))))
def bF1:EV.An:=(.s .n (.s .n (.s (.rj 3 ⟨[(6,1),(5,7)],[.dat (.s 6) .bool],[],[]⟩ .n) .n)))
def bCf:EV.An:=(.y false none (some 15) (od 16 [10,15]))
def bF2:EV.An:=(.s .n (.s (.rj 6 ⟨[(4,1),(5,21)],[.dat (.s 4) .bool],[],[]⟩ .n) .n))
def bF3:EV.An:=(.s .n (.s (.rj 4 ⟨[(6,1),(3,5)],[.dat (.s 6) .bool],[],[]⟩ .n) .n))
def bF4:EV.An:=(.s .n (.s (.rj 3 ⟨[(2,1),(2,5)],[.dat (.s 2) .bool],[],[]⟩ .n) .n))
def bF5:EV.An:=(.s .n (.s (.s (.r (some 9) (od 12 [7,8,9,10,11])) .n) .n))
def bF6:EV.An:=(.s (.rj 5 ⟨[(61,21)],[.dat (.s 81) .bool],[],[]⟩ .n) .n)
def bF7:EV.An:=(.s (.rj 4 ⟨[(14,5)],[.dat (.s 18) .bool],[],[]⟩ .n) .n)
def bF8:EV.An:=(.s (.rj 5 ⟨[(52,4)],[.dat (.s 55) .bool],[],[]⟩ .n) .n)
def aUi:SU:=⟨[.sl 5],[.bool],false,false,λ(a:(List Int))=>some (bBd a)⟩
def aUj:OK 5 aUi:=mkS .n [.tmp 2] aD func5 ntmps5 (λa _=>(aUg a).trans) (λ_=>by kernel_rfl)
def aK9:SU:=⟨[.st 137],[.st 137,i6],true,true,λ(a:D.aAO)=>gd (eT a) (some (iH a))⟩
def aLa:OK 94 aK9:=mkP (.s .n (.s .n (.s (.r none (od 13 [])) (.s (.j ⟨[(3,1),(21,32)],[.dat (.s 3) i6, .dat (.c 0 1) i6],[],[]⟩ (.s (.r none (od 10 [])) (.s (.s (.r none (od 15 [])) .n) .n))) .n)))) [.tmp 2] aD func94 ntmps94 (λ(a:D.aAO) _=>aF (aK7 a)) (λ_=>by kernel_rfl)
def aIu:SU:=⟨[.st 137,i6],[.st 137,i6],true,true,λ(a:D.aAO×Int)=>gd (eT a.1) (some (gL a.1 a.2))⟩
def nD:OK 26 aIu:=mkP .n [.tmp 4] (gc aLa aD) func26 ntmps26 (λa _=>aF (aIt a.1 a.2)) (λ_=>by kernel_rfl)
def aPk:SU:=⟨[.st 137, .sl 3],[.st 137,i6],true,true,λ(a:D.aAO×(List Int))=>gd (eT a.1/\0<a.2.length) (some (Yo a.1 a.2))⟩
def A8:OK 27 aPk:=mkP .n [.tmp 4] (gc nD aD) func27 ntmps27 (λa _=>aF (aPi a.1 a.2)) (λ_=>by kernel_rfl)
def aLb:SU:=⟨[.st 137,i6],[.st 137, .bool],true,true,λ(a:D.aAO×Int)=>gd (eT a.1) (some (Df a.1 a.2))⟩
def aLc:OK 80 aLb:=mkP .n [.tmp 4] (gc nD aD) func80 ntmps80 (λa _=>aF (aK8 a.1 a.2)) (λ_=>by kernel_rfl)
def aPl:SU:=⟨[.st 137],[.st 137,i6],true,true,λ(a:D.aAO)=>gd (eT a) (some (aRs a))⟩
def aPm:OK 28 aPl:=mkP .n [.tmp 2] (gc aLc (gc A8 (gc nD (gc (aWa 3000000) aD)))) func28 ntmps28 (λ(a:D.aAO) _=>aF (aPj a)) (λ_=>by kernel_rfl)
def Nl:SU:=⟨[.sl 5],[i6,i6,i6,i6,i6],false,false,λ(a:(List Int))=>gd (a.length<=1048576) (some (aFh a))⟩
def Nn:OK 6 Nl:=mkS (.s .n (.s (.il 1 (.s .n (.s .n (.s (.j ⟨[(3,2),(3,20)],[.dat (.s 3) i6],[],[]⟩ (.s .n (.s (.l ⟨[(3,2),(3,20)],[.dat (.s 3) i6, .dat (.s 4) i6],[],[]⟩ FUEL (.s (.s (.rj 5 ⟨[(12,4)],[.dat (.s 15) .bool],[],[]⟩ .n) .n) .n)) .n))) .n))) .n) .n)) [.tmp 2, .tmp 3, .tmp 4, .tmp 5, .tmp 6] (gc (sIl 25) (gc nD (gc A8 (gc aPm (gc (aWa 3000000) aD))))) func6 ntmps6 (λ(a:(List Int)) _=>aF (Nk a)) (λ_=>by kernel_rfl)
def aIv:SU:=⟨[i6,i6,i6],[.bool],false,false,λ(a:Int×Int×Int)=>some (bE a.1 a.2.1 a.2.2)⟩
def dA:OK 29 aIv:=mkS bF3 [.tmp 6] aD func29 ntmps29 (λa _=>(aHo a.1 a.2.1 a.2.2).trans) (λ_=>by kernel_rfl)
def A9:SU:=⟨[i6],[.bool],false,false,λ(a:Int)=>some (bB a)⟩
def bM:OK 30 A9:=mkS .n [.tmp 2] (gc dA aD) func30 ntmps30 (λa _=>(Yy a).trans) (λ_=>by kernel_rfl)
def aLd:SU:=⟨[.sl 3, .sl 62],[.sl 3],true,false,λ(a:(List Int)×(List (List Int)))=>gd (sU a.1 a.2) (some (mK a.1 a.2))⟩
def jR:OK 109 aLd:=mkS (.s .n (.s .n (.s (.j ⟨[(5,1),(1,1),(3,10)],[.tr (.s 5) 0 3 true],[],[]⟩ (.s .n (.s (.l ⟨[(5,1),(1,1),(5,8)],[.tr (.s 5) 0 3 true, .nat (.s 13)],[],[]⟩ FUEL .n) .n))) .n))) [.tmp 4] aD func109 ntmps109 (λa _=>aF (aKt a.1 a.2)) (λ_=>by kernel_rfl)
def aUk:SU:=⟨[i6,i6],[i6],false,false,λ(a:Int×Int)=>some (dW a.1 a.2)⟩
def vD:OK 125 aUk:=mkS (.s .n (.s (.s (.rj 3 ⟨[(8,4)],[.dat (.s 11) .bool],[],[]⟩ .n) .n) (.s .n (.s (.j ⟨[(5,1),(9,5)],[.dat (.s 5) i6],[],[]⟩ .n) .n)))) [.tmp 4] aD func125 ntmps125 (λa _=>(aT8 a.1 a.2).trans) (λ_=>by kernel_rfl)
def aSg:SU:=⟨[.sl 3],[i6],false,false,λ(a:(List Int))=>gd (a.length<=1099511627776) (some (qI a))⟩
def aCx:OK 211 aSg:=mkS (.s .n (.s .n (.s (.j ⟨[(3,1),(1,15)],[.dat (.s 3) i6],[],[]⟩ (.s .n (.s (.l ⟨[(3,1),(1,1),(2,12)],[.dat (.s 3) i6, .nat (.s 8)],[],[]⟩ FUEL .n) .n))) .n))) [.tmp 2] (gc vD aD) func211 ntmps211 (λ(a:(List Int)) _=>aF (aR7 a)) (λ_=>by kernel_rfl)
def aAh:SU:=⟨[i6, .sl 3],[i6],false,false,λ(a:Int×(List Int))=>gd (a.2.length<=34359738368) (some (aX a.1 a.2))⟩
def dG:OK 108 aAh:=mkS .n [.tmp 4] (gc jR (gc aCx aD)) func108 ntmps108 (λa _=>aF (U7 a.1 a.2)) (λ_=>by kernel_rfl)
def aPn:SU:=⟨[i6],[i6],false,false,λ(a:Int)=>some (fI a)⟩
def Co:OK 107 aPn:=mkS .n [.tmp 2] aD func107 ntmps107 (λa _=>(aPb a).trans) (λ_=>by kernel_rfl)
def aAi:SU:=⟨[i6, .sl 3],[i6],false,false,λ(a:Int×(List Int))=>gd (a.2.length<=34359738300) (some (aO a.1 a.2))⟩
def bX:OK 39 aAi:=mkS .n [.tmp 4] (gc jR (gc dG (gc Co aD))) func39 ntmps39 (λa _=>aF (U9 a.1 a.2)) (λ_=>by kernel_rfl)
def C8:SU:=⟨[i6,i6],[.st 50],false,false,λ(a:Int×Int)=>some (aN a.1 a.2)⟩
def xR:OK 16 C8:=mkS .n [.cell 4 50] (gc bX aD) func16 ntmps16 (λa _=>(Zx a.1 a.2).trans) (λ_=>by kernel_rfl)
def aAj:SU:=⟨[.st 50],[.st 55],true,false,λ(a:D.aAH)=>some (bQ a)⟩
def aAk:OK 31 aAj:=mkS .n [.cell 2 55] aD func31 ntmps31 (λa _=>(Z0 a).trans) (λ_=>by kernel_rfl)
def aAl:SU:=⟨[i6],[i6],false,false,λ(a:Int)=>some (bP a)⟩
def oO:OK 99 aAl:=mkS .n [.tmp 2] (gc bM aD) func99 ntmps99 (λa _=>(V4 a).trans) (λ_=>by kernel_rfl)
def Np:SU:=⟨[.st 50],[i6],false,false,λ(a:D.aAH)=>some (bC a)⟩
def iO:OK 33 Np:=mkS .n [.tmp 2] (gc bX (gc oO aD)) func33 ntmps33 (λa _=>(Mj a).trans) (λ_=>by kernel_rfl)
def aUl:SU:=⟨[.sl 3,i6],[.bool],false,false,λ(a:(List Int)×Int)=>gd (a.1.length<=1099511627776) (some (fM a.1 a.2))⟩
def Cq:OK 76 aUl:=mkS (.s .n (.s (.jx ⟨[(4,1),(1,11)],[],[],[]⟩ (.s .n (.s (.l ⟨[(4,1),(1,1),(2,8)],[.nat (.s 9)],[],[]⟩ FUEL .n) .n))) .n)) [.tmp 4] aD func76 ntmps76 (λa _=>aF (aUa a.1 a.2)) (λ_=>by kernel_rfl)
def aAm:SU:=⟨[.sl 141],[.sl 3],true,false,λ(a:(List D.aAB))=>gd (a.length<=34359738368) (some (aB a))⟩
def jA:OK 77 aAm:=mkS (.s .n (.s .n (.s (.j ⟨[(3,1),(1,2),(1,1),(1,40)],[.tr (.s 3) 0 3 true],[],[]⟩ (.s .n (.s (.l ⟨[(3,1),(1,2),(1,1),(3,38)],[.tr (.s 3) 0 3 true, .nat (.s 12)],[],[]⟩ FUEL (.s .n (.s .n (.s (.j ⟨[(3,1),(1,2),(1,1),(5,35)],[.tr (.s 3) 0 3 true],[],[]⟩ (.s (.s .n (.s .n (.s (.s .n (.s .n (.s .n (.s (.s .n (.s (.j ⟨[(6,1),(1,1),(24,15)],[.tr (.s 6) 2 3 true],[],[]⟩ (.s .n (.s (.l ⟨[(6,1),(1,1),(26,13)],[.tr (.s 6) 2 3 true, .nat (.s 35)],[],[]⟩ FUEL (.s .n (.s .n (.s (.j ⟨[(6,1),(1,1),(28,10)],[.tr (.s 6) 2 3 true],[],[]⟩ .n) .n)))) .n))) .n)) .n)))) .n))) .n)) .n)))) .n))) .n))) [.tmp 2] (gc Cq aD) func77 ntmps77 (λ(a:(List D.aAB)) _=>aF (V7 a)) (λ_=>by kernel_rfl)
def aAn:SU:=⟨[.st 141],[i6],false,false,λ(a:D.aAB)=>some (bJ a)⟩
def oP:OK 98 aAn:=mkS .n [.tmp 2] (gc aCx aD) func98 ntmps98 (λa _=>(X8 a).trans) (λ_=>by kernel_rfl)
def aIw:SU:=⟨[.sl 141],[i6],false,false,λ(a:(List D.aAB))=>gd (a.length<=34359738368) (some (eG a))⟩
def Kb:OK 96 aIw:=mkS .n [.tmp 2] (gc oP aD) func96 ntmps96 (λ(a:(List D.aAB)) _=>aF (aH3 a)) (λ_=>by kernel_rfl)
def C9:SU:=⟨[.sl 141,i6],[.bool],false,false,λ(a:(List D.aAB)×Int)=>gd (a.1.length<=34359738368) (some (gF a.1 a.2))⟩
def D5:OK 136 C9:=mkS (.s .n (.s (.jx ⟨[(4,1),(1,17)],[],[],[]⟩ (.s .n (.s (.l ⟨[(4,1),(1,1),(2,14)],[.nat (.s 9)],[],[]⟩ FUEL (.s .n (.s .n (.s (.s (.s .n (.s (.rj 4 ⟨[(16,6)],[.dat (.s 21) .bool],[],[]⟩ .n) .n)) .n) .n)))) .n))) .n)) [.tmp 4] aD func136 ntmps136 (λa _=>aF (Ze a.1 a.2)) (λ_=>by kernel_rfl)
def aPo:SU:=⟨[i6,i6,i6],[i6],false,false,λ(a:Int×Int×Int)=>iD a.1 a.2.1 a.2.2⟩
def Cr:OK 299 aPo:=mkS (.s .n (.s .n (.s .n (.s (.j ⟨[(0,2),(5,1),(5,17)],[.dat (.s 7) i6],[],[]⟩ (.s (.l ⟨[(0,2),(5,1),(5,17)],[.dat (.s 0) i6, .dat (.s 1) i6, .dat (.s 7) i6],[],[]⟩ FUEL (.s .n (.s (.s (.j ⟨[(7,1),(7,8)],[.dat (.s 7) i6],[],[]⟩ .n) .n) .n))) .n)) .n)))) [.tmp 6] aD func299 ntmps299 (λ_ _=>id) (λ_=>by kernel_rfl)
def D6:SU:=⟨[i6],[i6],false,false,λ(a:Int)=>some (dL a)⟩
def nE:OK 239 D6:=mkS .n [.tmp 2] (gc bM (gc Cr aD)) func239 ntmps239 (λa _=>(Zd a).trans) (λ_=>by kernel_rfl)
def Uc:SU:=⟨[i6, .sl 3],[i6],false,false,λ(a:Int×(List Int))=>gd (a.2.length<=34359738300) (some (vV a.1 a.2))⟩
def vE:OK 210 Uc:=mkS .n [.tmp 4] (gc bM (gc jR (gc dG aD))) func210 ntmps210 (λa _=>aF (Sa a.1 a.2)) (λ_=>by kernel_rfl)
def Cs:SU:=⟨[i6, .sl 3,i6],[.bool],false,false,λ(a:Int×(List Int)×Int)=>gd (a.2.1.length<=34359738300) (some (fQ a.1 a.2.1 a.2.2))⟩
def Ct:OK 137 Cs:=mkS bF1 [.tmp 6] (gc nE (gc vE aD)) func137 ntmps137 (λa _=>aF (Cj a.1 a.2.1 a.2.2)) (λ_=>by kernel_rfl)
def aAo:SU:=⟨[.sl 141],[.bool],false,false,λ(a:(List D.aAB))=>gd (a.length<=34359738368) (some (aV a))⟩
def gD:OK 52 aAo:=mkS (.s .n (.s (.s (.rj 4 ⟨[(10,5)],[.dat (.s 14) .bool],[],[]⟩ .n) .n) (.s (.jx ⟨[(2,5),(8,83)],[],[],[]⟩ (.s .n (.s (.l ⟨[(2,5),(10,81)],[.nat (.s 17)],[],[]⟩ FUEL (.s .n (.s .n (.s (.jx ⟨[(2,5),(12,78)],[],[],[]⟩ (.s (.s .n (.s .n (.s .n (.s (.s (.rj 5 ⟨[(31,26)],[.dat (.s 56) .bool],[],[]⟩ (.r none (od 30 [8,15]))) .n) (.s (.jx ⟨[(2,1),(54,31)],[],[],[]⟩ (.s .n (.s (.s .n (.s (.s (.rj 5 ⟨[(65,11)],[.dat (.s 75) .bool],[],[]⟩ .n) .n) (.s .n (.s (.s (.rj 6 ⟨[(83,5)],[.dat (.s 87) .bool],[],[]⟩ .n) .n) .n)))) .n))) (.s (.r none [(0,true),(1,true),(2,true),(5,true),(6,true),(3,false),(4,false),(7,false),(8,true)]) .n)))))) .n)) .n)))) .n))) .n))) [.tmp 2] (gc jA (gc Kb (gc Cq (gc D5 (gc oP (gc Ct aD)))))) func52 ntmps52 (λ(a:(List D.aAB)) _=>aF (Y1 a)) (λ_=>by kernel_rfl)
def aIx:SU:=⟨[.sl 141],[.sl 141],true,false,λ(a:(List D.aAB))=>gd (a.length<=34359738368) (some (a))⟩
def jB:OK 95 aIx:=mkS .n [.tmp 2] aD func95 ntmps95 (λ(a:(List D.aAB)) _=>aF (aHt a)) (λ_=>by kernel_rfl)
def Nq:SU:=⟨[.st 50, .sl 3],[i6],false,false,λ(a:D.aAH×(List Int))=>gd (a.2.length<=34359738300) (some (iC a.1 a.2))⟩
def Nr:OK 97 Nq:=mkS .n [.tmp 4] (gc bX (gc vE aD)) func97 ntmps97 (λa _=>aF (Nf a.1 a.2)) (λ_=>by kernel_rfl)
def Ud:SU:=⟨[.sl 141,i6,i6, .st 50],[.sl 141, .bool],true,false,λ(a:(List D.aAB)×Int×Int×D.aAH)=>gd (a.1.length<=34359738300) (some (iM a.1 a.2.1 a.2.2.1 a.2.2.2))⟩
def Ue:OK 32 Ud:=mkS (.s .n (.s (.s (.rj 4 ⟨[(15,5)],[.dat (.s 19) .bool],[],[]⟩ .n) .n) (.s .n (.s (.r (some 6) (od 7 [2,3,4,6])) (.s bFw .n))))) [.tmp 8, .tmp 9] (gc gD (gc jB (gc iO (gc Kb (gc oP (gc Nr aD)))))) func32 ntmps32 (λa _=>aF (Tf a.1 a.2.1 a.2.2.1 a.2.2.2)) (λ_=>by kernel_rfl)
def aD2:SU:=⟨[i6,i6],[i6],false,false,λ(a:Int×Int)=>some (bH a.1 a.2)⟩
def aD3:OK 34 aD2:=mkS .n [.tmp 4] (gc bX aD) func34 ntmps34 (λa _=>(aDu a.1 a.2).trans) (λ_=>by kernel_rfl)
def aIy:SU:=⟨[.sl 141],[i6],false,false,λ(a:(List D.aAB))=>gd (a.length<=34359738368) (some (aJ a))⟩
def kN:OK 100 aIy:=mkS (.s .n (.s .n (.s (.j ⟨[(3,1),(1,13)],[.dat (.s 3) i6],[],[]⟩ (.s .n (.s (.l ⟨[(3,1),(1,1),(2,10)],[.dat (.s 3) i6, .nat (.s 8)],[],[]⟩ FUEL (.s .n (.s .n (.s (.j ⟨[(3,1),(1,1),(4,7)],[.dat (.s 3) i6],[],[]⟩ .n) .n)))) .n))) .n))) [.tmp 2] aD func100 ntmps100 (λ(a:(List D.aAB)) _=>aF (aIa a)) (λ_=>by kernel_rfl)
def aAp:SU:=⟨[.sl 5],[.sl 5],true,false,λ(a:(List Int))=>gd (a.length<=34359738368) (some (a))⟩
def oQ:OK 229 aAp:=mkS .n [.tmp 2] aD func229 ntmps229 (λ(a:(List Int)) _=>aF (W9 a)) (λ_=>by kernel_rfl)
def Kc:SU:=⟨[.sl 5,i6],[.sl 5],true,false,λ(a:(List Int)×Int)=>gd (a.1.length<=34359738300) (some (mQ a.1 a.2))⟩
def Ke:OK 213 Kc:=mkS (.s .n (.s .n (.s (.s (.rj 3 ⟨[(10,4)],[.dat (.s 13) .bool],[],[]⟩ .n) .n) (.s (.j ⟨[(1,1),(3,1),(9,11)],[.dat (.s 1) i6, .tr (.s 5) 0 5 true],[],[]⟩ (.s (.l ⟨[(1,1),(3,1),(9,11)],[.dat (.s 1) i6, .tr (.s 5) 0 5 true],[],[]⟩ FUEL .n) .n)) .n)))) [.tmp 4] (gc oQ aD) func213 ntmps213 (λa _=>aF (Jw a.1 a.2)) (λ_=>by kernel_rfl)
def D7:SU:=⟨[.sl 3],[.sl 5],true,false,λ(a:(List Int))=>gd (a.length<=5000000000) (some (eU a))⟩
def xS:OK 102 D7:=mkS (.s .n (.s .n (.s (.j ⟨[(3,1),(1,1),(1,10)],[.tr (.s 3) 0 5 true],[],[]⟩ (.s .n (.s (.l ⟨[(3,1),(1,1),(3,8)],[.tr (.s 3) 0 5 true, .nat (.s 9)],[],[]⟩ FUEL .n) .n))) .n))) [.tmp 2] (gc Ke aD) func102 ntmps102 (λ(a:(List Int)) _=>aF (Zt a)) (λ_=>by kernel_rfl)
def aLe:SU:=⟨[i6,i6],[i6],false,false,λ(a:Int×Int)=>some (dU a.1 a.2)⟩
def Qj:OK 290 aLe:=mkS .n [.tmp 4] (gc bX aD) func290 ntmps290 (λa _=>(aK2 a.1 a.2).trans) (λ_=>by kernel_rfl)
def aIz:SU:=⟨[i6, .sl 5],[.sl 5],true,false,λ(a:Int×(List Int))=>gd (aQ a.2) (some (iW a.1 a.2))⟩
def Kg:OK 226 aIz:=mkS bFn [.tmp 4] (gc dG aD) func226 ntmps226 (λa _=>aF (aIi a.1 a.2)) (λ_=>by kernel_rfl)
def Uf:SU:=⟨[.sl 5],[.sl 3],true,false,λ(a:(List Int))=>gd (a.length<=34359738360) (some (qD a))⟩
def lS:OK 294 Uf:=mkS (.s .n (.s .n (.s (.j ⟨[(3,1),(1,1),(3,12)],[.tr (.s 3) 0 3 true],[],[]⟩ (.s .n (.s (.l ⟨[(3,1),(1,1),(5,10)],[.tr (.s 3) 0 3 true, .nat (.s 11)],[],[]⟩ FUEL .n) .n))) .n))) [.tmp 2] aD func294 ntmps294 (λ(a:(List Int)) _=>aF (Sl a)) (λ_=>by kernel_rfl)
def aLf:SU:=⟨[i6, .st 212],[i6],false,false,λ(a:Int×D.Box)=>gd (a.2.Data.length<=34359738200) (some (Ex a.1 a.2))⟩
def Qk:OK 291 aLf:=mkS bFk [.tmp 4] (gc lS (gc jR (gc dG aD))) func291 ntmps291 (λa _=>aF (aK5 a.1 a.2)) (λ_=>by kernel_rfl)
def aI0:SU:=⟨[i6,i6, .sl 5],[.st 212, .bool],true,false,λ(a:Int×Int×(List Int))=>gd (aQ a.2.2) (some (dM a.1 a.2.1 a.2.2))⟩
def aI1:OK 212 aI0:=mkS bFz [.cell 6 212, .tmp 7] (gc nE (gc bM (gc Qj (gc Kg (gc Qk aD))))) func212 ntmps212 (λa _=>aF (aIm a.1 a.2.1 a.2.2)) (λ_=>by kernel_rfl)
def aAq:SU:=⟨[.sl 3,i6, .sl 5],[.sl 212, .bool],true,false,λ(a:(List Int)×Int×(List Int))=>gd (a.1.length<=34359738300/\aQ a.2.2) (some (dN a.2.1 a.2.2 0 a.1))⟩
def aAr:OK 101 aAq:=mkS (.s .n (.s .n (.s (.jx ⟨[(6,7),(1,23)],[.tr (.s 8) 0 212 true],[],[]⟩ (.s .n (.s (.l ⟨[(6,7),(3,21)],[.tr (.s 8) 0 212 true, .nat (.s 16)],[],[]⟩ FUEL .n) .n))) .n))) [.tmp 6, .tmp 7] (gc aI1 aD) func101 ntmps101 (λa _=>aF (Z5 a.1 a.2.1 a.2.2)) (λ_=>by kernel_rfl)
def Fu:SU:=⟨[.sl 141,i6,i6],[.st 31, .bool],true,false,λ(a:(List D.aAB)×Int×Int)=>gd (a.1.length<=34359738300) (some (bK a.1 a.2.1 a.2.2))⟩
def Fv:OK 35 Fu:=mkS (.s .n (.s bF7 .n)) [.cell 6 31, .tmp 7] (gc gD (gc bM (gc kN (gc jA (gc xS (gc aAr aD)))))) func35 ntmps35 (λa _=>aF (Fj a.1 a.2.1 a.2.2)) (λ_=>by kernel_rfl)
def D8:SU:=⟨[.st 31,i6],[i6],false,false,λ(a:D.aAD×Int)=>gd (a.1.Boxes.length<=34359738368) (some (iN a.1 a.2))⟩
def D9:OK 214 D8:=mkS (.s .n (.s .n (.s (.j ⟨[(5,1),(1,15)],[.dat (.s 5) i6],[],[]⟩ (.s .n (.s (.l ⟨[(5,1),(1,1),(3,11)],[.dat (.s 5) i6, .nat (.s 11)],[],[]⟩ FUEL (.s .n (.s .n (.s (.j ⟨[(5,1),(1,1),(5,8)],[.dat (.s 5) i6],[],[]⟩ .n) .n)))) .n))) .n))) [.tmp 4] aD func214 ntmps214 (λa _=>aF (o5 a.1 a.2)) (λ_=>by kernel_rfl)
def aAs:SU:=⟨[.st 31, .sl 141],[.bool],false,false,λ(a:D.aAD×(List D.aAB))=>gd (a.1.Boxes.length<=34359738368/\a.2.length<=34359738368) (some (fZ a.1 a.2))⟩
def aAt:OK 103 aAs:=mkS (.s .n (.s .n (.s (.s (.rj 6 ⟨[(15,8)],[.dat (.s 22) .bool],[],[]⟩ (.r none (od 13 [3]))) .n) (.s (.jx ⟨[(4,1),(2,1),(15,11)],[],[],[]⟩ (.s .n (.s (.l ⟨[(4,1),(2,1),(17,9)],[.nat (.s 25)],[],[]⟩ FUEL .n) .n))) .n)))) [.tmp 4] (gc jA (gc kN (gc D9 aD))) func103 ntmps103 (λa _=>aF (Z7 a.1 a.2)) (λ_=>by kernel_rfl)
def aAu:SU:=⟨[.sl 212],[.sl 212],true,false,λ(a:(List D.Box))=>gd (szL D.Box.sz a<=34359738368) (some (a))⟩
def aAv:OK 215 aAu:=mkS (.s .n (.s .n (.s (.j ⟨[(3,1),(1,1),(1,15)],[.tr (.s 3) 0 212 true],[],[]⟩ (.s .n (.s (.l ⟨[(3,1),(1,1),(3,13)],[.tr (.s 3) 0 212 true, .nat (.s 9)],[],[]⟩ FUEL .n) .n))) .n))) [.tmp 2] (gc oQ aD) func215 ntmps215 (λ(a:(List D.Box)) _=>aF (X3 a)) (λ_=>by kernel_rfl)
def Fw:SU:=⟨[.st 31],[.st 31],true,false,λ(a:D.aAD)=>gd (a.sz<=34359738368) (some (a))⟩
def nY:OK 104 Fw:=mkS (.s .n (.s (.r (some 6) (od 7 [4,6])) .n)) [.cell 2 31] (gc aAv aD) func104 ntmps104 (λ(a:D.aAD) _=>aF (Ez a)) (λ_=>by kernel_rfl)
def aD4:SU:=⟨[.sl 141, .st 31],[.st 34, .bool],true,false,λ(a:(List D.aAB)×D.aAD)=>gd (a.1.length<=34359738368/\a.2.sz<=34359738368) (some (bT a.1 a.2))⟩
def aD5:OK 36 aD4:=mkS bFm [.cell 4 34, .tmp 5] (gc gD (gc aAt (gc jB (gc nY aD)))) func36 ntmps36 (λa _=>aF (aDy a.1 a.2)) (λ_=>by kernel_rfl)
def aD6:SU:=⟨[i6],[.str],false,false,λ(a:Int)=>some (aC a)⟩
def qF:OK 14 aD6:=mkS .n [.tmp 2] aD func14 ntmps14 (λa _=>(aDl a).trans) (λ_=>by kernel_rfl)
def aLg:SU:=⟨[.str],[.bool],false,false,λ(a:ByteArray)=>some (fU a)⟩
def Ql:OK 218 aLg:=mkS (.s .n (.s .n (.s (.jx ⟨[(2,1),(1,3),(3,57)],[],[],[]⟩ (.s .n (.s (.l ⟨[(2,1),(1,3),(6,54)],[.nat (.s 13)],[],[]⟩ FUEL (.s .n (.s .n (.s (.jx ⟨[(2,1),(1,3),(8,51)],[],[],[]⟩ (.s (.s .n (.s (.s (.rj 4 ⟨[(20,18)],[.dat (.s 37) .bool],[],[]⟩ .n) .n) (.s .n (.s (.l ⟨[(2,1),(2,2),(31,28)],[.nat (.s 5)],[],[]⟩ FUEL (.s .n (.s (.s (.s .n (.s (.rj 3 ⟨[(49,17)],[.dat (.s 65) .bool],[],[]⟩ .n) .n)) .n) .n))) .n)))) .n)) .n)))) .n))) .n))) [.tmp 2] (gc Di aD) func218 ntmps218 (λa _=>(aKz a).trans) (λ_=>by kernel_rfl)
def Ug:SU:=⟨[.str],[.str],false,false,λ(a:ByteArray)=>some (aXr a)⟩
def Uh:OK 219 Ug:=mkS .n [.tmp 2] (gc Ql (gc Di (gc aHg aD))) func219 ntmps219 (λa _=>(Sd a).trans) (λ_=>by kernel_rfl)
def aLh:SU:=⟨[.str],[.bool],false,false,λ(a:ByteArray)=>gd (a.size<=9223372036854775807) (some (Lm a))⟩
def aLi:OK 220 aLh:=mkS (.s .n (.s (.jx ⟨[(2,12)],[],[],[]⟩ (.s .n (.s (.l ⟨[(2,12)],[.nat (.s 3)],[],[]⟩ FUEL .n) .n))) .n)) [.tmp 2] aD func220 ntmps220 (λ(a:ByteArray) _=>aF (aK0 a)) (λ_=>by kernel_rfl)
def Ui:SU:=⟨[.str,i6],[.bool],false,false,λ(a:ByteArray×Int)=>gd (a.1.size<=9223372036854775807) (some (fV a.1 a.2))⟩
def vF:OK 106 Ui:=mkS (.s .n (.s (.rj 3 ⟨[(4,1),(2,13)],[.dat (.s 4) .bool],[],[]⟩ .n) .n)) [.tmp 4] (gc Ql (gc Uh (gc aLi (gc bM aD)))) func106 ntmps106 (λa _=>aF (Sg a.1 a.2)) (λ_=>by kernel_rfl)
def aI2:SU:=⟨[.str,i6],[.st 64],true,false,λ(a:ByteArray×Int)=>gd (a.1.size<=34359738368) (some (dB a.1 a.2))⟩
def aI3:OK 38 aI2:=mkS .n [.cell 4 64] (gc vF aD) func38 ntmps38 (λa _=>aF (aIq a.1 a.2)) (λ_=>by kernel_rfl)
def Uj:SU:=⟨[.st 61],[.bool],false,false,λ(a:D.aAE)=>gd (a.sz<=34359738368) (some (gP a))⟩
def Uk:OK 134 Uj:=mkS (.s .n (.s (.s (.rj 5 ⟨[(9,6)],[.dat (.s 14) .bool],[],[]⟩ .n) .n) (.s (.jx ⟨[(2,3),(10,44)],[],[],[]⟩ (.s .n (.s (.l ⟨[(2,3),(13,41)],[.nat (.s 18)],[],[]⟩ FUEL (.s .n (.s .n (.s (.s (.s .n (.s (.rj 8 ⟨[(30,28)],[.dat (.s 57) .bool],[],[]⟩ (.r none (od 35 [5,26,32]))) .n)) .n) .n)))) .n))) .n))) [.tmp 2] (gc dA aD) func134 ntmps134 (λ(a:D.aAE) _=>aF (Sc a)) (λ_=>by kernel_rfl)
def Fx:SU:=⟨[.st 67],[.bool],false,false,λ(a:D.aAG)=>gd (a.sz<=34359738368) (some (aU a))⟩
def nZ:OK 135 Fx:=mkS (.s .n (.s (.s (.rj 5 ⟨[(11,12)],[.dat (.s 22) .bool],[],[]⟩ .n) .n) (.s (.jx ⟨[(2,3),(1,1),(16,56)],[],[],[]⟩ (.s .n (.s (.l ⟨[(2,3),(1,1),(19,53)],[.nat (.s 26)],[],[]⟩ FUEL (.s .n (.s .n (.s (.jx ⟨[(2,3),(1,1),(21,50)],[],[],[]⟩ (.s (.s .n (.s (.s (.rj 5 ⟨[(35,28)],[.dat (.s 62) .bool],[],[]⟩ (.r none (od 32 [2,23,29]))) .n) (.s .n (.s (.l ⟨[(2,1),(3,1),(61,10)],[.nat (.s 68)],[],[]⟩ FUEL .n) .n)))) .n)) .n)))) .n))) .n))) [.tmp 2] (gc dA (gc nE aD)) func135 ntmps135 (λ(a:D.aAG) _=>aF (Fe a)) (λ_=>by kernel_rfl)
def Ul:SU:=⟨[.st 64],[.bool],false,false,λ(a:D.Site)=>gd (a.sz<=34359738368) (some (cO a))⟩
def lT:OK 50 Ul:=mkS (.s .n (.s (.s (.rj 8 ⟨[(12,12)],[.dat (.s 23) .bool],[],[]⟩ .n) .n) (.s (.jx ⟨[(2,3),(19,28)],[],[],[]⟩ (.s .n (.s (.l ⟨[(2,3),(22,25)],[.nat (.s 27)],[],[]⟩ FUEL (.s .n (.s .n (.s (.s (.s .n (.s (.rj 4 ⟨[(35,16)],[.dat (.s 50) .bool],[],[]⟩ (.r none (od 19 [1]))) .n)) .n) .n)))) .n))) .n))) [.tmp 2] (gc vF (gc Uk (gc nZ aD))) func50 ntmps50 (λ(a:D.Site) _=>aF (Sj a)) (λ_=>by kernel_rfl)
def aD7:SU:=⟨[.st 61],[.st 61],true,false,λ(a:D.aAE)=>gd (a.sz<=34359738368) (some (a))⟩
def aD8:OK 216 aD7:=mkS bFs [.cell 2 61] aD func216 ntmps216 (λ(a:D.aAE) _=>aF (aDg a)) (λ_=>by kernel_rfl)
def Um:SU:=⟨[.st 67],[.st 67],true,false,λ(a:D.aAG)=>gd (a.sz<=34359738368) (some (a))⟩
def vG:OK 217 Um:=mkS bFs [.cell 2 67] aD func217 ntmps217 (λ(a:D.aAG) _=>aF (Ry a)) (λ_=>by kernel_rfl)
def aD9:SU:=⟨[.st 64],[.st 64],true,false,λ(a:D.Site)=>gd (a.sz<=34359738368) (some (a))⟩
def qG:OK 105 aD9:=mkS (.s .n (.s (.y false (some 9) (some 10) [(0,true),(1,true),(2,true),(3,true),(5,true),(6,true),(4,false),(7,false),(8,true),(9,false),(10,false)]) (.s (.j ⟨[(5,1),(9,15)],[.nt (.c 4 1) 67 true],[],[]⟩ (.s .n (.s (.l ⟨[(5,1),(12,12)],[.nat (.s 18), .nt (.c 4 1) 67 true],[],[]⟩ FUEL bEi) .n))) .n))) [.cell 2 64] (gc aD8 (gc jR (gc vG aD))) func105 ntmps105 (λ(a:D.Site) _=>aF (aDh a)) (λ_=>by kernel_rfl)
def Uo:SU:=⟨[.st 64,i6,i6],[.st 64, .bool],false,false,λ(a:D.Site×Int×Int)=>gd (a.1.sz<=34359738300) (some (fO a.1 a.2.1 a.2.2))⟩
def Uq:OK 37 Uo:=mkS (.s .n (.s .n (.s .n (.s .n (.s (.j ⟨[(9,1),(7,17)],[.dat (.s 9) i6],[],[]⟩ (.s (.l ⟨[(9,1),(7,17)],[.dat (.s 9) i6],[],[]⟩ FUEL (.s (.s (.rj 6 ⟨[(22,10)],[.dat (.s 31) .bool],[],[]⟩ .n) .n) .n)) .n)) (.s bH7 .n)))))) [.cell 6 64, .tmp 7] (gc lT (gcp qG aD)) func37 ntmps37 (λa _=>aF (Ty a.1 a.2.1 a.2.2)) (λ_=>by kernel_rfl)
def Ar:SU:=⟨[i6, .str],[i6],false,false,λ(a:Int×ByteArray)=>gd (a.2.size<=34359738300) (some (lJ a.1 a.2))⟩
def Au:OK 225 Ar:=mkS .n [.tmp 4] (gc lS (gc dG (gc Co (gc (aWa 1000022) aD)))) func225 ntmps225 (λa _=>aF (Aq a.1 a.2)) (λ_=>by kernel_rfl)
def aEa:SU:=⟨[.str],[i6],false,false,λ(a:ByteArray)=>gd (a.size<=34359738300) (some (aY a))⟩
def En:OK 116 aEa:=mkS .n [.tmp 2] (gc Au aD) func116 ntmps116 (λ(a:ByteArray) _=>aF (aDp a)) (λ_=>by kernel_rfl)
def Ur:SU:=⟨[.st 50, .str,i6],[i6],false,false,λ(a:D.aAH×ByteArray×Int)=>gd (a.2.1.size<=34359738300) (some (dQ a.1 a.2.1 a.2.2))⟩
def Ut:OK 112 Ur:=mkS bFv [.tmp 6] (gc En (gc bX aD)) func112 ntmps112 (λa _=>aF (Td a.1 a.2.1 a.2.2)) (λ_=>by kernel_rfl)
def E5:SU:=⟨[.st 50, .str,i6],[i6],false,false,λ(a:D.aAH×ByteArray×Int)=>gd (a.2.1.size<=34359738300) (some (eZ a.1 a.2.1 a.2.2))⟩
def E8:OK 41 E5:=mkS .n [.tmp 6] (gc Ut (gc oO aD)) func41 ntmps41 (λa _=>aF (Zz a.1 a.2.1 a.2.2)) (λ_=>by kernel_rfl)
def Uu:SU:=⟨[.st 64,i6],[i6],false,false,λ(a:D.Site×Int)=>gd (a.1.Accounts.length<=34359738368) (some (aL a.1 a.2))⟩
def Uv:OK 110 Uu:=mkS (.s .n (.s (.jx ⟨[(4,17)],[],[],[]⟩ (.s .n (.s (.l ⟨[(4,3),(3,11)],[.nat (.s 10)],[],[]⟩ FUEL .n) .n))) .n)) [.tmp 4] aD func110 ntmps110 (λa _=>aF (Ti a.1 a.2)) (λ_=>by kernel_rfl)
def Kh:SU:=⟨[.st 67,i6,i6],[.st 67, .bool],true,false,λ(a:D.aAG×Int×Int)=>gd (a.1.sz<=34359738300) (some (dS a.1 a.2.1 a.2.2))⟩
def Ki:OK 111 Kh:=mkS (.s .n (.s .n (.s .n (.s (.j ⟨[(8,1),(6,17)],[.dat (.s 8) i6],[],[]⟩ (.s (.l ⟨[(8,1),(6,17)],[.dat (.s 8) i6],[],[]⟩ FUEL (.s (.s (.rj 6 ⟨[(20,10)],[.dat (.s 29) .bool],[],[]⟩ .n) .n) .n)) .n)) (.s .n (.s bH7 .n)))))) [.cell 6 67, .tmp 7] (gc nZ (gc vG aD)) func111 ntmps111 (λa _=>aF (Jz a.1 a.2.1 a.2.2)) (λ_=>by kernel_rfl)
def Uw:SU:=⟨[.st 64,i6,i6,i6],[.st 64, .bool],true,false,λ(a:D.Site×Int×Int×Int)=>gd (a.1.sz<=34359738300) (some (fG a.1 a.2.1 a.2.2.1 a.2.2.2))⟩
def Ux:OK 40 Uw:=mkS bFy [.cell 8 64, .tmp 9] (gc qG (gc Uv (gc lT (gc Ki aD)))) func40 ntmps40 (λa _=>aF (Tn a.1 a.2.1 a.2.2.1 a.2.2.2)) (λ_=>by kernel_rfl)
def E9:SU:=⟨[.st 53],[.st 53],true,false,λ(a:D.aAC)=>gd (a.sz<=34359738368) (some (a))⟩
def kC:OK 221 E9:=mkS .n [.cell 2 53] aD func221 ntmps221 (λ(a:D.aAC) _=>aF (Yz a)) (λ_=>by kernel_rfl)
def F3:SU:=⟨[.st 55],[.st 55],true,false,λ(a:D.Device)=>gd (a.sz<=34359738368) (some (a))⟩
def iE:OK 113 F3:=mkS .n [.cell 2 55] (gc jB (gc kC aD)) func113 ntmps113 (λ(a:D.Device) _=>aF (Za a)) (λ_=>by kernel_rfl)
def F4:SU:=⟨[.sl 141, .sl 141],[.bool],false,false,λ(a:(List D.aAB)×(List D.aAB))=>gd (a.1.length<=34359738368) (some (bS a.1 a.2))⟩
def nG:OK 114 F4:=mkS bFj [.tmp 4] aD func114 ntmps114 (λa _=>aF (Zj a.1 a.2)) (λ_=>by kernel_rfl)
def F5:SU:=⟨[.st 55, .sl 141,i6],[.st 55, .bool],true,false,λ(a:D.Device×(List D.aAB)×Int)=>gd (a.1.sz<=34359738368/\a.2.1.length<=34359738368) (some (kM a.1 a.2.1 a.2.2))⟩
def F6:OK 42 F5:=mkS bJx [.cell 6 55, .tmp 7] (gc iE (gc gD (gc nG (gc kN (gc bM (gc jB aD)))))) func42 ntmps42 (λa _=>aF (o7 a.1 a.2.1 a.2.2)) (λ_=>by kernel_rfl)
def Uy:SU:=⟨[.st 122, .st 122],[.bool],false,false,λ(a:D.Entry×D.Entry)=>some (dE a.1 a.2)⟩
def lU:OK 224 Uy:=mkS bCe [.tmp 4] aD func224 ntmps224 (λa _=>(Rx a.1 a.2).trans) (λ_=>by kernel_rfl)
def aEb:SU:=⟨[.st 53],[.bool],false,false,λ(a:D.aAC)=>gd (a.sz<=34359738368) (some (aI a))⟩
def gU:OK 222 aEb:=mkS (.s .n (.s .n (.s (.jx ⟨[(2,3),(4,40)],[],[],[]⟩ (.s .n (.s (.l ⟨[(2,3),(7,37)],[.nat (.s 12)],[],[]⟩ FUEL (.s .n (.s .n (.s (.s (.s .n (.s (.rj 5 ⟨[(21,27)],[.dat (.s 47) .bool],[],[]⟩ (.r none (od 31 [2,7,13,27]))) .n)) .n) .n)))) .n))) .n))) [.tmp 2] (gc dA (gc lU aD)) func222 ntmps222 (λ(a:D.aAC) _=>aF (aDf a)) (λ_=>by kernel_rfl)
def aAw:SU:=⟨[.st 53,i6,i6],[i6],false,false,λ(a:D.aAC×Int×Int)=>gd (a.1.sz<=34359738368) (some (aG a.1 a.2.1 a.2.2))⟩
def Av:OK 223 aAw:=mkS (.s .n (.s (.jx ⟨[(6,23)],[],[],[]⟩ (.s .n (.s (.l ⟨[(6,3),(3,17)],[.nat (.s 12)],[],[]⟩ FUEL (.s .n (.s .n (.s (.s (.s .n (.s (.rj 5 ⟨[(21,6)],[.dat (.s 26) .bool],[],[]⟩ .n) .n)) .n) .n)))) .n))) .n)) [.tmp 6] aD func223 ntmps223 (λa _=>aF (Y2 a.1 a.2.1 a.2.2)) (λ_=>by kernel_rfl)
def aEc:SU:=⟨[.st 53,i6,i6],[.st 53, .bool],true,false,λ(a:D.aAC×Int×Int)=>gd (a.1.sz<=34359738360) (some (R4 a.1 a.2.1 a.2.2))⟩
def aEd:OK 115 aEc:=mkS (.s .n (.s .n (.s .n (.s (.jx ⟨[(7,1),(1,3),(7,63)],[.tr (.c 3 0) 2 122 true],[],[]⟩ (.s .n (.s .n (.s .n (.s .n (.s .n (.s (.j ⟨[(11,1),(39,16)],[.dat (.s 11) i6],[],[]⟩ (.s (.l ⟨[(11,1),(39,16)],[.dat (.s 11) i6],[],[]⟩ FUEL (.s (.s (.rj 6 ⟨[(56,9)],[.dat (.s 64) .bool],[],[]⟩ (.r none (od 14 [12]))) .n) .n)) .n)) bJ2))))))) .n)))) [.cell 6 53, .tmp 7] (gc gU (gc kC (gc Av (gc lU aD)))) func115 ntmps115 (λa _=>aF (aDr a.1 a.2.1 a.2.2)) (λ_=>by kernel_rfl)
def Uz:SU:=⟨[.st 53,i6,i6],[.st 53, .bool],true,false,λ(a:D.aAC×Int×Int)=>gd (a.1.sz<=34359738360) (some (R5 a.1 a.2.1 a.2.2))⟩
def Va:OK 117 Uz:=mkS (.s .n (.s .n (.s (.s (.rj 4 ⟨[(17,12)],[.dat (.s 28) .bool],[],[]⟩ .n) .n) .n))) [.cell 6 53, .tmp 7] (gc Av (gc gU (gc kC aD))) func117 ntmps117 (λa _=>aF (Sq a.1 a.2.1 a.2.2)) (λ_=>by kernel_rfl)
def Ns:SU:=⟨[.st 55, .str,i6, .bool],[.st 55, .bool],true,false,λ(a:D.Device×ByteArray×Int×Bool)=>gd (a.1.sz<=34359738360/\a.2.1.size<=34359738300) (some (eH a.1 a.2.1 a.2.2.1 a.2.2.2))⟩
def Nt:OK 43 Ns:=mkS (.s .n (.s .n (.s bFp (.s bJz .n)))) [.cell 8 55, .tmp 9] (gc iE (gc En (gc aEd (gc Va aD)))) func43 ntmps43 (λa _=>aF (Mr a.1 a.2.1 a.2.2.1 a.2.2.2)) (λ_=>by kernel_rfl)
def aUm:SU:=⟨[.bool],[i6],false,false,λ(a:Bool)=>Rw a⟩
def aUn:OK 295 aUm:=mkS .n [.tmp 2] aD func295 ntmps295 (λ_ _=>id) (λ_=>by kernel_rfl)
def Nu:SU:=⟨[.st 53],[.sl 5],true,false,λ(a:D.aAC)=>gd (a.sz<=34359738368) (some (jZ a))⟩
def Nv:OK 227 Nu:=mkS (.s .n (.s .n (.s .n (.s (.j ⟨[(3,1),(1,1),(7,20)],[.tr (.s 3) 1 3 true],[],[]⟩ (.s .n (.s (.l ⟨[(3,1),(1,1),(10,17)],[.tr (.s 3) 1 3 true, .nat (.s 16)],[],[]⟩ FUEL (.s .n (.s .n (.s (.s (.s .n (.r (some 11) (od 13 [9,10,11,12]))) .n) .n)))) .n))) .n)))) [.tmp 2] (gc gU (gc aUn (gc xS aD))) func227 ntmps227 (λ(a:D.aAC) _=>aF (Mx a)) (λ_=>by kernel_rfl)
def aAx:SU:=⟨[i6, .st 102],[i6],false,false,λ(a:Int×D.aAA)=>gd (a.2.Data.length<=34359738200) (some (fC a.1 a.2))⟩
def Aw:OK 228 aAx:=mkS bFk [.tmp 4] (gc lS (gc jR (gc dG aD))) func228 ntmps228 (λa _=>aF (Y5 a.1 a.2)) (λ_=>by kernel_rfl)
def F7:SU:=⟨[i6,i6,i6, .st 53],[.st 102, .bool],true,false,λ(a:Int×Int×Int×D.aAC)=>gd (a.2.2.2.sz<=34359738368) (some (mR a.1 a.2.1 a.2.2.1 a.2.2.2))⟩
def F8:OK 118 F7:=mkS (.s .n (.s (.s (.rj 4 ⟨[(14,15)],[.dat (.s 28) .bool],[],[]⟩ .n) .n) (.s (.y false (some 11) (some 12) [(0,true),(1,true),(2,true),(3,true),(4,true),(7,true),(5,false),(6,false),(8,false),(9,false),(10,true),(11,false),(12,false)]) .n))) [.cell 8 102, .tmp 9] (gc bM (gc dA (gc gU (gc bX (gc Nv (gc Kg (gc Aw aD))))))) func118 ntmps118 (λa _=>aF (Zu a.1 a.2.1 a.2.2.1 a.2.2.2)) (λ_=>by kernel_rfl)
def Vb:SU:=⟨[.st 55],[.st 55, .st 102, .bool],true,false,λ(a:D.Device)=>gd (a.sz<=34359738368) (some (gQ a))⟩
def Vd:OK 44 Vb:=mkS bF0 [.cell 2 55, .cell 3 102, .tmp 4] (gc F8 (gc iE aD)) func44 ntmps44 (λ(a:D.Device) _=>aF (Sz a)) (λ_=>by kernel_rfl)
def F9:SU:=⟨[.st 102],[.st 102],true,false,λ(a:D.aAA)=>gd (a.sz<=34359738368) (some (a))⟩
def xU:OK 121 F9:=mkS .n [.cell 2 102] (gc oQ aD) func121 ntmps121 (λ(a:D.aAA) _=>aF (Zb a)) (λ_=>by kernel_rfl)
def aAy:SU:=⟨[.st 34],[.st 34],true,false,λ(a:D.aAI)=>gd (a.sz<=34359738368) (some (a))⟩
def Ay:OK 119 aAy:=mkS (.s .n (.s bFu (.s (.j ⟨[(5,1),(7,15)],[.nt (.c 4 3) 102 true],[],[]⟩ (.s .n (.s (.l ⟨[(5,1),(10,12)],[.nat (.s 16), .nt (.c 4 3) 102 true],[],[]⟩ FUEL bEi) .n))) .n))) [.cell 2 34] (gc jB (gc nY (gc xU aD))) func119 ntmps119 (λ(a:D.aAI) _=>aF (X4 a)) (λ_=>by kernel_rfl)
def aAz:SU:=⟨[.st 102, .st 102],[.bool],false,false,λ(a:D.aAA×D.aAA)=>some (oK a.1 a.2)⟩
def aA0:OK 120 aAz:=mkS bCe [.tmp 4] aD func120 ntmps120 (λa _=>(Y7 a.1 a.2).trans) (λ_=>by kernel_rfl)
def Nw:SU:=⟨[.st 34, .st 102],[.st 34, .bool],true,false,λ(a:D.aAI×D.aAA)=>gd (a.1.sz<=34359738300/\a.2.sz<=34359738300) (some (dO a.1 a.2))⟩
def Ny:OK 45 Nw:=mkS bFq [.cell 4 34, .tmp 5] (gc Ay (gc kN (gc aA0 (gc xU aD)))) func45 ntmps45 (λa _=>aF (Na a.1 a.2)) (λ_=>by kernel_rfl)
def aI4:SU:=⟨[i6, .sl 5],[.sl 5],true,false,λ(a:Int×(List Int))=>gd (a.2.length<=34359738368) (some (Hl a.1 a.2))⟩
def Kj:OK 233 aI4:=mkS bFn [.tmp 4] (gc dG (gc vD aD)) func233 ntmps233 (λa _=>aF (aIc a.1 a.2)) (λ_=>by kernel_rfl)
def aI5:SU:=⟨[i6, .st 212],[.sl 5, .bool],true,false,λ(a:Int×D.Box)=>some (dK a.1 a.2)⟩
def aI6:OK 296 aI5:=mkS bFt [.tmp 4, .tmp 5] (gc bM (gc oO (gc Qj (gc Qk (gc Kj aD))))) func296 ntmps296 (λa _=>(aIf a.1 a.2).trans) (λ_=>by kernel_rfl)
def aI7:SU:=⟨[.sl 212,i6],[.sl 5, .bool],true,false,λ(a:(List D.Box)×Int)=>gd (a.1.length<=34359738368) (some (dX a.1 a.2))⟩
def aI8:OK 230 aI7:=mkS (.s .n (.s (.jx ⟨[(4,2),(1,18)],[],[],[]⟩ (.s .n (.s (.l ⟨[(4,2),(1,3),(2,13)],[.nat (.s 12)],[],[]⟩ FUEL .n) .n))) .n)) [.tmp 4, .tmp 5] (gc aI6 aD) func230 ntmps230 (λa _=>aF (aIg a.1 a.2)) (λ_=>by kernel_rfl)
def Ve:SU:=⟨[.sl 5,i6],[i6,i6, .bool],false,false,λ(a:(List Int)×Int)=>gd (aQ a.1) (some (rR a.1 a.2))⟩
def vH:OK 297 Ve:=mkS (.s .n (.s (.s (.rj 3 ⟨[(13,6)],[.dat (.s 18) .bool],[],[]⟩ .n) .n) (.s .n (.s .n (.s (.jx ⟨[(4,7),(8,42)],[],[],[]⟩ (.s .n (.s (.l ⟨[(4,7),(8,42)],[.dat (.s 7) i6, .dat (.s 8) i6, .nat (.s 9)],[],[]⟩ FUEL (.s .n (.s (.s (.s .n (.s .n (.s .n (.s .n (.s .n (.s (.s (.s (.rj 3 ⟨[(48,8)],[.dat (.s 55) .bool],[],[]⟩ .n) .n) .n) .n)))))) .n) .n))) .n))) .n))))) [.tmp 4, .tmp 5, .tmp 6] aD func297 ntmps297 (λa _=>aF (Su a.1 a.2)) (λ_=>by kernel_rfl)
def G5:SU:=⟨[.sl 5,i6,i6],[.sl 3,i6, .bool],true,false,λ(a:(List Int)×Int×Int)=>gd (aQ a.1) (some (fF a.1 a.2.1 a.2.2))⟩
def xV:OK 231 G5:=mkS (.s .n (.s (.s (.rj 3 ⟨[(16,14)],[.dat (.s 29) .bool],[],[]⟩ .n) .n) (.s .n (.s (.jx ⟨[(1,1),(4,8),(17,19)],[.dat (.s 1) i6, .tr (.s 9) 0 3 true],[],[]⟩ (.s .n (.s (.l ⟨[(1,1),(4,8),(17,19)],[.dat (.s 1) i6, .tr (.s 9) 0 3 true, .nat (.s 10)],[],[]⟩ FUEL .n) .n))) .n)))) [.tmp 6, .tmp 7, .tmp 8] (gc vH aD) func231 ntmps231 (λa _=>aF (Zk a.1 a.2.1 a.2.2)) (λ_=>by kernel_rfl)
def Fy:SU:=⟨[.st 50, .st 31],[i6, .bool],false,false,λ(a:D.aAH×D.aAD)=>gd (a.2.sz<=34359738368) (some (bF a.1 a.2))⟩
def Ga:OK 122 Fy:=mkS (.s .n (.s (.r none (od 12 [4,5,6])) (.s .n (.s .n (.s (.s (.rj 3 ⟨[(31,21)],[.dat (.s 51) .bool],[],[]⟩ (.r none (od 23 [20]))) .n) .n))))) [.tmp 4, .tmp 5] (gc bX (gc aI8 (gc xV (gc bM aD)))) func122 ntmps122 (λa _=>aF (Fg a.1 a.2)) (λ_=>by kernel_rfl)
def Oa:SU:=⟨[.sl 5],[.st 53, .bool],true,false,λ(a:(List Int))=>gd (aQ a) (some (vW a))⟩
def Oc:OK 232 Oa:=mkS (.s .n (.s .n (.s (.s (.rj 3 ⟨[(20,4)],[.dat (.s 23) .bool],[],[]⟩ .n) .n) (.s .n (.s (.s (.rj 3 ⟨[(36,6)],[.dat (.s 41) .bool],[],[]⟩ .n) .n) (.s .n (.s (.jx ⟨[(3,1),(6,2),(32,33)],[.nt (.c 1 0) 122 true],[],[]⟩ (.s .n (.s (.l ⟨[(3,1),(6,2),(32,33)],[.nat (.s 10), .nt (.c 1 0) 122 true],[],[]⟩ FUEL (.s .n (.s (.s (.s .n (.s .n (.r (some 17) (od 20 [16,17,18,19])))) .n) .n))) .n))) .n))))))) [.cell 2 53, .tmp 3] (gc vH (gcp xV (gc gU aD))) func232 ntmps232 (λ(a:(List Int)) _=>aF (Mv a)) (λ_=>by kernel_rfl)
def G6:SU:=⟨[i6, .st 102],[.st 53, .bool],true,false,λ(a:Int×D.aAA)=>gd (a.2.Data.length<=34359738200) (some (fK a.1 a.2))⟩
def G7:OK 123 G6:=mkS (.s .n (.s (.s (.rj 4 ⟨[(11,20)],[.dat (.s 30) .bool],[],[]⟩ (.r none (od 23 [1,6,12,20]))) .n) (.s (.y false (some 14) (some 15) [(0,true),(1,true),(2,true),(3,true),(4,true),(7,true),(8,true),(5,false),(6,false),(9,false),(10,false),(11,true),(12,true),(13,true),(14,false),(15,false),(16,true)]) .n))) [.cell 4 53, .tmp 5] (gc bM (gc dA (gc Aw (gc bX (gc Kj (gc Oc aD)))))) func123 ntmps123 (λa _=>aF (Zo a.1 a.2)) (λ_=>by kernel_rfl)
def Od:SU:=⟨[.st 53, .st 53],[.st 53, .bool],true,false,λ(a:D.aAC×D.aAC)=>gd (a.1.sz<=34359738368/\a.2.sz<=34359738368) (some (fJ a.1 a.2))⟩
def Oe:OK 124 Od:=mkS (.s .n (.s bF7 (.s .n (.s .n (.s .n (.s (.j ⟨[(7,4),(11,118)],[.nt (.c 3 0) 122 true],[],[]⟩ (.s (.l ⟨[(7,4),(11,118)],[.dat (.s 7) i6, .dat (.s 8) i6, .nt (.c 3 0) 122 true],[],[]⟩ FUEL (.s (.s (.rj 6 ⟨[(27,7)],[.dat (.s 33) .bool],[],[]⟩ .n) .n) (.s (.s (.s (.rj 6 ⟨[(71,1),(5,20)],[.dat (.s 71) .bool],[],[]⟩ (.r none (od 26 [22]))) (.s (.s (.r (some 8) (od 11 [7,8,9,10])) .n) (.s (.rj 6 ⟨[(109,1),(5,13)],[.dat (.s 109) .bool],[],[]⟩ (.r none (od 19 [16]))) (.s (.s (.r (some 8) (od 11 [7,8,9,10])) .n) (.s .n (.s .n (.s (.j ⟨[(44,17)],[.dat (.c 5 0) i6, .dat (.c 5 1) i6, .dat (.c 5 2) i6, .dat (.c 5 3) .bool],[],[]⟩ (.s (.rj 6 ⟨[(49,11)],[.dat (.s 59) .bool],[],[]⟩ .n) .n)) .n))))))) .n) .n))) .n)) .n)))))) [.cell 4 53, .tmp 5] (gc gU (gc kC (gc lU aD))) func124 ntmps124 (λa _=>aF (Ml a.1 a.2)) (λ_=>by kernel_rfl)
def G8:SU:=⟨[.st 55, .sl 141, .st 31, .st 102],[.st 55,i6],true,false,λ(a:D.Device×(List D.aAB)×D.aAD×D.aAA)=>gd (a.1.sz<=34359738368/\a.2.1.length<=34359738368/\a.2.2.1.sz<=34359738368/\a.2.2.2.Data.length<=34359738200) (some (bW a.1 a.2.1 a.2.2.1 a.2.2.2))⟩
def G9:OK 46 G8:=mkS (.s .n (.s .n (.s (.s (.rj 4 ⟨[(23,7)],[.dat (.s 29) .bool],[],[]⟩ .n) .n) (.s bFx (.s .n (.s .n (.s bF8 (.s bF6 (.s .n (.s .n (.s .n (.s .n bFo)))))))))))) [.cell 8 55, .tmp 9] (gc iE (gc gD (gc nG (gc jA (gc iO (gc Cq (gc kN (gc Ga (gc G7 (gc Oe (gc jB aD))))))))))) func46 ntmps46 (λa _=>aF (Zq a.1 a.2.1 a.2.2.1 a.2.2.2)) (λ_=>by kernel_rfl)
def Vf:SU:=⟨[.st 43],[i6],false,false,λ(a:D.World)=>some (aFd a)⟩
def Vg:OK 23 Vf:=mkS .n [.tmp 2] (gc bX aD) func23 ntmps23 (λa _=>(Tu a).trans) (λ_=>by kernel_rfl)
def H5:SU:=⟨[i6, .sl 3,i6],[i6],false,false,λ(a:Int×(List Int)×Int)=>gd (0<=a.2.2/\a.2.2<=1000/\a.2.1.length<=34359738368) (some (qO a.1 a.2.1 a.2.2))⟩
def H6:OK 234 H5:=mkS bFr [.tmp 6] (gc vD aD) func234 ntmps234 (λa _=>aF (Zg a.1 a.2.1 a.2.2)) (λ_=>by kernel_rfl)
def Vh:SU:=⟨[i6, .sl 3,i6],[.sl 173],true,false,λ(a:Int×(List Int)×Int)=>gd (a.2.1.length<=34359738368) (some (jT a.1 a.2.1 a.2.2))⟩
def Vi:OK 126 Vh:=mkS (.s .n (.s (.s (.rj 4 ⟨[(12,6)],[.dat (.s 17) .bool],[],[]⟩ .n) .n) (.s .n (.s (.j ⟨[(7,2),(10,14)],[.tr (.s 7) 0 173 true],[],[]⟩ (.s .n (.s (.l ⟨[(7,2),(10,14)],[.tr (.s 7) 0 173 true, .dat (.s 8) i6],[],[]⟩ FUEL .n) .n))) .n)))) [.tmp 6] (gc dA (gc H6 aD)) func126 ntmps126 (λa _=>aF (Tw a.1 a.2.1 a.2.2)) (λ_=>by kernel_rfl)
def Gb:SU:=⟨[i6],[.bool],false,false,λ(a:Int)=>some (Ie a)⟩
def Gc:OK 298 Gb:=mkS bF4 [.tmp 2] (gc dA (gc Cr aD)) func298 ntmps298 (λa _=>(Fq a).trans) (λ_=>by kernel_rfl)
def aEe:SU:=⟨[i6,i6],[i6],false,false,λ(a:Int×Int)=>some (lD a.1 a.2)⟩
def Eo:OK 235 aEe:=mkS .n [.tmp 4] (gc Gc (gc vD (gc Cr aD))) func235 ntmps235 (λa _=>(aDw a.1 a.2).trans) (λ_=>by kernel_rfl)
def Vj:SU:=⟨[i6,i6],[i6],false,false,λ(a:Int×Int)=>some (vY a.1 a.2)⟩
def Vk:OK 236 Vj:=mkS .n [.tmp 4] (gc dG (gc Eo aD)) func236 ntmps236 (λa _=>(Tt a.1 a.2).trans) (λ_=>by kernel_rfl)
def Og:SU:=⟨[i6,i6,i6],[i6],false,false,λ(a:Int×Int×Int)=>some (pF a.1 a.2.1 a.2.2)⟩
def Oh:OK 128 Og:=mkS .n [.tmp 6] (gc Vk (gc Eo aD)) func128 ntmps128 (λa _=>(Nh a.1 a.2.1 a.2.2).trans) (λ_=>by kernel_rfl)
def aA1:SU:=⟨[i6,i6],[i6],false,false,λ(a:Int×Int)=>some (lM a.1 a.2)⟩
def aA2:OK 127 aA1:=mkS .n [.tmp 4] (gc dG (gc Co aD)) func127 ntmps127 (λa _=>(Z9 a.1 a.2).trans) (λ_=>by kernel_rfl)
def aEf:SU:=⟨[.st 175],[i6],false,false,λ(a:D.aAP)=>some (qM a)⟩
def aEg:OK 237 aEf:=mkS .n [.tmp 2] aD func237 ntmps237 (λa _=>(aDn a).trans) (λ_=>by kernel_rfl)
def aA3:SU:=⟨[.st 175],[.st 178],true,false,λ(a:D.aAP)=>some (wF a)⟩
def aA4:OK 129 aA3:=mkS (.s .n (.s (.r (some 4) (od 5 [2,4])) .n)) [.cell 2 178] (gc aEg aD) func129 ntmps129 (λa _=>(aAb a).trans) (λ_=>by kernel_rfl)
def H7:SU:=⟨[i6,i6],[i6],false,false,λ(a:Int×Int)=>some (vZ a.1 a.2)⟩
def H8:OK 130 H7:=mkS .n [.tmp 4] (gc dG aD) func130 ntmps130 (λa _=>(p8 a.1 a.2).trans) (λ_=>by kernel_rfl)
def aI9:SU:=⟨[i6,i6],[i6],false,false,λ(a:Int×Int)=>some (Po a.1 a.2)⟩
def aJa:OK 131 aI9:=mkS .n [.tmp 4] (gc dA (gc bX aD)) func131 ntmps131 (λa _=>(aIp a.1 a.2).trans) (λ_=>by kernel_rfl)
def aA5:SU:=⟨[i6,i6,i6,i6, .sl 3,i6,i6],[.st 37, .sl 178, .bool],true,false,λ(a:Int×Int×Int×Int×(List Int)×Int×Int)=>gd (a.2.2.2.2.1.length<=34359738368) (some (mU a.1 a.2.1 a.2.2.1 a.2.2.2.1 a.2.2.2.2.1 a.2.2.2.2.2.1 a.2.2.2.2.2.2))⟩
def aA6:OK 47 aA5:=mkS (.s .n (.s (.s (.rj 4 ⟨[(25,20)],[.dat (.s 44) .bool],[],[]⟩ .n) .n) (.s .n (.s .n (.s .n (.s .n (.s (.j ⟨[(19,1),(1,1),(39,14)],[.tr (.s 19) 2 178 true],[],[]⟩ (.s .n (.s (.l ⟨[(19,1),(1,1),(41,12)],[.tr (.s 19) 2 178 true, .nat (.s 63)],[],[]⟩ FUEL .n) .n))) .n))))))) [.cell 14 37, .tmp 15, .tmp 16] (gc dA (gc bM (gc vD (gc Vi (gc Oh (gc aA2 (gc aA4 (gc H8 (gc aJa aD))))))))) func47 ntmps47 (λa _=>aF (aAd a.1 a.2.1 a.2.2.1 a.2.2.2.1 a.2.2.2.2.1 a.2.2.2.2.2.1 a.2.2.2.2.2.2)) (λ_=>by kernel_rfl)
def aEh:SU:=⟨[.st 178],[.st 178],true,false,λ(a:D.aAF)=>gd (a.sz<=34359738368) (some (a))⟩
def aEi:OK 238 aEh:=mkS .n [.cell 2 178] aD func238 ntmps238 (λ(a:D.aAF) _=>aF (aDi a)) (λ_=>by kernel_rfl)
def aA7:SU:=⟨[.sl 178],[.sl 178],true,false,λ(a:(List D.aAF))=>gd (szL D.aAF.sz a<=34359738368) (some (a))⟩
def aA8:OK 132 aA7:=mkS (.s .n (.s .n (.s (.j ⟨[(3,1),(1,1),(1,12)],[.tr (.s 3) 0 178 true],[],[]⟩ (.s .n (.s (.l ⟨[(3,1),(1,1),(3,10)],[.tr (.s 3) 0 178 true, .nat (.s 9)],[],[]⟩ FUEL .n) .n))) .n))) [.tmp 2] (gc aEi aD) func132 ntmps132 (λ(a:(List D.aAF)) _=>aF (X5 a)) (λ_=>by kernel_rfl)
def aEj:SU:=⟨[.st 41],[.st 41],true,false,λ(a:D.aAM)=>gd (a.sz<=34359738368) (some (a))⟩
def aEk:OK 133 aEj:=mkS .n [.cell 2 41] aD func133 ntmps133 (λ(a:D.aAM) _=>aF (aDj a)) (λ_=>by kernel_rfl)
def aA9:SU:=⟨[.st 43],[.st 43],true,false,λ(a:D.World)=>gd (a.sz<=34359738368) (some (a))⟩
def aBa:OK 48 aA9:=mkS (.s .n (.s (.y true (some 22) (some 23) [(0,true),(1,true),(2,true),(3,true),(5,true),(6,true),(8,true),(9,true),(11,true),(12,true),(13,true),(14,true),(16,true),(17,true),(18,true),(19,true),(4,false),(7,false),(10,false),(15,false),(20,false),(21,false),(22,false),(23,false)]) (.s (.j ⟨[(5,1),(24,15)],[.nt (.c 8 2) 55 true],[],[]⟩ (.s .n (.s (.l ⟨[(5,1),(27,12)],[.nat (.s 33), .nt (.c 8 2) 55 true],[],[]⟩ FUEL bEi) .n))) (.s (.j ⟨[(7,1),(37,15)],[.nt (.c 8 8) 64 true],[],[]⟩ (.s .n (.s (.l ⟨[(7,1),(40,12)],[.nat (.s 48), .nt (.c 8 8) 64 true],[],[]⟩ FUEL bEi) .n))) .n)))) [.cell 2 43] (gc Ay (gc aA8 (gc aEk (gc iE (gc qG aD))))) func48 ntmps48 (λ(a:D.World) _=>aF (X6 a)) (λ_=>by kernel_rfl)
def aEl:SU:=⟨[i6,i6,i6,i6,i6],[.st 43],true,false,λ(a:Int×Int×Int×Int×Int)=>some (aR a.1 a.2.1 a.2.2.1 a.2.2.2.1 a.2.2.2.2)⟩
def aEm:OK 7 aEl:=mkS (.s .n (.s (.s (.rj 4 ⟨[(34,21)],[.dat (.s 54) .bool],[],[]⟩ .n) .n) (.s .n (.s .n (.s (.j ⟨[(12,2),(48,31)],[.tr (.s 12) 3 141 true, .nt (.c 2 2) 55 true],[],[]⟩ (.s .n (.s (.l ⟨[(12,2),(48,31)],[.tr (.s 12) 3 141 true, .nat (.s 13), .nt (.c 2 2) 55 true],[],[]⟩ FUEL (.s .n (.s (.s (.s (.r (some 7) (od 10 [4,5,6,7,8,9])) (.r none [(0,true),(1,true),(2,true),(3,true),(4,true),(5,true),(6,true),(8,true),(9,true),(10,true),(11,true),(12,true),(7,false),(13,false),(14,true),(15,true),(16,true),(17,true)])) .n) .n))) .n))) (.s .n (.s .n (.s .n (.s (.j ⟨[(17,5),(86,42)],[.nt (.c 2 8) 64 false],[],[]⟩ (.s .n (.s (.l ⟨[(17,5),(86,42)],[.nat (.s 17), .nt (.c 2 8) 64 false],[],[]⟩ FUEL (.s .n (.s (.j ⟨[(18,4),(90,38)],[.tr (.c 2 8) 10 64 false],[],[]⟩ (.s (.s .n (.s (.j ⟨[(20,2),(101,21)],[.dat (.c 12 0) (.str), .dat (.c 12 1) (.sl 67), .dat (.c 12 2) i6, .dat (.c 12 3) i6, .dat (.c 12 4) (.sl 241), .dat (.c 12 5) (.sl 3)],[],[]⟩ (.s .n (.s (.l ⟨[(20,2),(104,18)],[.nat (.s 126), .dat (.c 12 0) (.str), .dat (.c 12 1) (.sl 67), .dat (.c 12 2) i6, .dat (.c 12 3) i6, .dat (.c 12 4) (.sl 241), .dat (.c 12 5) (.sl 3)],[],[]⟩ FUEL (.s .n (.s .n (.s (.s (.s .n (.y false none (some 12) [(0,true),(1,true),(2,true),(3,true),(4,true),(6,true),(5,false),(7,false),(8,false),(9,true),(10,true),(11,true),(12,false)])) .n) .n)))) .n))) .n)) .n)) .n))) .n))) (.s (.j ⟨[(22,1),(127,22)],[.tr (.c 2 2) 4 55 true],[],[]⟩ (.s .n (.s (.l ⟨[(22,1),(130,19)],[.nat (.s 153), .tr (.c 2 2) 4 55 true],[],[]⟩ FUEL (.s .n (.s .n (.s (.s (.s .n bCf) .n) .n)))) .n))) (.s (.j ⟨[(23,2),(147,23)],[.tr (.c 2 2) 4 55 true],[],[]⟩ (.s .n (.s (.l ⟨[(23,2),(147,23)],[.nat (.s 23), .tr (.c 2 2) 4 55 true],[],[]⟩ FUEL (.s .n (.s (.j ⟨[(24,1),(151,19)],[.tr (.c 2 2) 4 55 true],[],[]⟩ (.s (.s .n (.s (.l ⟨[(24,1),(151,19)],[.nat (.s 24), .tr (.c 2 2) 4 55 true],[],[]⟩ FUEL bJ1) .n)) .n)) .n))) .n))) (.s .n (.s .n (.s .n (.s (.j ⟨[(28,1),(187,21)],[.tr (.c 2 2) 4 55 true],[],[]⟩ (.s .n (.s (.l ⟨[(28,1),(187,21)],[.dat (.s 28) i6, .tr (.c 2 2) 4 55 true],[],[]⟩ FUEL (.s .n (.s (.s (.y false none (some 16) (od 17 [11,16])) .n) .n))) .n))) (.s .n (.s (.j ⟨[(29,2),(207,12)],[.tr (.s 29) 19 3 true],[],[]⟩ (.s .n (.s (.l ⟨[(29,2),(207,12)],[.tr (.s 29) 19 3 true, .dat (.s 30) i6],[],[]⟩ FUEL .n) .n))) .n))))))))))))))))) [.cell 10 43] (gc dA (gc bM (gc xR (gc aAk (gc iO (gc Ue (gc aD3 (gc Fv (gc aD5 (gc qF (gc bX (gcp aI3 (gc Uq (gc E8 (gcp Ux (gc F6 (gc Nt (gc Vd (gc Ny (gc G9 (gc Vg (gc aA6 (gc aBa aD))))))))))))))))))))))) func7 ntmps7 (λa _=>(aD0 a.1 a.2.1 a.2.2.1 a.2.2.2.1 a.2.2.2.2).trans) (λ_=>by kernel_rfl)
def aSh:SU:=⟨[i6,i6,i6],[.bool],false,false,λ(a:Int×Int×Int)=>some (bE a.1 a.2.1 a.2.2)⟩
def dC:OK 49 aSh:=mkS bF3 [.tmp 6] aD func49 ntmps49 (λa _=>(aR5 a.1 a.2.1 a.2.2).trans) (λ_=>by kernel_rfl)
def H9:SU:=⟨[i6],[.bool],false,false,λ(a:Int)=>some (bB a)⟩
def bU:OK 8 H9:=mkS .n [.tmp 2] (gc dC aD) func8 ntmps8 (λa _=>(Yx a).trans) (λ_=>by kernel_rfl)
def Gd:SU:=⟨[.st 41],[.bool],false,false,λ(a:D.aAM)=>gd (a.sz<=34359738368) (some (rT a))⟩
def Gf:OK 51 Gd:=mkS (.s .n (.s .n (.s (.jx ⟨[(2,3),(4,41)],[],[],[]⟩ (.s .n (.s (.l ⟨[(2,3),(7,38)],[.nat (.s 12)],[],[]⟩ FUEL (.s .n (.s .n (.s (.s (.s .n (.s (.rj 5 ⟨[(21,28)],[.dat (.s 48) .bool],[],[]⟩ (.r none (od 32 [2,7,13]))) .n)) .n) .n)))) .n))) .n))) [.tmp 2] (gc dA aD) func51 ntmps51 (λ(a:D.aAM) _=>aF (Fa a)) (λ_=>by kernel_rfl)
def Oi:SU:=⟨[.st 43],[.bool],false,false,λ(a:D.World)=>gd (a.sz<=34359738368) (some (eY a))⟩
def Oj:OK 9 Oi:=mkS (.s .n (.s (.s (.rj 5 ⟨[(9,22)],[.dat (.s 30) .bool],[],[]⟩ .n) .n) (.s (.jx ⟨[(2,3),(26,19)],[],[],[]⟩ (.s .n (.s (.l ⟨[(2,3),(29,16)],[.nat (.s 34)],[],[]⟩ FUEL (.s .n (.s .n (.s (.s (.s .n (.s (.rj 4 ⟨[(42,7)],[.dat (.s 48) .bool],[],[]⟩ (.r none (od 10 [1,7]))) .n)) .n) .n)))) .n))) (.s (.rj 4 ⟨[(2,1),(50,11)],[.dat (.s 2) .bool],[],[]⟩ .n) .n)))) [.tmp 2] (gc dA (gc lT (gc qF (gc Gf (gc gD (gc bM aD)))))) func9 ntmps9 (λ(a:D.World) _=>aF (Mo a)) (λ_=>by kernel_rfl)
def aUo:SU:=⟨[i6,i6],[i6],false,false,λ(a:Int×Int)=>some (dW a.1 a.2)⟩
def vI:OK 175 aUo:=mkS .n [.tmp 4] (gc dC aD) func175 ntmps175 (λa _=>(aT7 a.1 a.2).trans) (λ_=>by kernel_rfl)
def aSi:SU:=⟨[.sl 3],[i6],false,false,λ(a:(List Int))=>gd (a.length<=1099511627776) (some (qI a))⟩
def aCy:OK 243 aSi:=mkS (.s .n (.s .n (.s (.j ⟨[(3,18)],[.dat (.s 3) i6],[],[]⟩ (.s .n (.s (.l ⟨[(3,18)],[.dat (.s 3) i6, .nat (.s 4)],[],[]⟩ FUEL .n) .n))) .n))) [.tmp 2] (gc vI aD) func243 ntmps243 (λ(a:(List Int)) _=>aF (aR6 a)) (λ_=>by kernel_rfl)
def aBb:SU:=⟨[i6, .sl 3],[i6],false,false,λ(a:Int×(List Int))=>gd (a.2.length<=34359738368) (some (aX a.1 a.2))⟩
def dH:OK 173 aBb:=mkS .n [.tmp 4] (gc aCy aD) func173 ntmps173 (λa _=>aF (U6 a.1 a.2)) (λ_=>by kernel_rfl)
def aUp:SU:=⟨[i6,i6],[i6],false,false,λ(a:Int×Int)=>some (aOq a.1 a.2)⟩
def Vl:OK 172 aUp:=mkS .n [.tmp 4] aD func172 ntmps172 (λa _=>(aT9 a.1 a.2).trans) (λ_=>by kernel_rfl)
def aBc:SU:=⟨[i6, .sl 3],[i6],false,false,λ(a:Int×(List Int))=>gd (a.2.length<=34359738300) (some (aO a.1 a.2))⟩
def dY:OK 72 aBc:=mkS .n [.tmp 4] (gc dH (gc Vl aD)) func72 ntmps72 (λa _=>aF (U8 a.1 a.2)) (λ_=>by kernel_rfl)
def I1:SU:=⟨[i6,i6],[.st 50],false,false,λ(a:Int×Int)=>some (aN a.1 a.2)⟩
def I4:OK 59 I1:=mkS .n [.cell 4 50] (gc dY aD) func59 ntmps59 (λa _=>(Zw a.1 a.2).trans) (λ_=>by kernel_rfl)
def aBd:SU:=⟨[.st 50],[.st 55],true,false,λ(a:D.aAH)=>some (bQ a)⟩
def aBe:OK 58 aBd:=mkS .n [.cell 2 55] aD func58 ntmps58 (λa _=>(Y9 a).trans) (λ_=>by kernel_rfl)
def aBf:SU:=⟨[.st 50],[i6],false,false,λ(a:D.aAH)=>some (eX a)⟩
def oU:OK 151 aBf:=mkS .n [.tmp 2] (gc dY aD) func151 ntmps151 (λa _=>(V5 a).trans) (λ_=>by kernel_rfl)
def aBg:SU:=⟨[i6],[i6],false,false,λ(a:Int)=>some (bP a)⟩
def kW:OK 150 aBg:=mkS .n [.tmp 2] (gc bU aD) func150 ntmps150 (λa _=>(V3 a).trans) (λ_=>by kernel_rfl)
def Ol:SU:=⟨[.st 50],[i6],false,false,λ(a:D.aAH)=>some (bC a)⟩
def lG:OK 61 Ol:=mkS .n [.tmp 2] (gc oU (gc kW aD)) func61 ntmps61 (λa _=>(Mi a).trans) (λ_=>by kernel_rfl)
def aBh:SU:=⟨[.st 141],[i6],false,false,λ(a:D.aAB)=>some (bJ a)⟩
def oV:OK 148 aBh:=mkS .n [.tmp 2] (gc aCy aD) func148 ntmps148 (λa _=>(X7 a).trans) (λ_=>by kernel_rfl)
def aJb:SU:=⟨[.sl 141],[i6],false,false,λ(a:(List D.aAB))=>gd (a.length<=34359738368) (some (eG a))⟩
def Kk:OK 146 aJb:=mkS .n [.tmp 2] (gc oV aD) func146 ntmps146 (λ(a:(List D.aAB)) _=>aF (aH2 a)) (λ_=>by kernel_rfl)
def Vm:SU:=⟨[i6, .sl 3],[i6],false,false,λ(a:Int×(List Int))=>gd (a.2.length<=34359738300) (some (vV a.1 a.2))⟩
def vJ:OK 242 Vm:=mkS .n [.tmp 4] (gc bU (gc dH aD)) func242 ntmps242 (λa _=>aF (Rz a.1 a.2)) (λ_=>by kernel_rfl)
def Om:SU:=⟨[.st 50, .sl 3],[i6],false,false,λ(a:D.aAH×(List Int))=>gd (a.2.length<=34359738300) (some (iC a.1 a.2))⟩
def Oo:OK 147 Om:=mkS .n [.tmp 4] (gc oU (gc vJ aD)) func147 ntmps147 (λa _=>aF (Nc a.1 a.2)) (λ_=>by kernel_rfl)
def aJc:SU:=⟨[.sl 141],[.sl 141],true,false,λ(a:(List D.aAB))=>gd (a.length<=34359738368) (some (a))⟩
def jC:OK 149 aJc:=mkS .n [.tmp 2] aD func149 ntmps149 (λ(a:(List D.aAB)) _=>aF (aHs a)) (λ_=>by kernel_rfl)
def aLj:SU:=⟨[.sl 3,i6],[.bool],false,false,λ(a:(List Int)×Int)=>gd (a.1.length<=1099511627776) (some (fM a.1 a.2))⟩
def yF:OK 245 aLj:=mkS (.s .n (.s (.jx ⟨[(4,14)],[],[],[]⟩ (.s .n (.s (.l ⟨[(4,14)],[.nat (.s 5)],[],[]⟩ FUEL .n) .n))) .n)) [.tmp 4] aD func245 ntmps245 (λa _=>aF (aKu a.1 a.2)) (λ_=>by kernel_rfl)
def aBi:SU:=⟨[.sl 141],[.sl 3],true,false,λ(a:(List D.aAB))=>gd (a.length<=34359738368) (some (aB a))⟩
def kX:OK 154 aBi:=mkS (.s .n (.s .n (.s (.j ⟨[(3,5),(1,56)],[.tr (.s 3) 0 3 true],[],[]⟩ (.s .n (.s (.l ⟨[(3,5),(1,56)],[.tr (.s 3) 0 3 true, .nat (.s 4)],[],[]⟩ FUEL (.s .n (.s (.j ⟨[(3,1),(1,3),(7,50)],[.tr (.s 3) 0 3 true],[],[]⟩ (.s (.s .n (.s (.s (.rj 7 ⟨[(20,1),(6,6)],[.dat (.s 20) .bool],[],[]⟩ .n) (.s .n (.s .n (.s (.s .n (.s (.j ⟨[(6,2),(37,19)],[.tr (.s 6) 1 3 true],[],[]⟩ (.s .n (.s (.l ⟨[(6,2),(37,19)],[.tr (.s 6) 1 3 true, .nat (.s 7)],[],[]⟩ FUEL (.s .n (.s (.j ⟨[(6,1),(44,13)],[.tr (.s 6) 1 3 true],[],[]⟩ .n) .n))) .n))) .n)) .n)))) .n)) .n)) .n))) .n))) .n))) [.tmp 2] (gc yF aD) func154 ntmps154 (λ(a:(List D.aAB)) _=>aF (V6 a)) (λ_=>by kernel_rfl)
def aJd:SU:=⟨[i6,i6],[i6],false,false,λ(a:Int×Int)=>mX a.1 a.2⟩
def aJe:OK 320 aJd:=mkS bJ0 [.tmp 4] aD func320 ntmps320 (λ_ _=>id) (λ_=>by kernel_rfl)
def I5:SU:=⟨[i6],[i6],false,false,λ(a:Int)=>some (dL a)⟩
def nH:OK 288 I5:=mkS .n [.tmp 2] (gc dC (gc aJe (gc kW aD))) func288 ntmps288 (λa _=>(Zc a).trans) (λ_=>by kernel_rfl)
def Cu:SU:=⟨[i6, .sl 3,i6],[.bool],false,false,λ(a:Int×(List Int)×Int)=>gd (a.2.1.length<=34359738300) (some (fQ a.1 a.2.1 a.2.2))⟩
def Cw:OK 289 Cu:=mkS bF1 [.tmp 6] (gc nH (gc vJ aD)) func289 ntmps289 (λa _=>aF (Ci a.1 a.2.1 a.2.2)) (λ_=>by kernel_rfl)
def aJf:SU:=⟨[.sl 141, .st 141],[.bool],false,false,λ(a:(List D.aAB)×D.aAB)=>gd (a.1.length<=34359738368) (some (jY a.1 a.2))⟩
def aJg:OK 209 aJf:=mkS (.s .n (.s .n (.s (.rj 5 ⟨[(6,1),(7,12)],[.dat (.s 6) .bool],[],[]⟩ .n) (.s (.s (.rj 6 ⟨[(31,22)],[.dat (.s 52) .bool],[],[]⟩ (.r none [(0,true),(1,true),(2,true),(3,true),(4,true),(5,true),(6,true),(7,true),(8,true),(9,false),(10,true),(11,true),(12,true),(13,true),(14,true),(15,true),(16,true),(17,true),(18,true),(19,true),(22,true),(23,true),(20,false),(21,false),(24,false),(25,true),(26,true)])) .n) (.s (.s .n (.s (.s (.rj 5 ⟨[(4,1),(55,5)],[.dat (.s 4) .bool],[],[]⟩ .n) .n) .n)) (.s (.jx ⟨[(4,1),(2,1),(57,22)],[],[],[]⟩ (.s .n (.s (.l ⟨[(4,1),(2,1),(57,22)],[.nat (.s 7)],[],[]⟩ FUEL (.s .n (.s (.s (.s (.rj 7 ⟨[(77,10)],[.dat (.s 86) .bool],[],[]⟩ (.r none (od 16 []))) .n) .n) .n))) .n))) (.s (.rj 4 ⟨[(4,1),(85,12)],[.dat (.s 4) .bool],[],[]⟩ .n) .n))))))) [.tmp 4] (gc kX (gc yF (gc Kk (gc oV (gc Cw aD))))) func209 ntmps209 (λa _=>aF (aH7 a.1 a.2)) (λ_=>by kernel_rfl)
def aBj:SU:=⟨[.sl 141],[.bool],false,false,λ(a:(List D.aAB))=>gd (a.length<=34359738368) (some (aV a))⟩
def jD:OK 93 aBj:=mkS (.s .n (.s (.jx ⟨[(2,17)],[],[],[]⟩ (.s .n (.s (.l ⟨[(2,17)],[.nat (.s 3)],[],[]⟩ FUEL (.s .n (.s (.s (.s (.r none (od 9 [7])) .n) .n) .n))) .n))) .n)) [.tmp 2] (gc aJg (gc dC aD)) func93 ntmps93 (λ(a:(List D.aAB)) _=>aF (X9 a)) (λ_=>by kernel_rfl)
def Vn:SU:=⟨[.sl 141,i6,i6, .st 50],[.sl 141, .bool],true,false,λ(a:(List D.aAB)×Int×Int×D.aAH)=>gd (a.1.length<=34359738300) (some (iM a.1 a.2.1 a.2.2.1 a.2.2.2))⟩
def Vo:OK 60 Vn:=mkS (.s .n (.s .n (.s (.r (some 6) (od 7 [2,3,4,6])) (.s bFw (.s (.s (.rj 4 ⟨[(35,10)],[.dat (.s 44) .bool],[],[]⟩ .n) .n) .n))))) [.tmp 8, .tmp 9] (gc lG (gc Kk (gc oV (gc Oo (gc jC (gc jD aD)))))) func60 ntmps60 (λa _=>aF (Te a.1 a.2.1 a.2.2.1 a.2.2.2)) (λ_=>by kernel_rfl)
def aEn:SU:=⟨[i6,i6],[i6],false,false,λ(a:Int×Int)=>some (bH a.1 a.2)⟩
def aEo:OK 62 aEn:=mkS .n [.tmp 4] (gc dY aD) func62 ntmps62 (λa _=>(aDt a.1 a.2).trans) (λ_=>by kernel_rfl)
def aJh:SU:=⟨[.sl 141],[i6],false,false,λ(a:(List D.aAB))=>gd (a.length<=34359738368) (some (aJ a))⟩
def kP:OK 152 aJh:=mkS (.s .n (.s .n (.s (.j ⟨[(3,16)],[.dat (.s 3) i6],[],[]⟩ (.s .n (.s (.l ⟨[(3,16)],[.dat (.s 3) i6, .nat (.s 4)],[],[]⟩ FUEL (.s .n (.s (.j ⟨[(3,1),(7,8)],[.dat (.s 3) i6],[],[]⟩ .n) .n))) .n))) .n))) [.tmp 2] aD func152 ntmps152 (λ(a:(List D.aAB)) _=>aF (aH9 a)) (λ_=>by kernel_rfl)
def Kl:SU:=⟨[.sl 5,i6],[.sl 5],true,false,λ(a:(List Int)×Int)=>gd (a.1.length<=34359738300) (some (mQ a.1 a.2))⟩
def Km:OK 246 Kl:=mkS (.s .n (.s .n (.s .n (.s (.j ⟨[(1,1),(3,1),(7,11)],[.dat (.s 1) i6, .tr (.s 5) 0 5 true],[],[]⟩ (.s (.l ⟨[(1,1),(3,1),(7,11)],[.dat (.s 1) i6, .tr (.s 5) 0 5 true],[],[]⟩ FUEL .n) .n)) .n)))) [.tmp 4] (gc dC aD) func246 ntmps246 (λa _=>aF (Jv a.1 a.2)) (λ_=>by kernel_rfl)
def I6:SU:=⟨[.sl 3],[.sl 5],true,false,λ(a:(List Int))=>gd (a.length<=5000000000) (some (eU a))⟩
def xW:OK 155 I6:=mkS (.s .n (.s .n (.s (.j ⟨[(3,2),(1,12)],[.tr (.s 3) 0 5 true],[],[]⟩ (.s .n (.s (.l ⟨[(3,2),(1,12)],[.tr (.s 3) 0 5 true, .nat (.s 4)],[],[]⟩ FUEL .n) .n))) .n))) [.tmp 2] (gc Km aD) func155 ntmps155 (λ(a:(List Int)) _=>aF (Zm a)) (λ_=>by kernel_rfl)
def aLk:SU:=⟨[i6,i6],[i6],false,false,λ(a:Int×Int)=>some (dU a.1 a.2)⟩
def Qm:OK 300 aLk:=mkS .n [.tmp 4] (gc dY aD) func300 ntmps300 (λa _=>(aK3 a.1 a.2).trans) (λ_=>by kernel_rfl)
def aJi:SU:=⟨[i6, .sl 5],[.sl 5],true,false,λ(a:Int×(List Int))=>gd (aQ a.2) (some (iW a.1 a.2))⟩
def Kn:OK 257 aJi:=mkS (.s .n (.s .n (.s (.j ⟨[(5,2),(1,22)],[.tr (.s 5) 0 5 true],[],[]⟩ (.s .n (.s (.l ⟨[(5,2),(1,22)],[.tr (.s 5) 0 5 true, .nat (.s 6)],[],[]⟩ FUEL (.s .n (.s (.s (.r (some 15) (od 17 [8,9,14,15,16])) .n) .n))) .n))) .n))) [.tmp 4] (gc dH aD) func257 ntmps257 (λa _=>aF (aIj a.1 a.2)) (λ_=>by kernel_rfl)
def Vp:SU:=⟨[.sl 5],[.sl 3],true,false,λ(a:(List Int))=>gd (a.length<=34359738360) (some (qD a))⟩
def lV:OK 181 Vp:=mkS (.s .n (.s .n (.s (.j ⟨[(3,2),(3,14)],[.tr (.s 3) 0 3 true],[],[]⟩ (.s .n (.s (.l ⟨[(3,2),(3,14)],[.tr (.s 3) 0 3 true, .nat (.s 4)],[],[]⟩ FUEL .n) .n))) .n))) [.tmp 2] aD func181 ntmps181 (λ(a:(List Int)) _=>aF (Sk a)) (λ_=>by kernel_rfl)
def aLl:SU:=⟨[i6, .st 212],[i6],false,false,λ(a:Int×D.Box)=>gd (a.2.Data.length<=34359738200) (some (Ex a.1 a.2))⟩
def Qn:OK 301 aLl:=mkS bFl [.tmp 4] (gc lV (gc dH aD)) func301 ntmps301 (λa _=>aF (aK4 a.1 a.2)) (λ_=>by kernel_rfl)
def aJj:SU:=⟨[i6,i6, .sl 5],[.st 212, .bool],true,false,λ(a:Int×Int×(List Int))=>gd (aQ a.2.2) (some (dM a.1 a.2.1 a.2.2))⟩
def aJk:OK 244 aJj:=mkS bFz [.cell 6 212, .tmp 7] (gc nH (gc bU (gc Qm (gc Kn (gc Qn aD))))) func244 ntmps244 (λa _=>aF (aIl a.1 a.2.1 a.2.2)) (λ_=>by kernel_rfl)
def aBk:SU:=⟨[.sl 3,i6, .sl 5],[.sl 212, .bool],true,false,λ(a:(List Int)×Int×(List Int))=>gd (a.1.length<=34359738300/\aQ a.2.2) (some (dN a.2.1 a.2.2 0 a.1))⟩
def aBl:OK 153 aBk:=mkS (.s .n (.s .n (.s (.jx ⟨[(6,6),(1,25)],[.tr (.s 8) 0 212 true],[],[]⟩ (.s .n (.s (.l ⟨[(6,6),(1,25)],[.tr (.s 8) 0 212 true, .nat (.s 9)],[],[]⟩ FUEL .n) .n))) .n))) [.tmp 6, .tmp 7] (gc aJk aD) func153 ntmps153 (λa _=>aF (Z4 a.1 a.2.1 a.2.2)) (λ_=>by kernel_rfl)
def Gg:SU:=⟨[.sl 141,i6,i6],[.st 31, .bool],true,false,λ(a:(List D.aAB)×Int×Int)=>gd (a.1.length<=34359738300) (some (bK a.1 a.2.1 a.2.2))⟩
def Gh:OK 63 Gg:=mkS (.s .n (.s .n (.s .n (.s (.s (.rj 4 ⟨[(27,9)],[.dat (.s 35) .bool],[],[]⟩ .n) .n) .n)))) [.cell 6 31, .tmp 7] (gc kP (gc kX (gc xW (gc aBl (gc jD (gc bU aD)))))) func63 ntmps63 (λa _=>aF (Fh a.1 a.2.1 a.2.2)) (λ_=>by kernel_rfl)
def I7:SU:=⟨[.st 31,i6],[i6],false,false,λ(a:D.aAD×Int)=>gd (a.1.Boxes.length<=34359738368) (some (iN a.1 a.2))⟩
def I8:OK 247 I7:=mkS (.s .n (.s .n (.s (.j ⟨[(5,19)],[.dat (.s 5) i6],[],[]⟩ (.s .n (.s (.l ⟨[(5,19)],[.dat (.s 5) i6, .nat (.s 6)],[],[]⟩ FUEL (.s .n (.s (.j ⟨[(5,1),(8,10)],[.dat (.s 5) i6],[],[]⟩ .n) .n))) .n))) .n))) [.tmp 4] aD func247 ntmps247 (λa _=>aF (d9 a.1 a.2)) (λ_=>by kernel_rfl)
def aBm:SU:=⟨[.st 31, .sl 141],[.bool],false,false,λ(a:D.aAD×(List D.aAB))=>gd (a.1.Boxes.length<=34359738368/\a.2.length<=34359738368) (some (fZ a.1 a.2))⟩
def aBn:OK 156 aBm:=mkS (.s .n (.s .n (.s (.jx ⟨[(4,1),(1,1),(2,13)],[],[],[]⟩ (.s .n (.s (.l ⟨[(4,1),(1,1),(2,13)],[.nat (.s 6)],[],[]⟩ FUEL (.s .n (.s (.s (.s (.r none (od 7 [5])) .n) .n) .n))) .n))) (.s (.rj 6 ⟨[(4,1),(22,8)],[.dat (.s 4) .bool],[],[]⟩ (.r none (od 14 [3]))) .n)))) [.tmp 4] (gc kX (gc I8 (gc kP aD))) func156 ntmps156 (λa _=>aF (Z6 a.1 a.2)) (λ_=>by kernel_rfl)
def aJl:SU:=⟨[.st 31],[.st 31],true,false,λ(a:D.aAD)=>gd (a.sz<=34359738368) (some (a))⟩
def Ko:OK 157 aJl:=mkS (.s .n (.s .n (.s (.j ⟨[(4,2),(3,27)],[.nt (.c 2 1) 212 true],[],[]⟩ (.s .n (.s (.l ⟨[(4,2),(3,27)],[.nat (.s 4), .nt (.c 2 1) 212 true],[],[]⟩ FUEL .n) .n))) .n))) [.cell 2 31] aD func157 ntmps157 (λ(a:D.aAD) _=>aF (aHv a)) (λ_=>by kernel_rfl)
def aEp:SU:=⟨[.sl 141, .st 31],[.st 34, .bool],true,false,λ(a:(List D.aAB)×D.aAD)=>gd (a.1.length<=34359738368/\a.2.sz<=34359738368) (some (bT a.1 a.2))⟩
def aEq:OK 64 aEp:=mkS bFm [.cell 4 34, .tmp 5] (gc jD (gc aBn (gc jC (gc Ko aD)))) func64 ntmps64 (λa _=>aF (aDx a.1 a.2)) (λ_=>by kernel_rfl)
def aEr:SU:=⟨[i6],[.str],false,false,λ(a:Int)=>some (aC a)⟩
def aEs:OK 68 aEr:=mkS .n [.tmp 2] aD func68 ntmps68 (λa _=>(aDk a).trans) (λ_=>by kernel_rfl)
def aEt:SU:=⟨[.str],[.sl 9],true,false,λ(a:ByteArray)=>gd (a.size<=34359738368) (some (bD a))⟩
def Ep:OK 249 aEt:=mkS (.s .n (.s .n (.s .n (.s (.j ⟨[(3,3),(1,25)],[.tr (.s 3) 0 9 true],[],[]⟩ (.s .n (.s (.l ⟨[(3,3),(1,25)],[.tr (.s 3) 0 9 true, .dat (.s 4) i6, .dat (.s 5) i6],[],[]⟩ FUEL (.s .n (.s (.j ⟨[(3,2),(8,19)],[.tr (.s 3) 0 9 true, .dat (.s 4) i6],[],[]⟩ (.s (.s (.rj 5 ⟨[(17,6)],[.dat (.s 22) .bool],[],[]⟩ .n) .n) .n)) .n))) .n))) .n)))) [.tmp 2] aD func249 ntmps249 (λ(a:ByteArray) _=>aF (aDm a)) (λ_=>by kernel_rfl)
def aJm:SU:=⟨[.str],[.bool],false,false,λ(a:ByteArray)=>gd (a.size<=34359738368) (some (pR a))⟩
def aJn:OK 302 aJm:=mkS (.s .n (.s (.jx ⟨[(2,39)],[],[],[]⟩ (.s .n (.s (.l ⟨[(2,39)],[.nat (.s 3)],[],[]⟩ FUEL (.s .n (.s (.s (.s (.rj 5 ⟨[(4,1),(10,24)],[.dat (.s 4) .bool],[],[]⟩ .n) .n) .n) .n))) .n))) (.s (.rj 4 ⟨[(2,1),(41,13)],[.dat (.s 2) .bool],[],[]⟩ .n) .n))) [.tmp 2] (gc dC aD) func302 ntmps302 (λ(a:ByteArray) _=>aF (aH5 a)) (λ_=>by kernel_rfl)
def aLm:SU:=⟨[.str],[.bool],false,false,λ(a:ByteArray)=>gd (a.size<=34359738368) (some (fU a))⟩
def aLn:OK 248 aLm:=mkS (.s .n (.s .n (.s (.jx ⟨[(2,1),(1,1),(2,12)],[],[],[]⟩ (.s .n (.s (.l ⟨[(2,1),(1,1),(2,12)],[.nat (.s 4)],[],[]⟩ FUEL .n) .n))) .n))) [.tmp 2] (gc Ep (gc aJn aD)) func248 ntmps248 (λ(a:ByteArray) _=>aF (aKy a)) (λ_=>by kernel_rfl)
def aJo:SU:=⟨[.str,i6],[.st 64],true,false,λ(a:ByteArray×Int)=>gd (a.1.size<=34359738368) (some (dB a.1 a.2))⟩
def Kq:OK 159 aJo:=mkS (.s .n (.s (.s (.rj 4 ⟨[(8,11)],[.dat (.s 18) .bool],[],[]⟩ .n) .n) .n)) [.cell 4 64] (gc aLn (gc Ep (gc bU aD))) func159 ntmps159 (λa _=>aF (aH6 a.1 a.2)) (λ_=>by kernel_rfl)
def aJp:SU:=⟨[.st 67],[.st 67],true,false,λ(a:D.aAG)=>gd (a.sz<=34359738368) (some (a))⟩
def Kr:OK 278 aJp:=mkS .n [.cell 2 67] aD func278 ntmps278 (λ(a:D.aAG) _=>aF (aHy a)) (λ_=>by kernel_rfl)
def aJq:SU:=⟨[.st 61],[.st 61],true,false,λ(a:D.aAE)=>gd (a.sz<=34359738368) (some (a))⟩
def aJr:OK 279 aJq:=mkS .n [.cell 2 61] aD func279 ntmps279 (λ(a:D.aAE) _=>aF (aHz a)) (λ_=>by kernel_rfl)
def aJs:SU:=⟨[.st 64],[.st 64],true,false,λ(a:D.Site)=>gd (a.sz<=34359738368) (some (a))⟩
def Kt:OK 189 aJs:=mkS (.s .n (.s .n (.s .n (.s (.j ⟨[(4,1),(3,18)],[.tr (.c 2 1) 3 67 true],[],[]⟩ (.s .n (.s (.l ⟨[(4,1),(3,18)],[.nat (.s 4), .tr (.c 2 1) 3 67 true],[],[]⟩ FUEL bF5) .n))) .n)))) [.cell 2 64] (gc Kr (gc aJr aD)) func189 ntmps189 (λ(a:D.Site) _=>aF (aH0 a)) (λ_=>by kernel_rfl)
def Gi:SU:=⟨[.st 67],[.bool],false,false,λ(a:D.aAG)=>gd (a.sz<=34359738368) (some (aU a))⟩
def oC:OK 207 Gi:=mkS (.s .n (.s (.jx ⟨[(2,62)],[],[],[]⟩ (.s .n (.s (.l ⟨[(2,62)],[.nat (.s 3)],[],[]⟩ FUEL (.s .n (.s (.jx ⟨[(2,1),(1,2),(7,51)],[],[],[]⟩ (.s (.s .n (.s (.s (.rj 5 ⟨[(22,28)],[.dat (.s 49) .bool],[],[]⟩ (.r none (od 32 [2,23,29]))) .n) (.s .n (.s (.l ⟨[(2,1),(2,1),(44,14)],[.nat (.s 5)],[],[]⟩ FUEL (.s .n (.s (.s (.s (.r none (od 9 [])) .n) .n) .n))) .n)))) .n)) .n))) .n))) (.s (.rj 4 ⟨[(2,1),(64,11)],[.dat (.s 2) .bool],[],[]⟩ .n) .n))) [.tmp 2] (gc dC (gc nH aD)) func207 ntmps207 (λ(a:D.aAG) _=>aF (Fb a)) (λ_=>by kernel_rfl)
def Vq:SU:=⟨[.st 61],[.bool],false,false,λ(a:D.aAE)=>gd (a.sz<=34359738368) (some (gP a))⟩
def Vr:OK 208 Vq:=mkS (.s .n (.s (.jx ⟨[(2,50)],[],[],[]⟩ (.s .n (.s (.l ⟨[(2,50)],[.nat (.s 3)],[],[]⟩ FUEL (.s .n (.s (.s (.s .n (.s (.rj 8 ⟨[(24,28)],[.dat (.s 51) .bool],[],[]⟩ (.r none (od 35 [5,26,32]))) .n)) .n) .n))) .n))) (.s (.rj 4 ⟨[(2,1),(52,6)],[.dat (.s 2) .bool],[],[]⟩ .n) .n))) [.tmp 2] (gc dC aD) func208 ntmps208 (λ(a:D.aAE) _=>aF (Sb a)) (λ_=>by kernel_rfl)
def Vs:SU:=⟨[.st 64],[.bool],false,false,λ(a:D.Site)=>gd (a.sz<=34359738368) (some (cO a))⟩
def vK:OK 91 Vs:=mkS (.s .n (.s (.jx ⟨[(2,36)],[],[],[]⟩ (.s .n (.s (.l ⟨[(2,36)],[.nat (.s 3)],[],[]⟩ FUEL (.s .n (.s (.s (.s (.rj 8 ⟨[(18,20)],[.dat (.s 37) .bool],[],[]⟩ (.r none (od 27 [5]))) .n) .n) .n))) .n))) (.s (.rj 9 ⟨[(2,1),(43,11)],[.dat (.s 2) .bool],[],[]⟩ .n) .n))) [.tmp 2] (gc oC (gc Kq (gc Vr aD))) func91 ntmps91 (λ(a:D.Site) _=>aF (Si a)) (λ_=>by kernel_rfl)
def Vt:SU:=⟨[.st 64,i6,i6],[.st 64, .bool],false,false,λ(a:D.Site×Int×Int)=>gd (a.1.sz<=34359738300) (some (fO a.1 a.2.1 a.2.2))⟩
def Vu:OK 158 Vt:=mkS bJy [.cell 6 64, .tmp 7] (gcp Kt (gc vK aD)) func158 ntmps158 (λa _=>aF (Tx a.1 a.2.1 a.2.2)) (λ_=>by kernel_rfl)
def Az:SU:=⟨[i6, .str],[i6],false,false,λ(a:Int×ByteArray)=>gd (a.2.size<=34359738300) (some (lJ a.1 a.2))⟩
def Ba:OK 74 Az:=mkS .n [.tmp 4] (gc lV (gc dH (gc Vl (gc (aWa 1000022) aD)))) func74 ntmps74 (λa _=>aF (Ap a.1 a.2)) (λ_=>by kernel_rfl)
def aEu:SU:=⟨[.str],[i6],false,false,λ(a:ByteArray)=>gd (a.size<=34359738300) (some (aY a))⟩
def qH:OK 13 aEu:=mkS .n [.tmp 2] (gc Ba aD) func13 ntmps13 (λ(a:ByteArray) _=>aF (aDo a)) (λ_=>by kernel_rfl)
def Vv:SU:=⟨[.st 50, .str,i6],[i6],false,false,λ(a:D.aAH×ByteArray×Int)=>gd (a.2.1.size<=34359738300) (some (dQ a.1 a.2.1 a.2.2))⟩
def Vw:OK 252 Vv:=mkS bFv [.tmp 6] (gc qH (gc dY aD)) func252 ntmps252 (λa _=>aF (Tc a.1 a.2.1 a.2.2)) (λ_=>by kernel_rfl)
def I9:SU:=⟨[.st 50, .str,i6],[i6],false,false,λ(a:D.aAH×ByteArray×Int)=>gd (a.2.1.size<=34359738300) (some (eZ a.1 a.2.1 a.2.2))⟩
def J2:OK 161 I9:=mkS .n [.tmp 6] (gc Vw (gc kW aD)) func161 ntmps161 (λa _=>aF (Zy a.1 a.2.1 a.2.2)) (λ_=>by kernel_rfl)
def Vx:SU:=⟨[.st 64,i6],[i6],false,false,λ(a:D.Site×Int)=>gd (a.1.Accounts.length<=34359738368) (some (aL a.1 a.2))⟩
def Vy:OK 250 Vx:=mkS (.s .n (.s (.jx ⟨[(4,18)],[],[],[]⟩ (.s .n (.s (.l ⟨[(4,18)],[.nat (.s 5)],[],[]⟩ FUEL .n) .n))) .n)) [.tmp 4] aD func250 ntmps250 (λa _=>aF (Tg a.1 a.2)) (λ_=>by kernel_rfl)
def Ku:SU:=⟨[.st 67,i6,i6],[.st 67, .bool],true,false,λ(a:D.aAG×Int×Int)=>gd (a.1.sz<=34359738300) (some (dS a.1 a.2.1 a.2.2))⟩
def Kv:OK 251 Ku:=mkS bJy [.cell 6 67, .tmp 7] (gc Kr (gc oC aD)) func251 ntmps251 (λa _=>aF (Jy a.1 a.2.1 a.2.2)) (λ_=>by kernel_rfl)
def Vz:SU:=⟨[.st 64,i6,i6,i6],[.st 64, .bool],true,false,λ(a:D.Site×Int×Int×Int)=>gd (a.1.sz<=34359738300) (some (fG a.1 a.2.1 a.2.2.1 a.2.2.2))⟩
def Wd:OK 160 Vz:=mkS bFy [.cell 8 64, .tmp 9] (gc Kt (gc Vy (gc vK (gc Kv aD)))) func160 ntmps160 (λa _=>aF (Tj a.1 a.2.1 a.2.2.1 a.2.2.2)) (λ_=>by kernel_rfl)
def aJt:SU:=⟨[.st 53],[.st 53],true,false,λ(a:D.aAC)=>gd (a.sz<=34359738368) (some (a))⟩
def kQ:OK 253 aJt:=mkS .n [.cell 2 53] aD func253 ntmps253 (λ(a:D.aAC) _=>aF (aHr a)) (λ_=>by kernel_rfl)
def aJu:SU:=⟨[.st 55],[.st 55],true,false,λ(a:D.Device)=>gd (a.sz<=34359738368) (some (a))⟩
def nI:OK 162 aJu:=mkS .n [.cell 2 55] (gc jC (gc kQ aD)) func162 ntmps162 (λ(a:D.Device) _=>aF (aHu a)) (λ_=>by kernel_rfl)
def J3:SU:=⟨[.sl 141, .sl 141],[.bool],false,false,λ(a:(List D.aAB)×(List D.aAB))=>gd (a.1.length<=34359738368) (some (bS a.1 a.2))⟩
def xX:OK 163 J3:=mkS (.s .n (.s .n (.s (.jx ⟨[(4,2),(5,15)],[],[],[]⟩ (.s .n (.s (.l ⟨[(4,2),(5,15)],[.nat (.s 5)],[],[]⟩ FUEL (.s .n (.s (.s (.s (.r none (od 9 [])) .n) .n) .n))) .n))) .n))) [.tmp 4] aD func163 ntmps163 (λa _=>aF (Zi a.1 a.2)) (λ_=>by kernel_rfl)
def J4:SU:=⟨[.st 55, .sl 141,i6],[.st 55, .bool],true,false,λ(a:D.Device×(List D.aAB)×Int)=>gd (a.1.sz<=34359738368/\a.2.1.length<=34359738368) (some (kM a.1 a.2.1 a.2.2))⟩
def J5:OK 66 J4:=mkS bJx [.cell 6 55, .tmp 7] (gc nI (gc jD (gc xX (gc kP (gc bU (gc jC aD)))))) func66 ntmps66 (λa _=>aF (o6 a.1 a.2.1 a.2.2)) (λ_=>by kernel_rfl)
def aBo:SU:=⟨[.st 53,i6,i6],[i6],false,false,λ(a:D.aAC×Int×Int)=>gd (a.1.sz<=34359738368) (some (aG a.1 a.2.1 a.2.2))⟩
def jE:OK 12 aBo:=mkS (.s .n (.s (.jx ⟨[(6,28)],[],[],[]⟩ (.s .n (.s (.l ⟨[(6,28)],[.nat (.s 7)],[],[]⟩ FUEL (.s .n (.s (.s (.s (.rj 9 ⟨[(23,10)],[.dat (.s 32) .bool],[],[]⟩ .n) .n) .n) .n))) .n))) .n)) [.tmp 6] aD func12 ntmps12 (λa _=>aF (V9 a.1 a.2.1 a.2.2)) (λ_=>by kernel_rfl)
def aJv:SU:=⟨[.st 122,i6,i6],[.bool],false,false,λ(a:D.Entry×Int×Int)=>some (gI a.1 a.2.1 a.2.2)⟩
def Kw:OK 303 aJv:=mkS (.s .n (.s (.rj 5 ⟨[(6,1),(4,12)],[.dat (.s 6) .bool],[],[]⟩ .n) .n)) [.tmp 6] aD func303 ntmps303 (λa _=>(aHq a.1 a.2.1 a.2.2).trans) (λ_=>by kernel_rfl)
def aLo:SU:=⟨[.st 53, .st 122],[.st 53],true,false,λ(a:D.aAC×D.Entry)=>gd (a.1.sz<=34359738360) (some (mO a.1 a.2))⟩
def yG:OK 254 aLo:=mkS (.s .n (.s .n (.s .n (.s .n (.s (.j ⟨[(7,1),(16,19)],[.dat (.s 7) i6],[],[]⟩ (.s (.l ⟨[(7,1),(16,19)],[.dat (.s 7) i6],[],[]⟩ FUEL (.s (.s (.rj 6 ⟨[(29,12)],[.dat (.s 40) .bool],[],[]⟩ (.r none (od 17 [15]))) .n) .n)) .n)) (.s bJ2 .n)))))) [.cell 4 53] (gc kQ (gc jE (gc Kw aD))) func254 ntmps254 (λa _=>aF (aKw a.1 a.2)) (λ_=>by kernel_rfl)
def aEv:SU:=⟨[.st 53],[.bool],false,false,λ(a:D.aAC)=>gd (a.sz<=34359738368) (some (aI a))⟩
def gW:OK 255 aEv:=mkS (.s .n (.s (.jx ⟨[(2,49)],[],[],[]⟩ (.s .n (.s (.l ⟨[(2,49)],[.nat (.s 3)],[],[]⟩ FUEL (.s .n (.s (.s (.s .n (.s (.rj 5 ⟨[(21,30)],[.dat (.s 50) .bool],[],[]⟩ (.r none (od 34 [2,7,13,30]))) .n)) .n) .n))) .n))) .n)) [.tmp 2] (gc dC (gc Kw aD)) func255 ntmps255 (λ(a:D.aAC) _=>aF (aDe a)) (λ_=>by kernel_rfl)
def aEw:SU:=⟨[.st 53,i6,i6],[.st 53, .bool],true,false,λ(a:D.aAC×Int×Int)=>gd (a.1.sz<=34359738360) (some (R4 a.1 a.2.1 a.2.2))⟩
def aEx:OK 164 aEw:=mkS (.s .n (.s .n (.s (.jx ⟨[(7,1),(1,1),(4,23)],[.dat (.c 2 2) i6],[],[]⟩ .n) (.s .n (.s (.s (.rj 4 ⟨[(43,5)],[.dat (.s 47) .bool],[],[]⟩ .n) .n) .n))))) [.cell 6 53, .tmp 7] (gc jE (gc kQ (gc yG (gc gW aD)))) func164 ntmps164 (λa _=>aF (aDq a.1 a.2.1 a.2.2)) (λ_=>by kernel_rfl)
def We:SU:=⟨[.st 53,i6,i6],[.st 53, .bool],true,false,λ(a:D.aAC×Int×Int)=>gd (a.1.sz<=34359738360) (some (R5 a.1 a.2.1 a.2.2))⟩
def Wh:OK 165 We:=mkS (.s .n (.s .n (.s (.s (.rj 4 ⟨[(16,21)],[.dat (.s 36) .bool],[],[]⟩ .n) .n) (.s (.r (some 12) (od 14 [11,12,13])) .n)))) [.cell 6 53, .tmp 7] (gc jE (gc gW (gc kQ (gc yG aD)))) func165 ntmps165 (λa _=>aF (Sm a.1 a.2.1 a.2.2)) (λ_=>by kernel_rfl)
def Oq:SU:=⟨[.st 55, .str,i6, .bool],[.st 55, .bool],true,false,λ(a:D.Device×ByteArray×Int×Bool)=>gd (a.1.sz<=34359738360/\a.2.1.size<=34359738300) (some (eH a.1 a.2.1 a.2.2.1 a.2.2.2))⟩
def Ot:OK 67 Oq:=mkS (.s .n (.s .n (.s bFp (.s bJz (.s (.j ⟨[(34,3)],[.nt (.c 4 8) 122 true],[],[3,5]⟩ .n) .n))))) [.cell 8 55, .tmp 9] (gc nI (gc qH (gc aEx (gc Wh aD)))) func67 ntmps67 (λa _=>aF (Mq a.1 a.2.1 a.2.2.1 a.2.2.2)) (λ_=>by kernel_rfl)
def aEy:SU:=⟨[i6,i6,i6],[.bool],false,false,λ(a:Int×Int×Int)=>some (bB a.1&&(bE a.2.1 0 1000000&&bE a.2.2 0 1000000))⟩
def Er:OK 256 aEy:=mkS (.s .n (.s (.rj 3 ⟨[(6,1),(2,8)],[.dat (.s 6) .bool],[],[]⟩ .n) .n)) [.tmp 6] (gc bU (gc dC aD)) func256 ntmps256 (λa _=>(aDs a.1 a.2.1 a.2.2).trans) (λ_=>by kernel_rfl)
def aLp:SU:=⟨[i6,i6,i6],[i6],false,false,λ(a:Int×Int×Int)=>some (iU a.1 a.2.1 a.2.2)⟩
def Qo:OK 258 aLp:=mkS .n [.tmp 6] (gc dY aD) func258 ntmps258 (λa _=>(aK6 a.1 a.2.1 a.2.2).trans) (λ_=>by kernel_rfl)
def Ou:SU:=⟨[.st 53],[.sl 5],true,false,λ(a:D.aAC)=>gd (a.sz<=34359738368) (some (jZ a))⟩
def rJ:OK 259 Ou:=mkS (.s .n (.s .n (.s .n (.s (.j ⟨[(3,3),(8,35)],[.tr (.s 3) 1 3 true],[],[]⟩ (.s .n (.s (.l ⟨[(3,3),(8,35)],[.tr (.s 3) 1 3 true, .nat (.s 4)],[],[]⟩ FUEL (.s .n (.s (.j ⟨[(3,1),(1,1),(15,28)],[.tr (.s 3) 1 3 true],[],[]⟩ (.s (.s .n (.s (.j ⟨[(5,1),(15,6)],[.dat (.s 5) i6],[],[]⟩ .n) (.r (some 21) (od 23 [20,21,22])))) .n)) .n))) .n))) .n)))) [.tmp 2] (gc gW (gc xW aD)) func259 ntmps259 (λ(a:D.aAC) _=>aF (Mt a)) (λ_=>by kernel_rfl)
def aBp:SU:=⟨[i6, .st 102],[i6],false,false,λ(a:Int×D.aAA)=>gd (a.2.Data.length<=34359738200) (some (fC a.1 a.2))⟩
def Bb:OK 260 aBp:=mkS bFl [.tmp 4] (gc lV (gc dH aD)) func260 ntmps260 (λa _=>aF (Y4 a.1 a.2)) (λ_=>by kernel_rfl)
def J6:SU:=⟨[i6,i6,i6, .st 53],[.st 102, .bool],true,false,λ(a:Int×Int×Int×D.aAC)=>gd (a.2.2.2.sz<=34359738368) (some (mR a.1 a.2.1 a.2.2.1 a.2.2.2))⟩
def J7:OK 166 J6:=mkS (.s .n (.s (.s (.rj 6 ⟨[(16,5)],[.dat (.s 20) .bool],[],[]⟩ .n) .n) (.s (.y false (some 10) (some 11) [(0,true),(1,true),(2,true),(3,true),(4,true),(6,true),(5,false),(7,false),(8,false),(9,true),(10,false),(11,false)]) .n))) [.cell 8 102, .tmp 9] (gc Er (gc gW (gc Qo (gc rJ (gc Kn (gc Bb aD)))))) func166 ntmps166 (λa _=>aF (Zv a.1 a.2.1 a.2.2.1 a.2.2.2)) (λ_=>by kernel_rfl)
def Wi:SU:=⟨[.st 55],[.st 55, .st 102, .bool],true,false,λ(a:D.Device)=>gd (a.sz<=34359738368) (some (gQ a))⟩
def Wj:OK 69 Wi:=mkS bF0 [.cell 2 55, .cell 3 102, .tmp 4] (gc nI (gc J7 aD)) func69 ntmps69 (λ(a:D.Device) _=>aF (Ta a)) (λ_=>by kernel_rfl)
def aJw:SU:=⟨[.st 102],[.st 102],true,false,λ(a:D.aAA)=>gd (a.sz<=34359738368) (some (a))⟩
def vL:OK 169 aJw:=mkS .n [.cell 2 102] aD func169 ntmps169 (λ(a:D.aAA) _=>aF (aHw a)) (λ_=>by kernel_rfl)
def aJx:SU:=⟨[.st 34],[.st 34],true,false,λ(a:D.aAI)=>gd (a.sz<=34359738368) (some (a))⟩
def aJy:OK 167 aJx:=mkS (.s .n (.s bFu (.s (.j ⟨[(4,1),(7,18)],[.nt (.c 4 3) 102 true],[],[]⟩ (.s .n (.s (.l ⟨[(4,1),(7,18)],[.nat (.s 4), .nt (.c 4 3) 102 true],[],[]⟩ FUEL bF5) .n))) .n))) [.cell 2 34] (gc jC (gc Ko (gc vL aD))) func167 ntmps167 (λ(a:D.aAI) _=>aF (aHx a)) (λ_=>by kernel_rfl)
def aBq:SU:=⟨[.st 102, .st 102],[.bool],false,false,λ(a:D.aAA×D.aAA)=>some (oK a.1 a.2)⟩
def aBr:OK 168 aBq:=mkS bCe [.tmp 4] aD func168 ntmps168 (λa _=>(Y8 a.1 a.2).trans) (λ_=>by kernel_rfl)
def Ov:SU:=⟨[.st 34, .st 102],[.st 34, .bool],true,false,λ(a:D.aAI×D.aAA)=>gd (a.1.sz<=34359738300/\a.2.sz<=34359738300) (some (dO a.1 a.2))⟩
def Ox:OK 70 Ov:=mkS bFq [.cell 4 34, .tmp 5] (gc aJy (gc kP (gc aBr (gc vL aD)))) func70 ntmps70 (λa _=>aF (Nb a.1 a.2)) (λ_=>by kernel_rfl)
def Wl:SU:=⟨[.st 34,i6],[.st 102, .bool],true,false,λ(a:D.aAI×Int)=>gd (a.1.sz<=34359738368) (some (lC a.1 a.2))⟩
def Wm:OK 170 Wl:=mkS .n [.cell 4 102, .tmp 5] (gc dC (gc vL aD)) func170 ntmps170 (λa _=>aF (Sr a.1 a.2)) (λ_=>by kernel_rfl)
def aJz:SU:=⟨[i6, .sl 5],[.sl 5],true,false,λ(a:Int×(List Int))=>gd (a.2.length<=34359738368) (some (Hl a.1 a.2))⟩
def Ky:OK 307 aJz:=mkS (.s .n (.s .n (.s (.j ⟨[(5,2),(1,22)],[.tr (.s 5) 0 5 true],[],[]⟩ (.s .n (.s (.l ⟨[(5,2),(1,22)],[.tr (.s 5) 0 5 true, .nat (.s 6)],[],[]⟩ FUEL (.s .n (.s (.s (.r (some 15) (od 17 [8,9,12,14,15,16])) .n) .n))) .n))) .n))) [.tmp 4] (gc dH (gc vI aD)) func307 ntmps307 (λa _=>aF (aIb a.1 a.2)) (λ_=>by kernel_rfl)
def aJ0:SU:=⟨[i6, .st 212],[.sl 5, .bool],true,false,λ(a:Int×D.Box)=>some (dK a.1 a.2)⟩
def aJ1:OK 325 aJ0:=mkS bFt [.tmp 4, .tmp 5] (gc bU (gc kW (gc Qm (gc Qn (gc Ky aD))))) func325 ntmps325 (λa _=>(aId a.1 a.2).trans) (λ_=>by kernel_rfl)
def aJ2:SU:=⟨[.sl 212,i6],[.sl 5, .bool],true,false,λ(a:(List D.Box)×Int)=>gd (a.1.length<=34359738368) (some (dX a.1 a.2))⟩
def aJ3:OK 304 aJ2:=mkS (.s .n (.s (.jx ⟨[(4,22)],[],[],[]⟩ (.s .n (.s (.l ⟨[(4,22)],[.nat (.s 6)],[],[]⟩ FUEL .n) .n))) .n)) [.tmp 4, .tmp 5] (gc aJ1 aD) func304 ntmps304 (λa _=>aF (aIe a.1 a.2)) (λ_=>by kernel_rfl)
def Wn:SU:=⟨[.sl 5,i6],[i6,i6, .bool],false,false,λ(a:(List Int)×Int)=>gd (aQ a.1) (some (rR a.1 a.2))⟩
def vM:OK 326 Wn:=mkS (.s .n (.s .n (.s (.jx ⟨[(4,51)],[],[],[]⟩ (.s .n (.s (.l ⟨[(4,51)],[.dat (.s 7) i6, .nat (.s 8)],[],[]⟩ FUEL (.s .n (.s (.s (.s (.s (.rj 3 ⟨[(16,8)],[.dat (.s 23) .bool],[],[]⟩ .n) .n) (.s .n (.s .n (.s .n (.s (.s (.s (.rj 3 ⟨[(42,8)],[.dat (.s 49) .bool],[],[]⟩ .n) .n) .n) .n))))) .n) .n))) .n))) .n))) [.tmp 4, .tmp 5, .tmp 6] aD func326 ntmps326 (λa _=>aF (Sw a.1 a.2)) (λ_=>by kernel_rfl)
def J8:SU:=⟨[.sl 5,i6,i6],[.sl 3,i6, .bool],true,false,λ(a:(List Int)×Int×Int)=>gd (aQ a.1) (some (fF a.1 a.2.1 a.2.2))⟩
def xY:OK 305 J8:=mkS (.s .n (.s .n (.s (.s (.rj 4 ⟨[(18,7)],[.dat (.s 24) .bool],[],[]⟩ .n) .n) (.s (.jx ⟨[(1,1),(4,8),(12,20)],[.dat (.s 1) i6, .tr (.s 9) 0 3 true],[],[]⟩ (.s .n (.s (.l ⟨[(1,1),(4,8),(12,20)],[.dat (.s 1) i6, .tr (.s 9) 0 3 true, .nat (.s 10)],[],[]⟩ FUEL .n) .n))) .n)))) [.tmp 6, .tmp 7, .tmp 8] (gc dC (gc vM aD)) func305 ntmps305 (λa _=>aF (Zl a.1 a.2.1 a.2.2)) (λ_=>by kernel_rfl)
def Gj:SU:=⟨[.st 50, .st 31],[i6, .bool],false,false,λ(a:D.aAH×D.aAD)=>gd (a.2.sz<=34359738368) (some (bF a.1 a.2))⟩
def Gl:OK 261 Gj:=mkS (.s .n (.s (.r none (od 10 [3,4])) (.s .n (.s (.s (.rj 3 ⟨[(27,25)],[.dat (.s 51) .bool],[],[]⟩ (.r none (od 27 [24]))) .n) .n)))) [.tmp 4, .tmp 5] (gc oU (gc aJ3 (gc xY (gc bU aD)))) func261 ntmps261 (λa _=>aF (Ff a.1 a.2)) (λ_=>by kernel_rfl)
def J9:SU:=⟨[.sl 5, .sl 5],[.bool],false,false,λ(a:(List Int)×(List Int))=>gd (aQ a.1/\aQ a.2) (some ((a.1==a.2)))⟩
def K3:OK 287 J9:=mkS .n [.tmp 4] aD func287 ntmps287 (λa _=>aF (Zn a.1 a.2)) (λ_=>by kernel_rfl)
def Oy:SU:=⟨[.sl 5],[.st 53, .bool],true,false,λ(a:(List Int))=>gd (aQ a) (some (vW a))⟩
def Oz:OK 306 Oy:=mkS (.s .n (.s .n (.s (.s (.rj 3 ⟨[(21,4)],[.dat (.s 24) .bool],[],[]⟩ .n) .n) (.s .n (.s (.jx ⟨[(3,1),(1,1),(2,5),(14,40)],[.nt (.c 1 0) 122 true],[],[]⟩ (.s .n (.s (.l ⟨[(3,1),(1,1),(2,5),(14,40)],[.dat (.s 5) i6, .nat (.s 8), .nt (.c 1 0) 122 true],[],[]⟩ FUEL .n) .n))) (.s (.s (.rj 4 ⟨[(70,7)],[.dat (.s 76) .bool],[],[]⟩ .n) .n) .n)))))) [.cell 2 53, .tmp 3] (gc vM (gc xY (gc gW (gc rJ (gc K3 aD))))) func306 ntmps306 (λ(a:(List Int)) _=>aF (Mw a)) (λ_=>by kernel_rfl)
def K4:SU:=⟨[i6, .st 102],[.st 53, .bool],true,false,λ(a:Int×D.aAA)=>gd (a.2.Data.length<=34359738200) (some (fK a.1 a.2))⟩
def K5:OK 262 K4:=mkS (.s .n (.s (.s (.rj 8 ⟨[(13,8)],[.dat (.s 20) .bool],[],[]⟩ (.r none (od 15 [5,12]))) .n) (.s (.r (some 12) [(0,true),(1,true),(2,true),(3,true),(4,true),(6,true),(7,true),(5,false),(8,false),(9,false),(10,true),(11,true),(12,false),(13,false)]) .n))) [.cell 4 53, .tmp 5] (gc Er (gc Bb (gc Qo (gc Ky (gc Oz aD))))) func262 ntmps262 (λa _=>aF (Zp a.1 a.2)) (λ_=>by kernel_rfl)
def Pb:SU:=⟨[.st 53, .st 53],[.st 53, .bool],true,false,λ(a:D.aAC×D.aAC)=>gd (a.1.sz<=34359738368/\a.2.sz<=34359738368) (some (fJ a.1 a.2))⟩
def Pd:OK 263 Pb:=mkS (.s .n (.s (.s (.rj 4 ⟨[(13,5)],[.dat (.s 17) .bool],[],[]⟩ .n) .n) (.s .n (.s (.j ⟨[(7,3),(12,49)],[.tr (.c 4 0) 3 122 true],[],[]⟩ (.s .n (.s (.l ⟨[(7,3),(12,49)],[.nat (.s 7), .tr (.c 4 0) 3 122 true],[],[]⟩ FUEL (.s .n (.s (.j ⟨[(8,2),(19,42)],[.tr (.c 4 0) 3 122 true],[],[]⟩ (.s (.s .n (.s .n (.s (.rj 3 ⟨[(42,26)],[.dat (.s 67) .bool],[],[]⟩ (.r none (od 28 []))) .n))) .n)) .n))) .n))) .n)))) [.cell 4 53, .tmp 5] (gc gW (gc kQ (gc jE (gc yG aD)))) func263 ntmps263 (λa _=>aF (Mk a.1 a.2)) (λ_=>by kernel_rfl)
def K6:SU:=⟨[.st 55, .sl 141, .st 31, .st 102],[.st 55,i6],true,false,λ(a:D.Device×(List D.aAB)×D.aAD×D.aAA)=>gd (a.1.sz<=34359738368/\a.2.1.length<=34359738368/\a.2.2.1.sz<=34359738368/\a.2.2.2.Data.length<=34359738200) (some (bW a.1 a.2.1 a.2.2.1 a.2.2.2))⟩
def K7:OK 171 K6:=mkS (.s .n (.s .n (.s .n (.s (.s (.rj 4 ⟨[(25,7)],[.dat (.s 31) .bool],[],[]⟩ .n) .n) (.s bFx (.s .n (.s bF8 (.s bF6 (.s .n (.s .n (.s (.s (.rj 3 ⟨[(98,4)],[.dat (.s 101) .bool],[],[]⟩ .n) .n) bFo))))))))))) [.cell 8 55, .tmp 9] (gc nI (gc kP (gc jD (gc xX (gc kX (gc lG (gc yF (gc Gl (gc K5 (gc Pd (gc jC aD))))))))))) func171 ntmps171 (λa _=>aF (Zr a.1 a.2.1 a.2.2.1 a.2.2.2)) (λ_=>by kernel_rfl)
def aJ4:SU:=⟨[.st 55, .st 34,i6],[.st 55,i6],true,false,λ(a:D.Device×D.aAI×Int)=>gd (a.1.sz<=34359738100/\a.2.1.sz<=34359738100) (some (bW a.1 a.2.1.Log a.2.1.Boxes (lC a.2.1 a.2.2).1))⟩
def aJ5:OK 71 aJ4:=mkS .n [.cell 6 55, .tmp 7] (gc Wm (gc K7 aD)) func71 ntmps71 (λa _=>aF (aIh a.1 a.2.1 a.2.2)) (λ_=>by kernel_rfl)
def aPp:SU:=⟨[i6],[i6],false,false,λ(a:Int)=>some (dW a 1019)⟩
def aPq:OK 308 aPp:=mkS .n [.tmp 2] (gc vI aD) func308 ntmps308 (λa _=>(aPe a).trans) (λ_=>by kernel_rfl)
def aLq:SU:=⟨[i6, .sl 3,i6],[i6],false,false,λ(a:Int×(List Int)×Int)=>gd (0<=a.2.2/\a.2.2<=1000/\a.2.1.length<=34359738368) (some (qO a.1 a.2.1 a.2.2))⟩
def aLr:OK 264 aLq:=mkS bFr [.tmp 6] (gc aPq aD) func264 ntmps264 (λa _=>aF (aK1 a.1 a.2.1 a.2.2)) (λ_=>by kernel_rfl)
def Wp:SU:=⟨[i6, .sl 3,i6],[.sl 173],true,false,λ(a:Int×(List Int)×Int)=>gd (a.2.1.length<=34359738368) (some (jT a.1 a.2.1 a.2.2))⟩
def Wq:OK 174 Wp:=mkS (.s .n (.s .n (.s (.s (.rj 4 ⟨[(13,6)],[.dat (.s 18) .bool],[],[]⟩ .n) .n) (.s (.j ⟨[(7,2),(11,14)],[.tr (.s 7) 0 173 true],[],[]⟩ (.s .n (.s (.l ⟨[(7,2),(11,14)],[.tr (.s 7) 0 173 true, .dat (.s 8) i6],[],[]⟩ FUEL .n) .n))) .n)))) [.tmp 6] (gc dC (gc aLr aD)) func174 ntmps174 (λa _=>aF (Tv a.1 a.2.1 a.2.2)) (λ_=>by kernel_rfl)
def aPr:SU:=⟨[i6,i6],[i6],false,false,λ(a:Int×Int)=>mZ a.1 a.2⟩
def K8:OK 309 aPr:=mkS bJ0 [.tmp 4] aD func309 ntmps309 (λ_ _=>id) (λ_=>by kernel_rfl)
def Gm:SU:=⟨[i6],[.bool],false,false,λ(a:Int)=>some (Ie a)⟩
def Gn:OK 282 Gm:=mkS bF4 [.tmp 2] (gc dC (gc K8 aD)) func282 ntmps282 (λa _=>(Fp a).trans) (λ_=>by kernel_rfl)
def aEz:SU:=⟨[i6,i6],[i6],false,false,λ(a:Int×Int)=>some (lD a.1 a.2)⟩
def Es:OK 265 aEz:=mkS .n [.tmp 4] (gc Gn (gc vI (gc K8 aD))) func265 ntmps265 (λa _=>(aDv a.1 a.2).trans) (λ_=>by kernel_rfl)
def Ws:SU:=⟨[i6,i6],[i6],false,false,λ(a:Int×Int)=>some (vY a.1 a.2)⟩
def Wt:OK 266 Ws:=mkS .n [.tmp 4] (gc dH (gc Es aD)) func266 ntmps266 (λa _=>(Tq a.1 a.2).trans) (λ_=>by kernel_rfl)
def Pe:SU:=⟨[i6,i6,i6],[i6],false,false,λ(a:Int×Int×Int)=>some (pF a.1 a.2.1 a.2.2)⟩
def Pf:OK 177 Pe:=mkS .n [.tmp 6] (gc Wt (gc Es aD)) func177 ntmps177 (λa _=>(Ng a.1 a.2.1 a.2.2).trans) (λ_=>by kernel_rfl)
def aBs:SU:=⟨[i6,i6],[i6],false,false,λ(a:Int×Int)=>some (lM a.1 a.2)⟩
def aBt:OK 176 aBs:=mkS .n [.tmp 4] (gc dH (gc Vl aD)) func176 ntmps176 (λa _=>(Z8 a.1 a.2).trans) (λ_=>by kernel_rfl)
def aJ6:SU:=⟨[.st 175],[i6],false,false,λ(a:D.aAP)=>some (qM a)⟩
def aJ7:OK 267 aJ6:=mkS .n [.tmp 2] aD func267 ntmps267 (λa _=>(aH8 a).trans) (λ_=>by kernel_rfl)
def aBu:SU:=⟨[.st 175],[.st 178],true,false,λ(a:D.aAP)=>some (wF a)⟩
def aBv:OK 178 aBu:=mkS (.s .n (.s (.r (some 4) (od 5 [2,4])) .n)) [.cell 2 178] (gc aJ7 aD) func178 ntmps178 (λa _=>(aAa a).trans) (λ_=>by kernel_rfl)
def K9:SU:=⟨[i6,i6],[i6],false,false,λ(a:Int×Int)=>some (vZ a.1 a.2)⟩
def L6:OK 179 K9:=mkS .n [.tmp 4] (gc dH aD) func179 ntmps179 (λa _=>(o9 a.1 a.2).trans) (λ_=>by kernel_rfl)
def aJ8:SU:=⟨[i6,i6],[i6],false,false,λ(a:Int×Int)=>some (Po a.1 a.2)⟩
def aJ9:OK 180 aJ8:=mkS .n [.tmp 4] (gc dC (gc dY aD)) func180 ntmps180 (λa _=>(aIo a.1 a.2).trans) (λ_=>by kernel_rfl)
def aBw:SU:=⟨[i6,i6,i6,i6, .sl 3,i6,i6],[.st 37, .sl 178, .bool],true,false,λ(a:Int×Int×Int×Int×(List Int)×Int×Int)=>gd (a.2.2.2.2.1.length<=34359738368) (some (mU a.1 a.2.1 a.2.2.1 a.2.2.2.1 a.2.2.2.2.1 a.2.2.2.2.2.1 a.2.2.2.2.2.2))⟩
def aBx:OK 73 aBw:=mkS (.s .n (.s .n (.s (.s (.rj 4 ⟨[(28,25)],[.dat (.s 52) .bool],[],[]⟩ .n) .n) (.s .n (.s .n (.s (.j ⟨[(19,2),(41,16)],[.tr (.s 19) 2 178 true],[],[]⟩ (.s .n (.s (.l ⟨[(19,2),(41,16)],[.tr (.s 19) 2 178 true, .nat (.s 20)],[],[]⟩ FUEL .n) .n))) .n)))))) [.cell 14 37, .tmp 15, .tmp 16] (gc Wq (gc dC (gc bU (gc vI (gc Pf (gc aBt (gc aBv (gc L6 (gc aJ9 aD))))))))) func73 ntmps73 (λa _=>aF (aAc a.1 a.2.1 a.2.2.1 a.2.2.2.1 a.2.2.2.2.1 a.2.2.2.2.2.1 a.2.2.2.2.2.2)) (λ_=>by kernel_rfl)
def aE0:SU:=⟨[i6,i6,i6,i6,i6],[.st 43],false,false,λ(a:Int×Int×Int×Int×Int)=>some (aR a.1 a.2.1 a.2.2.1 a.2.2.2.1 a.2.2.2.2)⟩
def aE1:OK 11 aE0:=mkS (.s .n (.s (.s (.rj 4 ⟨[(30,21)],[.dat (.s 50) .bool],[],[]⟩ .n) .n) (.s .n (.s .n (.s (.j ⟨[(12,3),(41,33)],[.tr (.s 12) 2 141 true, .nt (.c 1 2) 55 true, .nt (.c 1 3) 4 true],[],[]⟩ (.s .n (.s (.l ⟨[(12,3),(41,33)],[.tr (.s 12) 2 141 true, .nat (.s 13), .nt (.c 1 2) 55 true, .nt (.c 1 3) 4 true],[],[]⟩ FUEL (.s .n (.s (.s (.s .n (.s .n (.s .n (.r none [(0,true),(1,true),(2,true),(4,true),(5,true),(6,true),(7,true),(8,true),(3,false),(9,false),(10,true),(11,true),(12,true),(13,true)])))) .n) .n))) .n))) (.s .n (.s .n (.s .n (.s (.il 3 (.s .n (.s .n (.s (.j ⟨[(5,5),(1,40)],[.tr (.s 5) 10 64 false],[],[]⟩ (.s .n (.s (.l ⟨[(5,5),(1,40)],[.tr (.s 5) 10 64 false, .nat (.s 6)],[],[]⟩ FUEL (.s .n (.s (.j ⟨[(5,1),(1,3),(5,36)],[.tr (.s 5) 10 64 false],[],[]⟩ (.s (.s .n (.s (.j ⟨[(9,1),(16,21)],[.dat (.c 12 0) (.str), .dat (.c 12 1) (.sl 67), .dat (.c 12 2) i6, .dat (.c 12 3) i6, .dat (.c 12 4) (.sl 241), .dat (.c 12 5) (.sl 3)],[],[]⟩ (.s .n (.s (.l ⟨[(9,1),(16,21)],[.nat (.s 9), .dat (.c 12 0) (.str), .dat (.c 12 1) (.sl 67), .dat (.c 12 2) i6, .dat (.c 12 3) i6, .dat (.c 12 4) (.sl 241), .dat (.c 12 5) (.sl 3)],[],[]⟩ FUEL (.s .n (.s (.s (.y false none (some 15) [(0,true),(1,true),(2,true),(3,true),(4,true),(5,true),(6,true),(7,true),(9,true),(8,false),(10,false),(11,false),(12,true),(13,true),(14,true),(15,false)]) .n) .n))) .n))) .n)) .n)) .n))) .n))) .n))) .n) (.s (.j ⟨[(18,1),(90,20)],[.tr (.c 1 2) 3 55 true],[],[]⟩ (.s .n (.s (.l ⟨[(18,1),(90,20)],[.nat (.s 18), .tr (.c 1 2) 3 55 true],[],[]⟩ FUEL (.s .n (.s (.s bCf .n) .n))) .n))) (.s (.j ⟨[(19,2),(108,23)],[.tr (.c 1 2) 3 55 true],[],[]⟩ (.s .n (.s (.l ⟨[(19,2),(108,23)],[.nat (.s 19), .tr (.c 1 2) 3 55 true],[],[]⟩ FUEL (.s .n (.s (.j ⟨[(20,1),(112,19)],[.tr (.c 1 2) 3 55 true],[],[]⟩ (.s (.s .n (.s (.l ⟨[(20,1),(112,19)],[.nat (.s 20), .tr (.c 1 2) 3 55 true],[],[]⟩ FUEL bJ1) .n)) .n)) .n))) .n))) (.s .n (.s .n (.s .n (.s (.j ⟨[(24,1),(148,20)],[.tr (.c 1 2) 3 55 true],[],[]⟩ (.s .n (.s (.l ⟨[(24,1),(148,20)],[.dat (.s 24) i6, .tr (.c 1 2) 3 55 true],[],[]⟩ FUEL (.s .n (.s (.s bCf .n) .n))) .n))) (.s .n (.s (.j ⟨[(25,2),(167,12)],[.tr (.s 25) 19 3 true],[],[]⟩ (.s .n (.s (.l ⟨[(25,2),(167,12)],[.tr (.s 25) 19 3 true, .dat (.s 26) i6],[],[]⟩ FUEL .n) .n))) .n))))))))))))))))) [.cell 10 43] (gc dC (gc bU (gc I4 (gc aBe (gc lG (gc Vo (gc aEo (gc Gh (gc aEq (gc (sIl 65) (gc J5 (gc aEs (gc Ot (gc Wj (gc Ox (gc aJ5 (gc dY (gc aBx (gcp Kq (gc Vu (gc J2 (gcp Wd aD)))))))))))))))))))))) func11 ntmps11 (λa _=>(aDz a.1 a.2.1 a.2.2.1 a.2.2.2.1 a.2.2.2.2).trans) (λ_=>by kernel_rfl)
def aBy:SU:=⟨[.sl 141, .sl 141],[.bool],false,false,λ(a:(List D.aAB)×(List D.aAB))=>gd (lI a.1.length a.1 a.2/\a.1.length<=34359738368) (some true)⟩
def Bc:OK 138 aBy:=mkS (.s .n (.s (.rj 6 ⟨[(4,1),(5,5)],[.dat (.s 4) .bool],[],[]⟩ .n) .n)) [.tmp 4] (gc nG aD) func138 ntmps138 (λa _=>aF (aAe a.1 a.2)) (λ_=>by kernel_rfl)
def Pg:SU:=⟨[.st 53, .st 53],[.bool],false,false,λ(a:D.aAC×D.aAC)=>gd (a.1.sz<=34359738368) (some (oH a.1 a.2))⟩
def Ph:OK 139 Pg:=mkS bFi [.tmp 4] aD func139 ntmps139 (λa _=>aF (Ni a.1 a.2)) (λ_=>by kernel_rfl)
def Pi:SU:=⟨[.st 55, .st 55],[.bool],false,false,λ(a:D.Device×D.Device)=>gd (lI a.1.sz a.1 a.2/\a.1.sz<=34359738368) (some true)⟩
def Pj:OK 53 Pi:=mkS (.s .n (.s (.rj 6 ⟨[(4,1),(5,35)],[.dat (.s 4) .bool],[],[]⟩ .n) .n)) [.tmp 4] (gc Bc (gc Ph aD)) func53 ntmps53 (λa _=>aF (Nj a.1 a.2)) (λ_=>by kernel_rfl)
def L8:SU:=⟨[.st 61, .st 61],[.bool],false,false,λ(a:D.aAE×D.aAE)=>gd (lI a.1.sz a.1 a.2/\a.1.sz<=34359738368) (some true)⟩
def L9:OK 140 L8:=mkS bH8 [.tmp 4] aD func140 ntmps140 (λa _=>aF (x8 a.1 a.2)) (λ_=>by kernel_rfl)
def aBz:SU:=⟨[.sl 3, .sl 3],[.bool],false,false,λ(a:(List Int)×(List Int))=>gd (lI a.1.length a.1 a.2/\a.1.length<=34359738368) (some true)⟩
def aB0:OK 141 aBz:=mkS bFj [.tmp 4] aD func141 ntmps141 (λa _=>aF (aAf a.1 a.2)) (λ_=>by kernel_rfl)
def La:SU:=⟨[.st 67, .st 67],[.bool],false,false,λ(a:D.aAG×D.aAG)=>gd (lI a.1.sz a.1 a.2/\a.1.sz<=34359738368) (some true)⟩
def Lb:OK 142 La:=mkS bH8 [.tmp 4] aD func142 ntmps142 (λa _=>aF (Ka a.1 a.2)) (λ_=>by kernel_rfl)
def M0:SU:=⟨[.st 64, .st 64],[.bool],false,false,λ(a:D.Site×D.Site)=>gd (lI a.1.sz a.1 a.2/\a.1.sz<=34359738368) (some true)⟩
def M3:OK 54 M0:=mkS (.s .n (.s (.s (.rj 6 ⟨[(11,25)],[.dat (.s 35) .bool],[],[]⟩ .n) .n) (.s (.jx ⟨[(4,2),(30,19)],[],[],[]⟩ (.s .n (.s (.l ⟨[(4,2),(33,16)],[.nat (.s 39)],[],[]⟩ FUEL bCd) .n))) .n))) [.tmp 4] (gc L9 (gc aB0 (gc Lb aD))) func54 ntmps54 (λa _=>aF (x9 a.1 a.2)) (λ_=>by kernel_rfl)
def M4:SU:=⟨[.sl 5, .sl 5],[.bool],false,false,λ(a:(List Int)×(List Int))=>gd (lI a.1.length a.1 a.2/\a.1.length<=68719476736) (some true)⟩
def xZ:OK 241 M4:=mkS .n [.tmp 4] aD func241 ntmps241 (λa _=>aF (y7 a.1 a.2)) (λ_=>by kernel_rfl)
def M5:SU:=⟨[.st 212, .st 212],[.bool],false,false,λ(a:D.Box×D.Box)=>gd (lI a.1.sz a.1 a.2/\a.1.sz<=34359738368) (some true)⟩
def M6:OK 240 M5:=mkS bF2 [.tmp 4] (gc xZ aD) func240 ntmps240 (λa _=>aF (y9 a.1 a.2)) (λ_=>by kernel_rfl)
def Cx:SU:=⟨[.st 31, .st 31],[.bool],false,false,λ(a:D.aAD×D.aAD)=>gd (lI a.1.sz a.1 a.2/\a.1.sz<=34359738368) (some true)⟩
def Cy:OK 143 Cx:=mkS (.s .n (.s (.s (.rj 6 ⟨[(11,9)],[.dat (.s 19) .bool],[],[]⟩ .n) .n) (.s (.jx ⟨[(4,2),(14,19)],[],[],[]⟩ (.s .n (.s (.l ⟨[(4,2),(17,16)],[.nat (.s 23)],[],[]⟩ FUEL bCd) .n))) .n))) [.tmp 4] (gc M6 aD) func143 ntmps143 (λa _=>aF (Cm a.1 a.2)) (λ_=>by kernel_rfl)
def Wu:SU:=⟨[.st 102, .st 102],[.bool],false,false,λ(a:D.aAA×D.aAA)=>gd (lI a.1.sz a.1 a.2/\a.1.sz<=34359738368) (some true)⟩
def Wv:OK 144 Wu:=mkS bF2 [.tmp 4] (gc xZ aD) func144 ntmps144 (λa _=>aF (Tz a.1 a.2)) (λ_=>by kernel_rfl)
def Ww:SU:=⟨[.st 34, .st 34],[.bool],false,false,λ(a:D.aAI×D.aAI)=>gd (lI a.1.sz a.1 a.2/\a.1.sz<=34359738368) (some true)⟩
def Wx:OK 55 Ww:=mkS (.s .n (.s (.s (.rj 7 ⟨[(12,17)],[.dat (.s 28) .bool],[],[]⟩ .n) .n) (.s (.jx ⟨[(4,2),(23,19)],[],[],[]⟩ (.s .n (.s (.l ⟨[(4,2),(26,16)],[.nat (.s 32)],[],[]⟩ FUEL bCd) .n))) .n))) [.tmp 4] (gc Bc (gc Cy (gc Wv aD))) func55 ntmps55 (λa _=>aF (Ua a.1 a.2)) (λ_=>by kernel_rfl)
def M7:SU:=⟨[.st 178, .st 178],[.bool],false,false,λ(a:D.aAF×D.aAF)=>gd (lI a.1.sz a.1 a.2/\a.1.sz<=34359738368) (some true)⟩
def M8:OK 145 M7:=mkS bH8 [.tmp 4] aD func145 ntmps145 (λa _=>aF (A7 a.1 a.2)) (λ_=>by kernel_rfl)
def Cz:SU:=⟨[.sl 178, .sl 178],[.bool],false,false,λ(a:(List D.aAF)×(List D.aAF))=>gd (lI (szL D.aAF.sz a.1) a.1 a.2/\szL D.aAF.sz a.1<=34359738368) (some true)⟩
def Da:OK 56 Cz:=mkS (.s .n (.s .n (.s (.jx ⟨[(4,2),(5,16)],[],[],[]⟩ (.s .n (.s (.l ⟨[(4,2),(7,14)],[.nat (.s 13)],[],[]⟩ FUEL (.s .n (.s .n (.s (.s (.s .n (.s (.r none (od 10 [8])) .n)) .n) .n)))) .n))) .n))) [.tmp 4] (gc M8 aD) func56 ntmps56 (λa _=>aF (Cn a.1 a.2)) (λ_=>by kernel_rfl)
def Gp:SU:=⟨[.st 41, .st 41],[.bool],false,false,λ(a:D.aAM×D.aAM)=>gd (lI a.1.sz a.1 a.2/\a.1.sz<=34359738368) (some true)⟩
def Gq:OK 57 Gp:=mkS bFi [.tmp 4] aD func57 ntmps57 (λa _=>aF (Fs a.1 a.2)) (λ_=>by kernel_rfl)
def Wy:SU:=⟨[.st 43, .st 43],[.bool],false,false,λ(a:D.World×D.World)=>gd (lI a.1.sz a.1 a.2/\a.1.sz<=34359738368) (some true)⟩
def Wz:OK 10 Wy:=mkS (.s .n (.s (.s (.rj 6 ⟨[(13,48)],[.dat (.s 60) .bool],[],[]⟩ .n) .n) (.s (.jx ⟨[(4,2),(55,19)],[],[],[]⟩ (.s .n (.s (.l ⟨[(4,2),(58,16)],[.nat (.s 64)],[],[]⟩ FUEL bCd) .n))) (.s (.jx ⟨[(4,1),(1,1),(73,18)],[],[],[]⟩ (.s .n (.s (.l ⟨[(4,1),(1,1),(76,15)],[.nat (.s 83)],[],[]⟩ FUEL (.s .n (.s .n (.s (.s (.s .n (.s (.r none (od 11 [])) .n)) .n) .n)))) .n))) (.s (.jx ⟨[(4,1),(2,1),(90,19)],[],[],[]⟩ (.s .n (.s (.l ⟨[(4,1),(2,1),(93,16)],[.nat (.s 101)],[],[]⟩ FUEL bCd) .n))) (.s (.rj 6 ⟨[(4,1),(117,14)],[.dat (.s 4) .bool],[],[]⟩ .n) .n)))))) [.tmp 4] (gc Pj (gc M3 (gc Wx (gc Da (gc Gq aD))))) func10 ntmps10 (λa _=>aF (Ub a.1 a.2)) (λ_=>by kernel_rfl)
def aB1:SU:=⟨[.st 43,i6],[.bool],false,false,λ(a:D.World×Int)=>some (iA a.1 a.2)⟩
def aB2:OK 75 aB1:=mkS (.s .n (.s (.rj 3 ⟨[(4,1),(2,7)],[.dat (.s 4) .bool],[],[]⟩ .n) .n)) [.tmp 4] aD func75 ntmps75 (λa _=>(V8 a.1 a.2).trans) (λ_=>by kernel_rfl)
def aLs:SU:=⟨[.st 43,i6],[.bool],false,false,λ(a:D.World×Int)=>gd (WOk a.1) (some (jX a.1 a.2))⟩
def aLt:OK 15 aLs:=mkS (.s .n (.s (.rj 4 ⟨[(4,1),(3,14)],[.dat (.s 4) .bool],[],[]⟩ (.r none [(0,true),(1,true),(2,false),(3,true),(4,true),(5,true),(6,true),(8,true),(9,true),(10,true),(11,true),(12,true),(13,true),(7,false),(14,false),(15,false),(16,true),(17,true)])) .n)) [.tmp 4] (gc aB2 (gc jA (gc iO (gc Cq aD)))) func15 ntmps15 (λa _=>aF (aKv a.1 a.2)) (λ_=>by kernel_rfl)
def Et:SU:=⟨[.sl 5],[.bool],false,false,λ(a:(List Int))=>gd (aO4 a) (some true)⟩
def aE2:OK 3 Et:=mkS (.s .n (.s .n (.s .n (.s .n (.s (.s (.rj 3 ⟨[(30,34)],[.dat (.s 63) .bool],[],[]⟩ .n) (.s (.s (.rj 5 ⟨[(2,1),(65,5)],[.dat (.s 2) .bool],[],[]⟩ .n) .n) .n)) (.s (.s (.rj 4 ⟨[(76,31)],[.dat (.s 106) .bool],[],[]⟩ (.r none (od 34 [1,30,31]))) .n) (.s (.jx ⟨[(2,1),(6,3),(95,62)],[],[],[]⟩ (.s .n (.s (.l ⟨[(2,1),(6,3),(95,62)],[.nat (.s 9)],[],[]⟩ FUEL (.s .n (.s (.jx ⟨[(2,1),(7,2),(100,57)],[],[],[]⟩ (.s (.s (.jx ⟨[(2,1),(7,2),(100,41)],[],[],[]⟩ (.s .n (.s (.l ⟨[(2,1),(7,2),(100,41)],[.nat (.s 10)],[],[]⟩ FUEL (.s .n (.s (.s (.s (.r none [(0,true),(1,true),(2,true),(3,true),(4,true),(5,true),(6,true),(9,true),(7,false),(8,false),(10,false),(11,true)]) (.s (.rj 3 ⟨[(129,24)],[.dat (.s 152) .bool],[],[]⟩ .n) .n)) .n) .n))) .n))) (.s (.rj 5 ⟨[(157,12)],[.dat (.s 168) .bool],[],[]⟩ (.r none (od 16 [2,13]))) .n)) .n)) .n))) .n))) (.s (.rj 5 ⟨[(2,1),(170,4)],[.dat (.s 2) .bool],[],[]⟩ .n) .n)))))))) [.tmp 2] (gc aUj (gc Nn (gcp aEm (gc bU (gc Oj (gc aE1 (gc Wz (gc qF (gc qH (gc jE (gc aLt (gc xR aD)))))))))))) func3 ntmps3 (λ(a:(List Int)) _=>aF (aD1 a)) (λ_=>by kernel_rfl)
end
end Go.VK
