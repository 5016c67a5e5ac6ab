import Derived.Test.YtlnjelnfjgjanaaGreatDoorXqL
import Derived.Test.YtlnjelnfjgjanaaGreatDoorXqM
import Derived.Test.YtlnjelnfjgjanaaGreatDoorXqPze
import Derived.Test.YtlnjelnfjgjanaaGreatDoorLMjtop
/- Printed by wip/tools: models, walks, proofs. -/
set_option linter.all false
set_option maxRecDepth 100000
set_option maxHeartbeats 4000000
namespace Go.VK
open Go.RowKit Go.Proofs Tryz
noncomputable section
def i6:EV.Kd:= .int .i64
def bMq:EV.An:=(.s .n (.s .n (.s .n (.s (.j ⟨[(9,1),(2,17)],[.dat (.s 9) i6],[],[]⟩ (.s (.l ⟨[(9,1),(2,17)],[.dat (.s 9) i6],[],[]⟩ FUEL (.s (.s (.rj 6 ⟨[(17,10)],[.dat (.s 26) .bool],[],[]⟩ .n) .n) .n)) .n)) (.s (.y true (some 9) (some 17) [(1,true),(2,true),(3,true),(4,true),(6,true),(7,true),(8,true),(11,true),(12,true),(13,true),(14,true),(0,false),(5,false),(9,false),(10,false),(15,false),(16,false),(17,false)]) (.s (.s (.rj 4 ⟨[(49,5)],[.dat (.s 53) .bool],[],[]⟩ .n) .n) .n))))))
def bMr:EV.An:=(.y true none (some 13) [(1,true),(2,true),(3,true),(4,true),(6,true),(7,true),(8,true),(9,true),(10,true),(0,false),(5,false),(11,false),(12,false),(13,false)])
def bMs:EV.An:=(.s .n (.s .n (.s (.j ⟨[(0,2),(3,16)],[.dat (.s 5) i6],[],[]⟩ (.s (.l ⟨[(0,2),(3,16)],[.dat (.s 0) i6, .dat (.s 1) i6, .dat (.s 5) i6],[],[]⟩ FUEL (.s .n (.s (.s (.j ⟨[(5,1),(2,7)],[.dat (.s 5) i6],[],[]⟩ .n) .n) .n))) .n)) .n)))
def bKr:EV.An:=(.s .n (.s (.jx ⟨[(4,17)],[],[],[]⟩ (.s .n (.s (.l ⟨[(4,3),(3,11)],[.nat (.s 10)],[],[]⟩ FUEL .n) .n))) .n))
def bHn:EV.An:=(.s .n (.s .n (.s (.s (.s .n (.r (some 5) (od 8 [3,4,5,6,7]))) .n) .n)))
def bOn:EV.An:=(.s .n (.s (.jx ⟨[(4,18)],[],[],[]⟩ (.s .n (.s (.l ⟨[(4,18)],[.nat (.s 5)],[],[]⟩ FUEL .n) .n))) .n))
def bKs:EV.An:=(.s .n (.s .n (.s .n (.s (.u none [1,2] [] (od 5 [2,3,4])) .n))))
def bMt:EV.An:=(.s .n (.s (.y false (some 5) none [(0,true),(1,true),(2,true),(3,true),(4,true),(6,true),(7,true),(8,false),(9,false),(5,false),(10,false),(11,false),(12,true)]) .n))
def bMu:EV.An:=(.s .n (.s .n (.s .n (.s (.s (.rj 4 ⟨[(27,4)],[.dat (.s 30) .bool],[],[]⟩ .n) .n) (.s .n (.s .n (.s .n (.s .n (.s (.y false (some 16) (some 17) (od 19 [11,12,16,17])) .n)))))))))
def bIg:EV.An:=(.s .n (.s (.y false (some 5) (some 9) [(0,true),(1,true),(2,true),(3,true),(4,true),(6,true),(7,true),(8,false),(5,false),(9,false),(10,false),(11,true)]) .n))
def aY0:EV.An:=(.s .n (.s (.s (.r (some 9) (od 12 [7,8,9,10,11])) .n) .n))
def bIh:EV.An:=(.s .n (.s .n (.s (.j ⟨[(5,3),(1,20)],[.tr (.s 5) 0 5 true],[],[]⟩ (.s .n (.s (.l ⟨[(5,3),(3,18)],[.tr (.s 5) 0 5 true, .nat (.s 11)],[],[]⟩ FUEL .n) .n))) .n)))
def bIi:EV.An:=(.s (.r (some 11) [(0,true),(1,true),(2,true),(4,true),(5,true),(6,true),(7,true),(8,true),(9,true),(3,false),(10,true),(11,false),(12,false)]) .n)
def bIj:EV.An:=(.s .n (.s .n (.s .n (.s (.s (.rj 7 ⟨[(19,19)],[.dat (.s 37) .bool],[],[]⟩ (.r none (od 25 [4,17]))) .n) (.s (.r (some 5) (od 8 [3,4,5,6,7])) .n)))))
def bIk:EV.An:=(.s .n (.s (.y true none (some 9) [(0,true),(1,true),(2,true),(3,true),(5,true),(6,true),(4,false),(7,false),(8,false),(9,false)]) .n))
def bMv:EV.An:=(.s .n (.s .n (.s .n (.s .n (.s (.j ⟨[(3,2),(3,2)],[.dat (.s 3) (.str), .dat (.s 4) i6],[],[]⟩ .n) (.s .n (.s (.r none (od 10 [7])) .n)))))))
def bFe:EV.An:=(.s .n (.s (.rj 6 ⟨[(4,1),(5,14)],[.dat (.s 4) .bool],[],[]⟩ .n) .n))
def bIl:EV.An:=(.s .n (.s (.s (.s (.r none (od 9 [])) .n) .n) .n))
def bIm:EV.An:=(.s .n (.s (.s (.rj 4 ⟨[(10,19)],[.dat (.s 28) .bool],[],[]⟩ (.r none (od 22 [1,7,13]))) .n) (.s .n (.s (.s (.r none (od 6 [4])) .n) .n))))
def bIn:EV.An:=(.y false (some 7) (some 8) [(0,true),(1,true),(3,true),(4,true),(2,false),(5,false),(6,true),(7,false),(8,false)])
def bMw:EV.An:=(.s (.u none [2,3] [] (od 5 [2,3,4])) .n)
def bIo:EV.An:=(.s .n (.s (.s (.s .n (.s (.rj 5 ⟨[(21,28)],[.dat (.s 48) .bool],[],[]⟩ (.r none (od 32 [2,7,13]))) .n)) .n) .n))
def bIp:EV.An:=(.s .n (.s (.r none [(0,true),(1,true),(2,true),(4,true),(3,false),(5,false),(6,false),(7,true)]) .n))
def bIq:EV.An:=(.s (.r none [(0,true),(2,true),(3,true),(1,false),(4,false),(5,false),(6,true)]) .n)
def bIr:EV.An:=(.s .n (.s .n (.s (.rj 3 ⟨[(6,1),(5,7)],[.dat (.s 6) .bool],[],[]⟩ .n) .n)))
def bIs:EV.An:=(.s (.r (some 8) (od 11 [7,8,9,10])) .n)
def bMx:EV.An:=(.s .n (.s (.rj 4 ⟨[(2,1),(3,15)],[.dat (.s 2) .bool],[],[]⟩ .n) .n))
def bIt:EV.An:=(.s .n (.s (.rj 4 ⟨[(6,1),(3,5)],[.dat (.s 6) .bool],[],[]⟩ .n) .n))
def bIu:EV.An:=(.s .n (.s (.rj 3 ⟨[(4,1),(2,7)],[.dat (.s 4) .bool],[],[]⟩ .n) .n))
def bMy:EV.An:=(.s .n (.s (.rj 4 ⟨[(2,1),(3,5)],[.dat (.s 2) .bool],[],[]⟩ .n) .n))
def bIv:EV.An:=(.s .n (.s (.s (.y false none (some 15) (od 16 [10,15])) .n) .n))
def bIw:EV.An:=(.s (.rj 5 ⟨[(61,21)],[.dat (.s 81) .bool],[],[]⟩ .n) .n)
def bMz:EV.An:=(.s (.rj 4 ⟨[(16,15)],[.dat (.s 30) .bool],[],[]⟩ .n) .n)
def bM0:EV.An:=(.rj 5 ⟨[(19,1),(4,10)],[.dat (.s 19) .bool],[],[]⟩ .n)
def bM1:EV.An:=(.s (.rj 4 ⟨[(22,12)],[.dat (.s 33) .bool],[],[]⟩ .n) .n)
def bIx:EV.An:=(.s (.rj 5 ⟨[(52,4)],[.dat (.s 55) .bool],[],[]⟩ .n) .n)
def bIy:EV.An:=(.s (.rj 4 ⟨[(14,5)],[.dat (.s 18) .bool],[],[]⟩ .n) .n)
def bM2:EV.An:=(.s .n (.s (.u none [1] [] (od 11 [6,7,8,9,10])) .n))
def aWx:SU:=⟨[.sl 5],[.bool],false,false,λ(a:(List Int))=>some (bD7 a)⟩
def aWy:OK 5 aWx:=mkS .n [.tmp 2] aH func5 ntmps5 (λa _=>(aWw a).trans) (λ_=>by kernel_rfl)
def bBl:SU:=⟨[.sl 5,i6],[i6],false,false,λ(a:(List Int)×Int)=>gd (0<=a.2) (some (atF a.1 a.2))⟩
def bBm:OK 7 bBl:=mkS .n [.tmp 4] aH func7 ntmps7 (λa _=>aI (bBk a.1 a.2)) (λ_=>by kernel_rfl)
def aUj:SU:=⟨[i6,i6,i6],[.bool],false,false,λ(a:Int×Int×Int)=>some (bH a.1 a.2.1 a.2.2)⟩
def dE:OK 21 aUj:=mkS bIt [.tmp 6] aH func21 ntmps21 (λa _=>(aT1 a.1 a.2.1 a.2.2).trans) (λ_=>by kernel_rfl)
def P5:SU:=⟨[i6],[.bool],false,false,λ(a:Int)=>some (bG a)⟩
def dA:OK 22 P5:=mkS .n [.tmp 2] (gc dE aH) func22 ntmps22 (λa _=>(J4 a).trans) (λ_=>by kernel_rfl)
def aWz:SU:=⟨[i6,i6],[i6],false,false,λ(a:Int×Int)=>some (gJ a.1 a.2)⟩
def yD:OK 94 aWz:=mkS .n [.tmp 4] (gc dE aH) func94 ntmps94 (λa _=>(aWi a.1 a.2).trans) (λ_=>by kernel_rfl)
def aUk:SU:=⟨[.sl 3],[i6],false,false,λ(a:(List Int))=>gd (a.length<=1099511627776) (some (uE a))⟩
def aD4:OK 147 aUk:=mkS (.s .n (.s .n (.s (.j ⟨[(3,18)],[.dat (.s 3) i6],[],[]⟩ (.s .n (.s (.l ⟨[(3,18)],[.dat (.s 3) i6, .nat (.s 4)],[],[]⟩ FUEL .n) .n))) .n))) [.tmp 2] (gc yD aH) func147 ntmps147 (λ(a:(List Int)) _=>aI (aT2 a)) (λ_=>by kernel_rfl)
def aB1:SU:=⟨[i6, .sl 3],[i6],false,false,λ(a:Int×(List Int))=>gd (a.2.length<=34359738368) (some (bE a.1 a.2))⟩
def dU:OK 92 aB1:=mkS .n [.tmp 4] (gc aD4 aH) func92 ntmps92 (λa _=>aI (aA2 a.1 a.2)) (λ_=>by kernel_rfl)
def aW0:SU:=⟨[i6,i6],[i6],false,false,λ(a:Int×Int)=>some (aQg a.1 a.2)⟩
def Xy:OK 91 aW0:=mkS .n [.tmp 4] aH func91 ntmps91 (λa _=>(aWk a.1 a.2).trans) (λ_=>by kernel_rfl)
def aB2:SU:=⟨[i6, .sl 3],[i6],false,false,λ(a:Int×(List Int))=>gd (a.2.length<=34359738300) (some (aW a.1 a.2))⟩
def eZ:OK 37 aB2:=mkS .n [.tmp 4] (gc dU (gc Xy aH)) func37 ntmps37 (λa _=>aI (aA4 a.1 a.2)) (λ_=>by kernel_rfl)
def P6:SU:=⟨[i6,i6],[.st 64],false,false,λ(a:Int×Int)=>some (aP a.1 a.2)⟩
def P7:OK 24 P6:=mkS .n [.cell 4 64] (gc eZ aH) func24 ntmps24 (λa _=>(N8 a.1 a.2).trans) (λ_=>by kernel_rfl)
def aB3:SU:=⟨[.st 64],[.st 66],true,false,λ(a:D.aAH)=>some (dH a)⟩
def aB4:OK 23 aB3:=mkS .n [.cell 2 66] aH func23 ntmps23 (λa _=>(aBu a).trans) (λ_=>by kernel_rfl)
def aB5:SU:=⟨[.st 64],[i6],false,false,λ(a:D.aAH)=>some (fF a)⟩
def rO:OK 70 aB5:=mkS .n [.tmp 2] (gc eZ aH) func70 ntmps70 (λa _=>(aA8 a).trans) (λ_=>by kernel_rfl)
def aB6:SU:=⟨[i6],[i6],false,false,λ(a:Int)=>some (bU a)⟩
def mO:OK 69 aB6:=mkS .n [.tmp 2] (gc dA aH) func69 ntmps69 (λa _=>(aA6 a).trans) (λ_=>by kernel_rfl)
def Sc:SU:=⟨[.st 64],[i6],false,false,λ(a:D.aAH)=>some (bJ a)⟩
def mY:OK 26 Sc:=mkS .n [.tmp 2] (gc rO (gc mO aH)) func26 ntmps26 (λa _=>(Rf a).trans) (λ_=>by kernel_rfl)
def aB7:SU:=⟨[.st 113],[i6],false,false,λ(a:D.aAD)=>some (bZ a)⟩
def rP:OK 66 aB7:=mkS .n [.tmp 2] (gc aD4 aH) func66 ntmps66 (λa _=>(aBj a).trans) (λ_=>by kernel_rfl)
def aJz:SU:=⟨[.sl 113],[i6],false,false,λ(a:(List D.aAD))=>gd (a.length<=34359738368) (some (fU a))⟩
def Oq:OK 64 aJz:=mkS .n [.tmp 2] (gc rP aH) func64 ntmps64 (λ(a:(List D.aAD)) _=>aI (aI9 a)) (λ_=>by kernel_rfl)
def Xz:SU:=⟨[i6, .sl 3],[i6],false,false,λ(a:Int×(List Int))=>gd (a.2.length<=34359738300) (some (nW a.1 a.2))⟩
def yE:OK 146 Xz:=mkS .n [.tmp 4] (gc dA (gc dU aH)) func146 ntmps146 (λa _=>aI (Ws a.1 a.2)) (λ_=>by kernel_rfl)
def Sd:SU:=⟨[.st 64, .sl 3],[i6],false,false,λ(a:D.aAH×(List Int))=>gd (a.2.length<=34359738300) (some (pE a.1 a.2))⟩
def Sg:OK 65 Sd:=mkS .n [.tmp 4] (gc rO (gc yE aH)) func65 ntmps65 (λa _=>aI (Rv a.1 a.2)) (λ_=>by kernel_rfl)
def aJ0:SU:=⟨[.sl 113],[.sl 113],true,false,λ(a:(List D.aAD))=>gd (a.length<=34359738368) (some (a))⟩
def jT:OK 67 aJ0:=mkS .n [.tmp 2] aH func67 ntmps67 (λ(a:(List D.aAD)) _=>aI (aIw a)) (λ_=>by kernel_rfl)
def aMl:SU:=⟨[.sl 3,i6],[.bool],false,false,λ(a:(List Int)×Int)=>gd (a.1.length<=1099511627776) (some (gH a.1 a.2))⟩
def Ay:OK 135 aMl:=mkS (.s .n (.s (.jx ⟨[(4,14)],[],[],[]⟩ (.s .n (.s (.l ⟨[(4,14)],[.nat (.s 5)],[],[]⟩ FUEL .n) .n))) .n)) [.tmp 4] aH func135 ntmps135 (λa _=>aI (aL6 a.1 a.2)) (λ_=>by kernel_rfl)
def aB8:SU:=⟨[.sl 113],[.sl 3],true,false,λ(a:(List D.aAD))=>gd (a.length<=34359738368) (some (aD a))⟩
def mP:OK 72 aB8:=mkS (.s .n (.s .n (.s (.j ⟨[(3,5),(1,56)],[.tr (.s 3) 0 3 true],[],[]⟩ (.s .n (.s (.l ⟨[(3,5),(1,56)],[.tr (.s 3) 0 3 true, .nat (.s 4)],[],[]⟩ FUEL (.s .n (.s (.j ⟨[(3,1),(1,3),(7,50)],[.tr (.s 3) 0 3 true],[],[]⟩ (.s (.s .n (.s (.s (.rj 7 ⟨[(20,1),(6,6)],[.dat (.s 20) .bool],[],[]⟩ .n) (.s .n (.s .n (.s (.s .n (.s (.j ⟨[(6,2),(37,19)],[.tr (.s 6) 1 3 true],[],[]⟩ (.s .n (.s (.l ⟨[(6,2),(37,19)],[.tr (.s 6) 1 3 true, .nat (.s 7)],[],[]⟩ FUEL (.s .n (.s (.j ⟨[(6,1),(44,13)],[.tr (.s 6) 1 3 true],[],[]⟩ .n) .n))) .n))) .n)) .n)))) .n)) .n)) .n))) .n))) .n))) [.tmp 2] (gc Ay aH) func72 ntmps72 (λ(a:(List D.aAD)) _=>aI (aA9 a)) (λ_=>by kernel_rfl)
def aJ1:SU:=⟨[i6,i6],[i6],false,false,λ(a:Int×Int)=>pO a.1 a.2⟩
def aJ2:OK 258 aJ1:=mkS bMs [.tmp 4] aH func258 ntmps258 (λ_ _=>id) (λ_=>by kernel_rfl)
def P8:SU:=⟨[i6],[i6],false,false,λ(a:Int)=>some (eG a)⟩
def pW:OK 218 P8:=mkS .n [.tmp 2] (gc dE (gc aJ2 (gc mO aH))) func218 ntmps218 (λa _=>(K3 a).trans) (λ_=>by kernel_rfl)
def Gh:SU:=⟨[i6, .sl 3,i6],[.bool],false,false,λ(a:Int×(List Int)×Int)=>gd (a.2.1.length<=34359738300) (some (eF a.1 a.2.1 a.2.2))⟩
def Gi:OK 217 Gh:=mkS bIr [.tmp 6] (gc pW (gc yE aH)) func217 ntmps217 (λa _=>aI (Gc a.1 a.2.1 a.2.2)) (λ_=>by kernel_rfl)
def aJ3:SU:=⟨[.sl 113, .st 113],[.bool],false,false,λ(a:(List D.aAD)×D.aAD)=>gd (a.1.length<=34359738368) (some (kY a.1 a.2))⟩
def aJ4:OK 148 aJ3:=mkS (.s .n (.s .n (.s (.rj 5 ⟨[(6,1),(7,12)],[.dat (.s 6) .bool],[],[]⟩ .n) (.s (.s (.rj 6 ⟨[(31,22)],[.dat (.s 52) .bool],[],[]⟩ (.r none [(0,true),(1,true),(2,true),(3,true),(4,true),(5,true),(6,true),(7,true),(8,true),(9,false),(10,true),(11,true),(12,true),(13,true),(14,true),(15,true),(16,true),(17,true),(18,true),(19,true),(22,true),(23,true),(20,false),(21,false),(24,false),(25,true),(26,true)])) .n) (.s (.s .n (.s (.s (.rj 5 ⟨[(4,1),(55,5)],[.dat (.s 4) .bool],[],[]⟩ .n) .n) .n)) (.s (.jx ⟨[(4,1),(2,1),(57,22)],[],[],[]⟩ (.s .n (.s (.l ⟨[(4,1),(2,1),(57,22)],[.nat (.s 7)],[],[]⟩ FUEL (.s .n (.s (.s (.s (.rj 7 ⟨[(77,10)],[.dat (.s 86) .bool],[],[]⟩ (.r none (od 16 []))) .n) .n) .n))) .n))) (.s (.rj 4 ⟨[(4,1),(85,12)],[.dat (.s 4) .bool],[],[]⟩ .n) .n))))))) [.tmp 4] (gc mP (gc Ay (gc Oq (gc rP (gc Gi aH))))) func148 ntmps148 (λa _=>aI (aJe a.1 a.2)) (λ_=>by kernel_rfl)
def aB9:SU:=⟨[.sl 113],[.bool],false,false,λ(a:(List D.aAD))=>gd (a.length<=34359738368) (some (bL a))⟩
def iC:OK 68 aB9:=mkS (.s .n (.s (.jx ⟨[(2,17)],[],[],[]⟩ (.s .n (.s (.l ⟨[(2,17)],[.nat (.s 3)],[],[]⟩ FUEL (.s .n (.s (.s (.s (.r none (od 9 [7])) .n) .n) .n))) .n))) .n)) [.tmp 2] (gc aJ4 (gc dE aH)) func68 ntmps68 (λ(a:(List D.aAD)) _=>aI (aBl a)) (λ_=>by kernel_rfl)
def Ya:SU:=⟨[.sl 113,i6,i6, .st 64],[.sl 113, .bool],true,false,λ(a:(List D.aAD)×Int×Int×D.aAH)=>gd (a.1.length<=34359738300) (some (nE a.1 a.2.1 a.2.2.1 a.2.2.2))⟩
def Yc:OK 25 Ya:=mkS (.s .n (.s .n (.s (.r (some 6) (od 7 [2,3,4,6])) (.s (.y false (some 3) (some 4) [(0,true),(2,true),(1,false),(3,false),(4,false),(5,true)]) (.s (.s (.rj 4 ⟨[(35,10)],[.dat (.s 44) .bool],[],[]⟩ .n) .n) .n))))) [.tmp 8, .tmp 9] (gc mY (gc Oq (gc rP (gc Sg (gc jT (gc iC aH)))))) func25 ntmps25 (λa _=>aI (Xn a.1 a.2.1 a.2.2.1 a.2.2.2)) (λ_=>by kernel_rfl)
def aE6:SU:=⟨[i6,i6],[i6],false,false,λ(a:Int×Int)=>some (bI a.1 a.2)⟩
def aE7:OK 27 aE6:=mkS .n [.tmp 4] (gc eZ aH) func27 ntmps27 (λa _=>(aE0 a.1 a.2).trans) (λ_=>by kernel_rfl)
def aJ5:SU:=⟨[.sl 113],[i6],false,false,λ(a:(List D.aAD))=>gd (a.length<=34359738368) (some (aF a))⟩
def mE:OK 20 aJ5:=mkS (.s .n (.s .n (.s (.j ⟨[(3,16)],[.dat (.s 3) i6],[],[]⟩ (.s .n (.s (.l ⟨[(3,16)],[.dat (.s 3) i6, .nat (.s 4)],[],[]⟩ FUEL (.s .n (.s (.j ⟨[(3,1),(7,8)],[.dat (.s 3) i6],[],[]⟩ .n) .n))) .n))) .n))) [.tmp 2] aH func20 ntmps20 (λ(a:(List D.aAD)) _=>aI (aJg a)) (λ_=>by kernel_rfl)
def Ot:SU:=⟨[.sl 5,i6],[.sl 5],true,false,λ(a:(List Int)×Int)=>gd (a.1.length<=34359738300) (some (oZ a.1 a.2))⟩
def Ou:OK 150 Ot:=mkS (.s .n (.s .n (.s .n (.s (.j ⟨[(1,1),(3,1),(7,11)],[.dat (.s 1) i6, .tr (.s 5) 0 5 true],[],[]⟩ (.s (.l ⟨[(1,1),(3,1),(7,11)],[.dat (.s 1) i6, .tr (.s 5) 0 5 true],[],[]⟩ FUEL .n) .n)) .n)))) [.tmp 4] (gc dE aH) func150 ntmps150 (λa _=>aI (Oc a.1 a.2)) (λ_=>by kernel_rfl)
def P9:SU:=⟨[.sl 3],[.sl 5],true,false,λ(a:(List Int))=>gd (a.length<=5000000000) (some (gG a))⟩
def Ai:OK 73 P9:=mkS (.s .n (.s .n (.s (.j ⟨[(3,2),(1,12)],[.tr (.s 3) 0 5 true],[],[]⟩ (.s .n (.s (.l ⟨[(3,2),(1,12)],[.tr (.s 3) 0 5 true, .nat (.s 4)],[],[]⟩ FUEL .n) .n))) .n))) [.tmp 2] (gc Ou aH) func73 ntmps73 (λ(a:(List Int)) _=>aI (L9 a)) (λ_=>by kernel_rfl)
def aMm:SU:=⟨[i6,i6],[i6],false,false,λ(a:Int×Int)=>some (fH a.1 a.2)⟩
def Vj:OK 219 aMm:=mkS .n [.tmp 4] (gc eZ aH) func219 ntmps219 (λa _=>(aMf a.1 a.2).trans) (λ_=>by kernel_rfl)
def aJ6:SU:=⟨[i6, .sl 5],[.sl 5],true,false,λ(a:Int×(List Int))=>gd (aT a.2) (some (jY a.1 a.2))⟩
def Ov:OK 158 aJ6:=mkS (.s .n (.s .n (.s (.j ⟨[(5,2),(1,22)],[.tr (.s 5) 0 5 true],[],[]⟩ (.s .n (.s (.l ⟨[(5,2),(1,22)],[.tr (.s 5) 0 5 true, .nat (.s 6)],[],[]⟩ FUEL (.s .n (.s (.s (.r (some 15) (od 17 [8,9,14,15,16])) .n) .n))) .n))) .n))) [.tmp 4] (gc dU aH) func158 ntmps158 (λa _=>aI (aJt a.1 a.2)) (λ_=>by kernel_rfl)
def Yd:SU:=⟨[.sl 5],[.sl 3],true,false,λ(a:(List Int))=>gd (a.length<=34359738360) (some (tX a))⟩
def nL:OK 222 Yd:=mkS (.s .n (.s .n (.s (.j ⟨[(3,2),(3,14)],[.tr (.s 3) 0 3 true],[],[]⟩ (.s .n (.s (.l ⟨[(3,2),(3,14)],[.tr (.s 3) 0 3 true, .nat (.s 4)],[],[]⟩ FUEL .n) .n))) .n))) [.tmp 2] aH func222 ntmps222 (λ(a:(List Int)) _=>aI (Xa a)) (λ_=>by kernel_rfl)
def aMn:SU:=⟨[i6, .st 190],[i6],false,false,λ(a:Int×D.Box)=>gd (a.2.Data.length<=34359738200) (some (La a.1 a.2))⟩
def Vk:OK 220 aMn:=mkS bIg [.tmp 4] (gc nL (gc dU aH)) func220 ntmps220 (λa _=>aI (aMg a.1 a.2)) (λ_=>by kernel_rfl)
def aJ7:SU:=⟨[i6,i6, .sl 5],[.st 190, .bool],true,false,λ(a:Int×Int×(List Int))=>gd (aT a.2.2) (some (fM a.1 a.2.1 a.2.2))⟩
def aJ8:OK 149 aJ7:=mkS (.s .n (.s .n (.s (.s (.rj 3 ⟨[(15,10)],[.dat (.s 24) .bool],[],[]⟩ .n) .n) .n))) [.cell 6 190, .tmp 7] (gc pW (gc dA (gc Vj (gc Ov (gc Vk aH))))) func149 ntmps149 (λa _=>aI (aJv a.1 a.2.1 a.2.2)) (λ_=>by kernel_rfl)
def aCa:SU:=⟨[.sl 3,i6, .sl 5],[.sl 190, .bool],true,false,λ(a:(List Int)×Int×(List Int))=>gd (a.1.length<=34359738300/\aT a.2.2) (some (fD a.2.1 a.2.2 0 a.1))⟩
def aCb:OK 71 aCa:=mkS (.s .n (.s .n (.s (.jx ⟨[(6,6),(1,25)],[.tr (.s 8) 0 190 true],[],[]⟩ (.s .n (.s (.l ⟨[(6,6),(1,25)],[.tr (.s 8) 0 190 true, .nat (.s 9)],[],[]⟩ FUEL .n) .n))) .n))) [.tmp 6, .tmp 7] (gc aJ8 aH) func71 ntmps71 (λa _=>aI (aBv a.1 a.2.1 a.2.2)) (λ_=>by kernel_rfl)
def Ji:SU:=⟨[.sl 113,i6,i6],[.st 29, .bool],true,false,λ(a:(List D.aAD)×Int×Int)=>gd (a.1.length<=34359738300) (some (cK a.1 a.2.1 a.2.2))⟩
def Jj:OK 28 Ji:=mkS (.s .n (.s .n (.s .n (.s (.s (.rj 4 ⟨[(27,9)],[.dat (.s 35) .bool],[],[]⟩ .n) .n) .n)))) [.cell 6 29, .tmp 7] (gc mE (gc mP (gc Ai (gc aCb (gc iC (gc dA aH)))))) func28 ntmps28 (λa _=>aI (Jc a.1 a.2.1 a.2.2)) (λ_=>by kernel_rfl)
def Q0:SU:=⟨[.st 29,i6],[i6],false,false,λ(a:D.aAG×Int)=>gd (a.1.Boxes.length<=34359738368) (some (pF a.1 a.2))⟩
def Q3:OK 151 Q0:=mkS (.s .n (.s .n (.s (.j ⟨[(5,19)],[.dat (.s 5) i6],[],[]⟩ (.s .n (.s (.l ⟨[(5,19)],[.dat (.s 5) i6, .nat (.s 6)],[],[]⟩ FUEL (.s .n (.s (.j ⟨[(5,1),(8,10)],[.dat (.s 5) i6],[],[]⟩ .n) .n))) .n))) .n))) [.tmp 4] aH func151 ntmps151 (λa _=>aI (O0 a.1 a.2)) (λ_=>by kernel_rfl)
def aCc:SU:=⟨[.st 29, .sl 113],[.bool],false,false,λ(a:D.aAG×(List D.aAD))=>gd (a.1.Boxes.length<=34359738368/\a.2.length<=34359738368) (some (lF a.1 a.2))⟩
def aCd:OK 74 aCc:=mkS (.s .n (.s .n (.s (.jx ⟨[(4,1),(1,1),(2,13)],[],[],[]⟩ (.s .n (.s (.l ⟨[(4,1),(1,1),(2,13)],[.nat (.s 6)],[],[]⟩ FUEL (.s .n (.s (.s (.s (.r none (od 7 [5])) .n) .n) .n))) .n))) (.s (.rj 6 ⟨[(4,1),(22,8)],[.dat (.s 4) .bool],[],[]⟩ (.r none (od 14 [3]))) .n)))) [.tmp 4] (gc mP (gc Q3 (gc mE aH))) func74 ntmps74 (λa _=>aI (aBw a.1 a.2)) (λ_=>by kernel_rfl)
def aJ9:SU:=⟨[.st 29],[.st 29],true,false,λ(a:D.aAG)=>gd (a.sz<=34359738368) (some (a))⟩
def Ox:OK 75 aJ9:=mkS (.s .n (.s .n (.s (.j ⟨[(4,2),(3,27)],[.nt (.c 2 1) 190 true],[],[]⟩ (.s .n (.s (.l ⟨[(4,2),(3,27)],[.nat (.s 4), .nt (.c 2 1) 190 true],[],[]⟩ FUEL .n) .n))) .n))) [.cell 2 29] aH func75 ntmps75 (λ(a:D.aAG) _=>aI (aIz a)) (λ_=>by kernel_rfl)
def aE8:SU:=⟨[.sl 113, .st 29],[.st 32, .bool],true,false,λ(a:(List D.aAD)×D.aAG)=>gd (a.1.length<=34359738368/\a.2.sz<=34359738368) (some (dS a.1 a.2))⟩
def aE9:OK 29 aE8:=mkS (.s .n (.s (.s (.rj 4 ⟨[(9,6)],[.dat (.s 14) .bool],[],[]⟩ .n) .n) (.s (.r (some 5) [(0,true),(2,true),(1,false),(3,false),(4,true),(5,false),(6,false)]) .n))) [.cell 4 32, .tmp 5] (gc iC (gc aCd (gc jT (gc Ox aH)))) func29 ntmps29 (λa _=>aI (aE4 a.1 a.2)) (λ_=>by kernel_rfl)
def aFa:SU:=⟨[i6],[.str],false,false,λ(a:Int)=>some (aA a)⟩
def Ic:OK 33 aFa:=mkS .n [.tmp 2] aH func33 ntmps33 (λa _=>(aEs a).trans) (λ_=>by kernel_rfl)
def aFb:SU:=⟨[.str],[.sl 9],true,false,λ(a:ByteArray)=>gd (a.size<=34359738368) (some (bF a))⟩
def Ie:OK 153 aFb:=mkS (.s .n (.s .n (.s .n (.s (.j ⟨[(3,3),(1,25)],[.tr (.s 3) 0 9 true],[],[]⟩ (.s .n (.s (.l ⟨[(3,3),(1,25)],[.tr (.s 3) 0 9 true, .dat (.s 4) i6, .dat (.s 5) i6],[],[]⟩ FUEL (.s .n (.s (.j ⟨[(3,2),(8,19)],[.tr (.s 3) 0 9 true, .dat (.s 4) i6],[],[]⟩ (.s (.s (.rj 5 ⟨[(17,6)],[.dat (.s 22) .bool],[],[]⟩ .n) .n) .n)) .n))) .n))) .n)))) [.tmp 2] aH func153 ntmps153 (λ(a:ByteArray) _=>aI (aEu a)) (λ_=>by kernel_rfl)
def aKa:SU:=⟨[.str],[.bool],false,false,λ(a:ByteArray)=>gd (a.size<=34359738368) (some (sK a))⟩
def aKb:OK 221 aKa:=mkS (.s .n (.s (.jx ⟨[(2,39)],[],[],[]⟩ (.s .n (.s (.l ⟨[(2,39)],[.nat (.s 3)],[],[]⟩ FUEL (.s .n (.s (.s (.s (.rj 5 ⟨[(4,1),(10,24)],[.dat (.s 4) .bool],[],[]⟩ .n) .n) .n) .n))) .n))) (.s (.rj 4 ⟨[(2,1),(41,13)],[.dat (.s 2) .bool],[],[]⟩ .n) .n))) [.tmp 2] (gc dE aH) func221 ntmps221 (λ(a:ByteArray) _=>aI (aJc a)) (λ_=>by kernel_rfl)
def aMo:SU:=⟨[.str],[.bool],false,false,λ(a:ByteArray)=>gd (a.size<=34359738368) (some (fJ a))⟩
def aMp:OK 152 aMo:=mkS (.s .n (.s .n (.s (.jx ⟨[(2,1),(1,1),(2,12)],[],[],[]⟩ (.s .n (.s (.l ⟨[(2,1),(1,1),(2,12)],[.nat (.s 4)],[],[]⟩ FUEL .n) .n))) .n))) [.tmp 2] (gc Ie (gc aKb aH)) func152 ntmps152 (λ(a:ByteArray) _=>aI (aMa a)) (λ_=>by kernel_rfl)
def aKc:SU:=⟨[.str,i6],[.st 130],true,false,λ(a:ByteArray×Int)=>gd (a.1.size<=34359738368) (some (dZ a.1 a.2))⟩
def Oy:OK 77 aKc:=mkS (.s .n (.s (.s (.rj 4 ⟨[(8,11)],[.dat (.s 18) .bool],[],[]⟩ .n) .n) .n)) [.cell 4 130] (gc aMp (gc Ie (gc dA aH))) func77 ntmps77 (λa _=>aI (aJd a.1 a.2)) (λ_=>by kernel_rfl)
def aKd:SU:=⟨[.st 181],[.st 181],true,false,λ(a:D.Account)=>gd (a.sz<=34359738368) (some (a))⟩
def Oz:OK 166 aKd:=mkS .n [.cell 2 181] aH func166 ntmps166 (λ(a:D.Account) _=>aI (aI2 a)) (λ_=>by kernel_rfl)
def aKe:SU:=⟨[.st 128],[.st 128],true,false,λ(a:D.aAB)=>gd (a.sz<=34359738368) (some (a))⟩
def aKf:OK 167 aKe:=mkS .n [.cell 2 128] aH func167 ntmps167 (λ(a:D.aAB) _=>aI (aI3 a)) (λ_=>by kernel_rfl)
def aKg:SU:=⟨[.st 130],[.st 130],true,false,λ(a:D.Site)=>gd (a.sz<=34359738368) (some (a))⟩
def yF:OK 100 aKg:=mkS (.s .n (.s .n (.s .n (.s (.j ⟨[(4,1),(3,18)],[.tr (.c 2 1) 3 181 true],[],[]⟩ (.s .n (.s (.l ⟨[(4,1),(3,18)],[.nat (.s 4), .tr (.c 2 1) 3 181 true],[],[]⟩ FUEL aY0) .n))) .n)))) [.cell 2 130] (gc Oz (gc aKf aH)) func100 ntmps100 (λ(a:D.Site) _=>aI (aI4 a)) (λ_=>by kernel_rfl)
def Jk:SU:=⟨[.st 181],[.bool],false,false,λ(a:D.Account)=>gd (a.sz<=34359738368) (some (aV a))⟩
def qU:OK 215 Jk:=mkS (.s .n (.s (.jx ⟨[(2,62)],[],[],[]⟩ (.s .n (.s (.l ⟨[(2,62)],[.nat (.s 3)],[],[]⟩ FUEL (.s .n (.s (.jx ⟨[(2,1),(1,2),(7,51)],[],[],[]⟩ (.s (.s .n (.s (.s (.rj 5 ⟨[(22,28)],[.dat (.s 49) .bool],[],[]⟩ (.r none (od 32 [2,23,29]))) .n) (.s .n (.s (.l ⟨[(2,1),(2,1),(44,14)],[.nat (.s 5)],[],[]⟩ FUEL bIl) .n)))) .n)) .n))) .n))) (.s (.rj 4 ⟨[(2,1),(64,11)],[.dat (.s 2) .bool],[],[]⟩ .n) .n))) [.tmp 2] (gc dE (gc pW aH)) func215 ntmps215 (λ(a:D.Account) _=>aI (Iy a)) (λ_=>by kernel_rfl)
def Ye:SU:=⟨[.st 128],[.bool],false,false,λ(a:D.aAB)=>gd (a.sz<=34359738368) (some (dN a))⟩
def Yf:OK 216 Ye:=mkS (.s .n (.s (.jx ⟨[(2,50)],[],[],[]⟩ (.s .n (.s (.l ⟨[(2,50)],[.nat (.s 3)],[],[]⟩ FUEL (.s .n (.s (.s (.s .n (.s (.rj 8 ⟨[(24,28)],[.dat (.s 51) .bool],[],[]⟩ (.r none (od 35 [5,26,32]))) .n)) .n) .n))) .n))) (.s (.rj 4 ⟨[(2,1),(52,6)],[.dat (.s 2) .bool],[],[]⟩ .n) .n))) [.tmp 2] (gc dE aH) func216 ntmps216 (λ(a:D.aAB) _=>aI (Wu a)) (λ_=>by kernel_rfl)
def Yg:SU:=⟨[.st 130],[.bool],false,false,λ(a:D.Site)=>gd (a.sz<=34359738368) (some (bR a))⟩
def nM:OK 143 Yg:=mkS (.s .n (.s (.jx ⟨[(2,36)],[],[],[]⟩ (.s .n (.s (.l ⟨[(2,36)],[.nat (.s 3)],[],[]⟩ FUEL (.s .n (.s (.s (.s (.rj 8 ⟨[(18,20)],[.dat (.s 37) .bool],[],[]⟩ (.r none (od 27 [5]))) .n) .n) .n))) .n))) (.s (.rj 9 ⟨[(2,1),(43,11)],[.dat (.s 2) .bool],[],[]⟩ .n) .n))) [.tmp 2] (gc qU (gc Oy (gc Yf aH))) func143 ntmps143 (λ(a:D.Site) _=>aI (Wy a)) (λ_=>by kernel_rfl)
def Yh:SU:=⟨[.st 130,i6,i6],[.st 130, .bool],false,false,λ(a:D.Site×Int×Int)=>gd (a.1.sz<=34359738300) (some (kM a.1 a.2.1 a.2.2))⟩
def Yi:OK 76 Yh:=mkS bMq [.cell 6 130, .tmp 7] (gcp yF (gc nM aH)) func76 ntmps76 (λa _=>aI (Xx a.1 a.2.1 a.2.2)) (λ_=>by kernel_rfl)
def Dl:SU:=⟨[i6, .str],[i6],false,false,λ(a:Int×ByteArray)=>gd (a.2.size<=34359738300) (some (lS a.1 a.2))⟩
def Dm:OK 156 Dl:=mkS .n [.tmp 4] (gc nL (gc dU (gc Xy (gc (bIe 1000022) aH)))) func156 ntmps156 (λa _=>aI (Di a.1 a.2)) (λ_=>by kernel_rfl)
def aFc:SU:=⟨[.str],[i6],false,false,λ(a:ByteArray)=>gd (a.size<=34359738300) (some (aR a))⟩
def Ig:OK 83 aFc:=mkS .n [.tmp 2] (gc Dm aH) func83 ntmps83 (λ(a:ByteArray) _=>aI (aEv a)) (λ_=>by kernel_rfl)
def Yj:SU:=⟨[.st 64, .str,i6],[i6],false,false,λ(a:D.aAH×ByteArray×Int)=>gd (a.2.1.size<=34359738300) (some (bM a.1 a.2.1 a.2.2))⟩
def Yk:OK 155 Yj:=mkS bIp [.tmp 6] (gc Ig (gc eZ aH)) func155 ntmps155 (λa _=>aI (Xl a.1 a.2.1 a.2.2)) (λ_=>by kernel_rfl)
def Q4:SU:=⟨[.st 64, .str,i6],[i6],false,false,λ(a:D.aAH×ByteArray×Int)=>gd (a.2.1.size<=34359738300) (some (iK a.1 a.2.1 a.2.2))⟩
def Q5:OK 79 Q4:=mkS .n [.tmp 6] (gc Yk (gc mO aH)) func79 ntmps79 (λa _=>aI (N9 a.1 a.2.1 a.2.2)) (λ_=>by kernel_rfl)
def Yl:SU:=⟨[.st 130,i6],[i6],false,false,λ(a:D.Site×Int)=>gd (a.1.Accounts.length<=34359738368) (some (aC a.1 a.2))⟩
def Ym:OK 141 Yl:=mkS bOn [.tmp 4] aH func141 ntmps141 (λa _=>aI (Xo a.1 a.2)) (λ_=>by kernel_rfl)
def Pb:SU:=⟨[.st 181,i6,i6],[.st 181, .bool],true,false,λ(a:D.Account×Int×Int)=>gd (a.1.sz<=34359738300) (some (eD a.1 a.2.1 a.2.2))⟩
def Pd:OK 154 Pb:=mkS bMq [.cell 6 181, .tmp 7] (gc Oz (gc qU aH)) func154 ntmps154 (λa _=>aI (Oe a.1 a.2.1 a.2.2)) (λ_=>by kernel_rfl)
def Yo:SU:=⟨[.st 130,i6,i6,i6],[.st 130, .bool],true,false,λ(a:D.Site×Int×Int×Int)=>gd (a.1.sz<=34359738300) (some (gQ a.1 a.2.1 a.2.2.1 a.2.2.2))⟩
def Yp:OK 78 Yo:=mkS (.s .n (.s .n (.s .n (.s (.s (.rj 4 ⟨[(22,4)],[.dat (.s 25) .bool],[],[]⟩ .n) .n) .n)))) [.cell 8 130, .tmp 9] (gc yF (gc Ym (gc nM (gc Pd aH)))) func78 ntmps78 (λa _=>aI (Xq a.1 a.2.1 a.2.2.1 a.2.2.2)) (λ_=>by kernel_rfl)
def aKh:SU:=⟨[.st 55],[.st 55],true,false,λ(a:D.aAC)=>gd (a.sz<=34359738368) (some (a))⟩
def mF:OK 137 aKh:=mkS .n [.cell 2 55] aH func137 ntmps137 (λ(a:D.aAC) _=>aI (aIv a)) (λ_=>by kernel_rfl)
def aKi:SU:=⟨[.st 66],[.st 66],true,false,λ(a:D.Device)=>gd (a.sz<=34359738368) (some (a))⟩
def mG:OK 80 aKi:=mkS .n [.cell 2 66] (gc jT (gc mF aH)) func80 ntmps80 (λ(a:D.Device) _=>aI (aIy a)) (λ_=>by kernel_rfl)
def Q6:SU:=⟨[.sl 113, .sl 113],[.bool],false,false,λ(a:(List D.aAD)×(List D.aAD))=>gd (a.1.length<=34359738368) (some (dG a.1 a.2))⟩
def Aj:OK 81 Q6:=mkS (.s .n (.s .n (.s (.jx ⟨[(4,2),(5,15)],[],[],[]⟩ (.s .n (.s (.l ⟨[(4,2),(5,15)],[.nat (.s 5)],[],[]⟩ FUEL bIl) .n))) .n))) [.tmp 4] aH func81 ntmps81 (λa _=>aI (K8 a.1 a.2)) (λ_=>by kernel_rfl)
def Q7:SU:=⟨[.st 66, .sl 113,i6],[.st 66, .bool],true,false,λ(a:D.Device×(List D.aAD)×Int)=>gd (a.1.sz<=34359738368/\a.2.1.length<=34359738368) (some (rF a.1 a.2.1 a.2.2))⟩
def Q8:OK 31 Q7:=mkS (.s .n (.s .n (.s (.s (.rj 4 ⟨[(14,19)],[.dat (.s 32) .bool],[],[]⟩ (.r none [(0,true),(1,false),(2,true),(3,true),(4,true),(5,true),(6,true),(7,false),(8,true),(9,true),(10,true),(11,true),(13,true),(14,true),(12,false),(15,true),(16,true),(17,true),(18,true),(19,false),(20,true),(21,true)])) .n) .n))) [.cell 6 66, .tmp 7] (gc mG (gc iC (gc Aj (gc mE (gc dA (gc jT aH)))))) func31 ntmps31 (λa _=>aI (O3 a.1 a.2.1 a.2.2)) (λ_=>by kernel_rfl)
def aCe:SU:=⟨[.st 55,i6,i6],[i6],false,false,λ(a:D.aAC×Int×Int)=>gd (a.1.sz<=34359738368) (some (aG a.1 a.2.1 a.2.2))⟩
def mQ:OK 138 aCe:=mkS (.s .n (.s (.jx ⟨[(6,28)],[],[],[]⟩ (.s .n (.s (.l ⟨[(6,28)],[.nat (.s 7)],[],[]⟩ FUEL (.s .n (.s (.s (.s (.rj 9 ⟨[(23,10)],[.dat (.s 32) .bool],[],[]⟩ .n) .n) .n) .n))) .n))) .n)) [.tmp 6] aH func138 ntmps138 (λa _=>aI (aBd a.1 a.2.1 a.2.2)) (λ_=>by kernel_rfl)
def aKj:SU:=⟨[.st 103,i6,i6],[.bool],false,false,λ(a:D.Entry×Int×Int)=>some (sM a.1 a.2.1 a.2.2)⟩
def Pe:OK 212 aKj:=mkS (.s .n (.s (.rj 5 ⟨[(6,1),(4,12)],[.dat (.s 6) .bool],[],[]⟩ .n) .n)) [.tmp 6] aH func212 ntmps212 (λa _=>(aIu a.1 a.2.1 a.2.2).trans) (λ_=>by kernel_rfl)
def aMq:SU:=⟨[.st 55, .st 103],[.st 55],true,false,λ(a:D.aAC×D.Entry)=>gd (a.1.sz<=34359738360) (some (vQ a.1 a.2))⟩
def Az:OK 139 aMq:=mkS (.s .n (.s .n (.s .n (.s .n (.s (.j ⟨[(7,1),(16,19)],[.dat (.s 7) i6],[],[]⟩ (.s (.l ⟨[(7,1),(16,19)],[.dat (.s 7) i6],[],[]⟩ FUEL (.s (.s (.rj 6 ⟨[(29,12)],[.dat (.s 40) .bool],[],[]⟩ (.r none (od 17 [15]))) .n) .n)) .n)) (.s (.y true (some 7) (some 15) [(1,true),(2,true),(3,true),(4,true),(6,true),(9,true),(10,true),(11,true),(12,true),(0,false),(5,false),(7,false),(8,false),(13,false),(14,false),(15,false)]) .n)))))) [.cell 4 55] (gc mF (gc mQ (gc Pe aH))) func139 ntmps139 (λa _=>aI (aL8 a.1 a.2)) (λ_=>by kernel_rfl)
def aFd:SU:=⟨[.st 55],[.bool],false,false,λ(a:D.aAC)=>gd (a.sz<=34359738368) (some (aM a))⟩
def iT:OK 136 aFd:=mkS (.s .n (.s (.jx ⟨[(2,49)],[],[],[]⟩ (.s .n (.s (.l ⟨[(2,49)],[.nat (.s 3)],[],[]⟩ FUEL (.s .n (.s (.s (.s .n (.s (.rj 5 ⟨[(21,30)],[.dat (.s 50) .bool],[],[]⟩ (.r none (od 34 [2,7,13,30]))) .n)) .n) .n))) .n))) .n)) [.tmp 2] (gc dE (gc Pe aH)) func136 ntmps136 (λ(a:D.aAC) _=>aI (aEl a)) (λ_=>by kernel_rfl)
def aFe:SU:=⟨[.st 55,i6,i6],[.st 55, .bool],true,false,λ(a:D.aAC×Int×Int)=>gd (a.1.sz<=34359738360) (some (aLy a.1 a.2.1 a.2.2))⟩
def aFf:OK 82 aFe:=mkS (.s .n (.s .n (.s (.jx ⟨[(7,1),(1,1),(4,23)],[.dat (.c 2 2) i6],[],[]⟩ .n) (.s .n (.s (.s (.rj 4 ⟨[(43,5)],[.dat (.s 47) .bool],[],[]⟩ .n) .n) .n))))) [.cell 6 55, .tmp 7] (gc mQ (gc mF (gc Az (gc iT aH)))) func82 ntmps82 (λa _=>aI (aEx a.1 a.2.1 a.2.2)) (λ_=>by kernel_rfl)
def Yq:SU:=⟨[.st 55,i6,i6],[.st 55, .bool],true,false,λ(a:D.aAC×Int×Int)=>gd (a.1.sz<=34359738360) (some (aLz a.1 a.2.1 a.2.2))⟩
def Yr:OK 84 Yq:=mkS (.s .n (.s .n (.s (.s (.rj 4 ⟨[(16,21)],[.dat (.s 36) .bool],[],[]⟩ .n) .n) (.s (.r (some 12) (od 14 [11,12,13])) .n)))) [.cell 6 55, .tmp 7] (gc mQ (gc iT (gc mF (gc Az aH)))) func84 ntmps84 (λa _=>aI (Xc a.1 a.2.1 a.2.2)) (λ_=>by kernel_rfl)
def Si:SU:=⟨[.st 66, .str,i6, .bool],[.st 66, .bool],true,false,λ(a:D.Device×ByteArray×Int×Bool)=>gd (a.1.sz<=34359738360/\a.2.1.size<=34359738300) (some (dC a.1 a.2.1 a.2.2.1 a.2.2.2))⟩
def vF:OK 32 Si:=mkS (.s .n (.s .n (.s (.y false (some 9) (some 10) [(0,true),(1,true),(2,true),(4,true),(3,false),(5,false),(6,true),(7,true),(8,true),(9,false),(10,false),(11,true)]) (.s (.j ⟨[(12,1),(11,10)],[.dat (.s 12) .bool, .tr (.c 6 0) 5 103 true],[],[]⟩ (.s .n (.s (.y false none (some 9) [(0,true),(1,true),(2,true),(4,true),(3,false),(5,false),(6,true),(7,true),(8,true),(9,false),(10,true)]) .n))) (.s (.j ⟨[(34,3)],[.nt (.c 4 8) 103 true],[],[3,5]⟩ .n) .n))))) [.cell 8 66, .tmp 9] (gc mG (gc Ig (gc aFf (gc Yr aH)))) func32 ntmps32 (λa _=>aI (Rm a.1 a.2.1 a.2.2.1 a.2.2.2)) (λ_=>by kernel_rfl)
def aFg:SU:=⟨[i6,i6,i6],[.bool],false,false,λ(a:Int×Int×Int)=>some (bG a.1&&(bH a.2.1 0 1000000&&bH a.2.2 0 1000000))⟩
def Ih:OK 157 aFg:=mkS (.s .n (.s (.rj 3 ⟨[(6,1),(2,8)],[.dat (.s 6) .bool],[],[]⟩ .n) .n)) [.tmp 6] (gc dA (gc dE aH)) func157 ntmps157 (λa _=>(aEz a.1 a.2.1 a.2.2).trans) (λ_=>by kernel_rfl)
def aMr:SU:=⟨[i6,i6,i6],[i6],false,false,λ(a:Int×Int×Int)=>some (jA a.1 a.2.1 a.2.2)⟩
def Vl:OK 159 aMr:=mkS .n [.tmp 6] (gc eZ aH) func159 ntmps159 (λa _=>(aMi a.1 a.2.1 a.2.2).trans) (λ_=>by kernel_rfl)
def Sj:SU:=⟨[.st 55],[.sl 5],true,false,λ(a:D.aAC)=>gd (a.sz<=34359738368) (some (lC a))⟩
def vG:OK 160 Sj:=mkS (.s .n (.s .n (.s .n (.s (.j ⟨[(3,3),(8,35)],[.tr (.s 3) 1 3 true],[],[]⟩ (.s .n (.s (.l ⟨[(3,3),(8,35)],[.tr (.s 3) 1 3 true, .nat (.s 4)],[],[]⟩ FUEL (.s .n (.s (.j ⟨[(3,1),(1,1),(15,28)],[.tr (.s 3) 1 3 true],[],[]⟩ (.s (.s .n (.s (.j ⟨[(5,1),(15,6)],[.dat (.s 5) i6],[],[]⟩ .n) (.r (some 21) (od 23 [20,21,22])))) .n)) .n))) .n))) .n)))) [.tmp 2] (gc iT (gc Ai aH)) func160 ntmps160 (λ(a:D.aAC) _=>aI (Rn a)) (λ_=>by kernel_rfl)
def aCf:SU:=⟨[i6, .st 86],[i6],false,false,λ(a:Int×D.aAA)=>gd (a.2.Data.length<=34359738200) (some (fV a.1 a.2))⟩
def Dp:OK 161 aCf:=mkS bIg [.tmp 4] (gc nL (gc dU aH)) func161 ntmps161 (λa _=>aI (aBp a.1 a.2)) (λ_=>by kernel_rfl)
def Q9:SU:=⟨[i6,i6,i6, .st 55],[.st 86, .bool],true,false,λ(a:Int×Int×Int×D.aAC)=>gd (a.2.2.2.sz<=34359738368) (some (nC a.1 a.2.1 a.2.2.1 a.2.2.2))⟩
def R3:OK 85 Q9:=mkS (.s .n (.s (.s (.rj 6 ⟨[(16,5)],[.dat (.s 20) .bool],[],[]⟩ .n) .n) (.s (.y false (some 10) (some 11) [(0,true),(1,true),(2,true),(3,true),(4,true),(6,true),(5,false),(7,false),(8,false),(9,true),(10,false),(11,false)]) .n))) [.cell 8 86, .tmp 9] (gc Ih (gc iT (gc Vl (gc vG (gc Ov (gc Dp aH)))))) func85 ntmps85 (λa _=>aI (M9 a.1 a.2.1 a.2.2.1 a.2.2.2)) (λ_=>by kernel_rfl)
def Yt:SU:=⟨[.st 66],[.st 66, .st 86, .bool],true,false,λ(a:D.Device)=>gd (a.sz<=34359738368) (some (dK a))⟩
def Yu:OK 34 Yt:=mkS (.s .n (.s .n bKs)) [.cell 2 66, .cell 3 86, .tmp 4] (gc mG (gc R3 aH)) func34 ntmps34 (λ(a:D.Device) _=>aI (Xj a)) (λ_=>by kernel_rfl)
def aKk:SU:=⟨[.st 86],[.st 86],true,false,λ(a:D.aAA)=>gd (a.sz<=34359738368) (some (a))⟩
def yG:OK 88 aKk:=mkS .n [.cell 2 86] aH func88 ntmps88 (λ(a:D.aAA) _=>aI (aI0 a)) (λ_=>by kernel_rfl)
def aKl:SU:=⟨[.st 32],[.st 32],true,false,λ(a:D.aAE)=>gd (a.sz<=34359738368) (some (a))⟩
def Pf:OK 86 aKl:=mkS (.s .n (.s bIn (.s (.j ⟨[(4,1),(7,18)],[.nt (.c 4 3) 86 true],[],[]⟩ (.s .n (.s (.l ⟨[(4,1),(7,18)],[.nat (.s 4), .nt (.c 4 3) 86 true],[],[]⟩ FUEL aY0) .n))) .n))) [.cell 2 32] (gc jT (gc Ox (gc yG aH))) func86 ntmps86 (λ(a:D.aAE) _=>aI (aI1 a)) (λ_=>by kernel_rfl)
def aCg:SU:=⟨[.st 86, .st 86],[.bool],false,false,λ(a:D.aAA×D.aAA)=>some (mW a.1 a.2)⟩
def aCh:OK 87 aCg:=mkS bFe [.tmp 4] aH func87 ntmps87 (λa _=>(aBt a.1 a.2).trans) (λ_=>by kernel_rfl)
def Sk:SU:=⟨[.st 32, .st 86],[.st 32, .bool],true,false,λ(a:D.aAE×D.aAA)=>gd (a.1.sz<=34359738300/\a.2.sz<=34359738300) (some (dD a.1 a.2))⟩
def Sl:OK 35 Sk:=mkS bIj [.cell 4 32, .tmp 5] (gc Pf (gc mE (gc aCh (gc yG aH)))) func35 ntmps35 (λa _=>aI (Ru a.1 a.2)) (λ_=>by kernel_rfl)
def Yv:SU:=⟨[.st 32,i6],[.st 86, .bool],true,false,λ(a:D.aAE×Int)=>gd (a.1.sz<=34359738368) (some (dW a.1 a.2))⟩
def Yw:OK 89 Yv:=mkS .n [.cell 4 86, .tmp 5] (gc dE (gc yG aH)) func89 ntmps89 (λa _=>aI (Xd a.1 a.2)) (λ_=>by kernel_rfl)
def aKm:SU:=⟨[i6, .sl 5],[.sl 5],true,false,λ(a:Int×(List Int))=>gd (a.2.length<=34359738368) (some (Iq a.1 a.2))⟩
def Pg:OK 224 aKm:=mkS (.s .n (.s .n (.s (.j ⟨[(5,2),(1,22)],[.tr (.s 5) 0 5 true],[],[]⟩ (.s .n (.s (.l ⟨[(5,2),(1,22)],[.tr (.s 5) 0 5 true, .nat (.s 6)],[],[]⟩ FUEL (.s .n (.s (.s (.r (some 15) (od 17 [8,9,12,14,15,16])) .n) .n))) .n))) .n))) [.tmp 4] (gc dU (gc yD aH)) func224 ntmps224 (λa _=>aI (aJi a.1 a.2)) (λ_=>by kernel_rfl)
def aKn:SU:=⟨[i6, .st 190],[.sl 5, .bool],true,false,λ(a:Int×D.Box)=>some (dY a.1 a.2)⟩
def aKo:OK 256 aKn:=mkS bIm [.tmp 4, .tmp 5] (gc dA (gc mO (gc Vj (gc Vk (gc Pg aH))))) func256 ntmps256 (λa _=>(aJk a.1 a.2).trans) (λ_=>by kernel_rfl)
def aKp:SU:=⟨[.sl 190,i6],[.sl 5, .bool],true,false,λ(a:(List D.Box)×Int)=>gd (a.1.length<=34359738368) (some (eU a.1 a.2))⟩
def aKq:OK 213 aKp:=mkS (.s .n (.s (.jx ⟨[(4,22)],[],[],[]⟩ (.s .n (.s (.l ⟨[(4,22)],[.nat (.s 6)],[],[]⟩ FUEL .n) .n))) .n)) [.tmp 4, .tmp 5] (gc aKo aH) func213 ntmps213 (λa _=>aI (aJl a.1 a.2)) (λ_=>by kernel_rfl)
def Yx:SU:=⟨[.sl 5,i6],[i6,i6, .bool],false,false,λ(a:(List Int)×Int)=>gd (aT a.1) (some (vN a.1 a.2))⟩
def yH:OK 257 Yx:=mkS (.s .n (.s .n (.s (.jx ⟨[(4,51)],[],[],[]⟩ (.s .n (.s (.l ⟨[(4,51)],[.dat (.s 7) i6, .nat (.s 8)],[],[]⟩ FUEL (.s .n (.s (.s (.s (.s (.rj 3 ⟨[(16,8)],[.dat (.s 23) .bool],[],[]⟩ .n) .n) (.s .n (.s .n (.s .n (.s (.s (.s (.rj 3 ⟨[(42,8)],[.dat (.s 49) .bool],[],[]⟩ .n) .n) .n) .n))))) .n) .n))) .n))) .n))) [.tmp 4, .tmp 5, .tmp 6] aH func257 ntmps257 (λa _=>aI (Xg a.1 a.2)) (λ_=>by kernel_rfl)
def R4:SU:=⟨[.sl 5,i6,i6],[.sl 3,i6, .bool],true,false,λ(a:(List Int)×Int×Int)=>gd (aT a.1) (some (gN a.1 a.2.1 a.2.2))⟩
def Ak:OK 214 R4:=mkS (.s .n (.s .n (.s (.s (.rj 4 ⟨[(18,7)],[.dat (.s 24) .bool],[],[]⟩ .n) .n) (.s (.jx ⟨[(1,1),(4,8),(12,20)],[.dat (.s 1) i6, .tr (.s 9) 0 3 true],[],[]⟩ (.s .n (.s (.l ⟨[(1,1),(4,8),(12,20)],[.dat (.s 1) i6, .tr (.s 9) 0 3 true, .nat (.s 10)],[],[]⟩ FUEL .n) .n))) .n)))) [.tmp 6, .tmp 7, .tmp 8] (gc dE (gc yH aH)) func214 ntmps214 (λa _=>aI (L8 a.1 a.2.1 a.2.2)) (λ_=>by kernel_rfl)
def Jl:SU:=⟨[.st 64, .st 29],[i6, .bool],false,false,λ(a:D.aAH×D.aAG)=>gd (a.2.sz<=34359738368) (some (bA a.1 a.2))⟩
def Jm:OK 142 Jl:=mkS (.s .n (.s (.r none (od 10 [3,4])) (.s .n (.s (.s (.rj 3 ⟨[(27,25)],[.dat (.s 51) .bool],[],[]⟩ (.r none (od 27 [24]))) .n) .n)))) [.tmp 4, .tmp 5] (gc rO (gc aKq (gc Ak (gc dA aH)))) func142 ntmps142 (λa _=>aI (Ja a.1 a.2)) (λ_=>by kernel_rfl)
def R5:SU:=⟨[.sl 5, .sl 5],[.bool],false,false,λ(a:(List Int)×(List Int))=>gd (aT a.1/\aT a.2) (some ((a.1==a.2)))⟩
def R6:OK 259 R5:=mkS .n [.tmp 4] aH func259 ntmps259 (λa _=>aI (M0 a.1 a.2)) (λ_=>by kernel_rfl)
def Sm:SU:=⟨[.sl 5],[.st 55, .bool],true,false,λ(a:(List Int))=>gd (aT a) (some (wK a))⟩
def Sq:OK 223 Sm:=mkS (.s .n (.s .n (.s (.s (.rj 3 ⟨[(21,4)],[.dat (.s 24) .bool],[],[]⟩ .n) .n) (.s .n (.s (.jx ⟨[(3,1),(1,1),(2,5),(14,40)],[.nt (.c 1 0) 103 true],[],[]⟩ (.s .n (.s (.l ⟨[(3,1),(1,1),(2,5),(14,40)],[.dat (.s 5) i6, .nat (.s 8), .nt (.c 1 0) 103 true],[],[]⟩ FUEL .n) .n))) (.s (.s (.rj 4 ⟨[(70,7)],[.dat (.s 76) .bool],[],[]⟩ .n) .n) .n)))))) [.cell 2 55, .tmp 3] (gc yH (gc Ak (gc iT (gc vG (gc R6 aH))))) func223 ntmps223 (λ(a:(List Int)) _=>aI (Rp a)) (λ_=>by kernel_rfl)
def R7:SU:=⟨[i6, .st 86],[.st 55, .bool],true,false,λ(a:Int×D.aAA)=>gd (a.2.Data.length<=34359738200) (some (eH a.1 a.2))⟩
def R8:OK 162 R7:=mkS (.s .n (.s (.s (.rj 8 ⟨[(13,8)],[.dat (.s 20) .bool],[],[]⟩ (.r none (od 15 [5,12]))) .n) (.s (.r (some 12) [(0,true),(1,true),(2,true),(3,true),(4,true),(6,true),(7,true),(5,false),(8,false),(9,false),(10,true),(11,true),(12,false),(13,false)]) .n))) [.cell 4 55, .tmp 5] (gc Ih (gc Dp (gc Vl (gc Pg (gc Sq aH))))) func162 ntmps162 (λa _=>aI (M4 a.1 a.2)) (λ_=>by kernel_rfl)
def Sr:SU:=⟨[.st 55, .st 55],[.st 55, .bool],true,false,λ(a:D.aAC×D.aAC)=>gd (a.1.sz<=34359738368/\a.2.sz<=34359738368) (some (fB a.1 a.2))⟩
def Su:OK 58 Sr:=mkS (.s .n (.s (.s (.rj 4 ⟨[(13,5)],[.dat (.s 17) .bool],[],[]⟩ .n) .n) (.s .n (.s (.j ⟨[(7,3),(12,49)],[.tr (.c 4 0) 3 103 true],[],[]⟩ (.s .n (.s (.l ⟨[(7,3),(12,49)],[.nat (.s 7), .tr (.c 4 0) 3 103 true],[],[]⟩ FUEL (.s .n (.s (.j ⟨[(8,2),(19,42)],[.tr (.c 4 0) 3 103 true],[],[]⟩ (.s (.s .n (.s .n (.s (.rj 3 ⟨[(42,26)],[.dat (.s 67) .bool],[],[]⟩ (.r none (od 28 []))) .n))) .n)) .n))) .n))) .n)))) [.cell 4 55, .tmp 5] (gc iT (gc mF (gc mQ (gc Az aH)))) func58 ntmps58 (λa _=>aI (Ri a.1 a.2)) (λ_=>by kernel_rfl)
def R9:SU:=⟨[.st 66, .sl 113, .st 29, .st 86],[.st 66,i6],true,false,λ(a:D.Device×(List D.aAD)×D.aAG×D.aAA)=>gd (a.1.sz<=34359738368/\a.2.1.length<=34359738368/\a.2.2.1.sz<=34359738368/\a.2.2.2.Data.length<=34359738200) (some (bQ a.1 a.2.1 a.2.2.1 a.2.2.2))⟩
def S9:OK 90 R9:=mkS (.s .n (.s .n (.s .n (.s (.s (.rj 4 ⟨[(25,7)],[.dat (.s 31) .bool],[],[]⟩ .n) .n) (.s bIq (.s .n (.s bIx (.s bIw (.s .n (.s .n (.s (.s (.rj 3 ⟨[(98,4)],[.dat (.s 101) .bool],[],[]⟩ .n) .n) bIi))))))))))) [.cell 8 66, .tmp 9] (gc mG (gc mE (gc iC (gc Aj (gc mP (gc mY (gc Ay (gc Jm (gc R8 (gc Su (gc jT aH))))))))))) func90 ntmps90 (λa _=>aI (M6 a.1 a.2.1 a.2.2.1 a.2.2.2)) (λ_=>by kernel_rfl)
def aKr:SU:=⟨[.st 66, .st 32,i6],[.st 66,i6],true,false,λ(a:D.Device×D.aAE×Int)=>gd (a.1.sz<=34359738100/\a.2.1.sz<=34359738100) (some (bQ a.1 a.2.1.Log a.2.1.Boxes (dW a.2.1 a.2.2).1))⟩
def aKs:OK 36 aKr:=mkS .n [.cell 6 66, .tmp 7] (gc Yw (gc S9 aH)) func36 ntmps36 (λa _=>aI (aJp a.1 a.2.1 a.2.2)) (λ_=>by kernel_rfl)
def aRa:SU:=⟨[i6],[i6],false,false,λ(a:Int)=>some (gJ a 1019)⟩
def aRb:OK 225 aRa:=mkS .n [.tmp 2] (gc yD aH) func225 ntmps225 (λa _=>(aQ5 a).trans) (λ_=>by kernel_rfl)
def aMs:SU:=⟨[i6, .sl 3,i6],[i6],false,false,λ(a:Int×(List Int)×Int)=>gd (0<=a.2.2/\a.2.2<=1000/\a.2.1.length<=34359738368) (some (Li a.1 a.2.1 a.2.2))⟩
def aMt:OK 163 aMs:=mkS (.s .n (.s .n (.s (.j ⟨[(7,19)],[.dat (.s 7) i6],[],[]⟩ (.s .n (.s (.l ⟨[(7,2),(3,14)],[.dat (.s 7) i6, .dat (.s 8) i6],[],[]⟩ FUEL .n) .n))) .n))) [.tmp 6] (gc aRb aH) func163 ntmps163 (λa _=>aI (aMd a.1 a.2.1 a.2.2)) (λ_=>by kernel_rfl)
def Yy:SU:=⟨[i6, .sl 3,i6],[.sl 150],true,false,λ(a:Int×(List Int)×Int)=>gd (a.2.1.length<=34359738368) (some (rG a.1 a.2.1 a.2.2))⟩
def Yz:OK 93 Yy:=mkS (.s .n (.s .n (.s (.s (.rj 4 ⟨[(13,6)],[.dat (.s 18) .bool],[],[]⟩ .n) .n) (.s (.j ⟨[(7,2),(11,14)],[.tr (.s 7) 0 150 true],[],[]⟩ (.s .n (.s (.l ⟨[(7,2),(11,14)],[.tr (.s 7) 0 150 true, .dat (.s 8) i6],[],[]⟩ FUEL .n) .n))) .n)))) [.tmp 6] (gc dE (gc aMt aH)) func93 ntmps93 (λa _=>aI (Xw a.1 a.2.1 a.2.2)) (λ_=>by kernel_rfl)
def aRc:SU:=⟨[i6,i6],[i6],false,false,λ(a:Int×Int)=>pR a.1 a.2⟩
def T9:OK 227 aRc:=mkS bMs [.tmp 4] aH func227 ntmps227 (λ_ _=>id) (λ_=>by kernel_rfl)
def Jn:SU:=⟨[i6],[.bool],false,false,λ(a:Int)=>some (aHt a)⟩
def Jo:OK 226 Jn:=mkS (.s .n (.s (.rj 3 ⟨[(2,1),(2,5)],[.dat (.s 2) .bool],[],[]⟩ .n) .n)) [.tmp 2] (gc dE (gc T9 aH)) func226 ntmps226 (λa _=>(Jh a).trans) (λ_=>by kernel_rfl)
def aFh:SU:=⟨[i6,i6],[i6],false,false,λ(a:Int×Int)=>some (wM a.1 a.2)⟩
def Ii:OK 164 aFh:=mkS .n [.tmp 4] (gc Jo (gc yD (gc T9 aH))) func164 ntmps164 (λa _=>(aE3 a.1 a.2).trans) (λ_=>by kernel_rfl)
def Za:SU:=⟨[i6,i6],[i6],false,false,λ(a:Int×Int)=>some (H7 a.1 a.2)⟩
def Zb:OK 165 Za:=mkS .n [.tmp 4] (gc dU (gc Ii aH)) func165 ntmps165 (λa _=>(Xv a.1 a.2).trans) (λ_=>by kernel_rfl)
def Sw:SU:=⟨[i6,i6,i6],[i6],false,false,λ(a:Int×Int×Int)=>some (Ql a.1 a.2.1 a.2.2)⟩
def Sy:OK 96 Sw:=mkS .n [.tmp 6] (gc Zb (gc Ii aH)) func96 ntmps96 (λa _=>(Sa a.1 a.2.1 a.2.2).trans) (λ_=>by kernel_rfl)
def aCi:SU:=⟨[i6,i6],[i6],false,false,λ(a:Int×Int)=>some (yY a.1 a.2)⟩
def aCj:OK 95 aCi:=mkS .n [.tmp 4] (gc dU (gc Xy aH)) func95 ntmps95 (λa _=>(aBy a.1 a.2).trans) (λ_=>by kernel_rfl)
def aKt:SU:=⟨[.st 152],[i6],false,false,λ(a:D.aAR)=>some (Ky a)⟩
def aKu:OK 145 aKt:=mkS .n [.tmp 2] aH func145 ntmps145 (λa _=>(aJf a).trans) (λ_=>by kernel_rfl)
def aCk:SU:=⟨[.st 152],[.st 155],true,false,λ(a:D.aAR)=>some (yZ a)⟩
def aCl:OK 97 aCk:=mkS (.s .n (.s (.r (some 4) (od 5 [2,4])) .n)) [.cell 2 155] (gc aKu aH) func97 ntmps97 (λa _=>(aBz a).trans) (λ_=>by kernel_rfl)
def U0:SU:=⟨[i6,i6],[i6],false,false,λ(a:Int×Int)=>some (H8 a.1 a.2)⟩
def U1:OK 98 U0:=mkS .n [.tmp 4] (gc dU aH) func98 ntmps98 (λa _=>(O7 a.1 a.2).trans) (λ_=>by kernel_rfl)
def aKv:SU:=⟨[i6,i6],[i6],false,false,λ(a:Int×Int)=>some (aOx a.1 a.2)⟩
def aKw:OK 99 aKv:=mkS .n [.tmp 4] (gc dE (gc eZ aH)) func99 ntmps99 (λa _=>(aJx a.1 a.2).trans) (λ_=>by kernel_rfl)
def aCm:SU:=⟨[i6,i6,i6,i6, .sl 3,i6,i6],[.st 35, .sl 155, .bool],true,false,λ(a:Int×Int×Int×Int×(List Int)×Int×Int)=>gd (a.2.2.2.2.1.length<=34359738368) (some (Fw a.1 a.2.1 a.2.2.1 a.2.2.2.1 a.2.2.2.2.1 a.2.2.2.2.2.1 a.2.2.2.2.2.2))⟩
def aCn:OK 38 aCm:=mkS (.s .n (.s .n (.s (.s (.rj 4 ⟨[(28,25)],[.dat (.s 52) .bool],[],[]⟩ .n) .n) (.s .n (.s .n (.s (.j ⟨[(19,2),(41,16)],[.tr (.s 19) 2 155 true],[],[]⟩ (.s .n (.s (.l ⟨[(19,2),(41,16)],[.tr (.s 19) 2 155 true, .nat (.s 20)],[],[]⟩ FUEL .n) .n))) .n)))))) [.cell 14 35, .tmp 15, .tmp 16] (gc Yz (gc dE (gc dA (gc yD (gc Sy (gc aCj (gc aCl (gc U1 (gc aKw aH))))))))) func38 ntmps38 (λa _=>aI (aB0 a.1 a.2.1 a.2.2.1 a.2.2.2.1 a.2.2.2.2.1 a.2.2.2.2.2.1 a.2.2.2.2.2.2)) (λ_=>by kernel_rfl)
def aFi:SU:=⟨[i6,i6,i6,i6,i6],[.st 41],false,false,λ(a:Int×Int×Int×Int×Int)=>some (aY a.1 a.2.1 a.2.2.1 a.2.2.2.1 a.2.2.2.2)⟩
def aFj:OK 6 aFi:=mkS (.s .n (.s (.s (.rj 4 ⟨[(30,21)],[.dat (.s 50) .bool],[],[]⟩ .n) .n) (.s .n (.s .n (.s (.j ⟨[(12,3),(41,33)],[.tr (.s 12) 2 113 true, .nt (.c 1 2) 66 true, .nt (.c 1 3) 4 true],[],[]⟩ (.s .n (.s (.l ⟨[(12,3),(41,33)],[.tr (.s 12) 2 113 true, .nat (.s 13), .nt (.c 1 2) 66 true, .nt (.c 1 3) 4 true],[],[]⟩ FUEL (.s .n (.s (.s (.s .n (.s .n (.s .n (.r none [(0,true),(1,true),(2,true),(4,true),(5,true),(6,true),(7,true),(8,true),(3,false),(9,false),(10,true),(11,true),(12,true),(13,true)])))) .n) .n))) .n))) (.s .n (.s .n (.s .n (.s (.il 3 (.s .n (.s .n (.s (.j ⟨[(5,5),(1,40)],[.tr (.s 5) 10 130 false],[],[]⟩ (.s .n (.s (.l ⟨[(5,5),(1,40)],[.tr (.s 5) 10 130 false, .nat (.s 6)],[],[]⟩ FUEL (.s .n (.s (.j ⟨[(5,1),(1,3),(5,36)],[.tr (.s 5) 10 130 false],[],[]⟩ (.s (.s .n (.s (.j ⟨[(9,1),(16,21)],[.dat (.c 12 0) (.str), .dat (.c 12 1) (.sl 181), .dat (.c 12 2) i6, .dat (.c 12 3) i6, .dat (.c 12 4) (.sl 242), .dat (.c 12 5) (.sl 3)],[],[]⟩ (.s .n (.s (.l ⟨[(9,1),(16,21)],[.nat (.s 9), .dat (.c 12 0) (.str), .dat (.c 12 1) (.sl 181), .dat (.c 12 2) i6, .dat (.c 12 3) i6, .dat (.c 12 4) (.sl 242), .dat (.c 12 5) (.sl 3)],[],[]⟩ FUEL (.s .n (.s (.s (.y false none (some 15) [(0,true),(1,true),(2,true),(3,true),(4,true),(5,true),(6,true),(7,true),(9,true),(8,false),(10,false),(11,false),(12,true),(13,true),(14,true),(15,false)]) .n) .n))) .n))) .n)) .n)) .n))) .n))) .n))) .n) (.s (.j ⟨[(18,1),(90,20)],[.tr (.c 1 2) 3 66 true],[],[]⟩ (.s .n (.s (.l ⟨[(18,1),(90,20)],[.nat (.s 18), .tr (.c 1 2) 3 66 true],[],[]⟩ FUEL bIv) .n))) (.s (.j ⟨[(19,2),(108,23)],[.tr (.c 1 2) 3 66 true],[],[]⟩ (.s .n (.s (.l ⟨[(19,2),(108,23)],[.nat (.s 19), .tr (.c 1 2) 3 66 true],[],[]⟩ FUEL (.s .n (.s (.j ⟨[(20,1),(112,19)],[.tr (.c 1 2) 3 66 true],[],[]⟩ (.s (.s .n (.s (.l ⟨[(20,1),(112,19)],[.nat (.s 20), .tr (.c 1 2) 3 66 true],[],[]⟩ FUEL (.s .n (.s (.s (.y false none (some 14) [(0,true),(1,true),(2,true),(3,true),(4,true),(5,true),(6,true),(8,true),(7,false),(9,false),(10,true),(11,true),(12,true),(13,true),(14,false)]) .n) .n))) .n)) .n)) .n))) .n))) (.s .n (.s .n (.s .n (.s (.j ⟨[(24,1),(148,20)],[.tr (.c 1 2) 3 66 true],[],[]⟩ (.s .n (.s (.l ⟨[(24,1),(148,20)],[.dat (.s 24) i6, .tr (.c 1 2) 3 66 true],[],[]⟩ FUEL bIv) .n))) (.s .n (.s (.j ⟨[(25,2),(167,12)],[.tr (.s 25) 19 3 true],[],[]⟩ (.s .n (.s (.l ⟨[(25,2),(167,12)],[.tr (.s 25) 19 3 true, .dat (.s 26) i6],[],[]⟩ FUEL .n) .n))) .n))))))))))))))))) [.cell 10 41] (gc dE (gc dA (gc P7 (gc aB4 (gc mY (gc Yc (gc aE7 (gc Jj (gc aE9 (gc (sIl 30) (gc Q8 (gc Ic (gc vF (gc Yu (gc Sl (gc aKs (gc eZ (gc aCn (gcp Oy (gc Yi (gc Q5 (gcp Yp aH)))))))))))))))))))))) func6 ntmps6 (λa _=>(aE5 a.1 a.2.1 a.2.2.1 a.2.2.2.1 a.2.2.2.2).trans) (λ_=>by kernel_rfl)
def aKx:SU:=⟨[.st 155],[.st 155],true,false,λ(a:D.aAF)=>gd (a.sz<=34359738368) (some (a))⟩
def aKy:OK 168 aKx:=mkS .n [.cell 2 155] aH func168 ntmps168 (λ(a:D.aAF) _=>aI (aI5 a)) (λ_=>by kernel_rfl)
def aFk:SU:=⟨[.sl 155],[.sl 155],true,false,λ(a:(List D.aAF))=>gd (szL D.aAF.sz a<=34359738368) (some (a))⟩
def aFl:OK 101 aFk:=mkS (.s .n (.s .n (.s (.j ⟨[(3,2),(1,14)],[.tr (.s 3) 0 155 true],[],[]⟩ (.s .n (.s (.l ⟨[(3,2),(1,14)],[.tr (.s 3) 0 155 true, .nat (.s 4)],[],[]⟩ FUEL .n) .n))) .n))) [.tmp 2] (gc aKy aH) func101 ntmps101 (λ(a:(List D.aAF)) _=>aI (aEq a)) (λ_=>by kernel_rfl)
def aKz:SU:=⟨[.st 39],[.st 39],true,false,λ(a:D.aAM)=>gd (a.sz<=34359738368) (some (a))⟩
def aK0:OK 102 aKz:=mkS .n [.cell 2 39] aH func102 ntmps102 (λ(a:D.aAM) _=>aI (aI6 a)) (λ_=>by kernel_rfl)
def aK1:SU:=⟨[.st 41],[.st 41],true,false,λ(a:D.World)=>gd (a.sz<=34359738368) (some (a))⟩
def aK2:OK 39 aK1:=mkS (.s .n (.s .n (.s .n (.s (.j ⟨[(4,1),(4,18)],[.tr (.c 2 2) 3 66 true],[],[]⟩ (.s .n (.s (.l ⟨[(4,1),(4,18)],[.nat (.s 4), .tr (.c 2 2) 3 66 true],[],[]⟩ FUEL aY0) .n))) (.s .n (.s .n (.s .n (.s (.j ⟨[(5,1),(32,18)],[.tr (.c 2 8) 8 130 true],[],[]⟩ (.s .n (.s (.l ⟨[(5,1),(32,18)],[.nat (.s 5), .tr (.c 2 8) 8 130 true],[],[]⟩ FUEL aY0) .n))) .n)))))))) [.cell 2 41] (gc mG (gc Pf (gc yF (gc aFl (gc aK0 aH))))) func39 ntmps39 (λ(a:D.World) _=>aI (aI7 a)) (λ_=>by kernel_rfl)
def Jp:SU:=⟨[.st 39],[.bool],false,false,λ(a:D.aAM)=>gd (a.sz<=34359738368) (some (gF a))⟩
def Jq:OK 144 Jp:=mkS (.s .n (.s (.jx ⟨[(2,47)],[],[],[]⟩ (.s .n (.s (.l ⟨[(2,47)],[.nat (.s 3)],[],[]⟩ FUEL bIo) .n))) .n)) [.tmp 2] (gc dE aH) func144 ntmps144 (λ(a:D.aAM) _=>aI (Iu a)) (λ_=>by kernel_rfl)
def Sz:SU:=⟨[.st 41],[.bool],false,false,λ(a:D.World)=>gd (a.sz<=34359738368) (some (aU a))⟩
def Ta:OK 62 Sz:=mkS (.s .n (.s (.jx ⟨[(2,27)],[],[],[]⟩ (.s .n (.s (.l ⟨[(2,27)],[.nat (.s 3)],[],[]⟩ FUEL (.s .n (.s (.s (.s (.rj 8 ⟨[(18,11)],[.dat (.s 28) .bool],[],[]⟩ (.r none (od 18 [5,15]))) .n) .n) .n))) .n))) (.s (.rj 4 ⟨[(2,1),(29,37)],[.dat (.s 2) .bool],[],[]⟩ .n) .n))) [.tmp 2] (gc nM (gc Ic (gc dE (gc Jq (gc iC (gc dA aH)))))) func62 ntmps62 (λ(a:D.World) _=>aI (Rk a)) (λ_=>by kernel_rfl)
def aFm:SU:=⟨[.st 41,i6],[.bool],false,false,λ(a:D.World×Int)=>gd (a.1.sz<=34359738368) (some (aU a.1&&aL a.1 a.2))⟩
def aFn:OK 40 aFm:=mkS (.s .n (.s (.rj 3 ⟨[(4,1),(2,8)],[.dat (.s 4) .bool],[],[]⟩ .n) .n)) [.tmp 4] (gc Ta (gc dE aH)) func40 ntmps40 (λa _=>aI (aEy a.1 a.2)) (λ_=>by kernel_rfl)
def U2:SU:=⟨[.st 41,i6, .str,i6, .bool],[.st 41, .bool],true,false,λ(a:D.World×Int×ByteArray×Int×Bool)=>gd (a.1.sz<=34359738300/\a.2.2.1.size<=34359738300) (some (eX a.1 a.2.1 a.2.2.1 a.2.2.2.1 a.2.2.2.2))⟩
def U3:OK 8 U2:=mkS .n [.cell 10 41, .tmp 11] (gc aK2 (gc aFn (gc vF aH))) func8 ntmps8 (λa _=>aI (K6 a.1 a.2.1 a.2.2.1 a.2.2.2.1 a.2.2.2.2)) (λ_=>by kernel_rfl)
def aK3:SU:=⟨[i6,i6,i6],[.bool],false,false,λ(a:Int×Int×Int)=>some (bH a.1 a.2.1 a.2.2)⟩
def dR:OK 103 aK3:=mkS bIt [.tmp 6] aH func103 ntmps103 (λa _=>(aIr a.1 a.2.1 a.2.2).trans) (λ_=>by kernel_rfl)
def aMu:SU:=⟨[.str],[.bool],false,false,λ(a:ByteArray)=>some (fJ a)⟩
def rY:OK 228 aMu:=mkS (.s .n (.s .n (.s (.jx ⟨[(2,1),(1,3),(3,57)],[],[],[]⟩ (.s .n (.s (.l ⟨[(2,1),(1,3),(6,54)],[.nat (.s 13)],[],[]⟩ FUEL (.s .n (.s .n (.s (.jx ⟨[(2,1),(1,3),(8,51)],[],[],[]⟩ (.s (.s .n (.s (.s (.rj 4 ⟨[(20,18)],[.dat (.s 37) .bool],[],[]⟩ .n) .n) (.s .n (.s (.l ⟨[(2,1),(2,2),(31,28)],[.nat (.s 5)],[],[]⟩ FUEL (.s .n (.s (.s (.s .n (.s (.rj 3 ⟨[(49,17)],[.dat (.s 65) .bool],[],[]⟩ .n) .n)) .n) .n))) .n)))) .n)) .n)))) .n))) .n))) [.tmp 2] (gc Gt aH) func228 ntmps228 (λa _=>(aMb a).trans) (λ_=>by kernel_rfl)
def Zc:SU:=⟨[.str],[.str],false,false,λ(a:ByteArray)=>some (bAa a)⟩
def Zd:OK 229 Zc:=mkS .n [.tmp 2] (gc rY (gc Gt (gc aIk aH))) func229 ntmps229 (λa _=>(Ww a).trans) (λ_=>by kernel_rfl)
def aMv:SU:=⟨[.str],[.bool],false,false,λ(a:ByteArray)=>gd (a.size<=9223372036854775807) (some (Qh a))⟩
def aMw:OK 230 aMv:=mkS (.s .n (.s (.jx ⟨[(2,12)],[],[],[]⟩ (.s .n (.s (.l ⟨[(2,12)],[.nat (.s 3)],[],[]⟩ FUEL .n) .n))) .n)) [.tmp 2] aH func230 ntmps230 (λ(a:ByteArray) _=>aI (aMc a)) (λ_=>by kernel_rfl)
def U4:SU:=⟨[i6],[.bool],false,false,λ(a:Int)=>some (bG a)⟩
def dO:OK 108 U4:=mkS .n [.tmp 2] (gc dR aH) func108 ntmps108 (λa _=>(J5 a).trans) (λ_=>by kernel_rfl)
def Ze:SU:=⟨[.str,i6],[.bool],false,false,λ(a:ByteArray×Int)=>gd (a.1.size<=9223372036854775807) (some (iO a.1 a.2))⟩
def Zg:OK 169 Ze:=mkS (.s .n (.s (.rj 3 ⟨[(4,1),(2,13)],[.dat (.s 4) .bool],[],[]⟩ .n) .n)) [.tmp 4] (gc rY (gc Zd (gc aMw (gc dO aH)))) func169 ntmps169 (λa _=>aI (Wx a.1 a.2)) (λ_=>by kernel_rfl)
def Zh:SU:=⟨[.st 128],[.bool],false,false,λ(a:D.aAB)=>gd (a.sz<=34359738368) (some (dN a))⟩
def nN:OK 170 Zh:=mkS (.s .n (.s (.s (.rj 5 ⟨[(9,6)],[.dat (.s 14) .bool],[],[]⟩ .n) .n) (.s (.jx ⟨[(2,3),(10,44)],[],[],[]⟩ (.s .n (.s (.l ⟨[(2,3),(13,41)],[.nat (.s 18)],[],[]⟩ FUEL (.s .n (.s .n (.s (.s (.s .n (.s (.rj 8 ⟨[(30,28)],[.dat (.s 57) .bool],[],[]⟩ (.r none (od 35 [5,26,32]))) .n)) .n) .n)))) .n))) .n))) [.tmp 2] (gc dR aH) func170 ntmps170 (λ(a:D.aAB) _=>aI (Wv a)) (λ_=>by kernel_rfl)
def aRd:SU:=⟨[i6,i6,i6],[i6],false,false,λ(a:Int×Int×Int)=>vR a.1 a.2.1 a.2.2⟩
def aRe:OK 262 aRd:=mkS (.s .n (.s .n (.s .n (.s (.j ⟨[(0,2),(5,1),(5,17)],[.dat (.s 7) i6],[],[]⟩ (.s (.l ⟨[(0,2),(5,1),(5,17)],[.dat (.s 0) i6, .dat (.s 1) i6, .dat (.s 7) i6],[],[]⟩ FUEL (.s .n (.s (.s (.j ⟨[(7,1),(7,8)],[.dat (.s 7) i6],[],[]⟩ .n) .n) .n))) .n)) .n)))) [.tmp 6] aH func262 ntmps262 (λ_ _=>id) (λ_=>by kernel_rfl)
def U5:SU:=⟨[i6],[i6],false,false,λ(a:Int)=>some (eG a)⟩
def Al:OK 231 U5:=mkS .n [.tmp 2] (gc dO (gc aRe aH)) func231 ntmps231 (λa _=>(K4 a).trans) (λ_=>by kernel_rfl)
def Jr:SU:=⟨[.st 181],[.bool],false,false,λ(a:D.Account)=>gd (a.sz<=34359738368) (some (aV a))⟩
def kW:OK 171 Jr:=mkS (.s .n (.s (.s (.rj 5 ⟨[(11,12)],[.dat (.s 22) .bool],[],[]⟩ .n) .n) (.s (.jx ⟨[(2,3),(1,1),(16,56)],[],[],[]⟩ (.s .n (.s (.l ⟨[(2,3),(1,1),(19,53)],[.nat (.s 26)],[],[]⟩ FUEL (.s .n (.s .n (.s (.jx ⟨[(2,3),(1,1),(21,50)],[],[],[]⟩ (.s (.s .n (.s (.s (.rj 5 ⟨[(35,28)],[.dat (.s 62) .bool],[],[]⟩ (.r none (od 32 [2,23,29]))) .n) (.s .n (.s (.l ⟨[(2,1),(3,1),(61,10)],[.nat (.s 68)],[],[]⟩ FUEL .n) .n)))) .n)) .n)))) .n))) .n))) [.tmp 2] (gc dR (gc Al aH)) func171 ntmps171 (λ(a:D.Account) _=>aI (Iz a)) (λ_=>by kernel_rfl)
def Zi:SU:=⟨[.st 130],[.bool],false,false,λ(a:D.Site)=>gd (a.sz<=34359738368) (some (bR a))⟩
def nO:OK 104 Zi:=mkS (.s .n (.s (.s (.rj 8 ⟨[(12,12)],[.dat (.s 23) .bool],[],[]⟩ .n) .n) (.s (.jx ⟨[(2,3),(19,28)],[],[],[]⟩ (.s .n (.s (.l ⟨[(2,3),(22,25)],[.nat (.s 27)],[],[]⟩ FUEL (.s .n (.s .n (.s (.s (.s .n (.s (.rj 4 ⟨[(35,16)],[.dat (.s 50) .bool],[],[]⟩ (.r none (od 19 [1]))) .n)) .n) .n)))) .n))) .n))) [.tmp 2] (gc Zg (gc nN (gc kW aH))) func104 ntmps104 (λ(a:D.Site) _=>aI (Wz a)) (λ_=>by kernel_rfl)
def aFo:SU:=⟨[i6],[.str],false,false,λ(a:Int)=>some (aA a)⟩
def tZ:OK 105 aFo:=mkS .n [.tmp 2] aH func105 ntmps105 (λa _=>(aEt a).trans) (λ_=>by kernel_rfl)
def Js:SU:=⟨[.st 39],[.bool],false,false,λ(a:D.aAM)=>gd (a.sz<=34359738368) (some (gF a))⟩
def qV:OK 106 Js:=mkS (.s .n (.s .n (.s (.jx ⟨[(2,3),(4,41)],[],[],[]⟩ (.s .n (.s (.l ⟨[(2,3),(7,38)],[.nat (.s 12)],[],[]⟩ FUEL (.s .n bIo)) .n))) .n))) [.tmp 2] (gc dR aH) func106 ntmps106 (λ(a:D.aAM) _=>aI (Iw a)) (λ_=>by kernel_rfl)
def aW1:SU:=⟨[.sl 3,i6],[.bool],false,false,λ(a:(List Int)×Int)=>gd (a.1.length<=1099511627776) (some (gH a.1 a.2))⟩
def Gj:OK 174 aW1:=mkS (.s .n (.s (.jx ⟨[(4,1),(1,11)],[],[],[]⟩ (.s .n (.s (.l ⟨[(4,1),(1,1),(2,8)],[.nat (.s 9)],[],[]⟩ FUEL .n) .n))) .n)) [.tmp 4] aH func174 ntmps174 (λa _=>aI (aWl a.1 a.2)) (λ_=>by kernel_rfl)
def aCo:SU:=⟨[.sl 113],[.sl 3],true,false,λ(a:(List D.aAD))=>gd (a.length<=34359738368) (some (aD a))⟩
def rQ:OK 172 aCo:=mkS (.s .n (.s .n (.s (.j ⟨[(3,1),(1,2),(1,1),(1,40)],[.tr (.s 3) 0 3 true],[],[]⟩ (.s .n (.s (.l ⟨[(3,1),(1,2),(1,1),(3,38)],[.tr (.s 3) 0 3 true, .nat (.s 12)],[],[]⟩ FUEL (.s .n (.s .n (.s (.j ⟨[(3,1),(1,2),(1,1),(5,35)],[.tr (.s 3) 0 3 true],[],[]⟩ (.s (.s .n (.s .n (.s (.s .n (.s .n (.s .n (.s (.s .n (.s (.j ⟨[(6,1),(1,1),(24,15)],[.tr (.s 6) 2 3 true],[],[]⟩ (.s .n (.s (.l ⟨[(6,1),(1,1),(26,13)],[.tr (.s 6) 2 3 true, .nat (.s 35)],[],[]⟩ FUEL (.s .n (.s .n (.s (.j ⟨[(6,1),(1,1),(28,10)],[.tr (.s 6) 2 3 true],[],[]⟩ .n) .n)))) .n))) .n)) .n)))) .n))) .n)) .n)))) .n))) .n))) [.tmp 2] (gc Gj aH) func172 ntmps172 (λ(a:(List D.aAD)) _=>aI (aBa a)) (λ_=>by kernel_rfl)
def aW2:SU:=⟨[i6,i6],[i6],false,false,λ(a:Int×Int)=>some (gJ a.1 a.2)⟩
def aK4:OK 263 aW2:=mkS (.s .n (.s (.s (.rj 3 ⟨[(8,4)],[.dat (.s 11) .bool],[],[]⟩ .n) .n) (.s .n (.s (.j ⟨[(5,1),(9,5)],[.dat (.s 5) i6],[],[]⟩ .n) .n)))) [.tmp 4] aH func263 ntmps263 (λa _=>(aWj a.1 a.2).trans) (λ_=>by kernel_rfl)
def aUl:SU:=⟨[.sl 3],[i6],false,false,λ(a:(List Int))=>gd (a.length<=1099511627776) (some (uE a))⟩
def aD5:OK 233 aUl:=mkS (.s .n (.s .n (.s (.j ⟨[(3,1),(1,15)],[.dat (.s 3) i6],[],[]⟩ (.s .n (.s (.l ⟨[(3,1),(1,1),(2,12)],[.dat (.s 3) i6, .nat (.s 8)],[],[]⟩ FUEL .n) .n))) .n))) [.tmp 2] (gc aK4 aH) func233 ntmps233 (λ(a:(List Int)) _=>aI (aT3 a)) (λ_=>by kernel_rfl)
def aCp:SU:=⟨[.st 113],[i6],false,false,λ(a:D.aAD)=>some (bZ a)⟩
def Dq:OK 177 aCp:=mkS .n [.tmp 2] (gc aD5 aH) func177 ntmps177 (λa _=>(aBk a).trans) (λ_=>by kernel_rfl)
def aK5:SU:=⟨[.sl 113],[i6],false,false,λ(a:(List D.aAD))=>gd (a.length<=34359738368) (some (fU a))⟩
def aK6:OK 173 aK5:=mkS .n [.tmp 2] (gc Dq aH) func173 ntmps173 (λ(a:(List D.aAD)) _=>aI (aJa a)) (λ_=>by kernel_rfl)
def U6:SU:=⟨[.sl 113,i6],[.bool],false,false,λ(a:(List D.aAD)×Int)=>gd (a.1.length<=34359738368) (some (fG a.1 a.2))⟩
def U7:OK 175 U6:=mkS (.s .n (.s (.jx ⟨[(4,1),(1,17)],[],[],[]⟩ (.s .n (.s (.l ⟨[(4,1),(1,1),(2,14)],[.nat (.s 9)],[],[]⟩ FUEL (.s .n (.s .n (.s (.s (.s .n (.s (.rj 4 ⟨[(16,6)],[.dat (.s 21) .bool],[],[]⟩ .n) .n)) .n) .n)))) .n))) .n)) [.tmp 4] aH func175 ntmps175 (λa _=>aI (K5 a.1 a.2)) (λ_=>by kernel_rfl)
def aMx:SU:=⟨[.sl 3, .sl 60],[.sl 3],true,false,λ(a:(List Int)×(List (List Int)))=>gd (nX a.1 a.2) (some (kI a.1 a.2))⟩
def iB:OK 183 aMx:=mkS (.s .n (.s .n (.s (.j ⟨[(5,1),(1,1),(3,10)],[.tr (.s 5) 0 3 true],[],[]⟩ (.s .n (.s (.l ⟨[(5,1),(1,1),(5,8)],[.tr (.s 5) 0 3 true, .nat (.s 13)],[],[]⟩ FUEL .n) .n))) .n))) [.tmp 4] aH func183 ntmps183 (λa _=>aI (aL5 a.1 a.2)) (λ_=>by kernel_rfl)
def aCq:SU:=⟨[i6, .sl 3],[i6],false,false,λ(a:Int×(List Int))=>gd (a.2.length<=34359738368) (some (bE a.1 a.2))⟩
def fA:OK 193 aCq:=mkS .n [.tmp 4] (gc iB (gc aD5 aH)) func193 ntmps193 (λa _=>aI (aA3 a.1 a.2)) (λ_=>by kernel_rfl)
def Zj:SU:=⟨[i6, .sl 3],[i6],false,false,λ(a:Int×(List Int))=>gd (a.2.length<=34359738300) (some (nW a.1 a.2))⟩
def yI:OK 232 Zj:=mkS .n [.tmp 4] (gc dO (gc iB (gc fA aH))) func232 ntmps232 (λa _=>aI (Wt a.1 a.2)) (λ_=>by kernel_rfl)
def Gl:SU:=⟨[i6, .sl 3,i6],[.bool],false,false,λ(a:Int×(List Int)×Int)=>gd (a.2.1.length<=34359738300) (some (eF a.1 a.2.1 a.2.2))⟩
def pX:OK 176 Gl:=mkS bIr [.tmp 6] (gc Al (gc yI aH)) func176 ntmps176 (λa _=>aI (Gd a.1 a.2.1 a.2.2)) (λ_=>by kernel_rfl)
def aCr:SU:=⟨[.sl 113],[.bool],false,false,λ(a:(List D.aAD))=>gd (a.length<=34359738368) (some (bL a))⟩
def Dt:OK 107 aCr:=mkS (.s .n (.s (.s (.rj 4 ⟨[(10,5)],[.dat (.s 14) .bool],[],[]⟩ .n) .n) (.s (.jx ⟨[(2,5),(8,83)],[],[],[]⟩ (.s .n (.s (.l ⟨[(2,5),(10,81)],[.nat (.s 17)],[],[]⟩ FUEL (.s .n (.s .n (.s (.jx ⟨[(2,5),(12,78)],[],[],[]⟩ (.s (.s .n (.s .n (.s .n (.s (.s (.rj 5 ⟨[(31,26)],[.dat (.s 56) .bool],[],[]⟩ (.r none (od 30 [8,15]))) .n) (.s (.jx ⟨[(2,1),(54,31)],[],[],[]⟩ (.s .n (.s (.s .n (.s (.s (.rj 5 ⟨[(65,11)],[.dat (.s 75) .bool],[],[]⟩ .n) .n) (.s .n (.s (.s (.rj 6 ⟨[(83,5)],[.dat (.s 87) .bool],[],[]⟩ .n) .n) .n)))) .n))) (.s (.r none [(0,true),(1,true),(2,true),(5,true),(6,true),(3,false),(4,false),(7,false),(8,true)]) .n)))))) .n)) .n)))) .n))) .n))) [.tmp 2] (gc rQ (gc aK6 (gc Gj (gc U7 (gc Dq (gc pX aH)))))) func107 ntmps107 (λ(a:(List D.aAD)) _=>aI (aBm a)) (λ_=>by kernel_rfl)
def Tc:SU:=⟨[.st 41],[.bool],false,false,λ(a:D.World)=>gd (a.sz<=34359738368) (some (aU a))⟩
def jN:OK 41 Tc:=mkS (.s .n (.s (.s (.rj 5 ⟨[(9,22)],[.dat (.s 30) .bool],[],[]⟩ .n) .n) (.s (.jx ⟨[(2,3),(26,19)],[],[],[]⟩ (.s .n (.s (.l ⟨[(2,3),(29,16)],[.nat (.s 34)],[],[]⟩ FUEL (.s .n (.s .n (.s (.s (.s .n (.s (.rj 4 ⟨[(42,7)],[.dat (.s 48) .bool],[],[]⟩ (.r none (od 10 [1,7]))) .n)) .n) .n)))) .n))) (.s (.rj 4 ⟨[(2,1),(50,11)],[.dat (.s 2) .bool],[],[]⟩ .n) .n)))) [.tmp 2] (gc dR (gc nO (gc tZ (gc qV (gc Dt (gc dO aH)))))) func41 ntmps41 (λ(a:D.World) _=>aI (Rl a)) (λ_=>by kernel_rfl)
def aK7:SU:=⟨[.sl 113],[.sl 113],true,false,λ(a:(List D.aAD))=>gd (a.length<=34359738368) (some (a))⟩
def yJ:OK 178 aK7:=mkS .n [.tmp 2] aH func178 ntmps178 (λ(a:(List D.aAD)) _=>aI (aIx a)) (λ_=>by kernel_rfl)
def aCs:SU:=⟨[.sl 5],[.sl 5],true,false,λ(a:(List Int))=>gd (a.length<=34359738368) (some (a))⟩
def rR:OK 235 aCs:=mkS .n [.tmp 2] aH func235 ntmps235 (λ(a:(List Int)) _=>aI (aBe a)) (λ_=>by kernel_rfl)
def aCt:SU:=⟨[.sl 190],[.sl 190],true,false,λ(a:(List D.Box))=>gd (szL D.Box.sz a<=34359738368) (some (a))⟩
def aCu:OK 234 aCt:=mkS (.s .n (.s .n (.s (.j ⟨[(3,1),(1,1),(1,15)],[.tr (.s 3) 0 190 true],[],[]⟩ (.s .n (.s (.l ⟨[(3,1),(1,1),(3,13)],[.tr (.s 3) 0 190 true, .nat (.s 9)],[],[]⟩ FUEL .n) .n))) .n))) [.tmp 2] (gc rR aH) func234 ntmps234 (λ(a:(List D.Box)) _=>aI (aBf a)) (λ_=>by kernel_rfl)
def Jt:SU:=⟨[.st 29],[.st 29],true,false,λ(a:D.aAG)=>gd (a.sz<=34359738368) (some (a))⟩
def Ju:OK 179 Jt:=mkS (.s .n (.s (.r (some 6) (od 7 [4,6])) .n)) [.cell 2 29] (gc aCu aH) func179 ntmps179 (λ(a:D.aAG) _=>aI (Ir a)) (λ_=>by kernel_rfl)
def U8:SU:=⟨[.st 86],[.st 86],true,false,λ(a:D.aAA)=>gd (a.sz<=34359738368) (some (a))⟩
def pY:OK 180 U8:=mkS .n [.cell 2 86] (gc rR aH) func180 ntmps180 (λ(a:D.aAA) _=>aI (J9 a)) (λ_=>by kernel_rfl)
def aCv:SU:=⟨[.st 32],[.st 32],true,false,λ(a:D.aAE)=>gd (a.sz<=34359738368) (some (a))⟩
def Du:OK 109 aCv:=mkS (.s .n (.s bIn (.s (.j ⟨[(5,1),(7,15)],[.nt (.c 4 3) 86 true],[],[]⟩ (.s .n (.s (.l ⟨[(5,1),(10,12)],[.nat (.s 16), .nt (.c 4 3) 86 true],[],[]⟩ FUEL bHn) .n))) .n))) [.cell 2 32] (gc yJ (gc Ju (gc pY aH))) func109 ntmps109 (λ(a:D.aAE) _=>aI (aBg a)) (λ_=>by kernel_rfl)
def aFp:SU:=⟨[.st 155],[.st 155],true,false,λ(a:D.aAF)=>gd (a.sz<=34359738368) (some (a))⟩
def aFq:OK 181 aFp:=mkS .n [.cell 2 155] aH func181 ntmps181 (λ(a:D.aAF) _=>aI (aEp a)) (λ_=>by kernel_rfl)
def aCw:SU:=⟨[.sl 155],[.sl 155],true,false,λ(a:(List D.aAF))=>gd (szL D.aAF.sz a<=34359738368) (some (a))⟩
def aCx:OK 110 aCw:=mkS (.s .n (.s .n (.s (.j ⟨[(3,1),(1,1),(1,12)],[.tr (.s 3) 0 155 true],[],[]⟩ (.s .n (.s (.l ⟨[(3,1),(1,1),(3,10)],[.tr (.s 3) 0 155 true, .nat (.s 9)],[],[]⟩ FUEL .n) .n))) .n))) [.tmp 2] (gc aFq aH) func110 ntmps110 (λ(a:(List D.aAF)) _=>aI (aBh a)) (λ_=>by kernel_rfl)
def aFr:SU:=⟨[.st 39],[.st 39],true,false,λ(a:D.aAM)=>gd (a.sz<=34359738368) (some (a))⟩
def Ij:OK 111 aFr:=mkS .n [.cell 2 39] aH func111 ntmps111 (λ(a:D.aAM) _=>aI (aEr a)) (λ_=>by kernel_rfl)
def U9:SU:=⟨[.st 55],[.st 55],true,false,λ(a:D.aAC)=>gd (a.sz<=34359738368) (some (a))⟩
def Ao:OK 133 U9:=mkS .n [.cell 2 55] aH func133 ntmps133 (λ(a:D.aAC) _=>aI (J7 a)) (λ_=>by kernel_rfl)
def V3:SU:=⟨[.st 66],[.st 66],true,false,λ(a:D.Device)=>gd (a.sz<=34359738368) (some (a))⟩
def qA:OK 112 V3:=mkS .n [.cell 2 66] (gc yJ (gc Ao aH)) func112 ntmps112 (λ(a:D.Device) _=>aI (J8 a)) (λ_=>by kernel_rfl)
def aFs:SU:=⟨[.st 128],[.st 128],true,false,λ(a:D.aAB)=>gd (a.sz<=34359738368) (some (a))⟩
def uA:OK 182 aFs:=mkS bIk [.cell 2 128] aH func182 ntmps182 (λ(a:D.aAB) _=>aI (aEn a)) (λ_=>by kernel_rfl)
def Zk:SU:=⟨[.st 181],[.st 181],true,false,λ(a:D.Account)=>gd (a.sz<=34359738368) (some (a))⟩
def yK:OK 184 Zk:=mkS bIk [.cell 2 181] aH func184 ntmps184 (λ(a:D.Account) _=>aI (Wq a)) (λ_=>by kernel_rfl)
def aFt:SU:=⟨[.st 130],[.st 130],true,false,λ(a:D.Site)=>gd (a.sz<=34359738368) (some (a))⟩
def uB:OK 113 aFt:=mkS (.s .n (.s (.y false (some 9) (some 10) [(0,true),(1,true),(2,true),(3,true),(5,true),(6,true),(4,false),(7,false),(8,true),(9,false),(10,false)]) (.s (.j ⟨[(5,1),(9,15)],[.nt (.c 4 1) 181 true],[],[]⟩ (.s .n (.s (.l ⟨[(5,1),(12,12)],[.nat (.s 18), .nt (.c 4 1) 181 true],[],[]⟩ FUEL bHn) .n))) .n))) [.cell 2 130] (gc uA (gc iB (gc yK aH))) func113 ntmps113 (λ(a:D.Site) _=>aI (aEo a)) (λ_=>by kernel_rfl)
def aCy:SU:=⟨[.st 41],[.st 41],true,false,λ(a:D.World)=>gd (a.sz<=34359738368) (some (a))⟩
def jU:OK 42 aCy:=mkS (.s .n (.s (.y true (some 22) (some 23) [(0,true),(1,true),(2,true),(3,true),(5,true),(6,true),(8,true),(9,true),(11,true),(12,true),(13,true),(14,true),(16,true),(17,true),(18,true),(19,true),(4,false),(7,false),(10,false),(15,false),(20,false),(21,false),(22,false),(23,false)]) (.s (.j ⟨[(5,1),(24,15)],[.nt (.c 8 2) 66 true],[],[]⟩ (.s .n (.s (.l ⟨[(5,1),(27,12)],[.nat (.s 33), .nt (.c 8 2) 66 true],[],[]⟩ FUEL bHn) .n))) (.s (.j ⟨[(7,1),(37,15)],[.nt (.c 8 8) 130 true],[],[]⟩ (.s .n (.s (.l ⟨[(7,1),(40,12)],[.nat (.s 48), .nt (.c 8 8) 130 true],[],[]⟩ FUEL bHn) .n))) .n)))) [.cell 2 41] (gc Du (gc aCx (gc Ij (gc qA (gc uB aH))))) func42 ntmps42 (λ(a:D.World) _=>aI (aBi a)) (λ_=>by kernel_rfl)
def aCz:SU:=⟨[.st 41,i6],[.bool],false,false,λ(a:D.World×Int)=>some (aL a.1 a.2)⟩
def jV:OK 46 aCz:=mkS bIu [.tmp 4] aH func46 ntmps46 (λa _=>(aBb a.1 a.2).trans) (λ_=>by kernel_rfl)
def aRf:SU:=⟨[i6],[i6],false,false,λ(a:Int)=>some (gX a)⟩
def V4:OK 192 aRf:=mkS .n [.tmp 2] aH func192 ntmps192 (λa _=>(aQ2 a).trans) (λ_=>by kernel_rfl)
def aC0:SU:=⟨[i6, .sl 3],[i6],false,false,λ(a:Int×(List Int))=>gd (a.2.length<=34359738300) (some (aW a.1 a.2))⟩
def iD:OK 237 aC0:=mkS .n [.tmp 4] (gc iB (gc fA (gc V4 aH))) func237 ntmps237 (λa _=>aI (aA5 a.1 a.2)) (λ_=>by kernel_rfl)
def aC1:SU:=⟨[i6],[i6],false,false,λ(a:Int)=>some (bU a)⟩
def Dw:OK 236 aC1:=mkS .n [.tmp 2] (gc dO aH) func236 ntmps236 (λa _=>(aA7 a).trans) (λ_=>by kernel_rfl)
def Td:SU:=⟨[.st 64],[i6],false,false,λ(a:D.aAH)=>some (bJ a)⟩
def vH:OK 185 Td:=mkS .n [.tmp 2] (gc iD (gc Dw aH)) func185 ntmps185 (λa _=>(Rh a).trans) (λ_=>by kernel_rfl)
def aMy:SU:=⟨[.st 41,i6],[.bool],false,false,λ(a:D.World×Int)=>gd (WOk a.1) (some (cZ a.1 a.2))⟩
def aMz:OK 114 aMy:=mkS (.s .n (.s (.rj 4 ⟨[(4,1),(3,14)],[.dat (.s 4) .bool],[],[]⟩ (.r none [(0,true),(1,true),(2,false),(3,true),(4,true),(5,true),(6,true),(8,true),(9,true),(10,true),(11,true),(12,true),(13,true),(7,false),(14,false),(15,false),(16,true),(17,true)])) .n)) [.tmp 4] (gc jV (gc rQ (gc vH (gc Gj aH)))) func114 ntmps114 (λa _=>aI (aL7 a.1 a.2)) (λ_=>by kernel_rfl)
def Dx:SU:=⟨[.st 41],[.sl 3],true,false,λ(a:D.World)=>gd (WOk a) (some (bX a))⟩
def Dy:OK 43 Dx:=mkS (.s .n (.s .n (.s (.j ⟨[(3,2),(1,29)],[.tr (.s 3) 1 3 true],[],[]⟩ (.s .n (.s (.l ⟨[(3,2),(4,26)],[.tr (.s 3) 1 3 true, .nat (.s 9)],[],[]⟩ FUEL (.s .n (.s .n (.s (.j ⟨[(3,2),(6,23)],[.tr (.s 3) 1 3 true],[],[]⟩ (.s (.s .n (.s (.rj 4 ⟨[(15,15)],[.dat (.s 29) .bool],[],[]⟩ .n) .n)) .n)) .n)))) .n))) .n))) [.tmp 2] (gc aMz aH) func43 ntmps43 (λ(a:D.World) _=>aI (Dh a)) (λ_=>by kernel_rfl)
def Zl:SU:=⟨[.st 32,i6],[.st 86, .bool],true,false,λ(a:D.aAE×Int)=>gd (a.1.sz<=34359738368) (some (dW a.1 a.2))⟩
def Zm:OK 116 Zl:=mkS (.s .n (.s (.s (.rj 3 ⟨[(8,7)],[.dat (.s 14) .bool],[],[]⟩ .n) .n) .n)) [.cell 4 86, .tmp 5] (gc pY aH) func116 ntmps116 (λa _=>aI (Xe a.1 a.2)) (λ_=>by kernel_rfl)
def V5:SU:=⟨[.sl 113, .sl 113],[.bool],false,false,λ(a:(List D.aAD)×(List D.aAD))=>gd (a.1.length<=34359738368) (some (dG a.1 a.2))⟩
def V6:OK 188 V5:=mkS (.s .n (.s .n (.s (.jx ⟨[(4,2),(5,15)],[],[],[]⟩ (.s .n (.s (.l ⟨[(4,2),(7,13)],[.nat (.s 13)],[],[]⟩ FUEL (.s .n (.s .n (.s (.s (.s .n (.s (.r none (od 9 [])) .n)) .n) .n)))) .n))) .n))) [.tmp 4] aH func188 ntmps188 (λa _=>aI (K9 a.1 a.2)) (λ_=>by kernel_rfl)
def aK8:SU:=⟨[.sl 113],[i6],false,false,λ(a:(List D.aAD))=>gd (a.length<=34359738368) (some (aF a))⟩
def Ph:OK 189 aK8:=mkS (.s .n (.s .n (.s (.j ⟨[(3,1),(1,13)],[.dat (.s 3) i6],[],[]⟩ (.s .n (.s (.l ⟨[(3,1),(1,1),(2,10)],[.dat (.s 3) i6, .nat (.s 8)],[],[]⟩ FUEL (.s .n (.s .n (.s (.j ⟨[(3,1),(1,1),(4,7)],[.dat (.s 3) i6],[],[]⟩ .n) .n)))) .n))) .n))) [.tmp 2] aH func189 ntmps189 (λ(a:(List D.aAD)) _=>aI (aJh a)) (λ_=>by kernel_rfl)
def aM0:SU:=⟨[i6,i6],[i6],false,false,λ(a:Int×Int)=>some (fH a.1 a.2)⟩
def aM1:OK 288 aM0:=mkS .n [.tmp 4] (gc iD aH) func288 ntmps288 (λa _=>(aMe a.1 a.2).trans) (λ_=>by kernel_rfl)
def Zn:SU:=⟨[.sl 5],[.sl 3],true,false,λ(a:(List Int))=>gd (a.length<=34359738360) (some (tX a))⟩
def nP:OK 194 Zn:=mkS (.s .n (.s .n (.s (.j ⟨[(3,1),(1,1),(3,12)],[.tr (.s 3) 0 3 true],[],[]⟩ (.s .n (.s (.l ⟨[(3,1),(1,1),(5,10)],[.tr (.s 3) 0 3 true, .nat (.s 11)],[],[]⟩ FUEL .n) .n))) .n))) [.tmp 2] aH func194 ntmps194 (λ(a:(List Int)) _=>aI (Xb a)) (λ_=>by kernel_rfl)
def aM2:SU:=⟨[i6, .st 190],[i6],false,false,λ(a:Int×D.Box)=>gd (a.2.Data.length<=34359738200) (some (La a.1 a.2))⟩
def aM3:OK 289 aM2:=mkS bMt [.tmp 4] (gc nP (gc iB (gc fA aH))) func289 ntmps289 (λa _=>aI (aMh a.1 a.2)) (λ_=>by kernel_rfl)
def aK9:SU:=⟨[i6, .sl 5],[.sl 5],true,false,λ(a:Int×(List Int))=>gd (a.2.length<=34359738368) (some (Iq a.1 a.2))⟩
def Pi:OK 244 aK9:=mkS bIh [.tmp 4] (gc fA (gc aK4 aH)) func244 ntmps244 (λa _=>aI (aJj a.1 a.2)) (λ_=>by kernel_rfl)
def aLa:SU:=⟨[i6, .st 190],[.sl 5, .bool],true,false,λ(a:Int×D.Box)=>some (dY a.1 a.2)⟩
def aLb:OK 266 aLa:=mkS bIm [.tmp 4, .tmp 5] (gc dO (gc Dw (gc aM1 (gc aM3 (gc Pi aH))))) func266 ntmps266 (λa _=>(aJm a.1 a.2).trans) (λ_=>by kernel_rfl)
def aLc:SU:=⟨[.sl 190,i6],[.sl 5, .bool],true,false,λ(a:(List D.Box)×Int)=>gd (a.1.length<=34359738368) (some (eU a.1 a.2))⟩
def aLd:OK 240 aLc:=mkS (.s .n (.s (.jx ⟨[(4,2),(1,18)],[],[],[]⟩ (.s .n (.s (.l ⟨[(4,2),(1,3),(2,13)],[.nat (.s 12)],[],[]⟩ FUEL .n) .n))) .n)) [.tmp 4, .tmp 5] (gc aLb aH) func240 ntmps240 (λa _=>aI (aJn a.1 a.2)) (λ_=>by kernel_rfl)
def Zo:SU:=⟨[.sl 5,i6],[i6,i6, .bool],false,false,λ(a:(List Int)×Int)=>gd (aT a.1) (some (vN a.1 a.2))⟩
def yL:OK 267 Zo:=mkS (.s .n (.s (.s (.rj 3 ⟨[(13,6)],[.dat (.s 18) .bool],[],[]⟩ .n) .n) (.s .n (.s .n (.s (.jx ⟨[(4,7),(8,42)],[],[],[]⟩ (.s .n (.s (.l ⟨[(4,7),(8,42)],[.dat (.s 7) i6, .dat (.s 8) i6, .nat (.s 9)],[],[]⟩ FUEL (.s .n (.s (.s (.s .n (.s .n (.s .n (.s .n (.s .n (.s (.s (.s (.rj 3 ⟨[(48,8)],[.dat (.s 55) .bool],[],[]⟩ .n) .n) .n) .n)))))) .n) .n))) .n))) .n))))) [.tmp 4, .tmp 5, .tmp 6] aH func267 ntmps267 (λa _=>aI (Xf a.1 a.2)) (λ_=>by kernel_rfl)
def V7:SU:=⟨[.sl 5,i6,i6],[.sl 3,i6, .bool],true,false,λ(a:(List Int)×Int×Int)=>gd (aT a.1) (some (gN a.1 a.2.1 a.2.2))⟩
def Ap:OK 241 V7:=mkS (.s .n (.s (.s (.rj 3 ⟨[(16,14)],[.dat (.s 29) .bool],[],[]⟩ .n) .n) (.s .n (.s (.jx ⟨[(1,1),(4,8),(17,19)],[.dat (.s 1) i6, .tr (.s 9) 0 3 true],[],[]⟩ (.s .n (.s (.l ⟨[(1,1),(4,8),(17,19)],[.dat (.s 1) i6, .tr (.s 9) 0 3 true, .nat (.s 10)],[],[]⟩ FUEL .n) .n))) .n)))) [.tmp 6, .tmp 7, .tmp 8] (gc yL aH) func241 ntmps241 (λa _=>aI (L6 a.1 a.2.1 a.2.2)) (λ_=>by kernel_rfl)
def Jv:SU:=⟨[.st 64, .st 29],[i6, .bool],false,false,λ(a:D.aAH×D.aAG)=>gd (a.2.sz<=34359738368) (some (bA a.1 a.2))⟩
def Jw:OK 190 Jv:=mkS (.s .n (.s (.r none (od 12 [4,5,6])) (.s .n (.s .n (.s (.s (.rj 3 ⟨[(31,21)],[.dat (.s 51) .bool],[],[]⟩ (.r none (od 23 [20]))) .n) .n))))) [.tmp 4, .tmp 5] (gc iD (gc aLd (gc Ap (gc dO aH)))) func190 ntmps190 (λa _=>aI (Jb a.1 a.2)) (λ_=>by kernel_rfl)
def aC2:SU:=⟨[i6, .st 86],[i6],false,false,λ(a:Int×D.aAA)=>gd (a.2.Data.length<=34359738200) (some (fV a.1 a.2))⟩
def Dz:OK 242 aC2:=mkS bMt [.tmp 4] (gc nP (gc iB (gc fA aH))) func242 ntmps242 (λa _=>aI (aBq a.1 a.2)) (λ_=>by kernel_rfl)
def Zp:SU:=⟨[.st 103, .st 103],[.bool],false,false,λ(a:D.Entry×D.Entry)=>some (dI a.1 a.2)⟩
def yM:OK 134 Zp:=mkS bFe [.tmp 4] aH func134 ntmps134 (λa _=>(Wp a.1 a.2).trans) (λ_=>by kernel_rfl)
def aFu:SU:=⟨[.st 55],[.bool],false,false,λ(a:D.aAC)=>gd (a.sz<=34359738368) (some (aM a))⟩
def nH:OK 132 aFu:=mkS (.s .n (.s .n (.s (.jx ⟨[(2,3),(4,40)],[],[],[]⟩ (.s .n (.s (.l ⟨[(2,3),(7,37)],[.nat (.s 12)],[],[]⟩ FUEL (.s .n (.s .n (.s (.s (.s .n (.s (.rj 5 ⟨[(21,27)],[.dat (.s 47) .bool],[],[]⟩ (.r none (od 31 [2,7,13,27]))) .n)) .n) .n)))) .n))) .n))) [.tmp 2] (gc dR (gc yM aH)) func132 ntmps132 (λ(a:D.aAC) _=>aI (aEm a)) (λ_=>by kernel_rfl)
def Te:SU:=⟨[.sl 5],[.st 55, .bool],true,false,λ(a:(List Int))=>gd (aT a) (some (wK a))⟩
def Tf:OK 243 Te:=mkS (.s .n (.s .n (.s (.s (.rj 3 ⟨[(20,4)],[.dat (.s 23) .bool],[],[]⟩ .n) .n) (.s .n (.s (.s (.rj 3 ⟨[(36,6)],[.dat (.s 41) .bool],[],[]⟩ .n) .n) (.s .n (.s (.jx ⟨[(3,1),(6,2),(32,33)],[.nt (.c 1 0) 103 true],[],[]⟩ (.s .n (.s (.l ⟨[(3,1),(6,2),(32,33)],[.nat (.s 10), .nt (.c 1 0) 103 true],[],[]⟩ FUEL (.s .n (.s (.s (.s .n (.s .n (.r (some 17) (od 20 [16,17,18,19])))) .n) .n))) .n))) .n))))))) [.cell 2 55, .tmp 3] (gc yL (gcp Ap (gc nH aH))) func243 ntmps243 (λ(a:(List Int)) _=>aI (Ro a)) (λ_=>by kernel_rfl)
def V8:SU:=⟨[i6, .st 86],[.st 55, .bool],true,false,λ(a:Int×D.aAA)=>gd (a.2.Data.length<=34359738200) (some (eH a.1 a.2))⟩
def V9:OK 191 V8:=mkS (.s .n (.s (.s (.rj 4 ⟨[(11,20)],[.dat (.s 30) .bool],[],[]⟩ (.r none (od 23 [1,6,12,20]))) .n) (.s (.y false (some 14) (some 15) [(0,true),(1,true),(2,true),(3,true),(4,true),(7,true),(8,true),(5,false),(6,false),(9,false),(10,false),(11,true),(12,true),(13,true),(14,false),(15,false),(16,true)]) .n))) [.cell 4 55, .tmp 5] (gc dO (gc dR (gc Dz (gc iD (gc Pi (gc Tf aH)))))) func191 ntmps191 (λa _=>aI (M3 a.1 a.2)) (λ_=>by kernel_rfl)
def Tg:SU:=⟨[.st 55, .st 55],[.st 55, .bool],true,false,λ(a:D.aAC×D.aAC)=>gd (a.1.sz<=34359738368/\a.2.sz<=34359738368) (some (fB a.1 a.2))⟩
def Ti:OK 55 Tg:=mkS (.s .n (.s bIy (.s .n (.s .n (.s .n (.s (.j ⟨[(7,4),(11,118)],[.nt (.c 3 0) 103 true],[],[]⟩ (.s (.l ⟨[(7,4),(11,118)],[.dat (.s 7) i6, .dat (.s 8) i6, .nt (.c 3 0) 103 true],[],[]⟩ FUEL (.s (.s (.rj 6 ⟨[(27,7)],[.dat (.s 33) .bool],[],[]⟩ .n) .n) (.s (.s (.s (.rj 6 ⟨[(71,1),(5,20)],[.dat (.s 71) .bool],[],[]⟩ (.r none (od 26 [22]))) (.s bIs (.s (.rj 6 ⟨[(109,1),(5,13)],[.dat (.s 109) .bool],[],[]⟩ (.r none (od 19 [16]))) (.s bIs (.s .n (.s .n (.s (.j ⟨[(44,17)],[.dat (.c 5 0) i6, .dat (.c 5 1) i6, .dat (.c 5 2) i6, .dat (.c 5 3) .bool],[],[]⟩ (.s (.rj 6 ⟨[(49,11)],[.dat (.s 59) .bool],[],[]⟩ .n) .n)) .n))))))) .n) .n))) .n)) .n)))))) [.cell 4 55, .tmp 5] (gc nH (gc Ao (gc yM aH))) func55 ntmps55 (λa _=>aI (Rj a.1 a.2)) (λ_=>by kernel_rfl)
def W9:SU:=⟨[.st 66, .sl 113, .st 29, .st 86],[.st 66,i6],true,false,λ(a:D.Device×(List D.aAD)×D.aAG×D.aAA)=>gd (a.1.sz<=34359738368/\a.2.1.length<=34359738368/\a.2.2.1.sz<=34359738368/\a.2.2.2.Data.length<=34359738200) (some (bQ a.1 a.2.1 a.2.2.1 a.2.2.2))⟩
def X3:OK 117 W9:=mkS (.s .n (.s .n (.s (.s (.rj 4 ⟨[(23,7)],[.dat (.s 29) .bool],[],[]⟩ .n) .n) (.s bIq (.s .n (.s .n (.s bIx (.s bIw (.s .n (.s .n (.s .n (.s .n bIi)))))))))))) [.cell 8 66, .tmp 9] (gc qA (gc Dt (gc V6 (gc rQ (gc vH (gc Gj (gc Ph (gc Jw (gc V9 (gc Ti (gc yJ aH))))))))))) func117 ntmps117 (λa _=>aI (M5 a.1 a.2.1 a.2.2.1 a.2.2.2)) (λ_=>by kernel_rfl)
def aLe:SU:=⟨[.st 41,i6,i6],[.st 41,i6],true,false,λ(a:D.World×Int×Int)=>gd (a.1.sz<=34359738100) (some (bY a.1 a.2.1 a.2.2))⟩
def Pj:OK 45 aLe:=mkS (.s .n (.s .n (.s (.s (.rj 4 ⟨[(18,6)],[.dat (.s 23) .bool],[],[]⟩ .n) .n) (.s .n (.s (.y false (some 16) (some 17) (od 19 [12,16,17])) .n))))) [.cell 6 41, .tmp 7] (gc jU (gc jN (gc jV (gc Zm (gc X3 aH))))) func45 ntmps45 (λa _=>aI (aJr a.1 a.2.1 a.2.2)) (λ_=>by kernel_rfl)
def aW3:SU:=⟨[.bool],[i6],false,false,λ(a:Bool)=>xQ a⟩
def aLf:OK 286 aW3:=mkS .n [.tmp 2] aH func286 ntmps286 (λ_ _=>id) (λ_=>by kernel_rfl)
def Pk:SU:=⟨[.sl 5,i6],[.sl 5],true,false,λ(a:(List Int)×Int)=>gd (a.1.length<=34359738300) (some (oZ a.1 a.2))⟩
def Pm:OK 316 Pk:=mkS (.s .n (.s .n (.s (.s (.rj 3 ⟨[(10,4)],[.dat (.s 13) .bool],[],[]⟩ .n) .n) (.s (.j ⟨[(1,1),(3,1),(9,11)],[.dat (.s 1) i6, .tr (.s 5) 0 5 true],[],[]⟩ (.s (.l ⟨[(1,1),(3,1),(9,11)],[.dat (.s 1) i6, .tr (.s 5) 0 5 true],[],[]⟩ FUEL .n) .n)) .n)))) [.tmp 4] (gc rR aH) func316 ntmps316 (λa _=>aI (Od a.1 a.2)) (λ_=>by kernel_rfl)
def X4:SU:=⟨[.sl 3],[.sl 5],true,false,λ(a:(List Int))=>gd (a.length<=5000000000) (some (gG a))⟩
def X5:OK 287 X4:=mkS (.s .n (.s .n (.s (.j ⟨[(3,1),(1,1),(1,10)],[.tr (.s 3) 0 5 true],[],[]⟩ (.s .n (.s (.l ⟨[(3,1),(1,1),(3,8)],[.tr (.s 3) 0 5 true, .nat (.s 9)],[],[]⟩ FUEL .n) .n))) .n))) [.tmp 2] (gc Pm aH) func287 ntmps287 (λ(a:(List Int)) _=>aI (M7 a)) (λ_=>by kernel_rfl)
def Tj:SU:=⟨[.st 55],[.sl 5],true,false,λ(a:D.aAC)=>gd (a.sz<=34359738368) (some (lC a))⟩
def Tn:OK 265 Tj:=mkS (.s .n (.s .n (.s .n (.s (.j ⟨[(3,1),(1,1),(7,20)],[.tr (.s 3) 1 3 true],[],[]⟩ (.s .n (.s (.l ⟨[(3,1),(1,1),(10,17)],[.tr (.s 3) 1 3 true, .nat (.s 16)],[],[]⟩ FUEL (.s .n (.s .n (.s (.s (.s .n (.r (some 11) (od 13 [9,10,11,12]))) .n) .n)))) .n))) .n)))) [.tmp 2] (gc nH (gc aLf (gc X5 aH))) func265 ntmps265 (λ(a:D.aAC) _=>aI (Rq a)) (λ_=>by kernel_rfl)
def aLg:SU:=⟨[i6, .sl 5],[.sl 5],true,false,λ(a:Int×(List Int))=>gd (aT a.2) (some (jY a.1 a.2))⟩
def aLh:OK 264 aLg:=mkS bIh [.tmp 4] (gc fA aH) func264 ntmps264 (λa _=>aI (aJs a.1 a.2)) (λ_=>by kernel_rfl)
def X6:SU:=⟨[i6,i6,i6, .st 55],[.st 86, .bool],true,false,λ(a:Int×Int×Int×D.aAC)=>gd (a.2.2.2.sz<=34359738368) (some (nC a.1 a.2.1 a.2.2.1 a.2.2.2))⟩
def X7:OK 238 X6:=mkS (.s .n (.s (.s (.rj 4 ⟨[(14,15)],[.dat (.s 28) .bool],[],[]⟩ .n) .n) (.s (.y false (some 11) (some 12) [(0,true),(1,true),(2,true),(3,true),(4,true),(7,true),(5,false),(6,false),(8,false),(9,false),(10,true),(11,false),(12,false)]) .n))) [.cell 8 86, .tmp 9] (gc dO (gc dR (gc nH (gc iD (gc Tn (gc aLh (gc Dz aH))))))) func238 ntmps238 (λa _=>aI (M8 a.1 a.2.1 a.2.2.1 a.2.2.2)) (λ_=>by kernel_rfl)
def Zq:SU:=⟨[.st 66],[.st 66, .st 86, .bool],true,false,λ(a:D.Device)=>gd (a.sz<=34359738368) (some (dK a))⟩
def Zr:OK 186 Zq:=mkS (.s .n (.s .n bKs)) [.cell 2 66, .cell 3 86, .tmp 4] (gc X7 (gc qA aH)) func186 ntmps186 (λ(a:D.Device) _=>aI (Xi a)) (λ_=>by kernel_rfl)
def aC3:SU:=⟨[.st 86, .st 86],[.bool],false,false,λ(a:D.aAA×D.aAA)=>some (mW a.1 a.2)⟩
def aC4:OK 239 aC3:=mkS bFe [.tmp 4] aH func239 ntmps239 (λa _=>(aBs a.1 a.2).trans) (λ_=>by kernel_rfl)
def Tq:SU:=⟨[.st 32, .st 86],[.st 32, .bool],true,false,λ(a:D.aAE×D.aAA)=>gd (a.1.sz<=34359738300/\a.2.sz<=34359738300) (some (dD a.1 a.2))⟩
def Tt:OK 187 Tq:=mkS bIj [.cell 4 32, .tmp 5] (gc Du (gc Ph (gc aC4 (gc pY aH)))) func187 ntmps187 (λa _=>aI (Rt a.1 a.2)) (λ_=>by kernel_rfl)
def X8:SU:=⟨[.st 41,i6],[.st 41, .bool],true,false,λ(a:D.World×Int)=>gd (a.1.sz<=10000000000) (some (kK a.1 a.2))⟩
def X9:OK 44 X8:=mkS (.s .n (.s .n (.s .n (.s (.il 2 .n .n) .n)))) [.cell 4 41, .tmp 5] (gc Pj (gc jU (gc (sIl 115) (gc Zr (gc Tt aH))))) func44 ntmps44 (λa _=>aI (N7 a.1 a.2)) (λ_=>by kernel_rfl)
def Zt:SU:=⟨[.st 41],[.st 41, .bool],true,false,λ(a:D.World)=>gd (a.sz<=1000000000) (some (iA a))⟩
def Zu:OK 9 Zt:=mkS (.s .n (.s .n (.s .n (.s .n (.s (.jx ⟨[(3,1),(3,3),(13,18)],[.dat (.c 10 0) i6, .dat (.c 10 1) i6, .tr (.c 10 2) 2 66 true, .tr (.c 10 3) 3 4 true, .tr (.c 10 4) 4 113 true, .dat (.c 10 5) i6, .tr (.c 10 6) 5 190 true, .tr (.c 10 7) 6 86 true, .tr (.c 10 8) 7 130 true, .dat (.c 10 9) i6, .dat (.c 10 10) i6, .dat (.c 10 11) i6, .dat (.c 10 12) i6, .tr (.c 10 13) 8 155 true, .dat (.c 10 14) i6, .tr (.c 10 15) 9 212 true],[],[]⟩ (.s .n (.s (.l ⟨[(3,1),(3,3),(15,16)],[.nat (.s 25), .dat (.c 10 0) i6, .dat (.c 10 1) i6, .tr (.c 10 2) 2 66 true, .tr (.c 10 3) 3 4 true, .tr (.c 10 4) 4 113 true, .dat (.c 10 5) i6, .tr (.c 10 6) 5 190 true, .tr (.c 10 7) 6 86 true, .tr (.c 10 8) 7 130 true, .dat (.c 10 9) i6, .dat (.c 10 10) i6, .dat (.c 10 11) i6, .dat (.c 10 12) i6, .tr (.c 10 13) 8 155 true, .dat (.c 10 14) i6, .tr (.c 10 15) 9 212 true],[],[]⟩ FUEL .n) .n))) (.s (.jx ⟨[(3,1),(7,3),(27,18)],[.dat (.c 10 0) i6, .dat (.c 10 1) i6, .tr (.c 10 2) 2 66 true, .tr (.c 10 3) 3 4 true, .tr (.c 10 4) 4 113 true, .dat (.c 10 5) i6, .tr (.c 10 6) 5 190 true, .tr (.c 10 7) 6 86 true, .tr (.c 10 8) 7 130 true, .dat (.c 10 9) i6, .dat (.c 10 10) i6, .dat (.c 10 11) i6, .dat (.c 10 12) i6, .tr (.c 10 13) 8 155 true, .dat (.c 10 14) i6, .tr (.c 10 15) 9 212 true],[],[]⟩ (.s .n (.s (.l ⟨[(3,1),(7,3),(29,16)],[.nat (.s 43), .dat (.c 10 0) i6, .dat (.c 10 1) i6, .tr (.c 10 2) 2 66 true, .tr (.c 10 3) 3 4 true, .tr (.c 10 4) 4 113 true, .dat (.c 10 5) i6, .tr (.c 10 6) 5 190 true, .tr (.c 10 7) 6 86 true, .tr (.c 10 8) 7 130 true, .dat (.c 10 9) i6, .dat (.c 10 10) i6, .dat (.c 10 11) i6, .dat (.c 10 12) i6, .tr (.c 10 13) 8 155 true, .dat (.c 10 14) i6, .tr (.c 10 15) 9 212 true],[],[]⟩ FUEL .n) .n))) .n)))))) [.cell 2 41, .tmp 3] (gc jN (gc jU (gc Dy (gc X9 (gc Pj aH))))) func9 ntmps9 (λ(a:D.World) _=>aI (Xk a)) (λ_=>by kernel_rfl)
def Ea:SU:=⟨[i6, .str],[i6],false,false,λ(a:Int×ByteArray)=>gd (a.2.size<=34359738300) (some (lS a.1 a.2))⟩
def oM:OK 118 Ea:=mkS .n [.tmp 4] (gc nP (gc fA (gc V4 (gc (bIe 1000022) aH)))) func118 ntmps118 (λa _=>aI (Dj a.1 a.2)) (λ_=>by kernel_rfl)
def aFv:SU:=⟨[.str],[i6],false,false,λ(a:ByteArray)=>gd (a.size<=34359738300) (some (aR a))⟩
def uC:OK 48 aFv:=mkS .n [.tmp 2] (gc oM aH) func48 ntmps48 (λ(a:ByteArray) _=>aI (aEw a)) (λ_=>by kernel_rfl)
def aC5:SU:=⟨[.st 55,i6,i6],[i6],false,false,λ(a:D.aAC×Int×Int)=>gd (a.1.sz<=34359738368) (some (aG a.1 a.2.1 a.2.2))⟩
def aC6:OK 47 aC5:=mkS (.s .n (.s (.jx ⟨[(6,23)],[],[],[]⟩ (.s .n (.s (.l ⟨[(6,3),(3,17)],[.nat (.s 12)],[],[]⟩ FUEL (.s .n (.s .n (.s (.s (.s .n (.s (.rj 5 ⟨[(21,6)],[.dat (.s 26) .bool],[],[]⟩ .n) .n)) .n) .n)))) .n))) .n)) [.tmp 6] aH func47 ntmps47 (λa _=>aI (aBn a.1 a.2.1 a.2.2)) (λ_=>by kernel_rfl)
def Tu:SU:=⟨[.st 41,i6, .str,i6],[.bool],false,false,λ(a:D.World×Int×ByteArray×Int)=>gd (a.1.sz<=34359738368/\a.2.2.1.size<=34359738300) (some (oV a.1 a.2.1 a.2.2.1 a.2.2.2))⟩
def Tv:OK 10 Tu:=mkS (.s .n (.s .n (.s .n (.s (.r none [(0,true),(1,true),(3,true),(2,false),(4,false),(5,true)]) (.s (.rj 3 ⟨[(8,1),(19,9)],[.dat (.s 8) .bool],[],[]⟩ .n) .n))))) [.tmp 8] (gc jV (gc uC (gc aC6 aH))) func10 ntmps10 (λa _=>aI (Sb a.1 a.2.1 a.2.2.1 a.2.2.2)) (λ_=>by kernel_rfl)
def aLi:SU:=⟨[.st 41,i6],[.bool],false,false,λ(a:D.World×Int)=>some (jP a.1 a.2)⟩
def Pn:OK 195 aLi:=mkS bIu [.tmp 4] aH func195 ntmps195 (λa _=>(aIt a.1 a.2).trans) (λ_=>by kernel_rfl)
def aM4:SU:=⟨[.st 41,i6,i6, .bool],[.bool],false,false,λ(a:D.World×Int×Int×Bool)=>gd (a.1.sz<=34359738368) (some (fC a.1 a.2.1 a.2.2.1&&jB a.1 a.2.1==a.2.2.2))⟩
def aM5:OK 119 aM4:=mkS (.s .n (.s (.rj 3 ⟨[(8,1),(2,19)],[.dat (.s 8) .bool],[],[]⟩ .n) .n)) [.tmp 8] (gc jN (gc jV (gc Pn aH))) func119 ntmps119 (λa _=>aI (aMk a.1 a.2.1 a.2.2.1 a.2.2.2)) (λ_=>by kernel_rfl)
def aUm:SU:=⟨[i6],[.st 166],false,false,λ(a:Int)=>some (Uk a)⟩
def aUn:OK 121 aUm:=mkS .n [.cell 2 166] (gc tZ aH) func121 ntmps121 (λa _=>(aUe a).trans) (λ_=>by kernel_rfl)
def Zv:SU:=⟨[.st 130,i6],[i6],false,false,λ(a:D.Site×Int)=>gd (a.1.Accounts.length<=34359738368) (some (aC a.1 a.2))⟩
def yN:OK 268 Zv:=mkS bKr [.tmp 4] aH func268 ntmps268 (λa _=>aI (Xp a.1 a.2)) (λ_=>by kernel_rfl)
def Jy:SU:=⟨[.st 128,i6,i6],[.st 128, .st 242, .bool],true,false,λ(a:D.aAB×Int×Int)=>gd (a.1.sz<=34359738368) (some (dL a.1 a.2.1 a.2.2))⟩
def Jz:OK 269 Jy:=mkS (.s .n (.s .n (.s bMz (.s (.j ⟨[(33,10)],[.tr (.c 4 2) 3 242 true],[],[]⟩ .n) bKs)))) [.cell 6 128, .cell 7 242, .tmp 8] (gc uA (gc nN (gc dR aH))) func269 ntmps269 (λa _=>aI (Jf a.1 a.2.1 a.2.2)) (λ_=>by kernel_rfl)
def Ka:SU:=⟨[.st 128,i6],[i6],false,false,λ(a:D.aAB×Int)=>some (eY a.1 a.2)⟩
def qW:OK 270 Ka:=mkS .n [.tmp 4] (gc fA aH) func270 ntmps270 (λa _=>(Je a.1 a.2).trans) (λ_=>by kernel_rfl)
def Y1:SU:=⟨[.st 130,i6,i6],[.st 130,i6,i6, .bool],true,false,λ(a:D.Site×Int×Int)=>gd (a.1.sz<=34359738368) (some (lX a.1 a.2.1 a.2.2))⟩
def Y2:OK 245 Y1:=mkS (.s .n (.s .n (.s (.s (.rj 4 ⟨[(19,6)],[.dat (.s 24) .bool],[],[]⟩ .n) .n) (.s .n (.s .n bM2))))) [.cell 6 130, .tmp 7, .tmp 8, .tmp 9] (gc uB (gc nO (gc yN (gc Jz (gc qW aH))))) func245 ntmps245 (λa _=>aI (O4 a.1 a.2.1 a.2.2)) (λ_=>by kernel_rfl)
def aFw:SU:=⟨[.st 166],[.bool],false,false,λ(a:D.aAJ)=>some (kP a)⟩
def uD:OK 290 aFw:=mkS bMy [.tmp 2] (gc rY (gc dR aH)) func290 ntmps290 (λa _=>(aE1 a).trans) (λ_=>by kernel_rfl)
def aFx:SU:=⟨[.str, .str],[i6],false,false,λ(a:ByteArray×ByteArray)=>Ia a.1 a.2⟩
def aFy:OK 313 aFx:=mkS .n [.tmp 4] (gc uM aH) func313 ntmps313 (λ_ _=>id) (λ_=>by kernel_rfl)
def Zw:SU:=⟨[.str, .str],[.bool],false,false,λ(a:ByteArray×ByteArray)=>xV a.1 a.2⟩
def Zx:OK 291 Zw:=mkS .n [.tmp 4] (gc aFy aH) func291 ntmps291 (λ_ _=>id) (λ_=>by kernel_rfl)
def Eb:SU:=⟨[.str, .str],[.bool],false,false,λ(a:ByteArray×ByteArray)=>oG a.1 a.2⟩
def Ec:OK 317 Eb:=mkS (.s .n (.s (.rj 6 ⟨[(4,1),(5,11)],[.dat (.s 4) .bool],[],[]⟩ .n) .n)) [.tmp 4] aH func317 ntmps317 (λ_ _=>id) (λ_=>by kernel_rfl)
def Tw:SU:=⟨[.str, .str],[.bool],false,false,λ(a:ByteArray×ByteArray)=>uZ a.1 a.2⟩
def Tx:OK 292 Tw:=mkS .n [.tmp 4] (gc Ec aH) func292 ntmps292 (λ_ _=>id) (λ_=>by kernel_rfl)
def aM6:SU:=⟨[.st 166, .str],[.bool],false,false,λ(a:D.aAJ×ByteArray)=>gd (uK a.1 a.2) (some (jD a.1 a.2))⟩
def Vm:OK 271 aM6:=mkS (.s .n (.s (.rj 3 ⟨[(4,1),(2,25)],[.dat (.s 4) .bool],[],[]⟩ .n) .n)) [.tmp 4] (gc uD (gc rY (gc Zx (gc Tx aH)))) func271 ntmps271 (λa _=>aI (aMj a.1 a.2)) (λ_=>by kernel_rfl)
def Ty:SU:=⟨[.st 166],[.str],false,false,λ(a:D.aAJ)=>gd (lY a) (some (lZ a))⟩
def vI:OK 272 Ty:=mkS bMv [.tmp 2] (gc uD (gc aAz aH)) func272 ntmps272 (λ(a:D.aAJ) _=>aI (Ry a)) (λ_=>by kernel_rfl)
def Ed:SU:=⟨[.st 218],[.sl 3],true,false,λ(a:D.aAK)=>gd (a.Site.size<=34359738300/\a.aAJ.size<=34359738300) (some (aZ a))⟩
def oN:OK 274 Ed:=mkS (.s .n (.s (.r none [(0,true),(1,true),(3,true),(4,true),(6,true),(7,true),(8,true),(9,true),(10,true),(11,true),(2,false),(5,false),(12,false),(13,false),(14,true)]) .n)) [.tmp 2] (gc uC (gc oM (gc aLf aH))) func274 ntmps274 (λ(a:D.aAK) _=>aI (Dk a)) (λ_=>by kernel_rfl)
def Tz:SU:=⟨[.st 64],[.bool],false,false,λ(a:D.aAH)=>some (jC a)⟩
def Ua:OK 294 Tz:=mkS bMx [.tmp 2] (gc dR (gc dO aH)) func294 ntmps294 (λa _=>(Rw a).trans) (λ_=>by kernel_rfl)
def Zy:SU:=⟨[.st 64, .str,i6],[i6],false,false,λ(a:D.aAH×ByteArray×Int)=>gd (a.2.1.size<=34359738300) (some (bM a.1 a.2.1 a.2.2))⟩
def Zz:OK 295 Zy:=mkS bIp [.tmp 6] (gc uC (gc iD aH)) func295 ntmps295 (λa _=>aI (Xm a.1 a.2.1 a.2.2)) (λ_=>by kernel_rfl)
def Po:SU:=⟨[.st 64, .str,i6, .sl 3],[.st 64,i6, .bool],false,false,λ(a:D.aAH×ByteArray×Int×(List Int))=>gd (a.2.1.size<=34359738300/\a.2.2.2.length<=34359738200) (some (kF a.1 a.2.1 a.2.2.1 a.2.2.2))⟩
def Pp:OK 273 Po:=mkS (.s .n (.s bIy (.s .n (.s (.u none [1] [4] [(0,true),(1,true),(2,true),(3,true),(5,true),(6,true),(7,true),(8,false),(9,false),(4,false),(10,false),(11,false),(12,false),(13,false),(14,false)]) .n)))) [.cell 8 64, .tmp 9, .tmp 10] (gc Ua (gc Zz (gc iB (gc yI aH)))) func273 ntmps273 (λa _=>aI (Oi a.1 a.2.1 a.2.2.1 a.2.2.2)) (λ_=>by kernel_rfl)
def Pq:SU:=⟨[.st 64, .st 166, .str,i6,i6, .bool],[.st 64, .st 218, .bool],false,false,λ(a:D.aAH×D.aAJ×ByteArray×Int×Int×Bool)=>gd (uK a.2.1 a.2.2.1) (some (jL a.1 a.2.1 a.2.2.1 a.2.2.2.1 a.2.2.2.2.1 a.2.2.2.2.2))⟩
def Ps:OK 246 Pq:=mkS (.s .n (.s .n (.s .n (.s (.y false (some 10) (some 11) (od 14 [4,5,10,11])) (.s .n (.s .n (.s .n bMw))))))) [.cell 12 64, .cell 13 218, .tmp 14] (gc Vm (gc vI (gc oN (gc Pp aH)))) func246 ntmps246 (λa _=>aI (Oj a.1 a.2.1 a.2.2.1 a.2.2.2.1 a.2.2.2.2.1 a.2.2.2.2.2)) (λ_=>by kernel_rfl)
def Pt:SU:=⟨[.st 128,i6],[i6],false,false,λ(a:D.aAB×Int)=>gd (a.1.Open.length<=34359738368) (some (bN a.1 a.2))⟩
def Pv:OK 319 Pt:=mkS bKr [.tmp 4] aH func319 ntmps319 (λa _=>aI (Og a.1 a.2)) (λ_=>by kernel_rfl)
def Pw:SU:=⟨[.st 128,i6,i6,i6],[.st 128, .bool],true,false,λ(a:D.aAB×Int×Int×Int)=>gd (a.1.sz<=34359738368) (some (sP a.1 a.2.1 a.2.2.1 a.2.2.2))⟩
def Px:OK 296 Pw:=mkS (.s .n (.s .n (.s .n (.s (.s (.rj 4 ⟨[(21,4)],[.dat (.s 24) .bool],[],[]⟩ .n) .n) (.s .n (.s bMr (.s (.u none [1] [] (od 13 [11,12])) .n))))))) [.cell 8 128, .tmp 9] (gc uA (gc Pv (gc nN aH))) func296 ntmps296 (λa _=>aI (Oh a.1 a.2.1 a.2.2.1 a.2.2.2)) (λ_=>by kernel_rfl)
def Ub:SU:=⟨[.st 181,i6],[.bool],false,false,λ(a:D.Account×Int)=>gd (a.1.sz<=34359738368) (some (nG a.1 a.2))⟩
def Uc:OK 297 Ub:=mkS (.s .n (.s (.s (.rj 4 ⟨[(10,11)],[.dat (.s 20) .bool],[],[]⟩ .n) .n) (.s .n (.s (.jx ⟨[(4,1),(1,1),(16,11)],[],[],[]⟩ (.s .n (.s (.l ⟨[(4,1),(1,1),(19,8)],[.nat (.s 26)],[],[]⟩ FUEL .n) .n))) .n)))) [.tmp 4] (gc kW (gc dR aH)) func297 ntmps297 (λa _=>aI (Rx a.1 a.2)) (λ_=>by kernel_rfl)
def Kb:SU:=⟨[.st 181,i6],[i6],false,false,λ(a:D.Account×Int)=>gd (a.1.Credentials.length<=34359738368) (some (bC a.1 a.2))⟩
def Kc:OK 320 Kb:=mkS bKr [.tmp 4] aH func320 ntmps320 (λa _=>aI (Jd a.1 a.2)) (λ_=>by kernel_rfl)
def Ee:SU:=⟨[.str, .str],[.bool],false,false,λ(a:ByteArray×ByteArray)=>oI a.1 a.2⟩
def Ef:OK 375 Ee:=mkS (.s .n (.s (.rj 6 ⟨[(4,1),(5,8)],[.dat (.s 4) .bool],[],[]⟩ .n) .n)) [.tmp 4] aH func375 ntmps375 (λ_ _=>id) (λ_=>by kernel_rfl)
def Eg:SU:=⟨[.str, .str],[.str, .bool],false,false,λ(a:ByteArray×ByteArray)=>oJ a.1 a.2⟩
def Eh:OK 366 Eg:=mkS .n [.tmp 4, .tmp 5] (gc Ef aH) func366 ntmps366 (λ_ _=>id) (λ_=>by kernel_rfl)
def Ud:SU:=⟨[.str, .str],[.str, .bool],false,false,λ(a:ByteArray×ByteArray)=>mX a.1 a.2⟩
def Ue:OK 355 Ud:=mkS .n [.tmp 4, .tmp 5] (gc Eh aH) func355 ntmps355 (λ_ _=>id) (λ_=>by kernel_rfl)
def Y3:SU:=⟨[.str, .str],[.str, .str, .bool],false,false,λ(a:ByteArray×ByteArray)=>Ad a.1 a.2⟩
def Y4:OK 367 Y3:=mkS (.s .n (.s (.s .n (.s .n (.s (.s (.r none (od 12 [])) .n) .n))) .n)) [.tmp 4, .tmp 5, .tmp 6] (gc uM aH) func367 ntmps367 (λ_ _=>id) (λ_=>by kernel_rfl)
def aM7:SU:=⟨[.str, .str],[.str, .str, .bool],false,false,λ(a:ByteArray×ByteArray)=>Ve a.1 a.2⟩
def aM8:OK 356 aM7:=mkS .n [.tmp 4, .tmp 5, .tmp 6] (gc Y4 aH) func356 ntmps356 (λ_ _=>id) (λ_=>by kernel_rfl)
def d9:SU:=⟨[.str],[.st 166, .bool],false,false,λ(a:ByteArray)=>gd (aL2 a) (some (mK a))⟩
def o5:OK 342 d9:=mkS (.s .n (.s .n (.s .n (.s (.j ⟨[(5,2),(11,8)],[.dat (.s 5) (.str), .dat (.s 6) .bool, .dat (.c 1 0) .bool, .dat (.c 1 1) (.str), .dat (.c 1 2) i6],[],[]⟩ .n) (.s .n (.s .n (.s .n (.s (.jx ⟨[(3,1),(6,2),(25,11)],[.dat (.c 1 2) i6],[],[]⟩ .n) (.s (.s (.rj 4 ⟨[(51,6)],[.dat (.s 56) .bool],[],[]⟩ .n) .n) .n))))))))) [.cell 2 166, .tmp 3] (gc Ue (gc aM8 (gc aEk (gc uD (gc vI aH))))) func342 ntmps342 (λ(a:ByteArray) _=>aI (Xr a)) (λ_=>by kernel_rfl)
def Ke:SU:=⟨[i6, .st 218, .str,i6,i6],[i6],false,false,λ(a:Int×D.aAK×ByteArray×Int×Int)=>gd (AsP a.2.1 a.2.2.1) (some (iL a.1 a.2.1 a.2.2.1 a.2.2.2.1 a.2.2.2.2))⟩
def Kg:OK 321 Ke:=mkS (.s .n (.s .n (.s (.s (.s bM0 (.s .n (.s .n (.s .n (.s .n (.s .n (.s (.u none [] [2] [(0,true),(1,true),(3,true),(4,true),(8,true),(9,true),(5,false),(6,false),(2,false),(7,false),(10,false),(11,false),(12,false)]) .n))))))) .n) .n))) [.tmp 10] (gc o5 (gc Vm (gcp oN (gc iB (gc pX aH))))) func321 ntmps321 (λa _=>aI (Jg a.1 a.2.1 a.2.2.1 a.2.2.2.1 a.2.2.2.2)) (λ_=>by kernel_rfl)
def Py:SU:=⟨[.st 181, .st 218, .str,i6],[.st 181,i6],true,false,λ(a:D.Account×D.aAK×ByteArray×Int)=>gd (AsP a.2.1 a.2.2.1/\a.1.sz<=34359738368) (some (kT a.1 a.2.1 a.2.2.1 a.2.2.2))⟩
def Pz:OK 298 Py:=mkS (.s .n (.s .n (.s .n (.s bM1 (.s (.r none (od 17 [15])) (.s (.j ⟨[(51,9)],[.ti 3 183 true],[],[]⟩ .n) (.s (.j ⟨[(60,7)],[.ti 3 183 true],[],[]⟩ .n) .n))))))) [.cell 8 181, .tmp 9] (gc yK (gc Kc (gc kW (gc Kg aH)))) func298 ntmps298 (λa _=>aI (Ol a.1 a.2.1 a.2.2.1 a.2.2.2)) (λ_=>by kernel_rfl)
def o6:SU:=⟨[.st 130,i6,i6,i6, .st 218],[.st 130,i6,i6],true,false,λ(a:D.Site×Int×Int×Int×D.aAK)=>gd (AsP a.2.2.2.2 a.1.Name/\a.1.sz<=34359738300) (some (pG a.1 a.2.1 a.2.2.1 a.2.2.2.1 a.2.2.2.2))⟩
def o7:OK 275 o6:=mkS bMu [.cell 10 130, .tmp 11, .tmp 12] (gc uB (gc yN (gc nO (gc Px (gc Uc (gc qW (gc Pz aH))))))) func275 ntmps275 (λa _=>aI (Xt a.1 a.2.1 a.2.2.1 a.2.2.2.1 a.2.2.2.2)) (λ_=>by kernel_rfl)
def Y5:SU:=⟨[.st 39,i6,i6,i6],[.st 39, .bool],true,false,λ(a:D.aAM×Int×Int×Int)=>gd (a.1.sz<=34359738300) (some (aOs a.1 a.2.1 a.2.2.1 a.2.2.2))⟩
def Y6:OK 299 Y5:=mkS (.s .n (.s .n (.s .n (.s .n (.s (.j ⟨[(11,3),(16,29)],[.tr (.c 3 0) 2 212 true],[],[]⟩ (.s .n (.s (.s .n (.s (.j ⟨[(11,3),(20,12)],[.dat (.s 11) i6],[],[]⟩ (.s .n (.s (.l ⟨[(11,3),(23,9)],[.dat (.s 11) i6, .nat (.s 37)],[],[]⟩ FUEL .n) .n))) bMr)) .n))) .n))))) [.cell 8 39, .tmp 9] (gc qV (gc Ij aH)) func299 ntmps299 (λa _=>aI (O1 a.1 a.2.1 a.2.2.1 a.2.2.2)) (λ_=>by kernel_rfl)
def aRg:SU:=⟨[.st 41,i6,i6, .st 166],[.st 41, .st 218,i6],true,false,λ(a:D.World×Int×Int×D.aAJ)=>gd (lY a.2.2.2/\a.1.sz<=34359738200) (some (wL a.1 a.2.1 a.2.2.1 a.2.2.2))⟩
def aRh:OK 196 aRg:=mkS (.s .n (.s .n (.s (.s (.rj 4 ⟨[(26,12)],[.dat (.s 37) .bool],[],[]⟩ .n) .n) (.s (.y false (some 13) (some 14) (od 18 [7,13,14])) (.s .n (.s .n (.s (.u none [] [16,17] [(0,true),(1,true),(2,true),(3,true),(4,true),(5,true),(6,true),(7,true),(9,true),(10,true),(8,false),(11,false),(12,true),(13,true),(14,true),(15,true),(16,false),(17,false),(18,false),(19,false),(20,false)]) (.s .n (.s (.il 4 (.s .n (.s (.y false (some 14) (some 15) (od 18 [9,14,15])) (.s .n (.s .n (.s (.il 1 .n .n) .n))))) .n) (.s (.u none [2,3] [] (od 6 [3,4,5])) .n)))))))))) [.cell 8 41, .cell 9 218, .tmp 10] (gc jU (gc jN (gc jV (gc Pn (gc Y2 (gc tZ (gc Ps (gc (sIl 247) (gc o7 (gc (sIl 276) (gc Y6 aH))))))))))) func196 ntmps196 (λa _=>aI (aQ8 a.1 a.2.1 a.2.2.1 a.2.2.2)) (λ_=>by kernel_rfl)
def aFz:SU:=⟨[.st 41,i6,i6, .st 166],[.st 41,i6],true,false,λ(a:D.World×Int×Int×D.aAJ)=>gd (lY a.2.2.2/\a.1.sz<=34359738200) (some (Qk a.1 a.2.1 a.2.2.1 a.2.2.2))⟩
def aF0:OK 120 aFz:=mkS .n [.cell 8 41, .tmp 9] (gc aRh aH) func120 ntmps120 (λa _=>aI (aE2 a.1 a.2.1 a.2.2.1 a.2.2.2)) (λ_=>by kernel_rfl)
def o8:SU:=⟨[.st 41,i6,i6],[.st 41,i6],true,false,λ(a:D.World×Int×Int)=>gd (a.1.sz<=34359738200) (some (lG a.1 a.2.1 a.2.2))⟩
def o9:OK 49 o8:=mkS (.s .n (.s .n (.s (.y false (some 9) (some 10) (od 12 [4,5,9,10])) .n))) [.cell 6 41, .tmp 7] (gc aM5 (gc jU (gc aUn (gc aF0 aH)))) func49 ntmps49 (λa _=>aI (Xu a.1 a.2.1 a.2.2)) (λ_=>by kernel_rfl)
def Uf:SU:=⟨[.st 41,i6],[i6],false,false,λ(a:D.World×Int)=>gd (a.1.sz<=34359738200) (some (rX a.1 a.2))⟩
def Ug:OK 11 Uf:=mkS (.s .n (.s .n (.s (.j ⟨[(5,19)],[.dat (.s 5) i6],[],[]⟩ (.s .n (.s (.l ⟨[(5,19)],[.dat (.s 5) i6, .nat (.s 6)],[],[]⟩ FUEL (.s .n (.s (.j ⟨[(5,1),(1,2),(4,11)],[.dat (.s 5) i6],[],[]⟩ .n) .n))) .n))) .n))) [.tmp 4] (gc o9 aH) func11 ntmps11 (λa _=>aI (Rz a.1 a.2)) (λ_=>by kernel_rfl)
def qB:SU:=⟨[.sl 5],[.bool],false,false,λ(a:(List Int))=>gd (aHy a) (some true)⟩
def Gm:OK 3 qB:=mkS (.s .n (.s .n (.s .n (.s .n (.s (.y false none (some 9) (od 11 [3,5,9])) (.s .n (.s (.y false none (some 11) (od 13 [5,7,11])) (.s .n (.s (.s (.rj 3 ⟨[(53,18)],[.dat (.s 70) .bool],[],[]⟩ .n) .n) (.s (.jx ⟨[(2,1),(8,1),(59,37)],[],[],[]⟩ (.s .n (.s (.l ⟨[(2,1),(8,1),(59,37)],[.nat (.s 11)],[],[]⟩ FUEL (.s .n (.s (.s (.s (.rj 13 ⟨[(87,21)],[.dat (.s 107) .bool],[],[]⟩ (.r none [(0,true),(1,true),(2,true),(6,true),(7,true),(8,true),(9,true),(10,true),(3,false),(4,true),(5,false),(11,true),(12,true),(13,true),(14,true),(15,true),(16,false),(17,true),(18,false),(19,true),(20,true),(21,true),(22,true),(23,false),(24,true),(25,true),(26,true),(27,true),(28,true),(29,true),(30,false),(31,true),(32,true)])) .n) .n) .n))) .n))) (.s (.rj 4 ⟨[(2,1),(108,5)],[.dat (.s 2) .bool],[],[]⟩ .n) .n))))))))))) [.tmp 2] (gc aWy (gc bBm (gc aFj (gc U3 (gc Zu (gc Tv (gc Ug aH))))))) func3 ntmps3 (λ(a:(List Int)) _=>aI (Gg a)) (λ_=>by kernel_rfl)
end
end Go.VK
