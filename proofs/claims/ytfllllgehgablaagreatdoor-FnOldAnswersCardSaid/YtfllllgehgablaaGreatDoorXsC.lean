import Derived.Test.YtfllllgehgablaaGreatDoorXsL
import Derived.Test.YtfllllgehgablaaGreatDoorXsM
import Derived.Test.YtfllllgehgablaaGreatDoorXsPzh
/- Printed by wip/tools: models, walks, proofs. -/
set_option linter.all false
set_option maxRecDepth 100000
set_option maxHeartbeats 4000000
namespace Go.VK
open Go.RowKit Go.Proofs Tryz
noncomputable section
def i6:EV.Kd:= .int .i64
def bOa:EV.An:=(.s .n (.s .n (.s .n (.s (.j ⟨[(9,1),(2,17)],[.dat (.s 9) i6],[],[]⟩ (.s (.l ⟨[(9,1),(2,17)],[.dat (.s 9) i6],[],[]⟩ FUEL (.s (.s (.rj 6 ⟨[(17,10)],[.dat (.s 26) .bool],[],[]⟩ .n) .n) .n)) .n)) (.s (.y true (some 9) (some 17) [(1,true),(2,true),(3,true),(4,true),(6,true),(7,true),(8,true),(11,true),(12,true),(13,true),(14,true),(0,false),(5,false),(9,false),(10,false),(15,false),(16,false),(17,false)]) (.s (.s (.rj 4 ⟨[(49,5)],[.dat (.s 53) .bool],[],[]⟩ .n) .n) .n))))))
def bMs:EV.An:=(.s .n (.s (.s (.rj 6 ⟨[(11,16)],[.dat (.s 26) .bool],[],[]⟩ .n) .n) (.s (.jx ⟨[(4,2),(21,18)],[],[],[]⟩ (.s .n (.s (.l ⟨[(4,2),(21,18)],[.nat (.s 5)],[],[]⟩ FUEL (.s .n (.s (.s (.s (.r none (od 11 [])) .n) .n) .n))) .n))) .n)))
def bOb:EV.An:=(.s .n (.s (.r none (od 21 [15])) (.s (.j ⟨[(4,1),(33,16)],[.dat (.s 4) i6],[],[]⟩ .n) (.s .n (.s (.y false (some 10) (some 11) (od 13 [6,10,11])) (.s (.s (.rj 3 ⟨[(76,8)],[.dat (.s 83) .bool],[],[]⟩ .n) .n) (.s .n (.s (.s .n (.s (.s .n (.s (.r (some 7) (od 8 [7])) .n)) .n)) .n))))))))
def bP3:EV.An:=(.j ⟨[(12,1),(11,10)],[.dat (.s 12) .bool, .tr (.c 6 0) 5 149 true],[],[]⟩ (.s .n (.s (.y false none (some 9) [(0,true),(1,true),(2,true),(4,true),(3,false),(5,false),(6,true),(7,true),(8,true),(9,false),(10,true)]) .n)))
def bOc:EV.An:=(.s .n (.s .n (.s (.j ⟨[(0,2),(3,16)],[.dat (.s 5) i6],[],[]⟩ (.s (.l ⟨[(0,2),(3,16)],[.dat (.s 0) i6, .dat (.s 1) i6, .dat (.s 5) i6],[],[]⟩ FUEL (.s .n (.s (.s (.j ⟨[(5,1),(2,7)],[.dat (.s 5) i6],[],[]⟩ .n) .n) .n))) .n)) .n)))
def bP4:EV.An:=(.il 1 (.s .n (.s .n (.s (.j ⟨[(3,2),(3,20)],[.dat (.s 3) i6],[],[]⟩ (.s .n (.s (.l ⟨[(3,2),(3,20)],[.dat (.s 3) i6, .dat (.s 4) i6],[],[]⟩ FUEL (.s (.s (.rj 5 ⟨[(12,4)],[.dat (.s 15) .bool],[],[]⟩ .n) .n) .n)) .n))) .n))) .n)
def bJd:EV.An:=(.s .n (.s .n (.s (.s (.s .n (.r (some 5) (od 8 [3,4,5,6,7]))) .n) .n)))
def bP5:EV.An:=(.y true (some 7) (some 15) [(1,true),(2,true),(3,true),(4,true),(6,true),(9,true),(10,true),(11,true),(12,true),(0,false),(5,false),(7,false),(8,false),(13,false),(14,false),(15,false)])
def bMt:EV.An:=(.s .n (.s (.jx ⟨[(4,18)],[],[],[]⟩ (.s .n (.s (.l ⟨[(4,18)],[.nat (.s 5)],[],[]⟩ FUEL .n) .n))) .n))
def bGq:EV.An:=(.s .n (.s (.s (.s (.r none (od 12 [10])) .n) .n) .n))
def bJ4:EV.An:=(.s .n (.s (.s (.s (.y false (some 9) (some 10) [(0,true),(1,true),(3,true),(4,true),(2,false),(5,false),(6,true),(7,true),(8,true),(9,false),(10,false),(11,true)]) .n) .n) .n))
def bJ5:EV.An:=(.s .n (.s (.y false (some 5) none [(0,true),(1,true),(2,true),(3,true),(4,true),(6,true),(7,true),(8,false),(9,false),(5,false),(10,false),(11,false),(12,true)]) .n))
def bJ6:EV.An:=(.s .n (.s (.y false (some 5) (some 9) [(0,true),(1,true),(2,true),(3,true),(4,true),(6,true),(7,true),(8,false),(5,false),(9,false),(10,false),(11,true)]) .n))
def bJ7:EV.An:=(.s .n (.s .n (.s (.jx ⟨[(4,2),(7,18)],[],[],[]⟩ (.s .n (.s (.l ⟨[(4,2),(7,18)],[.nat (.s 5)],[],[]⟩ FUEL (.s .n (.s (.s (.s (.r none (od 11 [])) .n) .n) .n))) .n))) .n)))
def bJ8:EV.An:=(.s .n (.s .n (.s (.jx ⟨[(4,2),(5,15)],[],[],[]⟩ (.s .n (.s (.l ⟨[(4,2),(5,15)],[.nat (.s 5)],[],[]⟩ FUEL (.s .n (.s (.s (.s (.r none (od 9 [])) .n) .n) .n))) .n))) .n)))
def aZ8:EV.An:=(.s .n (.s (.s (.r (some 9) (od 12 [7,8,9,10,11])) .n) .n))
def bOd:EV.An:=(.s .n (.s .n (.s (.j ⟨[(5,3),(1,20)],[.tr (.s 5) 0 5 true],[],[]⟩ (.s .n (.s (.l ⟨[(5,3),(3,18)],[.tr (.s 5) 0 5 true, .nat (.s 11)],[],[]⟩ FUEL .n) .n))) .n)))
def bJ9:EV.An:=(.s (.r (some 11) [(0,true),(1,true),(2,true),(4,true),(5,true),(6,true),(7,true),(8,true),(9,true),(3,false),(10,true),(11,false),(12,false)]) .n)
def bOe:EV.An:=(.y false (some 9) (some 10) [(0,true),(1,true),(2,true),(4,true),(3,false),(5,false),(6,true),(7,true),(8,true),(9,false),(10,false),(11,true)])
def bKa:EV.An:=(.s .n (.s .n (.s (.y false (some 9) (some 10) (od 12 [5,9,10])) (.s (.s (.rj 3 ⟨[(33,4)],[.dat (.s 36) .bool],[],[]⟩ .n) .n) (.s (.r (some 7) (od 8 [7])) .n)))))
def bOf:EV.An:=(.s .n (.s .n (.s .n (.s (.s (.rj 7 ⟨[(19,19)],[.dat (.s 37) .bool],[],[]⟩ (.r none (od 25 [4,17]))) .n) (.s (.r (some 5) (od 8 [3,4,5,6,7])) .n)))))
def bKb:EV.An:=(.s .n (.s (.y true none (some 9) [(0,true),(1,true),(2,true),(3,true),(5,true),(6,true),(4,false),(7,false),(8,false),(9,false)]) .n))
def bKc:EV.An:=(.s .n (.s .n (.s .n (.s .n (.s (.u none [1,2] [] (od 5 [2,3,4])) .n)))))
def bKd:EV.An:=(.s .n (.s (.rj 6 ⟨[(4,1),(5,14)],[.dat (.s 4) .bool],[],[]⟩ .n) .n))
def bKe:EV.An:=(.s .n (.s (.s (.rj 4 ⟨[(10,19)],[.dat (.s 28) .bool],[],[]⟩ (.r none (od 22 [1,7,13]))) .n) (.s .n (.s (.s (.r none (od 6 [4])) .n) .n))))
def bKf:EV.An:=(.y false (some 7) (some 8) [(0,true),(1,true),(3,true),(4,true),(2,false),(5,false),(6,true),(7,false),(8,false)])
def bKg:EV.An:=(.s .n (.s (.s (.s .n (.s (.rj 5 ⟨[(21,28)],[.dat (.s 48) .bool],[],[]⟩ (.r none (od 32 [2,7,13]))) .n)) .n) .n))
def bKh:EV.An:=(.s (.r none [(0,true),(2,true),(3,true),(1,false),(4,false),(5,false),(6,true)]) .n)
def bGr:EV.An:=(.s (.u none [2,3] [] (od 5 [2,3,4])) .n)
def bKi:EV.An:=(.s .n (.s .n (.s (.rj 3 ⟨[(6,1),(5,7)],[.dat (.s 6) .bool],[],[]⟩ .n) .n)))
def bKj:EV.An:=(.s (.il 0 (.s (.y false (some 13) (some 14) (od 16 [9,13,14])) .n) .n) .n)
def bKk:EV.An:=(.s .n (.s (.rj 6 ⟨[(4,1),(5,21)],[.dat (.s 4) .bool],[],[]⟩ .n) .n))
def bKl:EV.An:=(.s .n (.s (.rj 4 ⟨[(6,1),(3,5)],[.dat (.s 6) .bool],[],[]⟩ .n) .n))
def bKm:EV.An:=(.s .n (.s (.s (.y false none (some 15) (od 16 [10,15])) .n) .n))
def bKn:EV.An:=(.s (.rj 5 ⟨[(61,21)],[.dat (.s 81) .bool],[],[]⟩ .n) .n)
def bKo:EV.An:=(.s (.rj 5 ⟨[(52,4)],[.dat (.s 55) .bool],[],[]⟩ .n) .n)
def aYc:SU:=⟨[.sl 5],[.bool],false,false,λ(a:(List Int))=>some (bBt a)⟩
def aYd:OK 5 aYc:=mkS .n [.tmp 2] aG func5 ntmps5 (λa _=>(aX5 a).trans) (λ_=>by kernel_rfl)
def aM8:SU:=⟨[.st 97],[.st 97,i6],true,true,λ(a:D.aAQ)=>gd (aX a) (some (jL a))⟩
def aM9:OK 43 aM8:=mkP (.s .n (.s .n (.s (.r none (od 13 [])) (.s (.j ⟨[(3,1),(21,32)],[.dat (.s 3) i6, .dat (.c 0 1) i6],[],[]⟩ (.s (.r none (od 10 [])) (.s (.s (.r none (od 15 [])) .n) .n))) .n)))) [.tmp 2] aG func43 ntmps43 (λ(a:D.aAQ) _=>aF (aM6 a)) (λ_=>by kernel_rfl)
def aKl:SU:=⟨[.st 97,i6],[.st 97,i6],true,true,λ(a:D.aAQ×Int)=>gd (aX a.1) (some (bK a.1 a.2))⟩
def jX:OK 19 aKl:=mkP .n [.tmp 4] (gc aM9 aG) func19 ntmps19 (λa _=>aF (aKk a.1 a.2)) (λ_=>by kernel_rfl)
def aVu:SU:=⟨[i6,i6,i6],[.bool],false,false,λ(a:Int×Int×Int)=>some (bI a.1 a.2.1 a.2.2)⟩
def bR:OK 71 aVu:=mkS bKl [.tmp 6] aG func71 ntmps71 (λa _=>(aVb a.1 a.2.1 a.2.2).trans) (λ_=>by kernel_rfl)
def R4:SU:=⟨[i6],[.bool],false,false,λ(a:Int)=>some (bG a)⟩
def cZ:OK 134 R4:=mkS .n [.tmp 2] (gc bR aG) func134 ntmps134 (λa _=>(K7 a).trans) (λ_=>by kernel_rfl)
def aYe:SU:=⟨[i6,i6],[i6],false,false,λ(a:Int×Int)=>some (gK a.1 a.2)⟩
def yA:OK 231 aYe:=mkS .n [.tmp 4] (gc bR aG) func231 ntmps231 (λa _=>(aXs a.1 a.2).trans) (λ_=>by kernel_rfl)
def aVv:SU:=⟨[.sl 3],[i6],false,false,λ(a:(List Int))=>gd (a.length<=1099511627776) (some (tY a))⟩
def aEg:OK 232 aVv:=mkS (.s .n (.s .n (.s (.j ⟨[(3,18)],[.dat (.s 3) i6],[],[]⟩ (.s .n (.s (.l ⟨[(3,18)],[.dat (.s 3) i6, .nat (.s 4)],[],[]⟩ FUEL .n) .n))) .n))) [.tmp 2] (gc yA aG) func232 ntmps232 (λ(a:(List Int)) _=>aF (aVc a)) (λ_=>by kernel_rfl)
def aCd:SU:=⟨[i6, .sl 3],[i6],false,false,λ(a:Int×(List Int))=>gd (a.2.length<=34359738368) (some (bJ a.1 a.2))⟩
def dK:OK 189 aCd:=mkS .n [.tmp 4] (gc aEg aG) func189 ntmps189 (λa _=>aF (aBc a.1 a.2)) (λ_=>by kernel_rfl)
def aYf:SU:=⟨[i6,i6],[i6],false,false,λ(a:Int×Int)=>some (aRf a.1 a.2)⟩
def Xq:OK 188 aYf:=mkS .n [.tmp 4] aG func188 ntmps188 (λa _=>(aXu a.1 a.2).trans) (λ_=>by kernel_rfl)
def aCe:SU:=⟨[i6, .sl 3],[i6],false,false,λ(a:Int×(List Int))=>gd (a.2.length<=34359738300) (some (aT a.1 a.2))⟩
def dR:OK 205 aCe:=mkS .n [.tmp 4] (gc dK (gc Xq aG)) func205 ntmps205 (λa _=>aF (aBe a.1 a.2)) (λ_=>by kernel_rfl)
def R5:SU:=⟨[i6,i6],[.st 55],false,false,λ(a:Int×Int)=>some (aL a.1 a.2)⟩
def Ap:OK 201 R5:=mkS .n [.cell 4 55] (gc dR aG) func201 ntmps201 (λa _=>(O6 a.1 a.2).trans) (λ_=>by kernel_rfl)
def aCf:SU:=⟨[.st 55],[.st 60],true,false,λ(a:D.aAI)=>some (bM a)⟩
def Eg:OK 200 aCf:=mkS .n [.cell 2 60] aG func200 ntmps200 (λa _=>(aB1 a).trans) (λ_=>by kernel_rfl)
def aCg:SU:=⟨[.st 55],[i6],false,false,λ(a:D.aAI)=>some (fP a)⟩
def rO:OK 180 aCg:=mkS .n [.tmp 2] (gc dR aG) func180 ntmps180 (λa _=>(aBi a).trans) (λ_=>by kernel_rfl)
def aCh:SU:=⟨[i6],[i6],false,false,λ(a:Int)=>some (cB a)⟩
def mO:OK 179 aCh:=mkS .n [.tmp 2] (gc cZ aG) func179 ntmps179 (λa _=>(aBg a).trans) (λ_=>by kernel_rfl)
def Rx:SU:=⟨[.st 55],[i6],false,false,λ(a:D.aAI)=>some (aY a)⟩
def eF:OK 139 Rx:=mkS .n [.tmp 2] (gc rO (gc mO aG)) func139 ntmps139 (λa _=>(Qz a).trans) (λ_=>by kernel_rfl)
def aCi:SU:=⟨[.st 165],[i6],false,false,λ(a:D.aAC)=>some (bY a)⟩
def rP:OK 228 aCi:=mkS .n [.tmp 2] (gc aEg aG) func228 ntmps228 (λa _=>(aBs a).trans) (λ_=>by kernel_rfl)
def aKm:SU:=⟨[.sl 165],[i6],false,false,λ(a:(List D.aAC))=>gd (a.length<=34359738368) (some (fQ a))⟩
def Ov:OK 226 aKm:=mkS .n [.tmp 2] (gc rP aG) func226 ntmps226 (λ(a:(List D.aAC)) _=>aF (aJt a)) (λ_=>by kernel_rfl)
def Xr:SU:=⟨[i6, .sl 3],[i6],false,false,λ(a:Int×(List Int))=>gd (a.2.length<=34359738300) (some (yZ a.1 a.2))⟩
def nQ:OK 257 Xr:=mkS .n [.tmp 4] (gc cZ (gc dK aG)) func257 ntmps257 (λa _=>aF (Wh a.1 a.2)) (λ_=>by kernel_rfl)
def Ry:SU:=⟨[.st 55, .sl 3],[i6],false,false,λ(a:D.aAI×(List Int))=>gd (a.2.length<=34359738300) (some (oZ a.1 a.2))⟩
def Rz:OK 235 Ry:=mkS .n [.tmp 4] (gc rO (gc nQ aG)) func235 ntmps235 (λa _=>aF (Rm a.1 a.2)) (λ_=>by kernel_rfl)
def aKn:SU:=⟨[.sl 165],[.sl 165],true,false,λ(a:(List D.aAC))=>gd (a.length<=34359738368) (some (a))⟩
def iM:OK 124 aKn:=mkS .n [.tmp 2] aG func124 ntmps124 (λ(a:(List D.aAC)) _=>aF (aJg a)) (λ_=>by kernel_rfl)
def aNa:SU:=⟨[.sl 3,i6],[.bool],false,false,λ(a:(List Int)×Int)=>gd (a.1.length<=1099511627776) (some (gM a.1 a.2))⟩
def rZ:OK 137 aNa:=mkS (.s .n (.s (.jx ⟨[(4,14)],[],[],[]⟩ (.s .n (.s (.l ⟨[(4,14)],[.nat (.s 5)],[],[]⟩ FUEL .n) .n))) .n)) [.tmp 4] aG func137 ntmps137 (λa _=>aF (aMr a.1 a.2)) (λ_=>by kernel_rfl)
def aCj:SU:=⟨[.sl 165],[.sl 3],true,false,λ(a:(List D.aAC))=>gd (a.length<=34359738368) (some (aD a))⟩
def jY:OK 138 aCj:=mkS (.s .n (.s .n (.s (.j ⟨[(3,5),(1,56)],[.tr (.s 3) 0 3 true],[],[]⟩ (.s .n (.s (.l ⟨[(3,5),(1,56)],[.tr (.s 3) 0 3 true, .nat (.s 4)],[],[]⟩ FUEL (.s .n (.s (.j ⟨[(3,1),(1,3),(7,50)],[.tr (.s 3) 0 3 true],[],[]⟩ (.s (.s .n (.s (.s (.rj 7 ⟨[(20,1),(6,6)],[.dat (.s 20) .bool],[],[]⟩ .n) (.s .n (.s .n (.s (.s .n (.s (.j ⟨[(6,2),(37,19)],[.tr (.s 6) 1 3 true],[],[]⟩ (.s .n (.s (.l ⟨[(6,2),(37,19)],[.tr (.s 6) 1 3 true, .nat (.s 7)],[],[]⟩ FUEL (.s .n (.s (.j ⟨[(6,1),(44,13)],[.tr (.s 6) 1 3 true],[],[]⟩ .n) .n))) .n))) .n)) .n)))) .n)) .n)) .n))) .n))) .n))) [.tmp 2] (gc rZ aG) func138 ntmps138 (λ(a:(List D.aAC)) _=>aF (aBj a)) (λ_=>by kernel_rfl)
def aKo:SU:=⟨[i6,i6],[i6],false,false,λ(a:Int×Int)=>pJ a.1 a.2⟩
def aKp:OK 255 aKo:=mkS bOc [.tmp 4] aG func255 ntmps255 (λ_ _=>id) (λ_=>by kernel_rfl)
def R6:SU:=⟨[i6],[i6],false,false,λ(a:Int)=>some (eP a)⟩
def pU:OK 223 R6:=mkS .n [.tmp 2] (gc bR (gc aKp (gc mO aG))) func223 ntmps223 (λa _=>(L9 a).trans) (λ_=>by kernel_rfl)
def Gq:SU:=⟨[i6, .sl 3,i6],[.bool],false,false,λ(a:Int×(List Int)×Int)=>gd (a.2.1.length<=34359738300) (some (gB a.1 a.2.1 a.2.2))⟩
def pV:OK 227 Gq:=mkS bKi [.tmp 6] (gc pU (gc nQ aG)) func227 ntmps227 (λa _=>aF (Gi a.1 a.2.1 a.2.2)) (λ_=>by kernel_rfl)
def aKq:SU:=⟨[.sl 165, .st 165],[.bool],false,false,λ(a:(List D.aAC)×D.aAC)=>gd (a.1.length<=34359738368) (some (lD a.1 a.2))⟩
def aKr:OK 178 aKq:=mkS (.s .n (.s .n (.s (.rj 5 ⟨[(6,1),(7,12)],[.dat (.s 6) .bool],[],[]⟩ .n) (.s (.s (.rj 6 ⟨[(31,22)],[.dat (.s 52) .bool],[],[]⟩ (.r none [(0,true),(1,true),(2,true),(3,true),(4,true),(5,true),(6,true),(7,true),(8,true),(9,false),(10,true),(11,true),(12,true),(13,true),(14,true),(15,true),(16,true),(17,true),(18,true),(19,true),(22,true),(23,true),(20,false),(21,false),(24,false),(25,true),(26,true)])) .n) (.s (.s .n (.s (.s (.rj 5 ⟨[(4,1),(55,5)],[.dat (.s 4) .bool],[],[]⟩ .n) .n) .n)) (.s (.jx ⟨[(4,1),(2,1),(57,22)],[],[],[]⟩ (.s .n (.s (.l ⟨[(4,1),(2,1),(57,22)],[.nat (.s 7)],[],[]⟩ FUEL (.s .n (.s (.s (.s (.rj 7 ⟨[(77,10)],[.dat (.s 86) .bool],[],[]⟩ (.r none (od 16 []))) .n) .n) .n))) .n))) (.s (.rj 4 ⟨[(4,1),(85,12)],[.dat (.s 4) .bool],[],[]⟩ .n) .n))))))) [.tmp 4] (gc jY (gc rZ (gc Ov (gc rP (gc pV aG))))) func178 ntmps178 (λa _=>aF (aJy a.1 a.2)) (λ_=>by kernel_rfl)
def aCk:SU:=⟨[.sl 165],[.bool],false,false,λ(a:(List D.aAC))=>gd (a.length<=34359738368) (some (bC a))⟩
def fZ:OK 133 aCk:=mkS (.s .n (.s (.jx ⟨[(2,17)],[],[],[]⟩ (.s .n (.s (.l ⟨[(2,17)],[.nat (.s 3)],[],[]⟩ FUEL (.s .n (.s (.s (.s (.r none (od 9 [7])) .n) .n) .n))) .n))) .n)) [.tmp 2] (gc aKr (gc bR aG)) func133 ntmps133 (λ(a:(List D.aAC)) _=>aF (aBu a)) (λ_=>by kernel_rfl)
def Xt:SU:=⟨[.sl 165,i6,i6, .st 55],[.sl 165, .bool],true,false,λ(a:(List D.aAC)×Int×Int×D.aAI)=>gd (a.1.length<=34359738300) (some (dQ a.1 a.2.1 a.2.2.1 a.2.2.2))⟩
def kK:OK 195 Xt:=mkS (.s .n (.s .n (.s (.r (some 6) (od 7 [2,3,4,6])) (.s (.y false (some 3) (some 4) [(0,true),(2,true),(1,false),(3,false),(4,false),(5,true)]) (.s (.s (.rj 4 ⟨[(35,10)],[.dat (.s 44) .bool],[],[]⟩ .n) .n) .n))))) [.tmp 8, .tmp 9] (gc eF (gc Ov (gc rP (gc Rz (gc iM (gc fZ aG)))))) func195 ntmps195 (λa _=>aF (Xc a.1 a.2.1 a.2.2.1 a.2.2.2)) (λ_=>by kernel_rfl)
def aFl:SU:=⟨[i6,i6],[i6],false,false,λ(a:Int×Int)=>some (bL a.1 a.2)⟩
def tO:OK 202 aFl:=mkS .n [.tmp 4] (gc dR aG) func202 ntmps202 (λa _=>(aFf a.1 a.2).trans) (λ_=>by kernel_rfl)
def aKs:SU:=⟨[.sl 165],[i6],false,false,λ(a:(List D.aAC))=>gd (a.length<=34359738368) (some (aJ a))⟩
def gI:OK 135 aKs:=mkS (.s .n (.s .n (.s (.j ⟨[(3,16)],[.dat (.s 3) i6],[],[]⟩ (.s .n (.s (.l ⟨[(3,16)],[.dat (.s 3) i6, .nat (.s 4)],[],[]⟩ FUEL (.s .n (.s (.j ⟨[(3,1),(7,8)],[.dat (.s 3) i6],[],[]⟩ .n) .n))) .n))) .n))) [.tmp 2] aG func135 ntmps135 (λ(a:(List D.aAC)) _=>aF (aJ0 a)) (λ_=>by kernel_rfl)
def Ox:SU:=⟨[.sl 5,i6],[.sl 5],true,false,λ(a:(List Int)×Int)=>gd (a.1.length<=34359738300) (some (Lm a.1 a.2))⟩
def Oy:OK 237 Ox:=mkS (.s .n (.s .n (.s .n (.s (.j ⟨[(1,1),(3,1),(7,11)],[.dat (.s 1) i6, .tr (.s 5) 0 5 true],[],[]⟩ (.s (.l ⟨[(1,1),(3,1),(7,11)],[.dat (.s 1) i6, .tr (.s 5) 0 5 true],[],[]⟩ FUEL .n) .n)) .n)))) [.tmp 4] (gc bR aG) func237 ntmps237 (λa _=>aF (Oa a.1 a.2)) (λ_=>by kernel_rfl)
def R7:SU:=⟨[.sl 3],[.sl 5],true,false,λ(a:(List Int))=>gd (a.length<=5000000000) (some (gN a))⟩
def Aq:OK 198 R7:=mkS (.s .n (.s .n (.s (.j ⟨[(3,2),(1,12)],[.tr (.s 3) 0 5 true],[],[]⟩ (.s .n (.s (.l ⟨[(3,2),(1,12)],[.tr (.s 3) 0 5 true, .nat (.s 4)],[],[]⟩ FUEL .n) .n))) .n))) [.tmp 2] (gc Oy aG) func198 ntmps198 (λ(a:(List Int)) _=>aF (N7 a)) (λ_=>by kernel_rfl)
def aNb:SU:=⟨[i6,i6],[i6],false,false,λ(a:Int×Int)=>some (fD a.1 a.2)⟩
def Uy:OK 258 aNb:=mkS .n [.tmp 4] (gc dR aG) func258 ntmps258 (λa _=>(aM0 a.1 a.2).trans) (λ_=>by kernel_rfl)
def aKt:SU:=⟨[i6, .sl 5],[.sl 5],true,false,λ(a:Int×(List Int))=>gd (aQ a.2) (some (jV a.1 a.2))⟩
def Oz:OK 193 aKt:=mkS (.s .n (.s .n (.s (.j ⟨[(5,2),(1,22)],[.tr (.s 5) 0 5 true],[],[]⟩ (.s .n (.s (.l ⟨[(5,2),(1,22)],[.tr (.s 5) 0 5 true, .nat (.s 6)],[],[]⟩ FUEL (.s .n (.s (.s (.r (some 15) (od 17 [8,9,14,15,16])) .n) .n))) .n))) .n))) [.tmp 4] (gc dK aG) func193 ntmps193 (λa _=>aF (aKd a.1 a.2)) (λ_=>by kernel_rfl)
def Xu:SU:=⟨[.sl 5],[.sl 3],true,false,λ(a:(List Int))=>gd (a.length<=34359738360) (some (vD a))⟩
def nR:OK 190 Xu:=mkS (.s .n (.s .n (.s (.j ⟨[(3,2),(3,14)],[.tr (.s 3) 0 3 true],[],[]⟩ (.s .n (.s (.l ⟨[(3,2),(3,14)],[.tr (.s 3) 0 3 true, .nat (.s 4)],[],[]⟩ FUEL .n) .n))) .n))) [.tmp 2] aG func190 ntmps190 (λ(a:(List Int)) _=>aF (Ws a)) (λ_=>by kernel_rfl)
def aNc:SU:=⟨[i6, .st 186],[i6],false,false,λ(a:Int×D.Box)=>gd (a.2.Data.length<=34359738200) (some (Lg a.1 a.2))⟩
def Uz:OK 259 aNc:=mkS bJ6 [.tmp 4] (gc nR (gc dK aG)) func259 ntmps259 (λa _=>aF (aM1 a.1 a.2)) (λ_=>by kernel_rfl)
def aKu:SU:=⟨[i6,i6, .sl 5],[.st 186, .bool],true,false,λ(a:Int×Int×(List Int))=>gd (aQ a.2.2) (some (dY a.1 a.2.1 a.2.2))⟩
def aKv:OK 236 aKu:=mkS (.s .n (.s .n (.s (.s (.rj 3 ⟨[(15,10)],[.dat (.s 24) .bool],[],[]⟩ .n) .n) .n))) [.cell 6 186, .tmp 7] (gc pU (gc cZ (gc Uy (gc Oz (gc Uz aG))))) func236 ntmps236 (λa _=>aF (aKe a.1 a.2.1 a.2.2)) (λ_=>by kernel_rfl)
def aCl:SU:=⟨[.sl 3,i6, .sl 5],[.sl 186, .bool],true,false,λ(a:(List Int)×Int×(List Int))=>gd (a.1.length<=34359738300/\aQ a.2.2) (some (dZ a.2.1 a.2.2 0 a.1))⟩
def aCm:OK 197 aCl:=mkS (.s .n (.s .n (.s (.jx ⟨[(6,6),(1,25)],[.tr (.s 8) 0 186 true],[],[]⟩ (.s .n (.s (.l ⟨[(6,6),(1,25)],[.tr (.s 8) 0 186 true, .nat (.s 9)],[],[]⟩ FUEL .n) .n))) .n))) [.tmp 6, .tmp 7] (gc aKv aG) func197 ntmps197 (λa _=>aF (aB2 a.1 a.2.1 a.2.2)) (λ_=>by kernel_rfl)
def Jn:SU:=⟨[.sl 165,i6,i6],[.st 29, .bool],true,false,λ(a:(List D.aAC)×Int×Int)=>gd (a.1.length<=34359738300) (some (bD a.1 a.2.1 a.2.2))⟩
def kZ:OK 155 Jn:=mkS (.s .n (.s .n (.s .n (.s (.s (.rj 4 ⟨[(27,9)],[.dat (.s 35) .bool],[],[]⟩ .n) .n) .n)))) [.cell 6 29, .tmp 7] (gc gI (gc jY (gc Aq (gc aCm (gc fZ (gc cZ aG)))))) func155 ntmps155 (λa _=>aF (Jg a.1 a.2.1 a.2.2)) (λ_=>by kernel_rfl)
def R8:SU:=⟨[.st 29,i6],[i6],false,false,λ(a:D.aAE×Int)=>gd (a.1.Boxes.length<=34359738368) (some (pE a.1 a.2))⟩
def R9:OK 238 R8:=mkS (.s .n (.s .n (.s (.j ⟨[(5,19)],[.dat (.s 5) i6],[],[]⟩ (.s .n (.s (.l ⟨[(5,19)],[.dat (.s 5) i6, .nat (.s 6)],[],[]⟩ FUEL (.s .n (.s (.j ⟨[(5,1),(8,10)],[.dat (.s 5) i6],[],[]⟩ .n) .n))) .n))) .n))) [.tmp 4] aG func238 ntmps238 (λa _=>aF (O8 a.1 a.2)) (λ_=>by kernel_rfl)
def aCn:SU:=⟨[.st 29, .sl 165],[.bool],false,false,λ(a:D.aAE×(List D.aAC))=>gd (a.1.Boxes.length<=34359738368/\a.2.length<=34359738368) (some (gF a.1 a.2))⟩
def Eh:OK 199 aCn:=mkS (.s .n (.s .n (.s (.jx ⟨[(4,1),(1,1),(2,13)],[],[],[]⟩ (.s .n (.s (.l ⟨[(4,1),(1,1),(2,13)],[.nat (.s 6)],[],[]⟩ FUEL (.s .n (.s (.s (.s (.r none (od 7 [5])) .n) .n) .n))) .n))) (.s (.rj 6 ⟨[(4,1),(22,8)],[.dat (.s 4) .bool],[],[]⟩ (.r none (od 14 [3]))) .n)))) [.tmp 4] (gc jY (gc R9 (gc gI aG))) func199 ntmps199 (λa _=>aF (aB3 a.1 a.2)) (λ_=>by kernel_rfl)
def aKw:SU:=⟨[.st 29],[.st 29],true,false,λ(a:D.aAE)=>gd (a.sz<=34359738368) (some (a))⟩
def yB:OK 125 aKw:=mkS (.s .n (.s .n (.s (.j ⟨[(4,2),(3,27)],[.nt (.c 2 1) 186 true],[],[]⟩ (.s .n (.s (.l ⟨[(4,2),(3,27)],[.nat (.s 4), .nt (.c 2 1) 186 true],[],[]⟩ FUEL .n) .n))) .n))) [.cell 2 29] aG func125 ntmps125 (λ(a:D.aAE) _=>aF (aJj a)) (λ_=>by kernel_rfl)
def aFm:SU:=⟨[.sl 165, .st 29],[.st 32, .bool],true,false,λ(a:(List D.aAC)×D.aAE)=>gd (a.1.length<=34359738368/\a.2.sz<=34359738368) (some (dF a.1 a.2))⟩
def aFn:OK 156 aFm:=mkS (.s .n (.s (.s (.rj 4 ⟨[(9,6)],[.dat (.s 14) .bool],[],[]⟩ .n) .n) (.s (.r (some 5) [(0,true),(2,true),(1,false),(3,false),(4,true),(5,false),(6,false)]) .n))) [.cell 4 32, .tmp 5] (gc fZ (gc Eh (gc iM (gc yB aG)))) func156 ntmps156 (λa _=>aF (aFk a.1 a.2)) (λ_=>by kernel_rfl)
def aFo:SU:=⟨[i6],[.str],false,false,λ(a:Int)=>some (aA a)⟩
def iW:OK 131 aFo:=mkS .n [.tmp 2] aG func131 ntmps131 (λa _=>(aE8 a).trans) (λ_=>by kernel_rfl)
def aFp:SU:=⟨[.str],[.sl 9],true,false,λ(a:ByteArray)=>gd (a.size<=34359738368) (some (bF a))⟩
def tQ:OK 225 aFp:=mkS (.s .n (.s .n (.s .n (.s (.j ⟨[(3,3),(1,25)],[.tr (.s 3) 0 9 true],[],[]⟩ (.s .n (.s (.l ⟨[(3,3),(1,25)],[.tr (.s 3) 0 9 true, .dat (.s 4) i6, .dat (.s 5) i6],[],[]⟩ FUEL (.s .n (.s (.j ⟨[(3,2),(8,19)],[.tr (.s 3) 0 9 true, .dat (.s 4) i6],[],[]⟩ (.s (.s (.rj 5 ⟨[(17,6)],[.dat (.s 22) .bool],[],[]⟩ .n) .n) .n)) .n))) .n))) .n)))) [.tmp 2] aG func225 ntmps225 (λ(a:ByteArray) _=>aF (aFa a)) (λ_=>by kernel_rfl)
def aKx:SU:=⟨[.str],[.bool],false,false,λ(a:ByteArray)=>gd (a.size<=34359738368) (some (sI a))⟩
def aKy:OK 256 aKx:=mkS (.s .n (.s (.jx ⟨[(2,39)],[],[],[]⟩ (.s .n (.s (.l ⟨[(2,39)],[.nat (.s 3)],[],[]⟩ FUEL (.s .n (.s (.s (.s (.rj 5 ⟨[(4,1),(10,24)],[.dat (.s 4) .bool],[],[]⟩ .n) .n) .n) .n))) .n))) (.s (.rj 4 ⟨[(2,1),(41,13)],[.dat (.s 2) .bool],[],[]⟩ .n) .n))) [.tmp 2] (gc bR aG) func256 ntmps256 (λ(a:ByteArray) _=>aF (aJw a)) (λ_=>by kernel_rfl)
def aNd:SU:=⟨[.str],[.bool],false,false,λ(a:ByteArray)=>gd (a.size<=34359738368) (some (fE a))⟩
def Bj:OK 224 aNd:=mkS (.s .n (.s .n (.s (.jx ⟨[(2,1),(1,1),(2,12)],[],[],[]⟩ (.s .n (.s (.l ⟨[(2,1),(1,1),(2,12)],[.nat (.s 4)],[],[]⟩ FUEL .n) .n))) .n))) [.tmp 2] (gc tQ (gc aKy aG)) func224 ntmps224 (λ(a:ByteArray) _=>aF (aMv a)) (λ_=>by kernel_rfl)
def aKz:SU:=⟨[.str,i6],[.st 83],true,false,λ(a:ByteArray×Int)=>gd (a.1.size<=34359738368) (some (eZ a.1 a.2))⟩
def Pb:OK 176 aKz:=mkS (.s .n (.s (.s (.rj 4 ⟨[(8,11)],[.dat (.s 18) .bool],[],[]⟩ .n) .n) .n)) [.cell 4 83] (gc Bj (gc tQ (gc cZ aG))) func176 ntmps176 (λa _=>aF (aJx a.1 a.2)) (λ_=>by kernel_rfl)
def aK0:SU:=⟨[.st 127],[.st 127],true,false,λ(a:D.aAH)=>gd (a.sz<=34359738368) (some (a))⟩
def pW:OK 127 aK0:=mkS .n [.cell 2 127] aG func127 ntmps127 (λ(a:D.aAH) _=>aF (aJm a)) (λ_=>by kernel_rfl)
def aK1:SU:=⟨[.st 80],[.st 80],true,false,λ(a:D.aAD)=>gd (a.sz<=34359738368) (some (a))⟩
def yC:OK 128 aK1:=mkS .n [.cell 2 80] aG func128 ntmps128 (λ(a:D.aAD) _=>aF (aJn a)) (λ_=>by kernel_rfl)
def aK2:SU:=⟨[.st 83],[.st 83],true,false,λ(a:D.Site)=>gd (a.sz<=34359738368) (some (a))⟩
def lY:OK 67 aK2:=mkS (.s .n (.s .n (.s .n (.s (.j ⟨[(4,1),(3,18)],[.tr (.c 2 1) 3 127 true],[],[]⟩ (.s .n (.s (.l ⟨[(4,1),(3,18)],[.nat (.s 4), .tr (.c 2 1) 3 127 true],[],[]⟩ FUEL aZ8) .n))) .n)))) [.cell 2 83] (gc pW (gc yC aG)) func67 ntmps67 (λ(a:D.Site) _=>aF (aJo a)) (λ_=>by kernel_rfl)
def Jo:SU:=⟨[.st 127],[.bool],false,false,λ(a:D.aAH)=>gd (a.sz<=34359738368) (some (aZ a))⟩
def fU:OK 175 Jo:=mkS (.s .n (.s (.jx ⟨[(2,62)],[],[],[]⟩ (.s .n (.s (.l ⟨[(2,62)],[.nat (.s 3)],[],[]⟩ FUEL (.s .n (.s (.jx ⟨[(2,1),(1,2),(7,51)],[],[],[]⟩ (.s (.s .n (.s (.s (.rj 5 ⟨[(22,28)],[.dat (.s 49) .bool],[],[]⟩ (.r none (od 32 [2,23,29]))) .n) (.s .n (.s (.l ⟨[(2,1),(2,1),(44,14)],[.nat (.s 5)],[],[]⟩ FUEL (.s .n (.s (.s (.s (.r none (od 9 [])) .n) .n) .n))) .n)))) .n)) .n))) .n))) (.s (.rj 4 ⟨[(2,1),(64,11)],[.dat (.s 2) .bool],[],[]⟩ .n) .n))) [.tmp 2] (gc bR (gc pU aG)) func175 ntmps175 (λ(a:D.aAH) _=>aF (Jc a)) (λ_=>by kernel_rfl)
def Xv:SU:=⟨[.st 80],[.bool],false,false,λ(a:D.aAD)=>gd (a.sz<=34359738368) (some (dW a))⟩
def nS:OK 177 Xv:=mkS (.s .n (.s (.jx ⟨[(2,50)],[],[],[]⟩ (.s .n (.s (.l ⟨[(2,50)],[.nat (.s 3)],[],[]⟩ FUEL (.s .n (.s (.s (.s .n (.s (.rj 8 ⟨[(24,28)],[.dat (.s 51) .bool],[],[]⟩ (.r none (od 35 [5,26,32]))) .n)) .n) .n))) .n))) (.s (.rj 4 ⟨[(2,1),(52,6)],[.dat (.s 2) .bool],[],[]⟩ .n) .n))) [.tmp 2] (gc bR aG) func177 ntmps177 (λ(a:D.aAD) _=>aF (Wj a)) (λ_=>by kernel_rfl)
def Xw:SU:=⟨[.st 83],[.bool],false,false,λ(a:D.Site)=>gd (a.sz<=34359738368) (some (dE a))⟩
def iN:OK 130 Xw:=mkS (.s .n (.s (.jx ⟨[(2,36)],[],[],[]⟩ (.s .n (.s (.l ⟨[(2,36)],[.nat (.s 3)],[],[]⟩ FUEL (.s .n (.s (.s (.s (.rj 8 ⟨[(18,20)],[.dat (.s 37) .bool],[],[]⟩ (.r none (od 27 [5]))) .n) .n) .n))) .n))) (.s (.rj 9 ⟨[(2,1),(43,11)],[.dat (.s 2) .bool],[],[]⟩ .n) .n))) [.tmp 2] (gc fU (gc Pb (gc nS aG))) func130 ntmps130 (λ(a:D.Site) _=>aF (Wp a)) (λ_=>by kernel_rfl)
def Xx:SU:=⟨[.st 83,i6,i6],[.st 83, .bool],false,false,λ(a:D.Site×Int×Int)=>gd (a.1.sz<=34359738300) (some (kQ a.1 a.2.1 a.2.2))⟩
def Xy:OK 239 Xx:=mkS bOa [.cell 6 83, .tmp 7] (gcp lY (gc iN aG)) func239 ntmps239 (λa _=>aF (Xl a.1 a.2.1 a.2.2)) (λ_=>by kernel_rfl)
def Ei:SU:=⟨[i6, .str],[i6],false,false,λ(a:Int×ByteArray)=>gd (a.2.size<=34359738300) (some (wF a.1 a.2))⟩
def oL:OK 146 Ei:=mkS .n [.tmp 4] (gc nR (gc dK (gc Xq (gc (aZz 1000022) aG)))) func146 ntmps146 (λa _=>aF (Ed a.1 a.2)) (λ_=>by kernel_rfl)
def aFq:SU:=⟨[.str],[i6],false,false,λ(a:ByteArray)=>gd (a.size<=34359738300) (some (bT a))⟩
def tT:OK 85 aFq:=mkS .n [.tmp 2] (gc oL aG) func85 ntmps85 (λ(a:ByteArray) _=>aF (aFb a)) (λ_=>by kernel_rfl)
def Xz:SU:=⟨[.st 55, .str,i6],[i6],false,false,λ(a:D.aAI×ByteArray×Int)=>gd (a.2.1.size<=34359738300) (some (eO a.1 a.2.1 a.2.2))⟩
def yD:OK 249 Xz:=mkS (.s .n (.s (.r none [(0,true),(1,true),(2,true),(4,true),(3,false),(5,false),(6,false),(7,true)]) .n)) [.tmp 6] (gc tT (gc dR aG)) func249 ntmps249 (λa _=>aF (Xb a.1 a.2.1 a.2.2)) (λ_=>by kernel_rfl)
def S9:SU:=⟨[.st 55, .str,i6],[i6],false,false,λ(a:D.aAI×ByteArray×Int)=>gd (a.2.1.size<=34359738300) (some (dM a.1 a.2.1 a.2.2))⟩
def Ar:OK 212 S9:=mkS .n [.tmp 6] (gc yD (gc mO aG)) func212 ntmps212 (λa _=>aF (O7 a.1 a.2.1 a.2.2)) (λ_=>by kernel_rfl)
def Ya:SU:=⟨[.st 83,i6],[i6],false,false,λ(a:D.Site×Int)=>gd (a.1.Accounts.length<=34359738368) (some (aC a.1 a.2))⟩
def kL:OK 216 Ya:=mkS bMt [.tmp 4] aG func216 ntmps216 (λa _=>aF (Xd a.1 a.2)) (λ_=>by kernel_rfl)
def Pd:SU:=⟨[.st 127,i6,i6],[.st 127, .bool],true,false,λ(a:D.aAH×Int×Int)=>gd (a.1.sz<=34359738300) (some (gY a.1 a.2.1 a.2.2))⟩
def Pe:OK 248 Pd:=mkS bOa [.cell 6 127, .tmp 7] (gc pW (gc fU aG)) func248 ntmps248 (λa _=>aF (Od a.1 a.2.1 a.2.2)) (λ_=>by kernel_rfl)
def Yc:SU:=⟨[.st 83,i6,i6,i6],[.st 83, .bool],true,false,λ(a:D.Site×Int×Int×Int)=>gd (a.1.sz<=34359738300) (some (eG a.1 a.2.1 a.2.2.1 a.2.2.2))⟩
def yE:OK 211 Yc:=mkS (.s .n (.s .n (.s .n (.s (.s (.rj 4 ⟨[(22,4)],[.dat (.s 25) .bool],[],[]⟩ .n) .n) .n)))) [.cell 8 83, .tmp 9] (gc lY (gc kL (gc iN (gc Pe aG)))) func211 ntmps211 (λa _=>aF (Xe a.1 a.2.1 a.2.2.1 a.2.2.2)) (λ_=>by kernel_rfl)
def aK3:SU:=⟨[.st 58],[.st 58],true,false,λ(a:D.aAF)=>gd (a.sz<=34359738368) (some (a))⟩
def lZ:OK 92 aK3:=mkS .n [.cell 2 58] aG func92 ntmps92 (λ(a:D.aAF) _=>aF (aJf a)) (λ_=>by kernel_rfl)
def aK4:SU:=⟨[.st 60],[.st 60],true,false,λ(a:D.Device)=>gd (a.sz<=34359738368) (some (a))⟩
def mD:OK 65 aK4:=mkS .n [.cell 2 60] (gc iM (gc lZ aG)) func65 ntmps65 (λ(a:D.Device) _=>aF (aJi a)) (λ_=>by kernel_rfl)
def T9:SU:=⟨[.sl 165, .sl 165],[.bool],false,false,λ(a:(List D.aAC)×(List D.aAC))=>gd (a.1.length<=34359738368) (some (bZ a.1 a.2))⟩
def lH:OK 136 T9:=mkS bJ8 [.tmp 4] aG func136 ntmps136 (λa _=>aF (M6 a.1 a.2)) (λ_=>by kernel_rfl)
def U0:SU:=⟨[.st 60, .sl 165,i6],[.st 60, .bool],true,false,λ(a:D.Device×(List D.aAC)×Int)=>gd (a.1.sz<=34359738368/\a.2.1.length<=34359738368) (some (lW a.1 a.2.1 a.2.2))⟩
def pX:OK 204 U0:=mkS (.s .n (.s .n (.s (.s (.rj 4 ⟨[(14,19)],[.dat (.s 32) .bool],[],[]⟩ (.r none [(0,true),(1,false),(2,true),(3,true),(4,true),(5,true),(6,true),(7,false),(8,true),(9,true),(10,true),(11,true),(13,true),(14,true),(12,false),(15,true),(16,true),(17,true),(18,true),(19,false),(20,true),(21,true)])) .n) .n))) [.cell 6 60, .tmp 7] (gc mD (gc fZ (gc lH (gc gI (gc cZ (gc iM aG)))))) func204 ntmps204 (λa _=>aF (P6 a.1 a.2.1 a.2.2)) (λ_=>by kernel_rfl)
def aCo:SU:=⟨[.st 58,i6,i6],[i6],false,false,λ(a:D.aAF×Int×Int)=>gd (a.1.sz<=34359738368) (some (aK a.1 a.2.1 a.2.2))⟩
def mP:OK 93 aCo:=mkS (.s .n (.s (.jx ⟨[(6,28)],[],[],[]⟩ (.s .n (.s (.l ⟨[(6,28)],[.nat (.s 7)],[],[]⟩ FUEL (.s .n (.s (.s (.s (.rj 9 ⟨[(23,10)],[.dat (.s 32) .bool],[],[]⟩ .n) .n) .n) .n))) .n))) .n)) [.tmp 6] aG func93 ntmps93 (λa _=>aF (aBm a.1 a.2.1 a.2.2)) (λ_=>by kernel_rfl)
def aK5:SU:=⟨[.st 149,i6,i6],[.bool],false,false,λ(a:D.Entry×Int×Int)=>some (sJ a.1 a.2.1 a.2.2)⟩
def Pf:OK 151 aK5:=mkS (.s .n (.s (.rj 5 ⟨[(6,1),(4,12)],[.dat (.s 6) .bool],[],[]⟩ .n) .n)) [.tmp 6] aG func151 ntmps151 (λa _=>(aJe a.1 a.2.1 a.2.2).trans) (λ_=>by kernel_rfl)
def aNe:SU:=⟨[.st 58, .st 149],[.st 58],true,false,λ(a:D.aAF×D.Entry)=>gd (a.1.sz<=34359738360) (some (vI a.1 a.2))⟩
def Bn:OK 94 aNe:=mkS (.s .n (.s .n (.s .n (.s .n (.s (.j ⟨[(7,1),(16,19)],[.dat (.s 7) i6],[],[]⟩ (.s (.l ⟨[(7,1),(16,19)],[.dat (.s 7) i6],[],[]⟩ FUEL (.s (.s (.rj 6 ⟨[(29,12)],[.dat (.s 40) .bool],[],[]⟩ (.r none (od 17 [15]))) .n) .n)) .n)) (.s bP5 .n)))))) [.cell 4 58] (gc lZ (gc mP (gc Pf aG))) func94 ntmps94 (λa _=>aF (aMt a.1 a.2)) (λ_=>by kernel_rfl)
def aFr:SU:=⟨[.st 58],[.bool],false,false,λ(a:D.aAF)=>gd (a.sz<=34359738368) (some (aP a))⟩
def iX:OK 91 aFr:=mkS (.s .n (.s (.jx ⟨[(2,49)],[],[],[]⟩ (.s .n (.s (.l ⟨[(2,49)],[.nat (.s 3)],[],[]⟩ FUEL (.s .n (.s (.s (.s .n (.s (.rj 5 ⟨[(21,30)],[.dat (.s 50) .bool],[],[]⟩ (.r none (od 34 [2,7,13,30]))) .n)) .n) .n))) .n))) .n)) [.tmp 2] (gc bR (gc Pf aG)) func91 ntmps91 (λ(a:D.aAF) _=>aF (aE1 a)) (λ_=>by kernel_rfl)
def aFs:SU:=⟨[.st 58,i6,i6],[.st 58, .bool],true,false,λ(a:D.aAF×Int×Int)=>gd (a.1.sz<=34359738360) (some (aMi a.1 a.2.1 a.2.2))⟩
def aFt:OK 84 aFs:=mkS (.s .n (.s .n (.s (.jx ⟨[(7,1),(1,1),(4,23)],[.dat (.c 2 2) i6],[],[]⟩ .n) (.s .n (.s (.s (.rj 4 ⟨[(43,5)],[.dat (.s 47) .bool],[],[]⟩ .n) .n) .n))))) [.cell 6 58, .tmp 7] (gc mP (gc lZ (gc Bn (gc iX aG)))) func84 ntmps84 (λa _=>aF (aFc a.1 a.2.1 a.2.2)) (λ_=>by kernel_rfl)
def Yd:SU:=⟨[.st 58,i6,i6],[.st 58, .bool],true,false,λ(a:D.aAF×Int×Int)=>gd (a.1.sz<=34359738360) (some (aMj a.1 a.2.1 a.2.2))⟩
def Ye:OK 86 Yd:=mkS (.s .n (.s .n (.s (.s (.rj 4 ⟨[(16,21)],[.dat (.s 36) .bool],[],[]⟩ .n) .n) (.s (.r (some 12) (od 14 [11,12,13])) .n)))) [.cell 6 58, .tmp 7] (gc mP (gc iX (gc lZ (gc Bn aG)))) func86 ntmps86 (λa _=>aF (Wu a.1 a.2.1 a.2.2)) (λ_=>by kernel_rfl)
def Sa:SU:=⟨[.st 60, .str,i6, .bool],[.st 60, .bool],true,false,λ(a:D.Device×ByteArray×Int×Bool)=>gd (a.1.sz<=34359738360/\a.2.1.size<=34359738300) (some (cO a.1 a.2.1 a.2.2.1 a.2.2.2))⟩
def mZ:OK 36 Sa:=mkS (.s .n (.s .n (.s bOe (.s bP3 (.s (.j ⟨[(34,3)],[.nt (.c 4 8) 149 true],[],[3,5]⟩ .n) .n))))) [.cell 8 60, .tmp 9] (gc mD (gc tT (gc aFt (gc Ye aG)))) func36 ntmps36 (λa _=>aF (Rh a.1 a.2.1 a.2.2.1 a.2.2.2)) (λ_=>by kernel_rfl)
def aFu:SU:=⟨[i6,i6,i6],[.bool],false,false,λ(a:Int×Int×Int)=>some (bG a.1&&(bI a.2.1 0 1000000&&bI a.2.2 0 1000000))⟩
def Io:OK 183 aFu:=mkS (.s .n (.s (.rj 3 ⟨[(6,1),(2,8)],[.dat (.s 6) .bool],[],[]⟩ .n) .n)) [.tmp 6] (gc cZ (gc bR aG)) func183 ntmps183 (λa _=>(aFe a.1 a.2.1 a.2.2).trans) (λ_=>by kernel_rfl)
def aNf:SU:=⟨[i6,i6,i6],[i6],false,false,λ(a:Int×Int×Int)=>some (jU a.1 a.2.1 a.2.2)⟩
def Va:OK 187 aNf:=mkS .n [.tmp 6] (gc dR aG) func187 ntmps187 (λa _=>(aM3 a.1 a.2.1 a.2.2).trans) (λ_=>by kernel_rfl)
def Sb:SU:=⟨[.st 58],[.sl 5],true,false,λ(a:D.aAF)=>gd (a.sz<=34359738368) (some (oC a))⟩
def uU:OK 194 Sb:=mkS (.s .n (.s .n (.s .n (.s (.j ⟨[(3,3),(8,35)],[.tr (.s 3) 1 3 true],[],[]⟩ (.s .n (.s (.l ⟨[(3,3),(8,35)],[.tr (.s 3) 1 3 true, .nat (.s 4)],[],[]⟩ FUEL (.s .n (.s (.j ⟨[(3,1),(1,1),(15,28)],[.tr (.s 3) 1 3 true],[],[]⟩ (.s (.s .n (.s (.j ⟨[(5,1),(15,6)],[.dat (.s 5) i6],[],[]⟩ .n) (.r (some 21) (od 23 [20,21,22])))) .n)) .n))) .n))) .n)))) [.tmp 2] (gc iX (gc Aq aG)) func194 ntmps194 (λ(a:D.aAF) _=>aF (Ri a)) (λ_=>by kernel_rfl)
def aCp:SU:=⟨[i6, .st 69],[i6],false,false,λ(a:Int×D.aAA)=>gd (a.2.Data.length<=34359738200) (some (gH a.1 a.2))⟩
def Ej:OK 184 aCp:=mkS bJ6 [.tmp 4] (gc nR (gc dK aG)) func184 ntmps184 (λa _=>aF (aBx a.1 a.2)) (λ_=>by kernel_rfl)
def U1:SU:=⟨[i6,i6,i6, .st 58],[.st 69, .bool],true,false,λ(a:Int×Int×Int×D.aAF)=>gd (a.2.2.2.sz<=34359738368) (some (lG a.1 a.2.1 a.2.2.1 a.2.2.2))⟩
def Au:OK 149 U1:=mkS (.s .n (.s (.s (.rj 6 ⟨[(16,5)],[.dat (.s 20) .bool],[],[]⟩ .n) .n) (.s (.y false (some 10) (some 11) [(0,true),(1,true),(2,true),(3,true),(4,true),(6,true),(5,false),(7,false),(8,false),(9,true),(10,false),(11,false)]) .n))) [.cell 8 69, .tmp 9] (gc Io (gc iX (gc Va (gc uU (gc Oz (gc Ej aG)))))) func149 ntmps149 (λa _=>aF (O4 a.1 a.2.1 a.2.2.1 a.2.2.2)) (λ_=>by kernel_rfl)
def Yf:SU:=⟨[.st 60],[.st 60, .st 69, .bool],true,false,λ(a:D.Device)=>gd (a.sz<=34359738368) (some (dD a))⟩
def nT:OK 89 Yf:=mkS (.s .n bKc) [.cell 2 60, .cell 3 69, .tmp 4] (gc mD (gc Au aG)) func89 ntmps89 (λ(a:D.Device) _=>aF (Xa a)) (λ_=>by kernel_rfl)
def aK6:SU:=⟨[.st 69],[.st 69],true,false,λ(a:D.aAA)=>gd (a.sz<=34359738368) (some (a))⟩
def yF:OK 126 aK6:=mkS .n [.cell 2 69] aG func126 ntmps126 (λ(a:D.aAA) _=>aF (aJk a)) (λ_=>by kernel_rfl)
def aK7:SU:=⟨[.st 32],[.st 32],true,false,λ(a:D.aAB)=>gd (a.sz<=34359738368) (some (a))⟩
def yG:OK 66 aK7:=mkS (.s .n (.s bKf (.s (.j ⟨[(4,1),(7,18)],[.nt (.c 4 3) 69 true],[],[]⟩ (.s .n (.s (.l ⟨[(4,1),(7,18)],[.nat (.s 4), .nt (.c 4 3) 69 true],[],[]⟩ FUEL aZ8) .n))) .n))) [.cell 2 32] (gc iM (gc yB (gc yF aG))) func66 ntmps66 (λ(a:D.aAB) _=>aF (aJl a)) (λ_=>by kernel_rfl)
def aCq:SU:=⟨[.st 69, .st 69],[.bool],false,false,λ(a:D.aAA×D.aAA)=>some (nK a.1 a.2)⟩
def aCr:OK 150 aCq:=mkS bKd [.tmp 4] aG func150 ntmps150 (λa _=>(aB0 a.1 a.2).trans) (λ_=>by kernel_rfl)
def Sc:SU:=⟨[.st 32, .st 69],[.st 32, .bool],true,false,λ(a:D.aAB×D.aAA)=>gd (a.1.sz<=34359738300/\a.2.sz<=34359738300) (some (cK a.1 a.2))⟩
def nA:OK 90 Sc:=mkS bOf [.cell 4 32, .tmp 5] (gc yG (gc gI (gc aCr (gc yF aG)))) func90 ntmps90 (λa _=>aF (Rl a.1 a.2)) (λ_=>by kernel_rfl)
def Yg:SU:=⟨[.st 32,i6],[.st 69, .bool],true,false,λ(a:D.aAB×Int)=>gd (a.1.sz<=34359738368) (some (bN a.1 a.2))⟩
def Yh:OK 72 Yg:=mkS .n [.cell 4 69, .tmp 5] (gc bR (gc yF aG)) func72 ntmps72 (λa _=>aF (Ww a.1 a.2)) (λ_=>by kernel_rfl)
def aK8:SU:=⟨[i6, .sl 5],[.sl 5],true,false,λ(a:Int×(List Int))=>gd (a.2.length<=34359738368) (some (Iy a.1 a.2))⟩
def Pg:OK 186 aK8:=mkS (.s .n (.s .n (.s (.j ⟨[(5,2),(1,22)],[.tr (.s 5) 0 5 true],[],[]⟩ (.s .n (.s (.l ⟨[(5,2),(1,22)],[.tr (.s 5) 0 5 true, .nat (.s 6)],[],[]⟩ FUEL (.s .n (.s (.s (.r (some 15) (od 17 [8,9,12,14,15,16])) .n) .n))) .n))) .n))) [.tmp 4] (gc dK (gc yA aG)) func186 ntmps186 (λa _=>aF (aJ2 a.1 a.2)) (λ_=>by kernel_rfl)
def aK9:SU:=⟨[i6, .st 186],[.sl 5, .bool],true,false,λ(a:Int×D.Box)=>some (dX a.1 a.2)⟩
def aLa:OK 229 aK9:=mkS bKe [.tmp 4, .tmp 5] (gc cZ (gc mO (gc Uy (gc Uz (gc Pg aG))))) func229 ntmps229 (λa _=>(aJ4 a.1 a.2).trans) (λ_=>by kernel_rfl)
def aLb:SU:=⟨[.sl 186,i6],[.sl 5, .bool],true,false,λ(a:(List D.Box)×Int)=>gd (a.1.length<=34359738368) (some (eY a.1 a.2))⟩
def aLc:OK 181 aLb:=mkS (.s .n (.s (.jx ⟨[(4,22)],[],[],[]⟩ (.s .n (.s (.l ⟨[(4,22)],[.nat (.s 6)],[],[]⟩ FUEL .n) .n))) .n)) [.tmp 4, .tmp 5] (gc aLa aG) func181 ntmps181 (λa _=>aF (aJ5 a.1 a.2)) (λ_=>by kernel_rfl)
def Yi:SU:=⟨[.sl 5,i6],[i6,i6, .bool],false,false,λ(a:(List Int)×Int)=>gd (aQ a.1) (some (vF a.1 a.2))⟩
def yH:OK 230 Yi:=mkS (.s .n (.s .n (.s (.jx ⟨[(4,51)],[],[],[]⟩ (.s .n (.s (.l ⟨[(4,51)],[.dat (.s 7) i6, .nat (.s 8)],[],[]⟩ FUEL (.s .n (.s (.s (.s (.s (.rj 3 ⟨[(16,8)],[.dat (.s 23) .bool],[],[]⟩ .n) .n) (.s .n (.s .n (.s .n (.s (.s (.s (.rj 3 ⟨[(42,8)],[.dat (.s 49) .bool],[],[]⟩ .n) .n) .n) .n))))) .n) .n))) .n))) .n))) [.tmp 4, .tmp 5, .tmp 6] aG func230 ntmps230 (λa _=>aF (Wz a.1 a.2)) (λ_=>by kernel_rfl)
def U2:SU:=⟨[.sl 5,i6,i6],[.sl 3,i6, .bool],true,false,λ(a:(List Int)×Int×Int)=>gd (aQ a.1) (some (gQ a.1 a.2.1 a.2.2))⟩
def Av:OK 182 U2:=mkS (.s .n (.s .n (.s (.s (.rj 4 ⟨[(18,7)],[.dat (.s 24) .bool],[],[]⟩ .n) .n) (.s (.jx ⟨[(1,1),(4,8),(12,20)],[.dat (.s 1) i6, .tr (.s 9) 0 3 true],[],[]⟩ (.s .n (.s (.l ⟨[(1,1),(4,8),(12,20)],[.dat (.s 1) i6, .tr (.s 9) 0 3 true, .nat (.s 10)],[],[]⟩ FUEL .n) .n))) .n)))) [.tmp 6, .tmp 7, .tmp 8] (gc bR (gc yH aG)) func182 ntmps182 (λa _=>aF (M9 a.1 a.2.1 a.2.2)) (λ_=>by kernel_rfl)
def Jp:SU:=⟨[.st 55, .st 29],[i6, .bool],false,false,λ(a:D.aAI×D.aAE)=>gd (a.2.sz<=34359738368) (some (bB a.1 a.2))⟩
def Jq:OK 140 Jp:=mkS (.s .n (.s (.r none (od 10 [3,4])) (.s .n (.s (.s (.rj 3 ⟨[(27,25)],[.dat (.s 51) .bool],[],[]⟩ (.r none (od 27 [24]))) .n) .n)))) [.tmp 4, .tmp 5] (gc rO (gc aLc (gc Av (gc cZ aG)))) func140 ntmps140 (λa _=>aF (Je a.1 a.2)) (λ_=>by kernel_rfl)
def U3:SU:=⟨[.sl 5, .sl 5],[.bool],false,false,λ(a:(List Int)×(List Int))=>gd (aQ a.1/\aQ a.2) (some ((a.1==a.2)))⟩
def pY:OK 143 U3:=mkS .n [.tmp 4] aG func143 ntmps143 (λa _=>aF (N8 a.1 a.2)) (λ_=>by kernel_rfl)
def Sd:SU:=⟨[.sl 5],[.st 58, .bool],true,false,λ(a:(List Int))=>gd (aQ a) (some (wJ a))⟩
def Sg:OK 185 Sd:=mkS (.s .n (.s .n (.s (.s (.rj 3 ⟨[(21,4)],[.dat (.s 24) .bool],[],[]⟩ .n) .n) (.s .n (.s (.jx ⟨[(3,1),(1,1),(2,5),(14,40)],[.nt (.c 1 0) 149 true],[],[]⟩ (.s .n (.s (.l ⟨[(3,1),(1,1),(2,5),(14,40)],[.dat (.s 5) i6, .nat (.s 8), .nt (.c 1 0) 149 true],[],[]⟩ FUEL .n) .n))) (.s (.s (.rj 4 ⟨[(70,7)],[.dat (.s 76) .bool],[],[]⟩ .n) .n) .n)))))) [.cell 2 58, .tmp 3] (gc yH (gc Av (gc iX (gc uU (gc pY aG))))) func185 ntmps185 (λ(a:(List Int)) _=>aF (Rk a)) (λ_=>by kernel_rfl)
def U4:SU:=⟨[i6, .st 69],[.st 58, .bool],true,false,λ(a:Int×D.aAA)=>gd (a.2.Data.length<=34359738200) (some (eU a.1 a.2))⟩
def U5:OK 141 U4:=mkS (.s .n (.s (.s (.rj 8 ⟨[(13,8)],[.dat (.s 20) .bool],[],[]⟩ (.r none (od 15 [5,12]))) .n) (.s (.r (some 12) [(0,true),(1,true),(2,true),(3,true),(4,true),(6,true),(7,true),(5,false),(8,false),(9,false),(10,true),(11,true),(12,false),(13,false)]) .n))) [.cell 4 58, .tmp 5] (gc Io (gc Ej (gc Va (gc Pg (gc Sg aG))))) func141 ntmps141 (λa _=>aF (O0 a.1 a.2)) (λ_=>by kernel_rfl)
def Si:SU:=⟨[.st 58, .st 58],[.st 58, .bool],true,false,λ(a:D.aAF×D.aAF)=>gd (a.1.sz<=34359738368/\a.2.sz<=34359738368) (some (gG a.1 a.2))⟩
def Sj:OK 39 Si:=mkS (.s .n (.s (.s (.rj 4 ⟨[(13,5)],[.dat (.s 17) .bool],[],[]⟩ .n) .n) (.s .n (.s (.j ⟨[(7,3),(12,49)],[.tr (.c 4 0) 3 149 true],[],[]⟩ (.s .n (.s (.l ⟨[(7,3),(12,49)],[.nat (.s 7), .tr (.c 4 0) 3 149 true],[],[]⟩ FUEL (.s .n (.s (.j ⟨[(8,2),(19,42)],[.tr (.c 4 0) 3 149 true],[],[]⟩ (.s (.s .n (.s .n (.s (.rj 3 ⟨[(42,26)],[.dat (.s 67) .bool],[],[]⟩ (.r none (od 28 []))) .n))) .n)) .n))) .n))) .n)))) [.cell 4 58, .tmp 5] (gc iX (gc lZ (gc mP (gc Bn aG)))) func39 ntmps39 (λa _=>aF (Rb a.1 a.2)) (λ_=>by kernel_rfl)
def U6:SU:=⟨[.st 60, .sl 165, .st 29, .st 69],[.st 60,i6],true,false,λ(a:D.Device×(List D.aAC)×D.aAE×D.aAA)=>gd (a.1.sz<=34359738368/\a.2.1.length<=34359738368/\a.2.2.1.sz<=34359738368/\a.2.2.2.Data.length<=34359738200) (some (bO a.1 a.2.1 a.2.2.1 a.2.2.2))⟩
def U7:OK 73 U6:=mkS (.s .n (.s .n (.s .n (.s (.s (.rj 4 ⟨[(25,7)],[.dat (.s 31) .bool],[],[]⟩ .n) .n) (.s bKh (.s .n (.s bKo (.s bKn (.s .n (.s .n (.s (.s (.rj 3 ⟨[(98,4)],[.dat (.s 101) .bool],[],[]⟩ .n) .n) bJ9))))))))))) [.cell 8 60, .tmp 9] (gc mD (gc gI (gc fZ (gc lH (gc jY (gc eF (gc rZ (gc Jq (gc U5 (gc Sj (gc iM aG))))))))))) func73 ntmps73 (λa _=>aF (O3 a.1 a.2.1 a.2.2.1 a.2.2.2)) (λ_=>by kernel_rfl)
def aLd:SU:=⟨[.st 60, .st 32,i6],[.st 60,i6],true,false,λ(a:D.Device×D.aAB×Int)=>gd (a.1.sz<=34359738100/\a.2.1.sz<=34359738100) (some (bO a.1 a.2.1.Log a.2.1.Boxes (bN a.2.1 a.2.2).1))⟩
def Ph:OK 27 aLd:=mkS .n [.cell 6 60, .tmp 7] (gc Yh (gc U7 aG)) func27 ntmps27 (λa _=>aF (aKa a.1 a.2.1 a.2.2)) (λ_=>by kernel_rfl)
def aSg:SU:=⟨[i6],[i6],false,false,λ(a:Int)=>some (gK a 1019)⟩
def aSh:OK 273 aSg:=mkS .n [.tmp 2] (gc yA aG) func273 ntmps273 (λa _=>(aR8 a).trans) (λ_=>by kernel_rfl)
def aNg:SU:=⟨[i6, .sl 3,i6],[i6],false,false,λ(a:Int×(List Int)×Int)=>gd (0<=a.2.2/\a.2.2<=1000/\a.2.1.length<=34359738368) (some (Uc a.1 a.2.1 a.2.2))⟩
def aNh:OK 261 aNg:=mkS (.s .n (.s .n (.s (.j ⟨[(7,19)],[.dat (.s 7) i6],[],[]⟩ (.s .n (.s (.l ⟨[(7,2),(3,14)],[.dat (.s 7) i6, .dat (.s 8) i6],[],[]⟩ FUEL .n) .n))) .n))) [.tmp 6] (gc aSh aG) func261 ntmps261 (λa _=>aF (aMy a.1 a.2.1 a.2.2)) (λ_=>by kernel_rfl)
def Yj:SU:=⟨[i6, .sl 3,i6],[.sl 132],true,false,λ(a:Int×(List Int)×Int)=>gd (a.2.1.length<=34359738368) (some (wN a.1 a.2.1 a.2.2))⟩
def Yk:OK 240 Yj:=mkS (.s .n (.s .n (.s (.s (.rj 4 ⟨[(13,6)],[.dat (.s 18) .bool],[],[]⟩ .n) .n) (.s (.j ⟨[(7,2),(11,14)],[.tr (.s 7) 0 132 true],[],[]⟩ (.s .n (.s (.l ⟨[(7,2),(11,14)],[.tr (.s 7) 0 132 true, .dat (.s 8) i6],[],[]⟩ FUEL .n) .n))) .n)))) [.tmp 6] (gc bR (gc aNh aG)) func240 ntmps240 (λa _=>aF (Xk a.1 a.2.1 a.2.2)) (λ_=>by kernel_rfl)
def aSi:SU:=⟨[i6,i6],[i6],false,false,λ(a:Int×Int)=>pM a.1 a.2⟩
def U8:OK 275 aSi:=mkS bOc [.tmp 4] aG func275 ntmps275 (λ_ _=>id) (λ_=>by kernel_rfl)
def Jr:SU:=⟨[i6],[.bool],false,false,λ(a:Int)=>some (aIl a)⟩
def Js:OK 274 Jr:=mkS (.s .n (.s (.rj 3 ⟨[(2,1),(2,5)],[.dat (.s 2) .bool],[],[]⟩ .n) .n)) [.tmp 2] (gc bR (gc U8 aG)) func274 ntmps274 (λa _=>(Jl a).trans) (λ_=>by kernel_rfl)
def aFv:SU:=⟨[i6,i6],[i6],false,false,λ(a:Int×Int)=>some (wM a.1 a.2)⟩
def Ip:OK 262 aFv:=mkS .n [.tmp 4] (gc Js (gc yA (gc U8 aG))) func262 ntmps262 (λa _=>(aFj a.1 a.2).trans) (λ_=>by kernel_rfl)
def Yl:SU:=⟨[i6,i6],[i6],false,false,λ(a:Int×Int)=>some (I5 a.1 a.2)⟩
def Ym:OK 263 Yl:=mkS .n [.tmp 4] (gc dK (gc Ip aG)) func263 ntmps263 (λa _=>(Xj a.1 a.2).trans) (λ_=>by kernel_rfl)
def Sk:SU:=⟨[i6,i6,i6],[i6],false,false,λ(a:Int×Int×Int)=>some (Qm a.1 a.2.1 a.2.2)⟩
def Sl:OK 242 Sk:=mkS .n [.tmp 6] (gc Ym (gc Ip aG)) func242 ntmps242 (λa _=>(Rt a.1 a.2.1 a.2.2).trans) (λ_=>by kernel_rfl)
def aCs:SU:=⟨[i6,i6],[i6],false,false,λ(a:Int×Int)=>some (zC a.1 a.2)⟩
def aCt:OK 241 aCs:=mkS .n [.tmp 4] (gc dK (gc Xq aG)) func241 ntmps241 (λa _=>(aB9 a.1 a.2).trans) (λ_=>by kernel_rfl)
def aLe:SU:=⟨[.st 134],[i6],false,false,λ(a:D.aAV)=>some (Ub a)⟩
def aLf:OK 264 aLe:=mkS .n [.tmp 2] aG func264 ntmps264 (λa _=>(aJz a).trans) (λ_=>by kernel_rfl)
def aCu:SU:=⟨[.st 134],[.st 137],true,false,λ(a:D.aAV)=>some (I7 a)⟩
def aCv:OK 243 aCu:=mkS (.s .n (.s (.r (some 4) (od 5 [2,4])) .n)) [.cell 2 137] (gc aLf aG) func243 ntmps243 (λa _=>(aCa a).trans) (λ_=>by kernel_rfl)
def U9:SU:=⟨[i6,i6],[i6],false,false,λ(a:Int×Int)=>some (I6 a.1 a.2)⟩
def V3:OK 244 U9:=mkS .n [.tmp 4] (gc dK aG) func244 ntmps244 (λa _=>(P9 a.1 a.2).trans) (λ_=>by kernel_rfl)
def aLg:SU:=⟨[i6,i6],[i6],false,false,λ(a:Int×Int)=>some (aPt a.1 a.2)⟩
def aLh:OK 245 aLg:=mkS .n [.tmp 4] (gc bR (gc dR aG)) func245 ntmps245 (λa _=>(aKh a.1 a.2).trans) (λ_=>by kernel_rfl)
def aCw:SU:=⟨[i6,i6,i6,i6, .sl 3,i6,i6],[.st 35, .sl 137, .bool],true,false,λ(a:Int×Int×Int×Int×(List Int)×Int×Int)=>gd (a.2.2.2.2.1.length<=34359738368) (some (Gf a.1 a.2.1 a.2.2.1 a.2.2.2.1 a.2.2.2.2.1 a.2.2.2.2.2.1 a.2.2.2.2.2.2))⟩
def aCx:OK 206 aCw:=mkS (.s .n (.s .n (.s (.s (.rj 4 ⟨[(28,25)],[.dat (.s 52) .bool],[],[]⟩ .n) .n) (.s .n (.s .n (.s (.j ⟨[(19,2),(41,16)],[.tr (.s 19) 2 137 true],[],[]⟩ (.s .n (.s (.l ⟨[(19,2),(41,16)],[.tr (.s 19) 2 137 true, .nat (.s 20)],[],[]⟩ FUEL .n) .n))) .n)))))) [.cell 14 35, .tmp 15, .tmp 16] (gc Yk (gc bR (gc cZ (gc yA (gc Sl (gc aCt (gc aCv (gc V3 (gc aLh aG))))))))) func206 ntmps206 (λa _=>aF (aCb a.1 a.2.1 a.2.2.1 a.2.2.2.1 a.2.2.2.2.1 a.2.2.2.2.2.1 a.2.2.2.2.2.2)) (λ_=>by kernel_rfl)
def aLi:SU:=⟨[.st 137],[.st 137],true,false,λ(a:D.aAG)=>gd (a.sz<=34359738368) (some (a))⟩
def aLj:OK 129 aLi:=mkS .n [.cell 2 137] aG func129 ntmps129 (λ(a:D.aAG) _=>aF (aJp a)) (λ_=>by kernel_rfl)
def aFw:SU:=⟨[.sl 137],[.sl 137],true,false,λ(a:(List D.aAG))=>gd (G6 D.aAG.sz a<=34359738368) (some (a))⟩
def aFx:OK 68 aFw:=mkS (.s .n (.s .n (.s (.j ⟨[(3,2),(1,14)],[.tr (.s 3) 0 137 true],[],[]⟩ (.s .n (.s (.l ⟨[(3,2),(1,14)],[.tr (.s 3) 0 137 true, .nat (.s 4)],[],[]⟩ FUEL .n) .n))) .n))) [.tmp 2] (gc aLj aG) func68 ntmps68 (λ(a:(List D.aAG)) _=>aF (aE6 a)) (λ_=>by kernel_rfl)
def aLk:SU:=⟨[.st 39],[.st 39],true,false,λ(a:D.aAJ)=>gd (a.sz<=34359738368) (some (a))⟩
def yI:OK 69 aLk:=mkS .n [.cell 2 39] aG func69 ntmps69 (λ(a:D.aAJ) _=>aF (aJq a)) (λ_=>by kernel_rfl)
def aLl:SU:=⟨[.st 41],[.st 41],true,false,λ(a:D.World)=>gd (a.sz<=34359738368) (some (a))⟩
def gJ:OK 25 aLl:=mkS (.s .n (.s .n (.s .n (.s (.j ⟨[(4,1),(4,18)],[.tr (.c 2 2) 3 60 true],[],[]⟩ (.s .n (.s (.l ⟨[(4,1),(4,18)],[.nat (.s 4), .tr (.c 2 2) 3 60 true],[],[]⟩ FUEL aZ8) .n))) (.s .n (.s .n (.s .n (.s (.j ⟨[(5,1),(32,18)],[.tr (.c 2 8) 8 83 true],[],[]⟩ (.s .n (.s (.l ⟨[(5,1),(32,18)],[.nat (.s 5), .tr (.c 2 8) 8 83 true],[],[]⟩ FUEL aZ8) .n))) .n)))))))) [.cell 2 41] (gc mD (gc yG (gc lY (gc aFx (gc yI aG))))) func25 ntmps25 (λ(a:D.World) _=>aF (aJr a)) (λ_=>by kernel_rfl)
def Jt:SU:=⟨[.st 39],[.bool],false,false,λ(a:D.aAJ)=>gd (a.sz<=34359738368) (some (dV a))⟩
def qV:OK 132 Jt:=mkS (.s .n (.s (.jx ⟨[(2,47)],[],[],[]⟩ (.s .n (.s (.l ⟨[(2,47)],[.nat (.s 3)],[],[]⟩ FUEL bKg) .n))) .n)) [.tmp 2] (gc bR aG) func132 ntmps132 (λ(a:D.aAJ) _=>aF (Ja a)) (λ_=>by kernel_rfl)
def Sm:SU:=⟨[.st 41],[.bool],false,false,λ(a:D.World)=>gd (a.sz<=34359738368) (some (aV a))⟩
def uV:OK 70 Sm:=mkS (.s .n (.s (.jx ⟨[(2,27)],[],[],[]⟩ (.s .n (.s (.l ⟨[(2,27)],[.nat (.s 3)],[],[]⟩ FUEL (.s .n (.s (.s (.s (.rj 8 ⟨[(18,11)],[.dat (.s 28) .bool],[],[]⟩ (.r none (od 18 [5,15]))) .n) .n) .n))) .n))) (.s (.rj 4 ⟨[(2,1),(29,37)],[.dat (.s 2) .bool],[],[]⟩ .n) .n))) [.tmp 2] (gc iN (gc iW (gc bR (gc qV (gc fZ (gc cZ aG)))))) func70 ntmps70 (λ(a:D.World) _=>aF (Re a)) (λ_=>by kernel_rfl)
def aFy:SU:=⟨[.st 41,i6,i6],[.bool],false,false,λ(a:D.World×Int×Int)=>gd (a.1.sz<=34359738368) (some (eD a.1 a.2.1 a.2.2))⟩
def tV:OK 207 aFy:=mkS (.s .n (.s (.rj 3 ⟨[(6,1),(2,12)],[.dat (.s 6) .bool],[],[]⟩ .n) .n)) [.tmp 6] (gc uV (gc bR aG)) func207 ntmps207 (λa _=>aF (aFh a.1 a.2.1 a.2.2)) (λ_=>by kernel_rfl)
def Yo:SU:=⟨[.st 41,i6],[.st 41, .bool],true,false,λ(a:D.World×Int)=>gd (a.1.sz<=34359738368) (some (mY a.1 a.2))⟩
def Yp:OK 158 Yo:=mkS (.s .n (.s .n (.s (.s (.rj 5 ⟨[(13,7)],[.dat (.s 19) .bool],[],[]⟩ .n) .n) .n))) [.cell 4 41, .tmp 5] (gc gJ (gc tV aG)) func158 ntmps158 (λa _=>aF (Xm a.1 a.2)) (λ_=>by kernel_rfl)
def aCy:SU:=⟨[.str],[.st 231],false,false,λ(a:ByteArray)=>some ((D.aAN.mk true a 443))⟩
def aCz:OK 209 aCy:=mkS .n [.cell 2 231] aG func209 ntmps209 (λa _=>(aB8 a).trans) (λ_=>by kernel_rfl)
def Ju:SU:=⟨[.st 80,i6,i6],[.st 80, .st 181, .bool],false,false,λ(a:D.aAD×Int×Int)=>gd (a.1.sz<=34359738368) (some (iT a.1 a.2.1 a.2.2))⟩
def Jv:OK 276 Ju:=mkS (.s .n (.s .n (.s (.s (.rj 4 ⟨[(16,15)],[.dat (.s 30) .bool],[],[]⟩ .n) .n) bKc))) [.cell 6 80, .cell 7 181, .tmp 8] (gc yC (gc nS (gc bR (gc (aZz 2000000) aG)))) func276 ntmps276 (λa _=>aF (Jj a.1 a.2.1 a.2.2)) (λ_=>by kernel_rfl)
def Jw:SU:=⟨[.st 80,i6],[i6],false,false,λ(a:D.aAD×Int)=>some (jE a.1 a.2)⟩
def qW:OK 277 Jw:=mkS .n [.tmp 4] (gc dK aG) func277 ntmps277 (λa _=>(Ji a.1 a.2).trans) (λ_=>by kernel_rfl)
def V4:SU:=⟨[.st 83,i6,i6],[.st 83,i6,i6, .bool],false,false,λ(a:D.Site×Int×Int)=>gd (a.1.sz<=34359738368) (some (rH a.1 a.2.1 a.2.2))⟩
def V5:OK 265 V4:=mkS (.s .n (.s .n (.s .n (.s (.s (.rj 4 ⟨[(28,10)],[.dat (.s 37) .bool],[],[]⟩ .n) .n) (.s .n (.s (.u none [1] [] (od 11 [6,7,8,9,10])) .n)))))) [.cell 6 83, .tmp 7, .tmp 8, .tmp 9] (gc lY (gc Jv (gc iN (gc kL (gc qW aG))))) func265 ntmps265 (λa _=>aF (P7 a.1 a.2.1 a.2.2)) (λ_=>by kernel_rfl)
def aFz:SU:=⟨[.st 231],[.bool],false,false,λ(a:D.aAN)=>gd (a.Host.size<=34359738368) (some (oG a))⟩
def tX:OK 291 aFz:=mkS (.s .n (.s (.rj 4 ⟨[(2,1),(3,5)],[.dat (.s 2) .bool],[],[]⟩ .n) .n)) [.tmp 2] (gc Bj (gc bR aG)) func291 ntmps291 (λ(a:D.aAN) _=>aF (aFg a)) (λ_=>by kernel_rfl)
def Sq:SU:=⟨[.st 231],[.str],false,false,λ(a:D.aAN)=>gd (oF a) (some (nE a))⟩
def uW:OK 278 Sq:=mkS (.s .n (.s .n (.s .n (.s .n (.s (.j ⟨[(3,2),(3,2)],[.dat (.s 3) (.str), .dat (.s 4) i6],[],[]⟩ .n) (.s .n (.s (.r none (od 10 [7])) .n))))))) [.tmp 2] (gc tX (gc aA8 aG)) func278 ntmps278 (λ(a:D.aAN) _=>aF (Rq a)) (λ_=>by kernel_rfl)
def Em:SU:=⟨[.st 257],[.sl 3],true,false,λ(a:D.aAL)=>gd (a.Site.size<=34359738300/\a.aAN.size<=34359738300) (some (dA a))⟩
def oM:OK 280 Em:=mkS (.s .n (.s .n (.s (.j ⟨[(3,3)],[.dat (.s 3) i6],[],[]⟩ .n) (.s (.r none [(0,true),(1,true),(3,true),(4,true),(6,true),(7,true),(8,true),(9,true),(10,true),(2,false),(5,false),(11,false),(12,true)]) .n)))) [.tmp 2] (gc tT (gc oL aG)) func280 ntmps280 (λ(a:D.aAL) _=>aF (Ee a)) (λ_=>by kernel_rfl)
def Sr:SU:=⟨[.st 55],[.bool],false,false,λ(a:D.aAI)=>some (sN a)⟩
def Su:OK 293 Sr:=mkS (.s .n (.s (.rj 4 ⟨[(2,1),(3,15)],[.dat (.s 2) .bool],[],[]⟩ .n) .n)) [.tmp 2] (gc bR (gc cZ aG)) func293 ntmps293 (λa _=>(Ro a).trans) (λ_=>by kernel_rfl)
def Pi:SU:=⟨[.st 55, .str,i6, .sl 3],[.st 55,i6, .bool],false,false,λ(a:D.aAI×ByteArray×Int×(List Int))=>gd (a.2.1.size<=34359738300/\a.2.2.2.length<=34359738200) (some (fI a.1 a.2.1 a.2.2.1 a.2.2.2))⟩
def Pj:OK 279 Pi:=mkS (.s .n (.s (.s (.rj 4 ⟨[(15,5)],[.dat (.s 19) .bool],[],[]⟩ .n) .n) (.s .n (.s .n (.s (.u none [1] [4,10] [(0,true),(1,true),(2,true),(3,true),(6,true),(8,true),(9,true),(5,false),(4,false),(7,false),(10,false),(11,false),(12,false),(13,false),(14,false),(15,false)]) .n))))) [.cell 8 55, .tmp 9, .tmp 10] (gc Su (gc yD (gc nQ aG))) func279 ntmps279 (λa _=>aF (Oj a.1 a.2.1 a.2.2.1 a.2.2.2)) (λ_=>by kernel_rfl)
def aNi:SU:=⟨[.st 231, .str],[.bool],false,false,λ(a:D.aAN×ByteArray)=>gd (He a.1 a.2) (some (rV a.1 a.2))⟩
def Vb:OK 281 aNi:=mkS (.s .n (.s (.s (.rj 4 ⟨[(9,16)],[.dat (.s 24) .bool],[],[]⟩ .n) .n) (.s .n (.s (.rj 5 ⟨[(4,1),(30,20)],[.dat (.s 4) .bool],[],[]⟩ .n) .n)))) [.tmp 4] (gc tX (gc Bj (gc tQ aG))) func281 ntmps281 (λa _=>aF (aM4 a.1 a.2)) (λ_=>by kernel_rfl)
def Pk:SU:=⟨[.st 55, .st 231, .str,i6,i6, .bool],[.st 55, .st 257, .bool],false,false,λ(a:D.aAI×D.aAN×ByteArray×Int×Int×Bool)=>gd (He a.2.1 a.2.2.1) (some (jF a.1 a.2.1 a.2.2.1 a.2.2.2.1 a.2.2.2.2.1 a.2.2.2.2.2))⟩
def Pm:OK 266 Pk:=mkS (.s .n (.s .n (.s (.y false (some 10) (some 11) (od 14 [4,5,10,11])) (.s (.s (.rj 5 ⟨[(40,4)],[.dat (.s 43) .bool],[],[]⟩ .n) .n) (.s .n (.s .n bGr)))))) [.cell 12 55, .cell 13 257, .tmp 14] (gc uW (gc oM (gc Pj (gc Vb aG)))) func266 ntmps266 (λa _=>aF (Ol a.1 a.2.1 a.2.2.1 a.2.2.2.1 a.2.2.2.2.1 a.2.2.2.2.2)) (λ_=>by kernel_rfl)
def Pn:SU:=⟨[.st 80,i6],[i6],false,false,λ(a:D.aAD×Int)=>gd (a.1.Open.length<=34359738368) (some (dH a.1 a.2))⟩
def Po:OK 294 Pn:=mkS bMt [.tmp 4] aG func294 ntmps294 (λa _=>aF (Oh a.1 a.2)) (λ_=>by kernel_rfl)
def Pp:SU:=⟨[.st 80,i6,i6,i6],[.st 80, .bool],true,false,λ(a:D.aAD×Int×Int×Int)=>gd (a.1.sz<=34359738368) (some (sM a.1 a.2.1 a.2.2.1 a.2.2.2))⟩
def Pq:OK 282 Pp:=mkS (.s .n (.s .n (.s (.s (.rj 4 ⟨[(18,4)],[.dat (.s 21) .bool],[],[]⟩ .n) .n) (.s .n (.s (.y true none (some 13) [(1,true),(2,true),(3,true),(4,true),(6,true),(7,true),(8,true),(9,true),(10,true),(0,false),(5,false),(11,false),(12,false),(13,false)]) (.s (.u none [1] [] (od 21 [19,20])) .n)))))) [.cell 8 80, .tmp 9] (gc Po (gc nS (gc yC aG))) func282 ntmps282 (λa _=>aF (Oi a.1 a.2.1 a.2.2.1 a.2.2.2)) (λ_=>by kernel_rfl)
def Sw:SU:=⟨[.st 127,i6],[.bool],false,false,λ(a:D.aAH×Int)=>gd (a.1.sz<=34359738368) (some (zB a.1 a.2))⟩
def Sy:OK 283 Sw:=mkS (.s .n (.s (.s (.rj 4 ⟨[(9,7)],[.dat (.s 15) .bool],[],[]⟩ .n) .n) (.s (.jx ⟨[(4,2),(10,14)],[],[],[]⟩ (.s .n (.s (.l ⟨[(4,2),(10,14)],[.nat (.s 5)],[],[]⟩ FUEL .n) .n))) .n))) [.tmp 4] (gc fU (gc bR aG)) func283 ntmps283 (λa _=>aF (Rp a.1 a.2)) (λ_=>by kernel_rfl)
def Jy:SU:=⟨[.st 127,i6],[i6],false,false,λ(a:D.aAH×Int)=>gd (a.1.Credentials.length<=34359738368) (some (aU a.1 a.2))⟩
def qX:OK 250 Jy:=mkS bMt [.tmp 4] aG func250 ntmps250 (λa _=>aF (Jh a.1 a.2)) (λ_=>by kernel_rfl)
def Yq:SU:=⟨[.str],[.st 231, .bool],false,false,λ(a:ByteArray)=>gd (bBn a) (some (vR a))⟩
def Yr:OK 301 Yq:=mkS (.s .n (.s .n (.s .n (.s (.j ⟨[(5,1),(4,24)],[.dat (.s 5) (.str), .dat (.c 1 0) .bool, .dat (.c 1 1) (.str), .dat (.c 1 2) i6],[],[]⟩ (.s (.s (.rj 4 ⟨[(10,1),(3,5)],[.dat (.s 10) .bool],[],[]⟩ .n) (.s .n (.s (.rj 4 ⟨[(22,1),(3,5)],[.dat (.s 22) .bool],[],[]⟩ .n) .n))) .n)) (.s .n (.s (.jx ⟨[(3,1),(2,3),(27,27)],[.dat (.c 1 1) (.str), .dat (.c 1 2) i6],[],[]⟩ (.s .n (.s (.l ⟨[(3,1),(2,3),(27,27)],[.nat (.s 6)],[],[]⟩ FUEL .n) .n))) (.s (.s (.rj 4 ⟨[(66,6)],[.dat (.s 71) .bool],[],[]⟩ .n) .n) .n))))))) [.cell 2 231, .tmp 3] (gc aE0 (gc tX (gc uW aG))) func301 ntmps301 (λ(a:ByteArray) _=>aF (Xg a)) (λ_=>by kernel_rfl)
def Jz:SU:=⟨[i6, .st 257, .str,i6,i6],[i6],false,false,λ(a:Int×D.aAL×ByteArray×Int×Int)=>gd (AsP a.2.1 a.2.2.1) (some (kP a.1 a.2.1 a.2.2.1 a.2.2.2.1 a.2.2.2.2))⟩
def Ka:OK 295 Jz:=mkS (.s .n (.s .n (.s (.s (.s (.rj 5 ⟨[(19,1),(4,10)],[.dat (.s 19) .bool],[],[]⟩ .n) (.s .n (.s .n (.s .n (.s .n (.s .n (.s (.y true (some 5) none [(0,true),(1,true),(3,true),(4,true),(7,true),(8,true),(2,false),(5,false),(6,false),(9,false),(10,false),(11,true)]) .n))))))) .n) .n))) [.tmp 10] (gc Yr (gc Vb (gc oM (gc pV aG)))) func295 ntmps295 (λa _=>aF (Jk a.1 a.2.1 a.2.2.1 a.2.2.2.1 a.2.2.2.2)) (λ_=>by kernel_rfl)
def Ps:SU:=⟨[.st 127, .st 257, .str,i6],[.st 127,i6],true,false,λ(a:D.aAH×D.aAL×ByteArray×Int)=>gd (AsP a.2.1 a.2.2.1/\a.1.sz<=34359738368) (some (mW a.1 a.2.1 a.2.2.1 a.2.2.2))⟩
def Pt:OK 284 Ps:=mkS (.s .n (.s .n (.s .n (.s (.s (.rj 4 ⟨[(22,12)],[.dat (.s 33) .bool],[],[]⟩ .n) .n) (.s (.r none (od 17 [15])) (.s (.j ⟨[(51,17)],[.ti 3 183 true],[],[]⟩ .n) .n)))))) [.cell 8 127, .tmp 9] (gc pW (gc qX (gc fU (gc Ka aG)))) func284 ntmps284 (λa _=>aF (Om a.1 a.2.1 a.2.2.1 a.2.2.2)) (λ_=>by kernel_rfl)
def Yt:SU:=⟨[.st 83,i6,i6,i6, .st 257],[.st 83,i6,i6],true,false,λ(a:D.Site×Int×Int×Int×D.aAL)=>gd (AsP a.2.2.2.2 a.1.Name/\a.1.sz<=34359738300) (some (rW a.1 a.2.1 a.2.2.1 a.2.2.2.1 a.2.2.2.2))⟩
def Yu:OK 267 Yt:=mkS (.s .n (.s .n (.s .n (.s (.s (.rj 4 ⟨[(27,4)],[.dat (.s 30) .bool],[],[]⟩ .n) .n) (.s .n (.s .n (.s .n (.s .n (.s (.y false (some 16) (some 17) (od 19 [11,12,16,17])) .n))))))))) [.cell 10 83, .tmp 11, .tmp 12] (gc lY (gc kL (gc iN (gc Pq (gc Sy (gc qW (gc Pt aG))))))) func267 ntmps267 (λa _=>aF (Xh a.1 a.2.1 a.2.2.1 a.2.2.2.1 a.2.2.2.2)) (λ_=>by kernel_rfl)
def V6:SU:=⟨[.st 39,i6,i6,i6],[.st 39, .bool],true,false,λ(a:D.aAJ×Int×Int×Int)=>gd (a.1.sz<=34359738300) (some (uD a.1 a.2.1 a.2.2.1 a.2.2.2))⟩
def lI:OK 152 V6:=mkS (.s .n (.s .n (.s .n (.s (.j ⟨[(10,3),(12,26)],[.tr (.s 10) 2 139 true],[],[]⟩ (.s .n (.s (.s .n (.s (.j ⟨[(11,2),(15,13)],[.dat (.s 11) i6],[],[]⟩ (.s .n (.s (.l ⟨[(11,2),(18,10)],[.dat (.s 11) i6, .dat (.s 12) i6],[],[]⟩ FUEL (.s .n (.s (.j ⟨[(11,1),(23,6)],[.dat (.s 11) i6],[],[]⟩ .n) .n))) .n))) (.y true none (some 9) [(1,true),(2,true),(3,true),(5,true),(6,true),(7,true),(8,true),(0,false),(4,false),(9,false),(10,true)]))) .n))) (.s .n (.s (.s (.rj 4 ⟨[(56,5)],[.dat (.s 60) .bool],[],[]⟩ .n) .n) .n)))))) [.cell 8 39, .tmp 9] (gc qV (gc yI aG)) func152 ntmps152 (λa _=>aF (P5 a.1 a.2.1 a.2.2.1 a.2.2.2)) (λ_=>by kernel_rfl)
def aNj:SU:=⟨[.st 41,i6,i6, .st 231],[.st 41, .st 257,i6],true,false,λ(a:D.World×Int×Int×D.aAN)=>gd (oF a.2.2.2/\a.1.sz<=34359738200) (some (kW a.1 a.2.1 a.2.2.1 a.2.2.2))⟩
def aNk:OK 246 aNj:=mkS (.s .n (.s .n (.s .n (.s (.y false (some 13) (some 14) (od 18 [7,13,14])) (.s .n (.s (.u none [] [16,17] [(0,true),(1,true),(2,true),(3,true),(4,true),(5,true),(6,true),(7,true),(9,true),(10,true),(8,false),(11,false),(12,true),(13,true),(14,true),(15,true),(16,false),(17,false),(18,false),(19,false),(20,false)]) (.s .n (.s .n (.s .n (.s (.s .n (.s bGr .n)) (.s .n (.s .n bGr)))))))))))) [.cell 8 41, .cell 9 257, .tmp 10] (gc gJ (gc tV (gc V5 (gc iW (gc Pm (gc Yu (gc lI aG))))))) func246 ntmps246 (λa _=>aF (aM5 a.1 a.2.1 a.2.2.1 a.2.2.2)) (λ_=>by kernel_rfl)
def aF0:SU:=⟨[.st 41,i6,i6, .st 231],[.st 41,i6],true,false,λ(a:D.World×Int×Int×D.aAN)=>gd (oF a.2.2.2/\a.1.sz<=34359738200) (some (Gd a.1 a.2.1 a.2.2.1 a.2.2.2))⟩
def aF1:OK 208 aF0:=mkS .n [.cell 8 41, .tmp 9] (gc aNk aG) func208 ntmps208 (λa _=>aF (aFi a.1 a.2.1 a.2.2.1 a.2.2.2)) (λ_=>by kernel_rfl)
def Yv:SU:=⟨[.st 41,i6,i6],[.st 41,i6],true,false,λ(a:D.World×Int×Int)=>gd (a.1.sz<=34359738200) (some (pG a.1 a.2.1 a.2.2))⟩
def Yw:OK 159 Yv:=mkS (.s .n (.s (.s (.rj 6 ⟨[(13,7)],[.dat (.s 19) .bool],[],[]⟩ .n) .n) (.s (.r (some 10) (od 12 [4,6,7,10,11])) .n))) [.cell 6 41, .tmp 7] (gc tV (gc gJ (gc iW (gc aCz (gc aF1 aG))))) func159 ntmps159 (λa _=>aF (Xi a.1 a.2.1 a.2.2)) (λ_=>by kernel_rfl)
def aSj:SU:=⟨[.st 97, .sl 9],[.st 97, .str],true,true,λ(a:D.aAQ×(List ByteArray))=>vJ a.1 a.2⟩
def aSk:OK 33 aSj:=mkP .n [.tmp 4] (gc jX aG) func33 ntmps33 (λ_ _=>id) (λ_=>by kernel_rfl)
def aNl:SU:=⟨[.st 97,i6],[.st 97, .bool],true,true,λ(a:D.aAQ×Int)=>gd (aX a.1) (some (oH a.1 a.2))⟩
def Bo:OK 34 aNl:=mkP .n [.tmp 4] (gc jX aG) func34 ntmps34 (λa _=>aF (aM7 a.1 a.2)) (λ_=>by kernel_rfl)
def aF2:SU:=⟨[.st 41,i6],[.bool],false,false,λ(a:D.World×Int)=>gd (a.1.sz<=34359738368) (some (aV a.1&&aN a.1 a.2))⟩
def Iq:OK 26 aF2:=mkS (.s .n (.s (.rj 3 ⟨[(4,1),(2,8)],[.dat (.s 4) .bool],[],[]⟩ .n) .n)) [.tmp 4] (gc uV (gc bR aG)) func26 ntmps26 (λa _=>aF (aFd a.1 a.2)) (λ_=>by kernel_rfl)
def V7:SU:=⟨[.st 41,i6, .str,i6, .bool],[.st 41, .bool],true,false,λ(a:D.World×Int×ByteArray×Int×Bool)=>gd (a.1.sz<=34359738300/\a.2.2.1.size<=34359738300) (some (oW a.1 a.2.1 a.2.2.1 a.2.2.2.1 a.2.2.2.2))⟩
def V8:OK 12 V7:=mkS .n [.cell 10 41, .tmp 11] (gc gJ (gc Iq (gc mZ aG))) func12 ntmps12 (λa _=>aF (M4 a.1 a.2.1 a.2.2.1 a.2.2.2.1 a.2.2.2.2)) (λ_=>by kernel_rfl)
def aLm:SU:=⟨[.st 41,i6,i6],[.st 41,i6],true,false,λ(a:D.World×Int×Int)=>gd (a.1.sz<=34359738100) (some (aH a.1 a.2.1 a.2.2))⟩
def mE:OK 8 aLm:=mkS (.s .n (.s .n (.s .n (.s (.y false (some 12) (some 13) (od 15 [8,12,13])) .n)))) [.cell 6 41, .tmp 7] (gc gJ (gc Iq (gc Ph aG))) func8 ntmps8 (λa _=>aF (aKb a.1 a.2.1 a.2.2)) (λ_=>by kernel_rfl)
def V9:SU:=⟨[.st 41,i6],[.st 41, .bool],true,false,λ(a:D.World×Int)=>gd (a.1.sz<=10000000000) (some (fG a.1 a.2))⟩
def Aw:OK 14 V9:=mkS (.s .n (.s .n (.s (.s (.il 4 bKa .n) .n) .n))) [.cell 4 41, .tmp 5] (gc mE (gc (sIl 38) (gc gJ (gc nT (gc nA aG))))) func14 ntmps14 (λa _=>aF (O5 a.1 a.2)) (λ_=>by kernel_rfl)
def aC0:SU:=⟨[.st 32, .sl 165, .st 29],[.st 32, .bool],true,false,λ(a:D.aAB×(List D.aAC)×D.aAE)=>gd (a.1.sz<=34359738368/\a.2.1.length<=34359738368/\a.2.2.sz<=34359738368) (some (jK a.1 a.2.1 a.2.2))⟩
def En:OK 247 aC0:=mkS (.s .n (.s .n (.s (.s (.rj 4 ⟨[(14,13)],[.dat (.s 26) .bool],[],[]⟩ .n) .n) .n))) [.cell 6 32, .tmp 7] (gc yG (gc fZ (gc lH (gc Eh (gc iM (gc yB aG)))))) func247 ntmps247 (λa _=>aF (aB4 a.1 a.2.1 a.2.2)) (λ_=>by kernel_rfl)
def W9:SU:=⟨[.st 60,i6, .bool],[.st 60],true,false,λ(a:D.Device×Int×Bool)=>gd (a.1.sz<=34359738300) (some (mK a.1 a.2.1 a.2.2))⟩
def Ay:OK 213 W9:=mkS (.s .n (.s (.j ⟨[(7,17)],[.dat (.c 0 0) i6, .dat (.c 0 1) i6, .dat (.c 0 2) i6, .dat (.c 0 3) i6, .nt (.c 0 4) 165 true, .dat (.c 0 5) i6, .dat (.c 0 6) i6, .dat (.c 0 7) i6, .nt (.c 0 8) 149 true],[],[]⟩ (.s .n (.s (.s bJ4 (.l ⟨[(7,17)],[.dat (.s 7) i6, .dat (.c 0 0) i6, .dat (.c 0 1) i6, .dat (.c 0 2) i6, .dat (.c 0 3) i6, .tr (.c 0 4) 2 165 true, .dat (.c 0 5) i6, .dat (.c 0 6) i6, .dat (.c 0 7) i6, .tr (.c 0 8) 3 149 true],[],[]⟩ FUEL bJ4)) .n))) .n)) [.cell 6 60] (gc iW (gc mZ aG)) func213 ntmps213 (λa _=>aF (O9 a.1 a.2.1 a.2.2)) (λ_=>by kernel_rfl)
def Sz:SU:=⟨[.st 41,i6],[.st 41, .bool],true,false,λ(a:D.World×Int)=>gd (a.1.sz<=100000000) (some (iB a.1 a.2))⟩
def Ta:OK 160 Sz:=mkS (.s .n (.s .n (.s .n (.s (.s (.rj 3 ⟨[(28,11)],[.dat (.s 38) .bool],[],[]⟩ .n) .n) (.s .n (.s (.s (.il 9 bOb (.r (some 9) [(0,true),(1,true),(3,true),(4,true),(5,true),(6,true),(7,true),(8,true),(2,false),(9,false),(10,false)])) .n) (.s (.jx ⟨[(5,1),(4,3),(45,28)],[.ti 7 83 true],[],[]⟩ (.s .n (.s (.l ⟨[(5,1),(4,3),(45,28)],[.nat (.s 10), .ti 7 83 true],[],[]⟩ FUEL (.s .n (.s (.s (.s (.y false (some 15) (some 16) [(0,true),(1,true),(2,true),(3,true),(4,true),(5,true),(6,true),(7,true),(9,true),(8,false),(10,false),(11,false),(12,true),(13,true),(14,true),(15,false),(16,false),(17,true)]) .n) .n) .n))) .n))) (.s (.r (some 11) (od 12 [9,11])) (.s (.r (some 5) (od 8 [3,4,5,6,7])) (.s .n (.s .n (.s .n (.s (.s (.rj 3 ⟨[(123,4)],[.dat (.s 126) .bool],[],[]⟩ .n) .n) bKj))))))))))))) [.cell 4 41, .tmp 5] (gc mE (gc gJ (gc Ap (gc eF (gc (sIl 210) (gc iW (gc Ar (gc yE (gc Ay (gc Eg (gc Aw (gc (sIl 214) (gc kK (gc dR (gc gI (gc tO (gc kZ (gc En (gc pX (gc lI aG)))))))))))))))))))) func160 ntmps160 (λa _=>aF (Rn a.1 a.2)) (λ_=>by kernel_rfl)
def aNm:SU:=⟨[.st 41,i6],[.bool],false,false,λ(a:D.World×Int)=>gd (WOk a.1) (some (kG a.1 a.2))⟩
def aNn:OK 215 aNm:=mkS (.s .n (.s (.rj 7 ⟨[(4,1),(6,14)],[.dat (.s 4) .bool],[],[]⟩ (.r none [(0,true),(1,true),(2,true),(3,true),(4,true),(5,false),(6,true),(7,true),(8,true),(9,true),(11,true),(12,true),(13,true),(14,true),(15,true),(16,true),(10,false),(17,false),(18,false),(19,true),(20,true)])) .n)) [.tmp 4] (gc bR (gc jY (gc eF (gc rZ aG)))) func215 ntmps215 (λa _=>aF (aMs a.1 a.2)) (λ_=>by kernel_rfl)
def Pv:SU:=⟨[.st 127,i6],[.st 127, .bool],true,false,λ(a:D.aAH×Int)=>gd (a.1.sz<=34359738368) (some (nD a.1 a.2))⟩
def Pw:OK 217 Pv:=mkS (.s .n (.s .n (.s .n (.s (.s (.rj 4 ⟨[(16,12)],[.dat (.s 27) .bool],[],[]⟩ .n) .n) .n)))) [.cell 4 127, .tmp 5] (gc pW (gc qX (gc fU aG))) func217 ntmps217 (λa _=>aF (Og a.1 a.2)) (λ_=>by kernel_rfl)
def aC1:SU:=⟨[.st 41,i6,i6],[.st 41, .bool],true,false,λ(a:D.World×Int×Int)=>gd (a.1.sz<=100000000) (some (iC a.1 a.2.1 a.2.2))⟩
def aC2:OK 161 aC1:=mkS (.s .n (.s .n (.s (.s (.rj 3 ⟨[(22,18)],[.dat (.s 39) .bool],[],[]⟩ .n) .n) (.s (.s (.il 8 bOb .n) .n) (.s (.j ⟨[(10,4),(40,35)],[.ti 7 83 true],[],[]⟩ (.s .n (.s (.l ⟨[(10,4),(40,35)],[.nat (.s 10), .ti 7 83 true],[],[]⟩ FUEL (.s .n (.s (.j ⟨[(11,3),(44,31)],[.ti 7 83 true],[],[]⟩ (.s (.s .n (.s .n (.s (.s .n (.r (some 9) (od 10 [9]))) .n))) .n)) .n))) .n))) (.s (.r (some 11) (od 12 [9,11])) (.s (.s (.il 1 bKa .n) .n) bKj))))))) [.cell 6 41, .tmp 7] (gc mE (gc aNn (gc gJ (gc eF (gc (sIl 210) (gc kL (gc Pw (gc Ay (gc (sIl 38) (gc (sIl 214) (gc kK (gc dR (gc gI (gc tO (gc kZ (gc En (gc pX (gc nT (gc nA (gc lI aG)))))))))))))))))))) func161 ntmps161 (λa _=>aF (aB7 a.1 a.2.1 a.2.2)) (λ_=>by kernel_rfl)
def aSl:SU:=⟨[.st 97, .sl 3],[.st 97,i6],true,true,λ(a:D.aAQ×(List Int))=>gd (aX a.1/\0<a.2.length) (some (Vv a.1 a.2))⟩
def X3:OK 95 aSl:=mkP .n [.tmp 4] (gc jX aG) func95 ntmps95 (λa _=>aF (aSb a.1 a.2)) (λ_=>by kernel_rfl)
def Yx:SU:=⟨[.st 39],[.st 39, .sl 139],true,false,λ(a:D.aAJ)=>kI a⟩
def Yy:OK 153 Yx:=mkS (.s .n (.s .n (.s .n (.s (.j ⟨[(5,2),(3,27)],[.tr (.s 5) 4 139 true, .ti 2 139 true],[],[]⟩ (.s .n (.s (.l ⟨[(5,2),(3,27)],[.tr (.s 5) 4 139 true, .nat (.s 6), .ti 2 139 true],[],[]⟩ FUEL (.s .n (.s (.j ⟨[(5,1),(11,20)],[.tr (.s 5) 4 139 true, .ti 2 139 true],[],[]⟩ (.s (.s (.j ⟨[(5,1),(11,15)],[.tr (.s 5) 4 139 true],[],[]⟩ .n) .n) .n)) .n))) .n))) .n)))) [.cell 2 39, .tmp 3] (gc yI aG) func153 ntmps153 (λ_ _=>id) (λ_=>by kernel_rfl)
def aSm:SU:=⟨[.st 97],[.st 97,i6],true,true,λ(a:D.aAQ)=>gd (aX a) (some (aIs a))⟩
def aSn:OK 97 aSm:=mkP .n [.tmp 2] (gc Bo (gc X3 (gc jX (gc (aZz 3000000) aG)))) func97 ntmps97 (λ(a:D.aAQ) _=>aF (aSc a)) (λ_=>by kernel_rfl)
def aF3:SU:=⟨[i6],[.st 55],false,false,λ(a:Int)=>kR a⟩
def aF4:OK 196 aF3:=mkS .n [.cell 2 55] aG func196 ntmps196 (λ_ _=>id) (λ_=>by kernel_rfl)
def aNo:SU:=⟨[.st 97,i6],[.st 97, .sl 165],true,true,λ(a:D.aAQ×Int)=>rY a.1 a.2⟩
def aNp:OK 154 aNo:=mkP (.s .n (.s .n (.s (.j ⟨[(5,5),(1,33)],[.tr (.s 5) 1 165 true, .dat (.c 0 0) (.sl 5), .dat (.c 0 1) i6, .dat (.c 0 2) i6],[],[]⟩ (.s .n (.s (.l ⟨[(5,5),(4,30)],[.tr (.s 5) 1 165 true, .dat (.s 6) i6, .dat (.c 0 0) (.sl 5), .dat (.c 0 1) i6, .dat (.c 0 2) i6],[],[]⟩ FUEL (.s .n (.s (.j ⟨[(5,1),(1,3),(8,26)],[.tr (.s 5) 1 165 true, .dat (.c 0 0) (.sl 5), .dat (.c 0 1) i6, .dat (.c 0 2) i6],[],[]⟩ (.s (.s .n (.s .n (.s (.j ⟨[(8,1),(13,4)],[.dat (.s 8) i6],[],[]⟩ .n) (.s .n (.s (.j ⟨[(9,1),(16,7)],[.dat (.s 9) i6, .dat (.c 0 0) (.sl 5), .dat (.c 0 1) i6, .dat (.c 0 2) i6],[],[]⟩ (.s (.rj 4 ⟨[(29,4)],[.dat (.s 32) .bool, .dat (.c 0 0) (.sl 5), .dat (.c 0 1) i6, .dat (.c 0 2) i6],[],[]⟩ .n) .n)) .n))))) .n)) .n))) .n))) .n))) [.tmp 4] (gc jX (gc Bo (gc aF4 (gc eF (gc kK aG))))) func154 ntmps154 (λ_ _=>id) (λ_=>by kernel_rfl)
def Yz:SU:=⟨[.sl 5],[.st 41,i6,i6],false,false,λ(a:(List Int))=>kJ a⟩
def Za:OK 6 Yz:=mkS (.s .n (.s bP4 (.s (.il 1 (.s .n (.s (.il 2 (.s .n (.s (.il 1 (.s .n (.s .n (.s (.j ⟨[(7,14)],[.dat (.c 1 0) (.sl 5), .dat (.c 1 1) i6, .dat (.c 1 2) i6, .dat (.c 4 0) i6, .dat (.c 4 1) i6, .nt (.c 4 2) 60 true, .nt (.c 4 3) 4 true, .nt (.c 4 4) 165 true, .dat (.c 4 5) i6, .nt (.c 4 6) 186 true, .nt (.c 4 7) 69 true, .nt (.c 4 8) 83 false, .dat (.c 4 9) i6, .dat (.c 4 10) i6, .dat (.c 4 11) i6, .dat (.c 4 12) i6, .nt (.c 4 13) 137 true, .dat (.c 4 14) i6, .nt (.c 4 15) 139 true],[],[]⟩ (.il 13 (.s .n (.s (.s (.rj 4 ⟨[(30,21)],[.dat (.s 50) .bool],[],[]⟩ .n) .n) (.s .n (.s .n (.s (.j ⟨[(12,3),(41,33)],[.tr (.s 12) 7 165 true, .nt (.c 6 2) 60 true, .nt (.c 6 3) 4 true],[],[]⟩ (.s .n (.s (.l ⟨[(12,3),(41,33)],[.tr (.s 12) 7 165 true, .nat (.s 13), .nt (.c 6 2) 60 true, .nt (.c 6 3) 4 true],[],[]⟩ FUEL (.s .n (.s (.s (.s .n (.s .n (.s .n (.r none [(0,true),(1,true),(2,true),(4,true),(5,true),(6,true),(7,true),(8,true),(3,false),(9,false),(10,true),(11,true),(12,true),(13,true)])))) .n) .n))) .n))) (.s .n (.s .n (.s .n (.s (.il 3 (.s .n (.s .n (.s (.j ⟨[(5,5),(1,40)],[.tr (.s 5) 15 83 false],[],[]⟩ (.s .n (.s (.l ⟨[(5,5),(1,40)],[.tr (.s 5) 15 83 false, .nat (.s 6)],[],[]⟩ FUEL (.s .n (.s (.j ⟨[(5,1),(1,3),(5,36)],[.tr (.s 5) 15 83 false],[],[]⟩ (.s (.s .n (.s (.j ⟨[(9,1),(16,21)],[.dat (.c 16 0) (.str), .dat (.c 16 1) (.sl 127), .dat (.c 16 2) i6, .dat (.c 16 3) i6, .dat (.c 16 4) (.sl 181), .dat (.c 16 5) (.sl 3)],[],[]⟩ (.s .n (.s (.l ⟨[(9,1),(16,21)],[.nat (.s 9), .dat (.c 16 0) (.str), .dat (.c 16 1) (.sl 127), .dat (.c 16 2) i6, .dat (.c 16 3) i6, .dat (.c 16 4) (.sl 181), .dat (.c 16 5) (.sl 3)],[],[]⟩ FUEL (.s .n (.s (.s (.y false none (some 15) [(0,true),(1,true),(2,true),(3,true),(4,true),(5,true),(6,true),(7,true),(9,true),(8,false),(10,false),(11,false),(12,true),(13,true),(14,true),(15,false)]) .n) .n))) .n))) .n)) .n)) .n))) .n))) .n))) .n) (.s (.j ⟨[(18,1),(90,20)],[.tr (.c 6 2) 8 60 true],[],[]⟩ (.s .n (.s (.l ⟨[(18,1),(90,20)],[.nat (.s 18), .tr (.c 6 2) 8 60 true],[],[]⟩ FUEL bKm) .n))) (.s (.j ⟨[(19,2),(108,23)],[.tr (.c 6 2) 8 60 true],[],[]⟩ (.s .n (.s (.l ⟨[(19,2),(108,23)],[.nat (.s 19), .tr (.c 6 2) 8 60 true],[],[]⟩ FUEL (.s .n (.s (.j ⟨[(20,1),(112,19)],[.tr (.c 6 2) 8 60 true],[],[]⟩ (.s (.s .n (.s (.l ⟨[(20,1),(112,19)],[.nat (.s 20), .tr (.c 6 2) 8 60 true],[],[]⟩ FUEL (.s .n (.s (.s (.y false none (some 14) [(0,true),(1,true),(2,true),(3,true),(4,true),(5,true),(6,true),(8,true),(7,false),(9,false),(10,true),(11,true),(12,true),(13,true),(14,false)]) .n) .n))) .n)) .n)) .n))) .n))) (.s .n (.s .n (.s .n (.s (.j ⟨[(24,1),(148,20)],[.tr (.c 6 2) 8 60 true],[],[]⟩ (.s .n (.s (.l ⟨[(24,1),(148,20)],[.dat (.s 24) i6, .tr (.c 6 2) 8 60 true],[],[]⟩ FUEL bKm) .n))) (.s .n (.s (.j ⟨[(25,2),(167,12)],[.tr (.s 25) 24 3 true],[],[]⟩ (.s .n (.s (.l ⟨[(25,2),(167,12)],[.tr (.s 25) 24 3 true, .dat (.s 26) i6],[],[]⟩ FUEL .n) .n))) .n))))))))))))))))) .n)) .n))) .n) (.s (.j ⟨[(6,1),(2,10)],[.dat (.c 1 0) (.sl 5), .dat (.c 1 1) i6, .dat (.c 1 2) i6, .dat (.c 13 0) i6, .dat (.c 13 1) i6, .tr (.c 13 2) 5 60 true, .tr (.c 13 3) 6 4 true, .tr (.c 13 4) 7 165 true, .dat (.c 13 5) i6, .tr (.c 13 6) 8 186 true, .tr (.c 13 7) 9 69 true, .tr (.c 13 8) 10 83 false, .dat (.c 13 9) i6, .dat (.c 13 10) i6, .dat (.c 13 11) i6, .dat (.c 13 12) i6, .tr (.c 13 13) 11 137 true, .dat (.c 13 14) i6, .tr (.c 13 15) 12 139 true],[],[]⟩ (.s .n (.s (.l ⟨[(6,1),(5,7)],[.dat (.s 6) i6, .dat (.c 1 0) (.sl 5), .dat (.c 1 1) i6, .dat (.c 1 2) i6, .dat (.c 13 0) i6, .dat (.c 13 1) i6, .tr (.c 13 2) 5 60 true, .tr (.c 13 3) 6 4 true, .tr (.c 13 4) 7 165 true, .dat (.c 13 5) i6, .tr (.c 13 6) 8 186 true, .tr (.c 13 7) 9 69 true, .tr (.c 13 8) 10 83 false, .dat (.c 13 9) i6, .dat (.c 13 10) i6, .dat (.c 13 11) i6, .dat (.c 13 12) i6, .tr (.c 13 13) 11 137 true, .dat (.c 13 14) i6, .tr (.c 13 15) 12 139 true],[],[]⟩ FUEL (.s .n (.s (.s (.il 2 (.s .n (.s .n (.s (.j ⟨[(12,79)],[.dat (.c 1 0) (.sl 5), .dat (.c 1 1) i6, .dat (.c 1 2) i6, .dat (.c 14 0) i6, .dat (.c 14 1) i6, .tr (.c 14 2) 5 60 true, .tr (.c 14 3) 6 4 true, .tr (.c 14 4) 7 165 true, .dat (.c 14 5) i6, .tr (.c 14 6) 8 186 true, .tr (.c 14 7) 9 69 true, .tr (.c 14 8) 10 83 false, .dat (.c 14 9) i6, .dat (.c 14 10) i6, .dat (.c 14 11) i6, .dat (.c 14 12) i6, .tr (.c 14 13) 11 137 true, .dat (.c 14 14) i6, .tr (.c 14 15) 12 139 true],[],[]⟩ (.s .n (.s (.s .n (.s .n (.s .n (.s (.u (some 8) [1] [] (od 9 [3,4,5,8])) (.s .n (.s (.u (some 13) [1] [] [(0,true),(1,true),(2,true),(5,true),(7,true),(3,false),(4,false),(6,false),(8,false),(9,false),(10,false),(11,true),(12,true),(13,false)]) (.s (.j ⟨[(55,3)],[.dat (.s 55) .bool],[],[]⟩ .n) (.s .n (.s .n (.s .n (.s .n (.s (.u (some 11) [1] [] (od 12 [5,6,7,8,11])) (.s .n (.s .n (.u (some 8) [1] [] (od 9 [3,4,5,8])))))))))))))))) .n))) .n))) .n) .n) .n))) .n))) .n))) (.il 3 (.s .n (.s (.s .n (.s (.s .n (.s .n (.s .n (.s .n (.s .n (.s .n (.s .n (.s (.il 1 (.s .n (.s .n (.s .n (.s (.j ⟨[(4,2),(1,29)],[.dat (.c 1 0) (.sl 5), .dat (.c 1 1) i6, .dat (.c 1 2) i6, .nt (.c 17 0) 139 true],[],[]⟩ (.s .n (.s (.l ⟨[(4,2),(4,26)],[.dat (.s 4) i6, .dat (.s 5) i6, .dat (.c 1 0) (.sl 5), .dat (.c 1 1) i6, .dat (.c 1 2) i6, .nt (.c 17 0) 139 true],[],[]⟩ FUEL (.s .n (.s (.j ⟨[(4,1),(9,22)],[.dat (.s 4) i6, .dat (.c 1 0) (.sl 5), .dat (.c 1 1) i6, .dat (.c 1 2) i6, .tr (.c 17 0) 18 139 true],[],[]⟩ (.s (.s .n (.s (.u (some 11) [1] [] [(0,true),(1,true),(4,true),(6,true),(2,false),(3,true),(5,false),(7,false),(8,false),(9,true),(10,true),(11,false)]) .n)) .n)) .n))) .n))) (.s (.j ⟨[(36,19)],[.dat (.c 1 0) (.sl 5), .dat (.c 1 1) i6, .dat (.c 1 2) i6, .tr (.c 17 0) 18 139 true],[],[]⟩ (.s .n (.s (.s .n (.s (.u (some 13) [1] [6,9] [(0,true),(1,true),(2,true),(5,true),(8,true),(3,false),(4,false),(6,false),(7,false),(9,false),(10,false),(11,false),(12,false),(13,false),(14,false),(15,false)]) .n)) .n))) .n))))) .n) (.s .n (.s .n (.s .n (.s (.il 1 (.s .n (.s .n (.s .n (.s .n (.s .n (.s .n (.s (.j ⟨[(9,4),(20,32)],[.dat (.c 1 0) (.sl 5), .dat (.c 1 1) i6, .dat (.c 1 2) i6, .tr (.c 22 0) 19 165 true, .dat (.c 22 1) i6, .tr (.c 22 2) 20 186 true, .tr (.c 22 3) 21 69 true],[],[]⟩ (.s .n (.s (.l ⟨[(9,4),(23,29)],[.dat (.s 9) i6, .dat (.s 10) i6, .dat (.c 1 0) (.sl 5), .dat (.c 1 1) i6, .dat (.c 1 2) i6, .tr (.c 22 0) 19 165 true, .dat (.c 22 1) i6, .tr (.c 22 2) 20 186 true, .tr (.c 22 3) 21 69 true],[],[]⟩ FUEL .n) .n))) .n))))))) .n) .n)))))))))))) .n)) .n)) .n)) .n)) .n) (.s .n (.s (.u none [0,1] [] (od 8 [3,5,6,7])) .n))))) [.cell 2 41, .tmp 3, .tmp 4] (gc (sIl 17) (gc (sIl 18) (gc jX (gc (sIl 42) (gc (sIl 41) (gc (sIl 99) (gc (sIl 100) (gc X3 (gc (sIl 96) (gc aSn (gc (sIl 98) (gc (sIl 157) (gc Yp (gc Yw (gc aSk (gc Bo (gc V8 (gc Aw (gc Ta (gc aC2 (gc mE (gc lI (gc Yy (gc aNp (gc kZ (gc aFn (gc gI (gc Au (gc nA (gc bR (gc cZ (gc Ap (gc Eg (gc eF (gc kK (gc tO (gc (sIl 203) (gc pX (gc iW (gc mZ (gc nT (gc Ph (gc dR (gc aCx (gcp Pb (gc Xy (gc Ar (gcp yE (gc (aZz 3000000) aG))))))))))))))))))))))))))))))))))))))))))))))))) func6 ntmps6 (λ_ _=>id) (λ_=>by kernel_rfl)
def aLn:SU:=⟨[.sl 165],[.sl 165],true,false,λ(a:(List D.aAC))=>gd (a.length<=34359738368) (some (a))⟩
def yJ:OK 64 aLn:=mkS .n [.tmp 2] aG func64 ntmps64 (λ(a:(List D.aAC)) _=>aF (aJh a)) (λ_=>by kernel_rfl)
def aC3:SU:=⟨[.sl 5],[.sl 5],true,false,λ(a:(List Int))=>gd (a.length<=34359738368) (some (a))⟩
def Eo:OK 114 aC3:=mkS .n [.tmp 2] aG func114 ntmps114 (λ(a:(List Int)) _=>aF (aBn a)) (λ_=>by kernel_rfl)
def aC4:SU:=⟨[.sl 186],[.sl 186],true,false,λ(a:(List D.Box))=>gd (G6 D.Box.sz a<=34359738368) (some (a))⟩
def aC5:OK 162 aC4:=mkS (.s .n (.s .n (.s (.j ⟨[(3,1),(1,1),(1,15)],[.tr (.s 3) 0 186 true],[],[]⟩ (.s .n (.s (.l ⟨[(3,1),(1,1),(3,13)],[.tr (.s 3) 0 186 true, .nat (.s 9)],[],[]⟩ FUEL .n) .n))) .n))) [.tmp 2] (gc Eo aG) func162 ntmps162 (λ(a:(List D.Box)) _=>aF (aBo a)) (λ_=>by kernel_rfl)
def Kb:SU:=⟨[.st 29],[.st 29],true,false,λ(a:D.aAE)=>gd (a.sz<=34359738368) (some (a))⟩
def Kc:OK 101 Kb:=mkS (.s .n (.s (.r (some 6) (od 7 [4,6])) .n)) [.cell 2 29] (gc aC5 aG) func101 ntmps101 (λ(a:D.aAE) _=>aF (Iz a)) (λ_=>by kernel_rfl)
def X4:SU:=⟨[.st 69],[.st 69],true,false,λ(a:D.aAA)=>gd (a.sz<=34359738368) (some (a))⟩
def Az:OK 55 X4:=mkS .n [.cell 2 69] (gc Eo aG) func55 ntmps55 (λ(a:D.aAA) _=>aF (L8 a)) (λ_=>by kernel_rfl)
def aC6:SU:=⟨[.st 32],[.st 32],true,false,λ(a:D.aAB)=>gd (a.sz<=34359738368) (some (a))⟩
def aC7:OK 44 aC6:=mkS (.s .n (.s bKf (.s (.j ⟨[(5,1),(7,15)],[.nt (.c 4 3) 69 true],[],[]⟩ (.s .n (.s (.l ⟨[(5,1),(10,12)],[.nat (.s 16), .nt (.c 4 3) 69 true],[],[]⟩ FUEL bJd) .n))) .n))) [.cell 2 32] (gc yJ (gc Kc (gc Az aG))) func44 ntmps44 (λ(a:D.aAB) _=>aF (aBp a)) (λ_=>by kernel_rfl)
def aF5:SU:=⟨[.st 137],[.st 137],true,false,λ(a:D.aAG)=>gd (a.sz<=34359738368) (some (a))⟩
def aF6:OK 102 aF5:=mkS .n [.cell 2 137] aG func102 ntmps102 (λ(a:D.aAG) _=>aF (aE5 a)) (λ_=>by kernel_rfl)
def aC8:SU:=⟨[.sl 137],[.sl 137],true,false,λ(a:(List D.aAG))=>gd (G6 D.aAG.sz a<=34359738368) (some (a))⟩
def aC9:OK 45 aC8:=mkS (.s .n (.s .n (.s (.j ⟨[(3,1),(1,1),(1,12)],[.tr (.s 3) 0 137 true],[],[]⟩ (.s .n (.s (.l ⟨[(3,1),(1,1),(3,10)],[.tr (.s 3) 0 137 true, .nat (.s 9)],[],[]⟩ FUEL .n) .n))) .n))) [.tmp 2] (gc aF6 aG) func45 ntmps45 (λ(a:(List D.aAG)) _=>aF (aBq a)) (λ_=>by kernel_rfl)
def aF7:SU:=⟨[.st 39],[.st 39],true,false,λ(a:D.aAJ)=>gd (a.sz<=34359738368) (some (a))⟩
def aF8:OK 46 aF7:=mkS .n [.cell 2 39] aG func46 ntmps46 (λ(a:D.aAJ) _=>aF (aE7 a)) (λ_=>by kernel_rfl)
def X5:SU:=⟨[.st 58],[.st 58],true,false,λ(a:D.aAF)=>gd (a.sz<=34359738368) (some (a))⟩
def Ba:OK 103 X5:=mkS .n [.cell 2 58] aG func103 ntmps103 (λ(a:D.aAF) _=>aF (K9 a)) (λ_=>by kernel_rfl)
def X6:SU:=⟨[.st 60],[.st 60],true,false,λ(a:D.Device)=>gd (a.sz<=34359738368) (some (a))⟩
def Bb:OK 47 X6:=mkS .n [.cell 2 60] (gc yJ (gc Ba aG)) func47 ntmps47 (λ(a:D.Device) _=>aF (L6 a)) (λ_=>by kernel_rfl)
def aF9:SU:=⟨[.st 80],[.st 80],true,false,λ(a:D.aAD)=>gd (a.sz<=34359738368) (some (a))⟩
def aGa:OK 104 aF9:=mkS bKb [.cell 2 80] aG func104 ntmps104 (λ(a:D.aAD) _=>aF (aE3 a)) (λ_=>by kernel_rfl)
def aNq:SU:=⟨[.sl 3, .sl 81],[.sl 3],true,false,λ(a:(List Int)×(List (List Int)))=>gd (wG a.1 a.2) (some (oQ a.1 a.2))⟩
def kU:OK 105 aNq:=mkS (.s .n (.s .n (.s (.j ⟨[(5,1),(1,1),(3,10)],[.tr (.s 5) 0 3 true],[],[]⟩ (.s .n (.s (.l ⟨[(5,1),(1,1),(5,8)],[.tr (.s 5) 0 3 true, .nat (.s 13)],[],[]⟩ FUEL .n) .n))) .n))) [.tmp 4] aG func105 ntmps105 (λa _=>aF (aMq a.1 a.2)) (λ_=>by kernel_rfl)
def Zb:SU:=⟨[.st 127],[.st 127],true,false,λ(a:D.aAH)=>gd (a.sz<=34359738368) (some (a))⟩
def Zc:OK 106 Zb:=mkS bKb [.cell 2 127] aG func106 ntmps106 (λ(a:D.aAH) _=>aF (We a)) (λ_=>by kernel_rfl)
def aGb:SU:=⟨[.st 83],[.st 83],true,false,λ(a:D.Site)=>gd (a.sz<=34359738368) (some (a))⟩
def aGc:OK 48 aGb:=mkS (.s .n (.s (.y false (some 9) (some 10) [(0,true),(1,true),(2,true),(3,true),(5,true),(6,true),(4,false),(7,false),(8,true),(9,false),(10,false)]) (.s (.j ⟨[(5,1),(9,15)],[.nt (.c 4 1) 127 true],[],[]⟩ (.s .n (.s (.l ⟨[(5,1),(12,12)],[.nat (.s 18), .nt (.c 4 1) 127 true],[],[]⟩ FUEL bJd) .n))) .n))) [.cell 2 83] (gc aGa (gc kU (gc Zc aG))) func48 ntmps48 (λ(a:D.Site) _=>aF (aE4 a)) (λ_=>by kernel_rfl)
def aDa:SU:=⟨[.st 41],[.st 41],true,false,λ(a:D.World)=>gd (a.sz<=34359738368) (some (a))⟩
def aDb:OK 20 aDa:=mkS (.s .n (.s (.y true (some 22) (some 23) [(0,true),(1,true),(2,true),(3,true),(5,true),(6,true),(8,true),(9,true),(11,true),(12,true),(13,true),(14,true),(16,true),(17,true),(18,true),(19,true),(4,false),(7,false),(10,false),(15,false),(20,false),(21,false),(22,false),(23,false)]) (.s (.j ⟨[(5,1),(24,15)],[.nt (.c 8 2) 60 true],[],[]⟩ (.s .n (.s (.l ⟨[(5,1),(27,12)],[.nat (.s 33), .nt (.c 8 2) 60 true],[],[]⟩ FUEL bJd) .n))) (.s (.j ⟨[(7,1),(37,15)],[.nt (.c 8 8) 83 true],[],[]⟩ (.s .n (.s (.l ⟨[(7,1),(40,12)],[.nat (.s 48), .nt (.c 8 8) 83 true],[],[]⟩ FUEL bJd) .n))) .n)))) [.cell 2 41] (gc aC7 (gc aC9 (gc aF8 (gc Bb (gc aGc aG))))) func20 ntmps20 (λ(a:D.World) _=>aF (aBr a)) (λ_=>by kernel_rfl)
def aLo:SU:=⟨[i6,i6,i6],[.bool],false,false,λ(a:Int×Int×Int)=>some (bI a.1 a.2.1 a.2.2)⟩
def iO:OK 49 aLo:=mkS bKl [.tmp 6] aG func49 ntmps49 (λa _=>(aJc a.1 a.2.1 a.2.2).trans) (λ_=>by kernel_rfl)
def aNr:SU:=⟨[.str],[.bool],false,false,λ(a:ByteArray)=>some (fE a)⟩
def Vd:OK 163 aNr:=mkS (.s .n (.s .n (.s (.jx ⟨[(2,1),(1,3),(3,57)],[],[],[]⟩ (.s .n (.s (.l ⟨[(2,1),(1,3),(6,54)],[.nat (.s 13)],[],[]⟩ FUEL (.s .n (.s .n (.s (.jx ⟨[(2,1),(1,3),(8,51)],[],[],[]⟩ (.s (.s .n (.s (.s (.rj 4 ⟨[(20,18)],[.dat (.s 37) .bool],[],[]⟩ .n) .n) (.s .n (.s (.l ⟨[(2,1),(2,2),(31,28)],[.nat (.s 5)],[],[]⟩ FUEL (.s .n (.s (.s (.s .n (.s (.rj 3 ⟨[(49,17)],[.dat (.s 65) .bool],[],[]⟩ .n) .n)) .n) .n))) .n)))) .n)) .n)))) .n))) .n))) [.tmp 2] (gc Hg aG) func163 ntmps163 (λa _=>(aMw a).trans) (λ_=>by kernel_rfl)
def Zd:SU:=⟨[.str],[.str],false,false,λ(a:ByteArray)=>some (bBg a)⟩
def Ze:OK 164 Zd:=mkS .n [.tmp 2] (gc Vd (gc Hg (gc aI5 aG))) func164 ntmps164 (λa _=>(Wm a).trans) (λ_=>by kernel_rfl)
def aNs:SU:=⟨[.str],[.bool],false,false,λ(a:ByteArray)=>gd (a.size<=9223372036854775807) (some (Qk a))⟩
def aNt:OK 165 aNs:=mkS (.s .n (.s (.jx ⟨[(2,12)],[],[],[]⟩ (.s .n (.s (.l ⟨[(2,12)],[.nat (.s 3)],[],[]⟩ FUEL .n) .n))) .n)) [.tmp 2] aG func165 ntmps165 (λ(a:ByteArray) _=>aF (aMx a)) (λ_=>by kernel_rfl)
def X7:SU:=⟨[i6],[.bool],false,false,λ(a:Int)=>some (bG a)⟩
def eH:OK 54 X7:=mkS .n [.tmp 2] (gc iO aG) func54 ntmps54 (λa _=>(K8 a).trans) (λ_=>by kernel_rfl)
def Zg:SU:=⟨[.str,i6],[.bool],false,false,λ(a:ByteArray×Int)=>gd (a.1.size<=9223372036854775807) (some (jC a.1 a.2))⟩
def Zh:OK 107 Zg:=mkS (.s .n (.s (.rj 3 ⟨[(4,1),(2,13)],[.dat (.s 4) .bool],[],[]⟩ .n) .n)) [.tmp 4] (gc Vd (gc Ze (gc aNt (gc eH aG)))) func107 ntmps107 (λa _=>aF (Wn a.1 a.2)) (λ_=>by kernel_rfl)
def Zi:SU:=⟨[.st 80],[.bool],false,false,λ(a:D.aAD)=>gd (a.sz<=34359738368) (some (dW a))⟩
def Zj:OK 108 Zi:=mkS (.s .n (.s (.s (.rj 5 ⟨[(9,6)],[.dat (.s 14) .bool],[],[]⟩ .n) .n) (.s (.jx ⟨[(2,3),(10,44)],[],[],[]⟩ (.s .n (.s (.l ⟨[(2,3),(13,41)],[.nat (.s 18)],[],[]⟩ FUEL (.s .n (.s .n (.s (.s (.s .n (.s (.rj 8 ⟨[(30,28)],[.dat (.s 57) .bool],[],[]⟩ (.r none (od 35 [5,26,32]))) .n)) .n) .n)))) .n))) .n))) [.tmp 2] (gc iO aG) func108 ntmps108 (λ(a:D.aAD) _=>aF (Wl a)) (λ_=>by kernel_rfl)
def aSo:SU:=⟨[i6,i6,i6],[i6],false,false,λ(a:Int×Int×Int)=>vK a.1 a.2.1 a.2.2⟩
def aSp:OK 220 aSo:=mkS (.s .n (.s .n (.s .n (.s (.j ⟨[(0,2),(5,1),(5,17)],[.dat (.s 7) i6],[],[]⟩ (.s (.l ⟨[(0,2),(5,1),(5,17)],[.dat (.s 0) i6, .dat (.s 1) i6, .dat (.s 7) i6],[],[]⟩ FUEL (.s .n (.s (.s (.j ⟨[(7,1),(7,8)],[.dat (.s 7) i6],[],[]⟩ .n) .n) .n))) .n)) .n)))) [.tmp 6] aG func220 ntmps220 (λ_ _=>id) (λ_=>by kernel_rfl)
def X8:SU:=⟨[i6],[i6],false,false,λ(a:Int)=>some (eP a)⟩
def Bc:OK 166 X8:=mkS .n [.tmp 2] (gc eH (gc aSp aG)) func166 ntmps166 (λa _=>(M0 a).trans) (λ_=>by kernel_rfl)
def Ke:SU:=⟨[.st 127],[.bool],false,false,λ(a:D.aAH)=>gd (a.sz<=34359738368) (some (aZ a))⟩
def Kg:OK 109 Ke:=mkS (.s .n (.s (.s (.rj 5 ⟨[(11,12)],[.dat (.s 22) .bool],[],[]⟩ .n) .n) (.s (.jx ⟨[(2,3),(1,1),(16,56)],[],[],[]⟩ (.s .n (.s (.l ⟨[(2,3),(1,1),(19,53)],[.nat (.s 26)],[],[]⟩ FUEL (.s .n (.s .n (.s (.jx ⟨[(2,3),(1,1),(21,50)],[],[],[]⟩ (.s (.s .n (.s (.s (.rj 5 ⟨[(35,28)],[.dat (.s 62) .bool],[],[]⟩ (.r none (od 32 [2,23,29]))) .n) (.s .n (.s (.l ⟨[(2,1),(3,1),(61,10)],[.nat (.s 68)],[],[]⟩ FUEL .n) .n)))) .n)) .n)))) .n))) .n))) [.tmp 2] (gc iO (gc Bc aG)) func109 ntmps109 (λ(a:D.aAH) _=>aF (Jd a)) (λ_=>by kernel_rfl)
def Zk:SU:=⟨[.st 83],[.bool],false,false,λ(a:D.Site)=>gd (a.sz<=34359738368) (some (dE a))⟩
def Zl:OK 50 Zk:=mkS (.s .n (.s (.s (.rj 8 ⟨[(12,12)],[.dat (.s 23) .bool],[],[]⟩ .n) .n) (.s (.jx ⟨[(2,3),(19,28)],[],[],[]⟩ (.s .n (.s (.l ⟨[(2,3),(22,25)],[.nat (.s 27)],[],[]⟩ FUEL (.s .n (.s .n (.s (.s (.s .n (.s (.rj 4 ⟨[(35,16)],[.dat (.s 50) .bool],[],[]⟩ (.r none (od 19 [1]))) .n)) .n) .n)))) .n))) .n))) [.tmp 2] (gc Zh (gc Zj (gc Kg aG))) func50 ntmps50 (λ(a:D.Site) _=>aF (Wq a)) (λ_=>by kernel_rfl)
def aGd:SU:=⟨[i6],[.str],false,false,λ(a:Int)=>some (aA a)⟩
def aGe:OK 51 aGd:=mkS .n [.tmp 2] aG func51 ntmps51 (λa _=>(aE9 a).trans) (λ_=>by kernel_rfl)
def Kh:SU:=⟨[.st 39],[.bool],false,false,λ(a:D.aAJ)=>gd (a.sz<=34359738368) (some (dV a))⟩
def Ki:OK 52 Kh:=mkS (.s .n (.s .n (.s (.jx ⟨[(2,3),(4,41)],[],[],[]⟩ (.s .n (.s (.l ⟨[(2,3),(7,38)],[.nat (.s 12)],[],[]⟩ FUEL (.s .n bKg)) .n))) .n))) [.tmp 2] (gc iO aG) func52 ntmps52 (λ(a:D.aAJ) _=>aF (Jb a)) (λ_=>by kernel_rfl)
def aYg:SU:=⟨[.sl 3,i6],[.bool],false,false,λ(a:(List Int)×Int)=>gd (a.1.length<=1099511627776) (some (gM a.1 a.2))⟩
def Zm:OK 57 aYg:=mkS (.s .n (.s (.jx ⟨[(4,1),(1,11)],[],[],[]⟩ (.s .n (.s (.l ⟨[(4,1),(1,1),(2,8)],[.nat (.s 9)],[],[]⟩ FUEL .n) .n))) .n)) [.tmp 4] aG func57 ntmps57 (λa _=>aF (aXv a.1 a.2)) (λ_=>by kernel_rfl)
def aDc:SU:=⟨[.sl 165],[.sl 3],true,false,λ(a:(List D.aAC))=>gd (a.length<=34359738368) (some (aD a))⟩
def Ep:OK 58 aDc:=mkS (.s .n (.s .n (.s (.j ⟨[(3,1),(1,2),(1,1),(1,40)],[.tr (.s 3) 0 3 true],[],[]⟩ (.s .n (.s (.l ⟨[(3,1),(1,2),(1,1),(3,38)],[.tr (.s 3) 0 3 true, .nat (.s 12)],[],[]⟩ FUEL (.s .n (.s .n (.s (.j ⟨[(3,1),(1,2),(1,1),(5,35)],[.tr (.s 3) 0 3 true],[],[]⟩ (.s (.s .n (.s .n (.s (.s .n (.s .n (.s .n (.s (.s .n (.s (.j ⟨[(6,1),(1,1),(24,15)],[.tr (.s 6) 2 3 true],[],[]⟩ (.s .n (.s (.l ⟨[(6,1),(1,1),(26,13)],[.tr (.s 6) 2 3 true, .nat (.s 35)],[],[]⟩ FUEL (.s .n (.s .n (.s (.j ⟨[(6,1),(1,1),(28,10)],[.tr (.s 6) 2 3 true],[],[]⟩ .n) .n)))) .n))) .n)) .n)))) .n))) .n)) .n)))) .n))) .n))) [.tmp 2] (gc Zm aG) func58 ntmps58 (λ(a:(List D.aAC)) _=>aF (aBk a)) (λ_=>by kernel_rfl)
def aYh:SU:=⟨[i6,i6],[i6],false,false,λ(a:Int×Int)=>some (gK a.1 a.2)⟩
def aLp:OK 174 aYh:=mkS (.s .n (.s (.s (.rj 3 ⟨[(8,4)],[.dat (.s 11) .bool],[],[]⟩ .n) .n) (.s .n (.s (.j ⟨[(5,1),(9,5)],[.dat (.s 5) i6],[],[]⟩ .n) .n)))) [.tmp 4] aG func174 ntmps174 (λa _=>(aXt a.1 a.2).trans) (λ_=>by kernel_rfl)
def aVw:SU:=⟨[.sl 3],[i6],false,false,λ(a:(List Int))=>gd (a.length<=1099511627776) (some (tY a))⟩
def aEh:OK 168 aVw:=mkS (.s .n (.s .n (.s (.j ⟨[(3,1),(1,15)],[.dat (.s 3) i6],[],[]⟩ (.s .n (.s (.l ⟨[(3,1),(1,1),(2,12)],[.dat (.s 3) i6, .nat (.s 8)],[],[]⟩ FUEL .n) .n))) .n))) [.tmp 2] (gc aLp aG) func168 ntmps168 (λ(a:(List Int)) _=>aF (aVd a)) (λ_=>by kernel_rfl)
def aDd:SU:=⟨[.st 165],[i6],false,false,λ(a:D.aAC)=>some (bY a)⟩
def Er:OK 113 aDd:=mkS .n [.tmp 2] (gc aEh aG) func113 ntmps113 (λa _=>(aBt a).trans) (λ_=>by kernel_rfl)
def aLq:SU:=⟨[.sl 165],[i6],false,false,λ(a:(List D.aAC))=>gd (a.length<=34359738368) (some (fQ a))⟩
def aLr:OK 110 aLq:=mkS .n [.tmp 2] (gc Er aG) func110 ntmps110 (λ(a:(List D.aAC)) _=>aF (aJu a)) (λ_=>by kernel_rfl)
def X9:SU:=⟨[.sl 165,i6],[.bool],false,false,λ(a:(List D.aAC)×Int)=>gd (a.1.length<=34359738368) (some (iJ a.1 a.2))⟩
def Y1:OK 111 X9:=mkS (.s .n (.s (.jx ⟨[(4,1),(1,17)],[],[],[]⟩ (.s .n (.s (.l ⟨[(4,1),(1,1),(2,14)],[.nat (.s 9)],[],[]⟩ FUEL (.s .n (.s .n (.s (.s (.s .n (.s (.rj 4 ⟨[(16,6)],[.dat (.s 21) .bool],[],[]⟩ .n) .n)) .n) .n)))) .n))) .n)) [.tmp 4] aG func111 ntmps111 (λa _=>aF (M3 a.1 a.2)) (λ_=>by kernel_rfl)
def aDe:SU:=⟨[i6, .sl 3],[i6],false,false,λ(a:Int×(List Int))=>gd (a.2.length<=34359738368) (some (bJ a.1 a.2))⟩
def jZ:OK 170 aDe:=mkS .n [.tmp 4] (gc kU (gc aEh aG)) func170 ntmps170 (λa _=>aF (aBd a.1 a.2)) (λ_=>by kernel_rfl)
def Zn:SU:=⟨[i6, .sl 3],[i6],false,false,λ(a:Int×(List Int))=>gd (a.2.length<=34359738300) (some (yZ a.1 a.2))⟩
def Zo:OK 167 Zn:=mkS .n [.tmp 4] (gc eH (gc kU (gc jZ aG))) func167 ntmps167 (λa _=>aF (Wi a.1 a.2)) (λ_=>by kernel_rfl)
def Gr:SU:=⟨[i6, .sl 3,i6],[.bool],false,false,λ(a:Int×(List Int)×Int)=>gd (a.2.1.length<=34359738300) (some (gB a.1 a.2.1 a.2.2))⟩
def Gs:OK 112 Gr:=mkS bKi [.tmp 6] (gc Bc (gc Zo aG)) func112 ntmps112 (λa _=>aF (Gj a.1 a.2.1 a.2.2)) (λ_=>by kernel_rfl)
def aDf:SU:=⟨[.sl 165],[.bool],false,false,λ(a:(List D.aAC))=>gd (a.length<=34359738368) (some (bC a))⟩
def Es:OK 53 aDf:=mkS (.s .n (.s (.s (.rj 4 ⟨[(10,5)],[.dat (.s 14) .bool],[],[]⟩ .n) .n) (.s (.jx ⟨[(2,5),(8,83)],[],[],[]⟩ (.s .n (.s (.l ⟨[(2,5),(10,81)],[.nat (.s 17)],[],[]⟩ FUEL (.s .n (.s .n (.s (.jx ⟨[(2,5),(12,78)],[],[],[]⟩ (.s (.s .n (.s .n (.s .n (.s (.s (.rj 5 ⟨[(31,26)],[.dat (.s 56) .bool],[],[]⟩ (.r none (od 30 [8,15]))) .n) (.s (.jx ⟨[(2,1),(54,31)],[],[],[]⟩ (.s .n (.s (.s .n (.s (.s (.rj 5 ⟨[(65,11)],[.dat (.s 75) .bool],[],[]⟩ .n) .n) (.s .n (.s (.s (.rj 6 ⟨[(83,5)],[.dat (.s 87) .bool],[],[]⟩ .n) .n) .n)))) .n))) (.s (.r none [(0,true),(1,true),(2,true),(5,true),(6,true),(3,false),(4,false),(7,false),(8,true)]) .n)))))) .n)) .n)))) .n))) .n))) [.tmp 2] (gc Ep (gc aLr (gc Zm (gc Y1 (gc Er (gc Gs aG)))))) func53 ntmps53 (λ(a:(List D.aAC)) _=>aF (aBv a)) (λ_=>by kernel_rfl)
def Tc:SU:=⟨[.st 41],[.bool],false,false,λ(a:D.World)=>gd (a.sz<=34359738368) (some (aV a))⟩
def Td:OK 21 Tc:=mkS (.s .n (.s (.s (.rj 5 ⟨[(9,22)],[.dat (.s 30) .bool],[],[]⟩ .n) .n) (.s (.jx ⟨[(2,3),(26,19)],[],[],[]⟩ (.s .n (.s (.l ⟨[(2,3),(29,16)],[.nat (.s 34)],[],[]⟩ FUEL (.s .n (.s .n (.s (.s (.s .n (.s (.rj 4 ⟨[(42,7)],[.dat (.s 48) .bool],[],[]⟩ (.r none (od 10 [1,7]))) .n)) .n) .n)))) .n))) (.s (.rj 4 ⟨[(2,1),(50,11)],[.dat (.s 2) .bool],[],[]⟩ .n) .n)))) [.tmp 2] (gc iO (gc Zl (gc aGe (gc Ki (gc Es (gc eH aG)))))) func21 ntmps21 (λ(a:D.World) _=>aF (Rf a)) (λ_=>by kernel_rfl)
def aDg:SU:=⟨[.st 41,i6],[.bool],false,false,λ(a:D.World×Int)=>some (aN a.1 a.2)⟩
def aDh:OK 22 aDg:=mkS (.s .n (.s (.rj 3 ⟨[(4,1),(2,7)],[.dat (.s 4) .bool],[],[]⟩ .n) .n)) [.tmp 4] aG func22 ntmps22 (λa _=>(aBl a.1 a.2).trans) (λ_=>by kernel_rfl)
def Zp:SU:=⟨[.st 32,i6],[.st 69, .bool],true,false,λ(a:D.aAB×Int)=>gd (a.1.sz<=34359738368) (some (bN a.1 a.2))⟩
def Zq:OK 23 Zp:=mkS (.s .n (.s (.s (.rj 3 ⟨[(8,7)],[.dat (.s 14) .bool],[],[]⟩ .n) .n) .n)) [.cell 4 69, .tmp 5] (gc Az aG) func23 ntmps23 (λa _=>aF (Wx a.1 a.2)) (λ_=>by kernel_rfl)
def Y2:SU:=⟨[.sl 165, .sl 165],[.bool],false,false,λ(a:(List D.aAC)×(List D.aAC))=>gd (a.1.length<=34359738368) (some (bZ a.1 a.2))⟩
def Y3:OK 56 Y2:=mkS (.s .n (.s .n (.s (.jx ⟨[(4,2),(5,15)],[],[],[]⟩ (.s .n (.s (.l ⟨[(4,2),(7,13)],[.nat (.s 13)],[],[]⟩ FUEL (.s .n (.s .n (.s (.s (.s .n (.s (.r none (od 9 [])) .n)) .n) .n)))) .n))) .n))) [.tmp 4] aG func56 ntmps56 (λa _=>aF (M7 a.1 a.2)) (λ_=>by kernel_rfl)
def aSq:SU:=⟨[i6],[i6],false,false,λ(a:Int)=>some (iI a)⟩
def aSr:OK 169 aSq:=mkS .n [.tmp 2] aG func169 ntmps169 (λa _=>(aR5 a).trans) (λ_=>by kernel_rfl)
def aDi:SU:=⟨[i6, .sl 3],[i6],false,false,λ(a:Int×(List Int))=>gd (a.2.length<=34359738300) (some (aT a.1 a.2))⟩
def mQ:OK 116 aDi:=mkS .n [.tmp 4] (gc kU (gc jZ (gc aSr aG))) func116 ntmps116 (λa _=>aF (aBf a.1 a.2)) (λ_=>by kernel_rfl)
def aDj:SU:=⟨[i6],[i6],false,false,λ(a:Int)=>some (cB a)⟩
def Et:OK 115 aDj:=mkS .n [.tmp 2] (gc eH aG) func115 ntmps115 (λa _=>(aBh a).trans) (λ_=>by kernel_rfl)
def Te:SU:=⟨[.st 55],[i6],false,false,λ(a:D.aAI)=>some (aY a)⟩
def Tf:OK 59 Te:=mkS .n [.tmp 2] (gc mQ (gc Et aG)) func59 ntmps59 (λa _=>(Ra a).trans) (λ_=>by kernel_rfl)
def aLs:SU:=⟨[.sl 165],[i6],false,false,λ(a:(List D.aAC))=>gd (a.length<=34359738368) (some (aJ a))⟩
def aLt:OK 60 aLs:=mkS (.s .n (.s .n (.s (.j ⟨[(3,1),(1,13)],[.dat (.s 3) i6],[],[]⟩ (.s .n (.s (.l ⟨[(3,1),(1,1),(2,10)],[.dat (.s 3) i6, .nat (.s 8)],[],[]⟩ FUEL (.s .n (.s .n (.s (.j ⟨[(3,1),(1,1),(4,7)],[.dat (.s 3) i6],[],[]⟩ .n) .n)))) .n))) .n))) [.tmp 2] aG func60 ntmps60 (λ(a:(List D.aAC)) _=>aF (aJ1 a)) (λ_=>by kernel_rfl)
def aNu:SU:=⟨[i6,i6],[i6],false,false,λ(a:Int×Int)=>some (fD a.1 a.2)⟩
def aNv:OK 221 aNu:=mkS .n [.tmp 4] (gc mQ aG) func221 ntmps221 (λa _=>(aMz a.1 a.2).trans) (λ_=>by kernel_rfl)
def Zr:SU:=⟨[.sl 5],[.sl 3],true,false,λ(a:(List Int))=>gd (a.length<=34359738360) (some (vD a))⟩
def yK:OK 173 Zr:=mkS (.s .n (.s .n (.s (.j ⟨[(3,1),(1,1),(3,12)],[.tr (.s 3) 0 3 true],[],[]⟩ (.s .n (.s (.l ⟨[(3,1),(1,1),(5,10)],[.tr (.s 3) 0 3 true, .nat (.s 11)],[],[]⟩ FUEL .n) .n))) .n))) [.tmp 2] aG func173 ntmps173 (λ(a:(List Int)) _=>aF (Wt a)) (λ_=>by kernel_rfl)
def aNw:SU:=⟨[i6, .st 186],[i6],false,false,λ(a:Int×D.Box)=>gd (a.2.Data.length<=34359738200) (some (Lg a.1 a.2))⟩
def aNx:OK 222 aNw:=mkS bJ5 [.tmp 4] (gc yK (gc kU (gc jZ aG))) func222 ntmps222 (λa _=>aF (aM2 a.1 a.2)) (λ_=>by kernel_rfl)
def aLu:SU:=⟨[i6, .sl 5],[.sl 5],true,false,λ(a:Int×(List Int))=>gd (a.2.length<=34359738368) (some (Iy a.1 a.2))⟩
def Px:OK 121 aLu:=mkS bOd [.tmp 4] (gc jZ (gc aLp aG)) func121 ntmps121 (λa _=>aF (aJ3 a.1 a.2)) (λ_=>by kernel_rfl)
def aLv:SU:=⟨[i6, .st 186],[.sl 5, .bool],true,false,λ(a:Int×D.Box)=>some (dX a.1 a.2)⟩
def aLw:OK 171 aLv:=mkS bKe [.tmp 4, .tmp 5] (gc eH (gc Et (gc aNv (gc aNx (gc Px aG))))) func171 ntmps171 (λa _=>(aJ6 a.1 a.2).trans) (λ_=>by kernel_rfl)
def aLx:SU:=⟨[.sl 186,i6],[.sl 5, .bool],true,false,λ(a:(List D.Box)×Int)=>gd (a.1.length<=34359738368) (some (eY a.1 a.2))⟩
def aLy:OK 117 aLx:=mkS (.s .n (.s (.jx ⟨[(4,2),(1,18)],[],[],[]⟩ (.s .n (.s (.l ⟨[(4,2),(1,3),(2,13)],[.nat (.s 12)],[],[]⟩ FUEL .n) .n))) .n)) [.tmp 4, .tmp 5] (gc aLw aG) func117 ntmps117 (λa _=>aF (aJ7 a.1 a.2)) (λ_=>by kernel_rfl)
def Zt:SU:=⟨[.sl 5,i6],[i6,i6, .bool],false,false,λ(a:(List Int)×Int)=>gd (aQ a.1) (some (vF a.1 a.2))⟩
def yL:OK 172 Zt:=mkS (.s .n (.s (.s (.rj 3 ⟨[(13,6)],[.dat (.s 18) .bool],[],[]⟩ .n) .n) (.s .n (.s .n (.s (.jx ⟨[(4,7),(8,42)],[],[],[]⟩ (.s .n (.s (.l ⟨[(4,7),(8,42)],[.dat (.s 7) i6, .dat (.s 8) i6, .nat (.s 9)],[],[]⟩ FUEL (.s .n (.s (.s (.s .n (.s .n (.s .n (.s .n (.s .n (.s (.s (.s (.rj 3 ⟨[(48,8)],[.dat (.s 55) .bool],[],[]⟩ .n) .n) .n) .n)))))) .n) .n))) .n))) .n))))) [.tmp 4, .tmp 5, .tmp 6] aG func172 ntmps172 (λa _=>aF (Wy a.1 a.2)) (λ_=>by kernel_rfl)
def Y4:SU:=⟨[.sl 5,i6,i6],[.sl 3,i6, .bool],true,false,λ(a:(List Int)×Int×Int)=>gd (aQ a.1) (some (gQ a.1 a.2.1 a.2.2))⟩
def Bd:OK 118 Y4:=mkS (.s .n (.s (.s (.rj 3 ⟨[(16,14)],[.dat (.s 29) .bool],[],[]⟩ .n) .n) (.s .n (.s (.jx ⟨[(1,1),(4,8),(17,19)],[.dat (.s 1) i6, .tr (.s 9) 0 3 true],[],[]⟩ (.s .n (.s (.l ⟨[(1,1),(4,8),(17,19)],[.dat (.s 1) i6, .tr (.s 9) 0 3 true, .nat (.s 10)],[],[]⟩ FUEL .n) .n))) .n)))) [.tmp 6, .tmp 7, .tmp 8] (gc yL aG) func118 ntmps118 (λa _=>aF (M8 a.1 a.2.1 a.2.2)) (λ_=>by kernel_rfl)
def Kj:SU:=⟨[.st 55, .st 29],[i6, .bool],false,false,λ(a:D.aAI×D.aAE)=>gd (a.2.sz<=34359738368) (some (bB a.1 a.2))⟩
def Kk:OK 61 Kj:=mkS (.s .n (.s (.r none (od 12 [4,5,6])) (.s .n (.s .n (.s (.s (.rj 3 ⟨[(31,21)],[.dat (.s 51) .bool],[],[]⟩ (.r none (od 23 [20]))) .n) .n))))) [.tmp 4, .tmp 5] (gc mQ (gc aLy (gc Bd (gc eH aG)))) func61 ntmps61 (λa _=>aF (Jf a.1 a.2)) (λ_=>by kernel_rfl)
def aDk:SU:=⟨[i6, .st 69],[i6],false,false,λ(a:Int×D.aAA)=>gd (a.2.Data.length<=34359738200) (some (gH a.1 a.2))⟩
def aDl:OK 119 aDk:=mkS bJ5 [.tmp 4] (gc yK (gc kU (gc jZ aG))) func119 ntmps119 (λa _=>aF (aBy a.1 a.2)) (λ_=>by kernel_rfl)
def Zu:SU:=⟨[.st 149, .st 149],[.bool],false,false,λ(a:D.Entry×D.Entry)=>some (dI a.1 a.2)⟩
def yM:OK 123 Zu:=mkS bKd [.tmp 4] aG func123 ntmps123 (λa _=>(Wd a.1 a.2).trans) (λ_=>by kernel_rfl)
def aGf:SU:=⟨[.st 58],[.bool],false,false,λ(a:D.aAF)=>gd (a.sz<=34359738368) (some (aP a))⟩
def Ir:OK 122 aGf:=mkS (.s .n (.s .n (.s (.jx ⟨[(2,3),(4,40)],[],[],[]⟩ (.s .n (.s (.l ⟨[(2,3),(7,37)],[.nat (.s 12)],[],[]⟩ FUEL (.s .n (.s .n (.s (.s (.s .n (.s (.rj 5 ⟨[(21,27)],[.dat (.s 47) .bool],[],[]⟩ (.r none (od 31 [2,7,13,27]))) .n)) .n) .n)))) .n))) .n))) [.tmp 2] (gc iO (gc yM aG)) func122 ntmps122 (λ(a:D.aAF) _=>aF (aE2 a)) (λ_=>by kernel_rfl)
def Tg:SU:=⟨[.sl 5],[.st 58, .bool],true,false,λ(a:(List Int))=>gd (aQ a) (some (wJ a))⟩
def Ti:OK 120 Tg:=mkS (.s .n (.s .n (.s (.s (.rj 3 ⟨[(20,4)],[.dat (.s 23) .bool],[],[]⟩ .n) .n) (.s .n (.s (.s (.rj 3 ⟨[(36,6)],[.dat (.s 41) .bool],[],[]⟩ .n) .n) (.s .n (.s (.jx ⟨[(3,1),(6,2),(32,33)],[.nt (.c 1 0) 149 true],[],[]⟩ (.s .n (.s (.l ⟨[(3,1),(6,2),(32,33)],[.nat (.s 10), .nt (.c 1 0) 149 true],[],[]⟩ FUEL (.s .n (.s (.s (.s .n (.s .n (.r (some 17) (od 20 [16,17,18,19])))) .n) .n))) .n))) .n))))))) [.cell 2 58, .tmp 3] (gc yL (gcp Bd (gc Ir aG))) func120 ntmps120 (λ(a:(List Int)) _=>aF (Rj a)) (λ_=>by kernel_rfl)
def Y5:SU:=⟨[i6, .st 69],[.st 58, .bool],true,false,λ(a:Int×D.aAA)=>gd (a.2.Data.length<=34359738200) (some (eU a.1 a.2))⟩
def Y6:OK 62 Y5:=mkS (.s .n (.s (.s (.rj 4 ⟨[(11,20)],[.dat (.s 30) .bool],[],[]⟩ (.r none (od 23 [1,6,12,20]))) .n) (.s (.y false (some 14) (some 15) [(0,true),(1,true),(2,true),(3,true),(4,true),(7,true),(8,true),(5,false),(6,false),(9,false),(10,false),(11,true),(12,true),(13,true),(14,false),(15,false),(16,true)]) .n))) [.cell 4 58, .tmp 5] (gc eH (gc iO (gc aDl (gc mQ (gc Px (gc Ti aG)))))) func62 ntmps62 (λa _=>aF (N9 a.1 a.2)) (λ_=>by kernel_rfl)
def Tj:SU:=⟨[.st 58, .st 58],[.st 58, .bool],true,false,λ(a:D.aAF×D.aAF)=>gd (a.1.sz<=34359738368/\a.2.sz<=34359738368) (some (gG a.1 a.2))⟩
def Tn:OK 63 Tj:=mkS (.s .n (.s (.s (.rj 4 ⟨[(14,5)],[.dat (.s 18) .bool],[],[]⟩ .n) .n) (.s .n (.s .n (.s .n (.s (.j ⟨[(7,4),(11,118)],[.nt (.c 3 0) 149 true],[],[]⟩ (.s (.l ⟨[(7,4),(11,118)],[.dat (.s 7) i6, .dat (.s 8) i6, .nt (.c 3 0) 149 true],[],[]⟩ FUEL (.s (.s (.rj 6 ⟨[(27,7)],[.dat (.s 33) .bool],[],[]⟩ .n) .n) (.s (.s (.s (.rj 6 ⟨[(71,1),(5,20)],[.dat (.s 71) .bool],[],[]⟩ (.r none (od 26 [22]))) (.s (.s (.r (some 8) (od 11 [7,8,9,10])) .n) (.s (.rj 6 ⟨[(109,1),(5,13)],[.dat (.s 109) .bool],[],[]⟩ (.r none (od 19 [16]))) (.s (.s (.r (some 8) (od 11 [7,8,9,10])) .n) (.s .n (.s .n (.s (.j ⟨[(44,17)],[.dat (.c 5 0) i6, .dat (.c 5 1) i6, .dat (.c 5 2) i6, .dat (.c 5 3) .bool],[],[]⟩ (.s (.rj 6 ⟨[(49,11)],[.dat (.s 59) .bool],[],[]⟩ .n) .n)) .n))))))) .n) .n))) .n)) .n)))))) [.cell 4 58, .tmp 5] (gc Ir (gc Ba (gc yM aG))) func63 ntmps63 (λa _=>aF (Rc a.1 a.2)) (λ_=>by kernel_rfl)
def Y7:SU:=⟨[.st 60, .sl 165, .st 29, .st 69],[.st 60,i6],true,false,λ(a:D.Device×(List D.aAC)×D.aAE×D.aAA)=>gd (a.1.sz<=34359738368/\a.2.1.length<=34359738368/\a.2.2.1.sz<=34359738368/\a.2.2.2.Data.length<=34359738200) (some (bO a.1 a.2.1 a.2.2.1 a.2.2.2))⟩
def Y8:OK 24 Y7:=mkS (.s .n (.s .n (.s (.s (.rj 4 ⟨[(23,7)],[.dat (.s 29) .bool],[],[]⟩ .n) .n) (.s bKh (.s .n (.s .n (.s bKo (.s bKn (.s .n (.s .n (.s .n (.s .n bJ9)))))))))))) [.cell 8 60, .tmp 9] (gc Bb (gc Es (gc Y3 (gc Ep (gc Tf (gc Zm (gc aLt (gc Kk (gc Y6 (gc Tn (gc yJ aG))))))))))) func24 ntmps24 (λa _=>aF (O1 a.1 a.2.1 a.2.2.1 a.2.2.2)) (λ_=>by kernel_rfl)
def aLz:SU:=⟨[.st 41,i6,i6],[.st 41,i6],true,false,λ(a:D.World×Int×Int)=>gd (a.1.sz<=34359738100) (some (aH a.1 a.2.1 a.2.2))⟩
def aL0:OK 7 aLz:=mkS (.s .n (.s .n (.s (.s (.rj 4 ⟨[(18,6)],[.dat (.s 23) .bool],[],[]⟩ .n) .n) (.s .n (.s (.y false (some 16) (some 17) (od 19 [12,16,17])) .n))))) [.cell 6 41, .tmp 7] (gc aDb (gc Td (gc aDh (gc Zq (gc Y8 aG))))) func7 ntmps7 (λa _=>aF (aKc a.1 a.2.1 a.2.2)) (λ_=>by kernel_rfl)
def aL1:SU:=⟨[.sl 165, .sl 165],[.bool],false,false,λ(a:(List D.aAC)×(List D.aAC))=>gd (nI a.1.length a.1 a.2/\a.1.length<=34359738368) (some true)⟩
def Py:OK 74 aL1:=mkS (.s .n (.s (.rj 6 ⟨[(4,1),(5,5)],[.dat (.s 4) .bool],[],[]⟩ .n) .n)) [.tmp 4] (gc lH aG) func74 ntmps74 (λa _=>aF (aKj a.1 a.2)) (λ_=>by kernel_rfl)
def Tq:SU:=⟨[.st 58, .st 58],[.bool],false,false,λ(a:D.aAF×D.aAF)=>gd (nI a.1.sz a.1 a.2/\a.1.sz<=34359738368) (some true)⟩
def Tt:OK 40 Tq:=mkS bJ7 [.tmp 4] aG func40 ntmps40 (λa _=>aF (Ru a.1 a.2)) (λ_=>by kernel_rfl)
def Tu:SU:=⟨[.st 60, .st 60],[.bool],false,false,λ(a:D.Device×D.Device)=>gd (nI a.1.sz a.1 a.2/\a.1.sz<=34359738368) (some true)⟩
def Tv:OK 28 Tu:=mkS (.s .n (.s (.rj 6 ⟨[(4,1),(5,35)],[.dat (.s 4) .bool],[],[]⟩ .n) .n)) [.tmp 4] (gc Py (gc Tt aG)) func28 ntmps28 (λa _=>aF (Rv a.1 a.2)) (λ_=>by kernel_rfl)
def Y9:SU:=⟨[.st 80, .st 80],[.bool],false,false,λ(a:D.aAD×D.aAD)=>gd (nI a.1.sz a.1 a.2/\a.1.sz<=34359738368) (some true)⟩
def Z0:OK 75 Y9:=mkS bMs [.tmp 4] aG func75 ntmps75 (λa _=>aF (Q4 a.1 a.2)) (λ_=>by kernel_rfl)
def aDm:SU:=⟨[.sl 3, .sl 3],[.bool],false,false,λ(a:(List Int)×(List Int))=>gd (nI a.1.length a.1 a.2/\a.1.length<=34359738368) (some true)⟩
def aDn:OK 76 aDm:=mkS bJ8 [.tmp 4] aG func76 ntmps76 (λa _=>aF (aCc a.1 a.2)) (λ_=>by kernel_rfl)
def Pz:SU:=⟨[.st 127, .st 127],[.bool],false,false,λ(a:D.aAH×D.aAH)=>gd (nI a.1.sz a.1 a.2/\a.1.sz<=34359738368) (some true)⟩
def Qa:OK 77 Pz:=mkS bMs [.tmp 4] aG func77 ntmps77 (λa _=>aF (Ou a.1 a.2)) (λ_=>by kernel_rfl)
def Z4:SU:=⟨[.st 83, .st 83],[.bool],false,false,λ(a:D.Site×D.Site)=>gd (nI a.1.sz a.1 a.2/\a.1.sz<=34359738368) (some true)⟩
def Z5:OK 29 Z4:=mkS (.s .n (.s (.s (.rj 6 ⟨[(11,25)],[.dat (.s 35) .bool],[],[]⟩ .n) .n) (.s (.jx ⟨[(4,2),(30,19)],[],[],[]⟩ (.s .n (.s (.l ⟨[(4,2),(30,19)],[.nat (.s 5)],[],[]⟩ FUEL bGq) .n))) .n))) [.tmp 4] (gc Z0 (gc aDn (gc Qa aG))) func29 ntmps29 (λa _=>aF (Q5 a.1 a.2)) (λ_=>by kernel_rfl)
def Z6:SU:=⟨[.st 186, .st 186],[.bool],false,false,λ(a:D.Box×D.Box)=>gd (nI a.1.sz a.1 a.2/\aQ a.1.Data) (some true)⟩
def Z7:OK 142 Z6:=mkS bKk [.tmp 4] (gc pY aG) func142 ntmps142 (λa _=>aF (Q6 a.1 a.2)) (λ_=>by kernel_rfl)
def Gt:SU:=⟨[.st 29, .st 29],[.bool],false,false,λ(a:D.aAE×D.aAE)=>gd (nI a.1.sz a.1 a.2/\(a.1.sz<=34359738368/\aRw a.1)) (some true)⟩
def Gu:OK 78 Gt:=mkS (.s .n (.s (.s (.rj 6 ⟨[(11,9)],[.dat (.s 19) .bool],[],[]⟩ .n) .n) (.s (.jx ⟨[(4,2),(14,19)],[],[],[]⟩ (.s .n (.s (.l ⟨[(4,2),(14,19)],[.nat (.s 5)],[],[]⟩ FUEL bGq) .n))) .n))) [.tmp 4] (gc Z7 aG) func78 ntmps78 (λa _=>aF (Gn a.1 a.2)) (λ_=>by kernel_rfl)
def Zv:SU:=⟨[.st 69, .st 69],[.bool],false,false,λ(a:D.aAA×D.aAA)=>gd (nI a.1.sz a.1 a.2/\aQ a.1.Data) (some true)⟩
def Zw:OK 79 Zv:=mkS bKk [.tmp 4] (gc pY aG) func79 ntmps79 (λa _=>aF (Xn a.1 a.2)) (λ_=>by kernel_rfl)
def Zx:SU:=⟨[.st 32, .st 32],[.bool],false,false,λ(a:D.aAB×D.aAB)=>gd (nI a.1.sz a.1 a.2/\(a.1.sz<=34359738368/\tL a.1)) (some true)⟩
def Zy:OK 30 Zx:=mkS (.s .n (.s (.s (.rj 7 ⟨[(12,17)],[.dat (.s 28) .bool],[],[]⟩ .n) .n) (.s (.jx ⟨[(4,2),(23,19)],[],[],[]⟩ (.s .n (.s (.l ⟨[(4,2),(23,19)],[.nat (.s 5)],[],[]⟩ FUEL bGq) .n))) .n))) [.tmp 4] (gc Py (gc Gu (gc Zw aG))) func30 ntmps30 (λa _=>aF (Xo a.1 a.2)) (λ_=>by kernel_rfl)
def Z8:SU:=⟨[.st 137, .st 137],[.bool],false,false,λ(a:D.aAG×D.aAG)=>gd (nI a.1.sz a.1 a.2/\a.1.sz<=34359738368) (some true)⟩
def Z9:OK 80 Z8:=mkS bMs [.tmp 4] aG func80 ntmps80 (λa _=>aF (Q7 a.1 a.2)) (λ_=>by kernel_rfl)
def Gv:SU:=⟨[.sl 137, .sl 137],[.bool],false,false,λ(a:(List D.aAG)×(List D.aAG))=>gd (nI (G6 D.aAG.sz a.1) a.1 a.2/\G6 D.aAG.sz a.1<=34359738368) (some true)⟩
def Gw:OK 31 Gv:=mkS (.s .n (.s .n (.s (.jx ⟨[(4,2),(5,16)],[],[],[]⟩ (.s .n (.s (.l ⟨[(4,2),(5,16)],[.nat (.s 5)],[],[]⟩ FUEL (.s .n (.s (.s (.s (.r none (od 10 [8])) .n) .n) .n))) .n))) .n))) [.tmp 4] (gc Z9 aG) func31 ntmps31 (λa _=>aF (Gp a.1 a.2)) (λ_=>by kernel_rfl)
def Kl:SU:=⟨[.st 39, .st 39],[.bool],false,false,λ(a:D.aAJ×D.aAJ)=>gd (nI a.1.sz a.1 a.2/\a.1.sz<=34359738368) (some true)⟩
def Km:OK 32 Kl:=mkS bJ7 [.tmp 4] aG func32 ntmps32 (λa _=>aF (Jm a.1 a.2)) (λ_=>by kernel_rfl)
def Zz:SU:=⟨[.st 41, .st 41],[.bool],false,false,λ(a:D.World×D.World)=>gd (nI a.1.sz a.1 a.2/\(a.1.sz<=34359738368/\tL a.1.aAB)) (some true)⟩
def d9:OK 9 Zz:=mkS (.s .n (.s (.s (.rj 6 ⟨[(13,48)],[.dat (.s 60) .bool],[],[]⟩ .n) .n) (.s (.jx ⟨[(4,2),(55,19)],[],[],[]⟩ (.s .n (.s (.l ⟨[(4,2),(55,19)],[.nat (.s 5)],[],[]⟩ FUEL bGq) .n))) (.s (.jx ⟨[(4,1),(1,1),(73,18)],[],[],[]⟩ (.s .n (.s (.l ⟨[(4,1),(1,1),(73,18)],[.nat (.s 6)],[],[]⟩ FUEL (.s .n (.s (.s (.s (.r none (od 11 [])) .n) .n) .n))) .n))) (.s (.jx ⟨[(4,1),(2,1),(90,19)],[],[],[]⟩ (.s .n (.s (.l ⟨[(4,1),(2,1),(90,19)],[.nat (.s 7)],[],[]⟩ FUEL bGq) .n))) (.s (.rj 6 ⟨[(4,1),(117,14)],[.dat (.s 4) .bool],[],[]⟩ .n) .n)))))) [.tmp 4] (gc Tv (gc Z5 (gc Zy (gc Gw (gc Km aG))))) func9 ntmps9 (λa _=>aF (Xp a.1 a.2)) (λ_=>by kernel_rfl)
def uX:SU:=⟨[.sl 5],[.bool],false,false,λ(a:(List Int))=>gd (aRv a) (some true)⟩
def Tw:OK 3 uX:=mkS (.s .n (.s .n (.s .n (.s .n (.s .n (.s (.s (.rj 4 ⟨[(37,16)],[.dat (.s 52) .bool],[],[]⟩ .n) .n) .n)))))) [.tmp 2] (gc aYd (gc Za (gc aL0 (gc mE (gc d9 aG))))) func3 ntmps3 (λ(a:(List Int)) _=>aF (Rw a)) (λ_=>by kernel_rfl)
end
end Go.VK
