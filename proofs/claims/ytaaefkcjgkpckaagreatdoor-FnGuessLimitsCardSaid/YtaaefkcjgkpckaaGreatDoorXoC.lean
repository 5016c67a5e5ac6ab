import Derived.Test.YtaaefkcjgkpckaaGreatDoorXoH
import Derived.Test.YtaaefkcjgkpckaaGreatDoorXoL
import Derived.Test.YtaaefkcjgkpckaaGreatDoorXoQ
import Derived.Test.YtaaefkcjgkpckaaGreatDoorXoPz
import Derived.Test.YtaaefkcjgkpckaaGreatDoorLKatot
/- Printed by wip/tools: models, walks, proofs. -/
set_option linter.unusedVariables false
set_option linter.unusedSimpArgs false
set_option maxRecDepth 100000
set_option maxHeartbeats 4000000
namespace Go.VK
open Go.RowKit Go.Proofs Tryz
noncomputable section
def i6:EV.Kd:= .int .i64
def bI6:EV.An:=(.s .n (.s .n (.s .n (.s (.j ⟨[(9,1),(2,17)],[.dat (.s 9) i6],[],[]⟩ (.s (.l ⟨[(9,1),(2,17)],[.dat (.s 9) i6],[],[]⟩ FUEL (.s (.s (.rj 6 ⟨[(17,10)],[.dat (.s 26) .bool],[],[]⟩ .n) .n) .n)) .n)) (.s (.y true (some 9) (some 17) [(1,true),(2,true),(3,true),(4,true),(6,true),(7,true),(8,true),(11,true),(12,true),(13,true),(14,true),(0,false),(5,false),(9,false),(10,false),(15,false),(16,false),(17,false)]) (.s (.s (.rj 4 ⟨[(49,5)],[.dat (.s 53) .bool],[],[]⟩ .n) .n) .n))))))
def bHo:EV.An:=(.s .n (.s (.s (.rj 6 ⟨[(11,16)],[.dat (.s 26) .bool],[],[]⟩ .n) .n) (.s (.jx ⟨[(4,2),(21,18)],[],[],[]⟩ (.s .n (.s (.l ⟨[(4,2),(21,18)],[.nat (.s 5)],[],[]⟩ FUEL (.s .n (.s (.s (.s (.r none (od 11 [])) .n) .n) .n))) .n))) .n)))
def bI7:EV.An:=(.s .n (.s .n (.s (.j ⟨[(0,2),(3,16)],[.dat (.s 5) i6],[],[]⟩ (.s (.l ⟨[(0,2),(3,16)],[.dat (.s 0) i6, .dat (.s 1) i6, .dat (.s 5) i6],[],[]⟩ FUEL (.s .n (.s (.s (.j ⟨[(5,1),(2,7)],[.dat (.s 5) i6],[],[]⟩ .n) .n) .n))) .n)) .n)))
def bEh:EV.An:=(.s .n (.s .n (.s (.s (.s .n (.r (some 5) (od 8 [3,4,5,6,7]))) .n) .n)))
def bB7:EV.An:=(.s .n (.s (.s (.s (.r none (od 12 [10])) .n) .n) .n))
def bEi:EV.An:=(.s .n (.s (.s (.s (.r none (od 9 [])) .n) .n) .n))
def bKh:EV.An:=(.y true none (some 13) [(1,true),(2,true),(3,true),(4,true),(6,true),(7,true),(8,true),(9,true),(10,true),(0,false),(5,false),(11,false),(12,false),(13,false)])
def bI8:EV.An:=(.s .n (.s (.y false (some 5) (some 9) [(0,true),(1,true),(2,true),(3,true),(4,true),(6,true),(7,true),(8,false),(5,false),(9,false),(10,false),(11,true)]) .n))
def bFa:EV.An:=(.s .n (.s .n (.s (.jx ⟨[(4,2),(7,18)],[],[],[]⟩ (.s .n (.s (.l ⟨[(4,2),(7,18)],[.nat (.s 5)],[],[]⟩ FUEL (.s .n (.s (.s (.s (.r none (od 11 [])) .n) .n) .n))) .n))) .n)))
def aV8:EV.An:=(.s .n (.s (.s (.r (some 9) (od 12 [7,8,9,10,11])) .n) .n))
def bFb:EV.An:=(.s (.r none [(0,true),(1,true),(2,true),(4,true),(5,true),(3,false),(6,false),(7,false),(8,true),(9,true),(10,true),(11,true),(12,true)]) .n)
def bFc:EV.An:=(.s .n (.s (.s (.s (.r none [(0,true),(1,true),(2,true),(3,true),(5,true),(6,true),(7,true),(8,true),(4,false),(9,false),(10,true)]) .n) .n) .n))
def bFd:EV.An:=(.s .n (.s .n (.s (.j ⟨[(7,19)],[.dat (.s 7) i6],[],[]⟩ (.s .n (.s (.l ⟨[(7,2),(3,14)],[.dat (.s 7) i6, .dat (.s 8) i6],[],[]⟩ FUEL .n) .n))) .n)))
def bFe:EV.An:=(.s .n (.s (.y true none (some 9) [(0,true),(1,true),(2,true),(3,true),(5,true),(6,true),(4,false),(7,false),(8,false),(9,false)]) .n))
def bB8:EV.An:=(.s .n (.s (.s (.rj 4 ⟨[(8,5)],[.dat (.s 12) .bool],[],[]⟩ .n) .n) .n))
def bFf:EV.An:=(.y false (some 9) (some 10) (od 12 [4,5,9,10]))
def bFg:EV.An:=(.s .n (.s .n (.s (.jx ⟨[(4,2),(5,15)],[],[],[]⟩ (.s .n (.s (.l ⟨[(4,2),(5,15)],[.nat (.s 5)],[],[]⟩ FUEL bEi) .n))) .n)))
def bFh:EV.An:=(.y false (some 7) (some 8) [(0,true),(1,true),(3,true),(4,true),(2,false),(5,false),(6,true),(7,false),(8,false)])
def bFi:EV.An:=(.s .n (.s (.s (.s .n (.s (.rj 5 ⟨[(21,28)],[.dat (.s 48) .bool],[],[]⟩ (.r none (od 32 [2,7,13]))) .n)) .n) .n))
def bI9:EV.An:=(.s .n (.s (.r none [(0,true),(1,true),(2,true),(4,true),(3,false),(5,false),(6,false),(7,true)]) .n))
def bFj:EV.An:=(.s .n (.s (.s (.r none [(0,true),(1,true),(2,true),(4,true),(5,true),(3,false),(6,true)]) .n) .n))
def bJa:EV.An:=(.s .n (.s (.jx ⟨[(4,18)],[],[],[]⟩ (.s .n (.s (.l ⟨[(4,18)],[.nat (.s 5)],[],[]⟩ FUEL .n) .n))) .n))
def bFk:EV.An:=(.s (.r none [(0,true),(1,true),(3,true),(4,true),(2,false),(5,true)]) .n)
def bFl:EV.An:=(.s .n (.s .n (.s (.rj 3 ⟨[(6,1),(5,7)],[.dat (.s 6) .bool],[],[]⟩ .n) .n)))
def bJb:EV.An:=(.s (.il 0 (.s (.y false (some 13) (some 14) (od 16 [9,13,14])) .n) .n) .n)
def bFm:EV.An:=(.s .n (.s (.s (.rj 4 ⟨[(8,10)],[.dat (.s 17) .bool],[],[]⟩ .n) .n) .n))
def bFn:EV.An:=(.s .n (.s (.rj 5 ⟨[(2,1),(4,17)],[.dat (.s 2) .bool],[],[]⟩ .n) .n))
def bFo:EV.An:=(.s .n (.s (.rj 6 ⟨[(4,1),(5,21)],[.dat (.s 4) .bool],[],[]⟩ .n) .n))
def bFp:EV.An:=(.s .n (.s (.rj 4 ⟨[(6,1),(3,5)],[.dat (.s 6) .bool],[],[]⟩ .n) .n))
def bFq:EV.An:=(.s .n (.s (.rj 3 ⟨[(2,1),(2,5)],[.dat (.s 2) .bool],[],[]⟩ .n) .n))
def bFr:EV.An:=(.s .n (.s (.s (.y false none (some 15) (od 16 [10,15])) .n) .n))
def bJc:EV.An:=(.s .n (.s .n (.s .n (.s (.w [1,2] (od 5 [2,3,4])) .n))))
def bJd:EV.An:=(.s (.r (some 7) (od 8 [7])) .n)
def aT3:SU:=⟨[.sl 5],[.bool],false,false,fun(a:(List Int))=>some (bA9 a)⟩
theorem aT4:OK 6 aT3:=mkS .n [.tmp 2] aC func6 ntmps6 (fun a _=>(aT0 a).trans) (fun _=>by kernel_rfl)
def aYl:SU:=⟨[.sl 5,i6],[i6],false,false,fun(a:(List Int)×Int)=>gd (0≤a.2) (some (atF a.1 a.2))⟩
theorem aYm:OK 8 aYl:=mkS .n [.tmp 4] aC func8 ntmps8 (fun a _=>aF (aYj a.1 a.2)) (fun _=>by kernel_rfl)
def aRw:SU:=⟨[i6,i6,i6],[.bool],false,false,fun(a:Int×Int×Int)=>some (aW a.1 a.2.1 a.2.2)⟩
theorem bE:OK 31 aRw:=mkS bFp [.tmp 6] aC func31 ntmps31 (fun a _=>(aRo a.1 a.2.1 a.2.2).trans) (fun _=>by kernel_rfl)
def w9:SU:=⟨[i6],[.bool],false,false,fun(a:Int)=>some (bJ a)⟩
theorem bS:OK 32 w9:=mkS .n [.tmp 2] (gc bE aC) func32 ntmps32 (fun a _=>(Yt a).trans) (fun _=>by kernel_rfl)
def aT5:SU:=⟨[i6,i6],[i6],false,false,fun(a:Int×Int)=>some (aZ a.1 a.2)⟩
theorem jW:OK 115 aT5:=mkS .n [.tmp 4] (gc bE aC) func115 ntmps115 (fun a _=>(aTr a.1 a.2).trans) (fun _=>by kernel_rfl)
def aRx:SU:=⟨[.sl 3],[i6],false,false,fun(a:(List Int))=>gd (a.length≤1099511627776) (some (rT a))⟩
theorem aCo:OK 178 aRx:=mkS (.s .n (.s .n (.s (.j ⟨[(3,18)],[.dat (.s 3) i6],[],[]⟩ (.s .n (.s (.l ⟨[(3,18)],[.dat (.s 3) i6, .nat (.s 4)],[],[]⟩ FUEL .n) .n))) .n))) [.tmp 2] (gc jW aC) func178 ntmps178 (fun(a:(List Int)) _=>aF (aRp a)) (fun _=>by kernel_rfl)
def aAc:SU:=⟨[i6, .sl 3],[i6],false,false,fun(a:Int×(List Int))=>gd (a.2.length≤34359738368) (some (aX a.1 a.2))⟩
theorem dL:OK 113 aAc:=mkS .n [.tmp 4] (gc aCo aC) func113 ntmps113 (fun a _=>aF (U7 a.1 a.2)) (fun _=>by kernel_rfl)
def aT6:SU:=⟨[i6,i6],[i6],false,false,fun(a:Int×Int)=>some (Rx a.1 a.2)⟩
theorem Dh:OK 13 aT6:=mkS .n [.tmp 4] aC func13 ntmps13 (fun a _=>(aTt a.1 a.2).trans) (fun _=>by kernel_rfl)
def aAd:SU:=⟨[i6, .sl 3],[i6],false,false,fun(a:Int×(List Int))=>gd (a.2.length≤34359738300) (some (aK a.1 a.2))⟩
theorem dS:OK 47 aAd:=mkS .n [.tmp 4] (gc dL (gc Dh aC)) func47 ntmps47 (fun a _=>aF (U9 a.1 a.2)) (fun _=>by kernel_rfl)
def x8:SU:=⟨[i6,i6],[.st 69],false,false,fun(a:Int×Int)=>some (aJ a.1 a.2)⟩
theorem x9:OK 34 x8:=mkS .n [.cell 4 69] (gc dS aC) func34 ntmps34 (fun a _=>(Zn a.1 a.2).trans) (fun _=>by kernel_rfl)
def aAe:SU:=⟨[.st 69],[.st 74],true,false,fun(a:D.aAI)=>some (bQ a)⟩
theorem aAf:OK 33 aAe:=mkS .n [.cell 2 74] aC func33 ntmps33 (fun a _=>(Y6 a).trans) (fun _=>by kernel_rfl)
def aAg:SU:=⟨[.st 69],[i6],false,false,fun(a:D.aAI)=>some (gW a)⟩
theorem pY:OK 91 aAg:=mkS .n [.tmp 2] (gc dS aC) func91 ntmps91 (fun a _=>(V5 a).trans) (fun _=>by kernel_rfl)
def aAh:SU:=⟨[i6],[i6],false,false,fun(a:Int)=>some (fC a)⟩
theorem lG:OK 90 aAh:=mkS .n [.tmp 2] (gc bS aC) func90 ntmps90 (fun a _=>(V4 a).trans) (fun _=>by kernel_rfl)
def Ox:SU:=⟨[.st 69],[i6],false,false,fun(a:D.aAI)=>some (bN a)⟩
theorem lV:OK 36 Ox:=mkS .n [.tmp 2] (gc pY (gc lG aC)) func36 ntmps36 (fun a _=>(Nv a).trans) (fun _=>by kernel_rfl)
def aAi:SU:=⟨[.st 154],[i6],false,false,fun(a:D.aAB)=>some (bL a)⟩
theorem qA:OK 88 aAi:=mkS .n [.tmp 2] (gc aCo aC) func88 ntmps88 (fun a _=>(X6 a).trans) (fun _=>by kernel_rfl)
def aIf:SU:=⟨[.sl 154],[i6],false,false,fun(a:(List D.aAB))=>gd (a.length≤34359738368) (some (fD a))⟩
theorem La:OK 86 aIf:=mkS .n [.tmp 2] (gc qA aC) func86 ntmps86 (fun(a:(List D.aAB)) _=>aF (aHv a)) (fun _=>by kernel_rfl)
def Ue:SU:=⟨[i6, .sl 3],[i6],false,false,fun(a:Int×(List Int))=>gd (a.2.length≤34359738300) (some (zG a.1 a.2))⟩
theorem vR:OK 177 Ue:=mkS .n [.tmp 4] (gc bS (gc dL aC)) func177 ntmps177 (fun a _=>aF (Sq a.1 a.2)) (fun _=>by kernel_rfl)
def Oy:SU:=⟨[.st 69, .sl 3],[i6],false,false,fun(a:D.aAI×(List Int))=>gd (a.2.length≤34359738300) (some (nJ a.1 a.2))⟩
theorem Oz:OK 87 Oy:=mkS .n [.tmp 4] (gc pY (gc vR aC)) func87 ntmps87 (fun a _=>aF (Oj a.1 a.2)) (fun _=>by kernel_rfl)
def aIg:SU:=⟨[.sl 154],[.sl 154],true,false,fun(a:(List D.aAB))=>gd (a.length≤34359738368) (some (a))⟩
theorem jN:OK 89 aIg:=mkS .n [.tmp 2] aC func89 ntmps89 (fun(a:(List D.aAB)) _=>aF (aHi a)) (fun _=>by kernel_rfl)
def aKl:SU:=⟨[.sl 3,i6],[.bool],false,false,fun(a:(List Int)×Int)=>gd (a.1.length≤1099511627776) (some (fV a.1 a.2))⟩
theorem yR:OK 151 aKl:=mkS (.s .n (.s (.jx ⟨[(4,14)],[],[],[]⟩ (.s .n (.s (.l ⟨[(4,14)],[.nat (.s 5)],[],[]⟩ FUEL .n) .n))) .n)) [.tmp 4] aC func151 ntmps151 (fun a _=>aF (aJ8 a.1 a.2)) (fun _=>by kernel_rfl)
def aAj:SU:=⟨[.sl 154],[.sl 3],true,false,fun(a:(List D.aAB))=>gd (a.length≤34359738368) (some (aB a))⟩
theorem lH:OK 94 aAj:=mkS (.s .n (.s .n (.s (.j ⟨[(3,5),(1,56)],[.tr (.s 3) 0 3 true],[],[]⟩ (.s .n (.s (.l ⟨[(3,5),(1,56)],[.tr (.s 3) 0 3 true, .nat (.s 4)],[],[]⟩ FUEL (.s .n (.s (.j ⟨[(3,1),(1,3),(7,50)],[.tr (.s 3) 0 3 true],[],[]⟩ (.s (.s .n (.s (.s (.rj 7 ⟨[(20,1),(6,6)],[.dat (.s 20) .bool],[],[]⟩ .n) (.s .n (.s .n (.s (.s .n (.s (.j ⟨[(6,2),(37,19)],[.tr (.s 6) 1 3 true],[],[]⟩ (.s .n (.s (.l ⟨[(6,2),(37,19)],[.tr (.s 6) 1 3 true, .nat (.s 7)],[],[]⟩ FUEL (.s .n (.s (.j ⟨[(6,1),(44,13)],[.tr (.s 6) 1 3 true],[],[]⟩ .n) .n))) .n))) .n)) .n)))) .n)) .n)) .n))) .n))) .n))) [.tmp 2] (gc yR aC) func94 ntmps94 (fun(a:(List D.aAB)) _=>aF (V6 a)) (fun _=>by kernel_rfl)
def aIh:SU:=⟨[i6,i6],[i6],false,false,fun(a:Int×Int)=>nN a.1 a.2⟩
theorem aIi:OK 287 aIh:=mkS bI7 [.tmp 4] aC func287 ntmps287 (fun _ _=>id) (fun _=>by kernel_rfl)
def y7:SU:=⟨[i6],[i6],false,false,fun(a:Int)=>some (dW a)⟩
theorem nV:OK 236 y7:=mkS .n [.tmp 2] (gc bE (gc aIi (gc lG aC))) func236 ntmps236 (fun a _=>(Yy a).trans) (fun _=>by kernel_rfl)
def Di:SU:=⟨[i6, .sl 3,i6],[.bool],false,false,fun(a:Int×(List Int)×Int)=>gd (a.2.1.length≤34359738300) (some (gY a.1 a.2.1 a.2.2))⟩
theorem Dj:OK 253 Di:=mkS bFl [.tmp 6] (gc nV (gc vR aC)) func253 ntmps253 (fun a _=>aF (Cz a.1 a.2.1 a.2.2)) (fun _=>by kernel_rfl)
def aIj:SU:=⟨[.sl 154, .st 154],[.bool],false,false,fun(a:(List D.aAB)×D.aAB)=>gd (a.1.length≤34359738368) (some (kJ a.1 a.2))⟩
theorem aIk:OK 176 aIj:=mkS (.s .n (.s .n (.s (.rj 5 ⟨[(6,1),(7,12)],[.dat (.s 6) .bool],[],[]⟩ .n) (.s (.s (.rj 6 ⟨[(31,22)],[.dat (.s 52) .bool],[],[]⟩ (.r none [(0,true),(1,true),(2,true),(3,true),(4,true),(5,true),(6,true),(7,true),(8,true),(9,false),(10,true),(11,true),(12,true),(13,true),(14,true),(15,true),(16,true),(17,true),(18,true),(19,true),(22,true),(23,true),(20,false),(21,false),(24,false),(25,true),(26,true)])) .n) (.s (.s .n (.s (.s (.rj 5 ⟨[(4,1),(55,5)],[.dat (.s 4) .bool],[],[]⟩ .n) .n) .n)) (.s (.jx ⟨[(4,1),(2,1),(57,22)],[],[],[]⟩ (.s .n (.s (.l ⟨[(4,1),(2,1),(57,22)],[.nat (.s 7)],[],[]⟩ FUEL (.s .n (.s (.s (.s (.rj 7 ⟨[(77,10)],[.dat (.s 86) .bool],[],[]⟩ (.r none (od 16 []))) .n) .n) .n))) .n))) (.s (.rj 4 ⟨[(4,1),(85,12)],[.dat (.s 4) .bool],[],[]⟩ .n) .n))))))) [.tmp 4] (gc lH (gc yR (gc La (gc qA (gc Dj aC))))) func176 ntmps176 (fun a _=>aF (aH0 a.1 a.2)) (fun _=>by kernel_rfl)
def aAk:SU:=⟨[.sl 154],[.bool],false,false,fun(a:(List D.aAB))=>gd (a.length≤34359738368) (some (aT a))⟩
theorem gP:OK 85 aAk:=mkS (.s .n (.s (.jx ⟨[(2,17)],[],[],[]⟩ (.s .n (.s (.l ⟨[(2,17)],[.nat (.s 3)],[],[]⟩ FUEL (.s .n (.s (.s (.s (.r none (od 9 [7])) .n) .n) .n))) .n))) .n)) [.tmp 2] (gc aIk (gc bE aC)) func85 ntmps85 (fun(a:(List D.aAB)) _=>aF (X8 a)) (fun _=>by kernel_rfl)
def Uf:SU:=⟨[.sl 154,i6,i6, .st 69],[.sl 154, .bool],true,false,fun(a:(List D.aAB)×Int×Int×D.aAI)=>gd (a.1.length≤34359738300) (some (kK a.1 a.2.1 a.2.2.1 a.2.2.2))⟩
theorem Ug:OK 35 Uf:=mkS (.s .n (.s .n (.s (.r (some 6) (od 7 [2,3,4,6])) (.s (.y false (some 3) (some 4) [(0,true),(2,true),(1,false),(3,false),(4,false),(5,true)]) (.s (.s (.rj 4 ⟨[(35,10)],[.dat (.s 44) .bool],[],[]⟩ .n) .n) .n))))) [.tmp 8, .tmp 9] (gc lV (gc La (gc qA (gc Oz (gc jN (gc gP aC)))))) func35 ntmps35 (fun a _=>aF (Tn a.1 a.2.1 a.2.2.1 a.2.2.2)) (fun _=>by kernel_rfl)
def aDt:SU:=⟨[i6,i6],[i6],false,false,fun(a:Int×Int)=>some (bI a.1 a.2)⟩
theorem aDu:OK 37 aDt:=mkS .n [.tmp 4] (gc dS aC) func37 ntmps37 (fun a _=>(aDm a.1 a.2).trans) (fun _=>by kernel_rfl)
def aIl:SU:=⟨[.sl 154],[i6],false,false,fun(a:(List D.aAB))=>gd (a.length≤34359738368) (some (aN a))⟩
theorem kU:OK 92 aIl:=mkS (.s .n (.s .n (.s (.j ⟨[(3,16)],[.dat (.s 3) i6],[],[]⟩ (.s .n (.s (.l ⟨[(3,16)],[.dat (.s 3) i6, .nat (.s 4)],[],[]⟩ FUEL (.s .n (.s (.j ⟨[(3,1),(7,8)],[.dat (.s 3) i6],[],[]⟩ .n) .n))) .n))) .n))) [.tmp 2] aC func92 ntmps92 (fun(a:(List D.aAB)) _=>aF (aH2 a)) (fun _=>by kernel_rfl)
def Lb:SU:=⟨[.sl 5,i6],[.sl 5],true,false,fun(a:(List Int)×Int)=>gd (a.1.length≤34359738300) (some (Ip a.1 a.2))⟩
theorem Lc:OK 180 Lb:=mkS (.s .n (.s .n (.s .n (.s (.j ⟨[(1,1),(3,1),(7,11)],[.dat (.s 1) i6, .tr (.s 5) 0 5 true],[],[]⟩ (.s (.l ⟨[(1,1),(3,1),(7,11)],[.dat (.s 1) i6, .tr (.s 5) 0 5 true],[],[]⟩ FUEL .n) .n)) .n)))) [.tmp 4] (gc bE aC) func180 ntmps180 (fun a _=>aF (Ko a.1 a.2)) (fun _=>by kernel_rfl)
def y9:SU:=⟨[.sl 3],[.sl 5],true,false,fun(a:(List Int))=>gd (a.length≤5000000000) (some (jY a))⟩
theorem yF:OK 95 y9:=mkS (.s .n (.s .n (.s (.j ⟨[(3,2),(1,12)],[.tr (.s 3) 0 5 true],[],[]⟩ (.s .n (.s (.l ⟨[(3,2),(1,12)],[.tr (.s 3) 0 5 true, .nat (.s 4)],[],[]⟩ FUEL .n) .n))) .n))) [.tmp 2] (gc Lc aC) func95 ntmps95 (fun(a:(List Int)) _=>aF (Zi a)) (fun _=>by kernel_rfl)
def aKm:SU:=⟨[i6,i6],[i6],false,false,fun(a:Int×Int)=>some (jB a.1 a.2)⟩
theorem Re:OK 254 aKm:=mkS .n [.tmp 4] (gc dS aC) func254 ntmps254 (fun a _=>(aKf a.1 a.2).trans) (fun _=>by kernel_rfl)
def aIm:SU:=⟨[i6, .sl 5],[.sl 5],true,false,fun(a:Int×(List Int))=>gd (aR a.2) (some (oG a.1 a.2))⟩
theorem Ld:OK 192 aIm:=mkS (.s .n (.s .n (.s (.j ⟨[(5,2),(1,22)],[.tr (.s 5) 0 5 true],[],[]⟩ (.s .n (.s (.l ⟨[(5,2),(1,22)],[.tr (.s 5) 0 5 true, .nat (.s 6)],[],[]⟩ FUEL (.s .n (.s (.s (.r (some 15) (od 17 [8,9,14,15,16])) .n) .n))) .n))) .n))) [.tmp 4] (gc dL aC) func192 ntmps192 (fun a _=>aF (aH8 a.1 a.2)) (fun _=>by kernel_rfl)
def Uh:SU:=⟨[.sl 5],[.sl 3],true,false,fun(a:(List Int))=>gd (a.length≤34359738360) (some (Ry a))⟩
theorem mV:OK 258 Uh:=mkS (.s .n (.s .n (.s (.j ⟨[(3,2),(3,14)],[.tr (.s 3) 0 3 true],[],[]⟩ (.s .n (.s (.l ⟨[(3,2),(3,14)],[.tr (.s 3) 0 3 true, .nat (.s 4)],[],[]⟩ FUEL .n) .n))) .n))) [.tmp 2] aC func258 ntmps258 (fun(a:(List Int)) _=>aF (Td a)) (fun _=>by kernel_rfl)
def aKn:SU:=⟨[i6, .st 224],[i6],false,false,fun(a:Int×D.Box)=>gd (a.2.Data.length≤34359738200) (some (aJ0 a.1 a.2))⟩
theorem Rf:OK 255 aKn:=mkS bI8 [.tmp 4] (gc mV (gc dL aC)) func255 ntmps255 (fun a _=>aF (aKg a.1 a.2)) (fun _=>by kernel_rfl)
def aIn:SU:=⟨[i6,i6, .sl 5],[.st 224, .bool],true,false,fun(a:Int×Int×(List Int))=>gd (aR a.2.2) (some (eP a.1 a.2.1 a.2.2))⟩
theorem aIo:OK 179 aIn:=mkS (.s .n (.s .n (.s (.s (.rj 3 ⟨[(15,10)],[.dat (.s 24) .bool],[],[]⟩ .n) .n) .n))) [.cell 6 224, .tmp 7] (gc nV (gc bS (gc Re (gc Ld (gc Rf aC))))) func179 ntmps179 (fun a _=>aF (aH9 a.1 a.2.1 a.2.2)) (fun _=>by kernel_rfl)
def aAl:SU:=⟨[.sl 3,i6, .sl 5],[.sl 224, .bool],true,false,fun(a:(List Int)×Int×(List Int))=>gd (a.1.length≤34359738300∧aR a.2.2) (some (dZ a.2.1 a.2.2 0 a.1))⟩
theorem aAm:OK 93 aAl:=mkS (.s .n (.s .n (.s (.jx ⟨[(6,6),(1,25)],[.tr (.s 8) 0 224 true],[],[]⟩ (.s .n (.s (.l ⟨[(6,6),(1,25)],[.tr (.s 8) 0 224 true, .nat (.s 9)],[],[]⟩ FUEL .n) .n))) .n))) [.tmp 6, .tmp 7] (gc aIo aC) func93 ntmps93 (fun a _=>aF (Y7 a.1 a.2.1 a.2.2)) (fun _=>by kernel_rfl)
def Gg:SU:=⟨[.sl 154,i6,i6],[.st 29, .bool],true,false,fun(a:(List D.aAB)×Int×Int)=>gd (a.1.length≤34359738300) (some (bH a.1 a.2.1 a.2.2))⟩
theorem Gh:OK 38 Gg:=mkS (.s .n (.s .n (.s .n (.s (.s (.rj 4 ⟨[(27,9)],[.dat (.s 35) .bool],[],[]⟩ .n) .n) .n)))) [.cell 6 29, .tmp 7] (gc kU (gc lH (gc yF (gc aAm (gc gP (gc bS aC)))))) func38 ntmps38 (fun a _=>aF (Fy a.1 a.2.1 a.2.2)) (fun _=>by kernel_rfl)
def A7:SU:=⟨[.st 29,i6],[i6],false,false,fun(a:D.aAD×Int)=>gd (a.1.Boxes.length≤34359738368) (some (nK a.1 a.2))⟩
theorem A8:OK 181 A7:=mkS (.s .n (.s .n (.s (.j ⟨[(5,19)],[.dat (.s 5) i6],[],[]⟩ (.s .n (.s (.l ⟨[(5,19)],[.dat (.s 5) i6, .nat (.s 6)],[],[]⟩ FUEL (.s .n (.s (.j ⟨[(5,1),(8,10)],[.dat (.s 5) i6],[],[]⟩ .n) .n))) .n))) .n))) [.tmp 4] aC func181 ntmps181 (fun a _=>aF (Zp a.1 a.2)) (fun _=>by kernel_rfl)
def aAn:SU:=⟨[.st 29, .sl 154],[.bool],false,false,fun(a:D.aAD×(List D.aAB))=>gd (a.1.Boxes.length≤34359738368∧a.2.length≤34359738368) (some (iO a.1 a.2))⟩
theorem aAo:OK 96 aAn:=mkS (.s .n (.s .n (.s (.jx ⟨[(4,1),(1,1),(2,13)],[],[],[]⟩ (.s .n (.s (.l ⟨[(4,1),(1,1),(2,13)],[.nat (.s 6)],[],[]⟩ FUEL (.s .n (.s (.s (.s (.r none (od 7 [5])) .n) .n) .n))) .n))) (.s (.rj 6 ⟨[(4,1),(22,8)],[.dat (.s 4) .bool],[],[]⟩ (.r none (od 14 [3]))) .n)))) [.tmp 4] (gc lH (gc A8 (gc kU aC))) func96 ntmps96 (fun a _=>aF (Y8 a.1 a.2)) (fun _=>by kernel_rfl)
def aIp:SU:=⟨[.st 29],[.st 29],true,false,fun(a:D.aAD)=>gd (a.sz≤34359738368) (some (a))⟩
theorem Lg:OK 97 aIp:=mkS (.s .n (.s .n (.s (.j ⟨[(4,2),(3,27)],[.nt (.c 2 1) 224 true],[],[]⟩ (.s .n (.s (.l ⟨[(4,2),(3,27)],[.nat (.s 4), .nt (.c 2 1) 224 true],[],[]⟩ FUEL .n) .n))) .n))) [.cell 2 29] aC func97 ntmps97 (fun(a:D.aAD) _=>aF (aHl a)) (fun _=>by kernel_rfl)
def aDv:SU:=⟨[.sl 154, .st 29],[.st 32, .bool],true,false,fun(a:(List D.aAB)×D.aAD)=>gd (a.1.length≤34359738368∧a.2.sz≤34359738368) (some (dK a.1 a.2))⟩
theorem aDw:OK 39 aDv:=mkS (.s .n (.s (.s (.rj 4 ⟨[(9,6)],[.dat (.s 14) .bool],[],[]⟩ .n) .n) (.s (.r (some 5) [(0,true),(2,true),(1,false),(3,false),(4,true),(5,false),(6,false)]) .n))) [.cell 4 32, .tmp 5] (gc gP (gc aAo (gc jN (gc Lg aC)))) func39 ntmps39 (fun a _=>aF (aDp a.1 a.2)) (fun _=>by kernel_rfl)
def aDx:SU:=⟨[i6],[.str],false,false,fun(a:Int)=>some (aD a)⟩
theorem Fb:OK 43 aDx:=mkS .n [.tmp 2] aC func43 ntmps43 (fun a _=>(aDe a).trans) (fun _=>by kernel_rfl)
def aDy:SU:=⟨[.str],[.sl 9],true,false,fun(a:ByteArray)=>gd (a.size≤34359738368) (some (aU a))⟩
theorem Fe:OK 183 aDy:=mkS (.s .n (.s .n (.s .n (.s (.j ⟨[(3,3),(1,25)],[.tr (.s 3) 0 9 true],[],[]⟩ (.s .n (.s (.l ⟨[(3,3),(1,25)],[.tr (.s 3) 0 9 true, .dat (.s 4) i6, .dat (.s 5) i6],[],[]⟩ FUEL (.s .n (.s (.j ⟨[(3,2),(8,19)],[.tr (.s 3) 0 9 true, .dat (.s 4) i6],[],[]⟩ (.s (.s (.rj 5 ⟨[(17,6)],[.dat (.s 22) .bool],[],[]⟩ .n) .n) .n)) .n))) .n))) .n)))) [.tmp 2] aC func183 ntmps183 (fun(a:ByteArray) _=>aF (aDg a)) (fun _=>by kernel_rfl)
def aIq:SU:=⟨[.str],[.bool],false,false,fun(a:ByteArray)=>gd (a.size≤34359738368) (some (qN a))⟩
theorem aIr:OK 256 aIq:=mkS (.s .n (.s (.jx ⟨[(2,39)],[],[],[]⟩ (.s .n (.s (.l ⟨[(2,39)],[.nat (.s 3)],[],[]⟩ FUEL (.s .n (.s (.s (.s (.rj 5 ⟨[(4,1),(10,24)],[.dat (.s 4) .bool],[],[]⟩ .n) .n) .n) .n))) .n))) (.s (.rj 4 ⟨[(2,1),(41,13)],[.dat (.s 2) .bool],[],[]⟩ .n) .n))) [.tmp 2] (gc bE aC) func256 ntmps256 (fun(a:ByteArray) _=>aF (aHy a)) (fun _=>by kernel_rfl)
def aKo:SU:=⟨[.str],[.bool],false,false,fun(a:ByteArray)=>gd (a.size≤34359738368) (some (gH a))⟩
theorem aKp:OK 182 aKo:=mkS (.s .n (.s .n (.s (.jx ⟨[(2,1),(1,1),(2,12)],[],[],[]⟩ (.s .n (.s (.l ⟨[(2,1),(1,1),(2,12)],[.nat (.s 4)],[],[]⟩ FUEL .n) .n))) .n))) [.tmp 2] (gc Fe (gc aIr aC)) func182 ntmps182 (fun(a:ByteArray) _=>aF (aKb a)) (fun _=>by kernel_rfl)
def aIs:SU:=⟨[.str,i6],[.st 65],true,false,fun(a:ByteArray×Int)=>gd (a.1.size≤34359738368) (some (eH a.1 a.2))⟩
theorem Lh:OK 99 aIs:=mkS (.s .n (.s (.s (.rj 4 ⟨[(8,11)],[.dat (.s 18) .bool],[],[]⟩ .n) .n) .n)) [.cell 4 65] (gc aKp (gc Fe (gc bS aC))) func99 ntmps99 (fun a _=>aF (aHz a.1 a.2)) (fun _=>by kernel_rfl)
def aIt:SU:=⟨[.st 59],[.st 59],true,false,fun(a:D.aAG)=>gd (a.sz≤34359738368) (some (a))⟩
theorem Li:OK 156 aIt:=mkS .n [.cell 2 59] aC func156 ntmps156 (fun(a:D.aAG) _=>aF (aHo a)) (fun _=>by kernel_rfl)
def aIu:SU:=⟨[.st 63],[.st 63],true,false,fun(a:D.aAF)=>gd (a.sz≤34359738368) (some (a))⟩
theorem aIv:OK 234 aIu:=mkS .n [.cell 2 63] aC func234 ntmps234 (fun(a:D.aAF) _=>aF (aHp a)) (fun _=>by kernel_rfl)
def aIw:SU:=⟨[.st 65],[.st 65],true,false,fun(a:D.Site)=>gd (a.sz≤34359738368) (some (a))⟩
theorem vS:OK 152 aIw:=mkS (.s .n (.s .n (.s .n (.s (.j ⟨[(4,1),(3,18)],[.tr (.c 2 1) 3 59 true],[],[]⟩ (.s .n (.s (.l ⟨[(4,1),(3,18)],[.nat (.s 4), .tr (.c 2 1) 3 59 true],[],[]⟩ FUEL aV8) .n))) .n)))) [.cell 2 65] (gc Li (gc aIv aC)) func152 ntmps152 (fun(a:D.Site) _=>aF (aHq a)) (fun _=>by kernel_rfl)
def Gi:SU:=⟨[.st 59],[.bool],false,false,fun(a:D.aAG)=>gd (a.sz≤34359738368) (some (bC a))⟩
theorem oZ:OK 157 Gi:=mkS (.s .n (.s (.jx ⟨[(2,62)],[],[],[]⟩ (.s .n (.s (.l ⟨[(2,62)],[.nat (.s 3)],[],[]⟩ FUEL (.s .n (.s (.jx ⟨[(2,1),(1,2),(7,51)],[],[],[]⟩ (.s (.s .n (.s (.s (.rj 5 ⟨[(22,28)],[.dat (.s 49) .bool],[],[]⟩ (.r none (od 32 [2,23,29]))) .n) (.s .n (.s (.l ⟨[(2,1),(2,1),(44,14)],[.nat (.s 5)],[],[]⟩ FUEL bEi) .n)))) .n)) .n))) .n))) (.s (.rj 4 ⟨[(2,1),(64,11)],[.dat (.s 2) .bool],[],[]⟩ .n) .n))) [.tmp 2] (gc bE (gc nV aC)) func157 ntmps157 (fun(a:D.aAG) _=>aF (Fv a)) (fun _=>by kernel_rfl)
def Ui:SU:=⟨[.st 63],[.bool],false,false,fun(a:D.aAF)=>gd (a.sz≤34359738368) (some (iM a))⟩
theorem Uj:OK 175 Ui:=mkS (.s .n (.s (.jx ⟨[(2,50)],[],[],[]⟩ (.s .n (.s (.l ⟨[(2,50)],[.nat (.s 3)],[],[]⟩ FUEL (.s .n (.s (.s (.s .n (.s (.rj 8 ⟨[(24,28)],[.dat (.s 51) .bool],[],[]⟩ (.r none (od 35 [5,26,32]))) .n)) .n) .n))) .n))) (.s (.rj 4 ⟨[(2,1),(52,6)],[.dat (.s 2) .bool],[],[]⟩ .n) .n))) [.tmp 2] (gc bE aC) func175 ntmps175 (fun(a:D.aAF) _=>aF (Su a)) (fun _=>by kernel_rfl)
def Uk:SU:=⟨[.st 65],[.bool],false,false,fun(a:D.Site)=>gd (a.sz≤34359738368) (some (dQ a))⟩
theorem mW:OK 83 Uk:=mkS (.s .n (.s (.jx ⟨[(2,36)],[],[],[]⟩ (.s .n (.s (.l ⟨[(2,36)],[.nat (.s 3)],[],[]⟩ FUEL (.s .n (.s (.s (.s (.rj 8 ⟨[(18,20)],[.dat (.s 37) .bool],[],[]⟩ (.r none (od 27 [5]))) .n) .n) .n))) .n))) (.s (.rj 9 ⟨[(2,1),(43,11)],[.dat (.s 2) .bool],[],[]⟩ .n) .n))) [.tmp 2] (gc oZ (gc Lh (gc Uj aC))) func83 ntmps83 (fun(a:D.Site) _=>aF (Ta a)) (fun _=>by kernel_rfl)
def Ul:SU:=⟨[.st 65,i6,i6],[.st 65, .bool],false,false,fun(a:D.Site×Int×Int)=>gd (a.1.sz≤34359738300) (some (kT a.1 a.2.1 a.2.2))⟩
theorem Um:OK 98 Ul:=mkS bI6 [.cell 6 65, .tmp 7] (gcp vS (gc mW aC)) func98 ntmps98 (fun a _=>aF (Ty a.1 a.2.1 a.2.2)) (fun _=>by kernel_rfl)
def Bi:SU:=⟨[i6, .str],[i6],false,false,fun(a:Int×ByteArray)=>gd (a.2.size≤34359738300) (some (zD a.1 a.2))⟩
theorem Bj:OK 190 Bi:=mkS .n [.tmp 4] (gc mV (gc dL (gc Dh (gc (bE6 1000022) aC)))) func190 ntmps190 (fun a _=>aF (Bh a.1 a.2)) (fun _=>by kernel_rfl)
def aDz:SU:=⟨[.str],[i6],false,false,fun(a:ByteArray)=>gd (a.size≤34359738300) (some (bT a))⟩
theorem Ff:OK 105 aDz:=mkS .n [.tmp 2] (gc Bj aC) func105 ntmps105 (fun(a:ByteArray) _=>aF (aDj a)) (fun _=>by kernel_rfl)
def Uo:SU:=⟨[.st 69, .str,i6],[i6],false,false,fun(a:D.aAI×ByteArray×Int)=>gd (a.2.1.size≤34359738300) (some (fK a.1 a.2.1 a.2.2))⟩
theorem Uq:OK 185 Uo:=mkS bI9 [.tmp 6] (gc Ff (gc dS aC)) func185 ntmps185 (fun a _=>aF (Tj a.1 a.2.1 a.2.2)) (fun _=>by kernel_rfl)
def A9:SU:=⟨[.st 69, .str,i6],[i6],false,false,fun(a:D.aAI×ByteArray×Int)=>gd (a.2.1.size≤34359738300) (some (fF a.1 a.2.1 a.2.2))⟩
theorem C8:OK 101 A9:=mkS .n [.tmp 6] (gc Uq (gc lG aC)) func101 ntmps101 (fun a _=>aF (Zo a.1 a.2.1 a.2.2)) (fun _=>by kernel_rfl)
def Ur:SU:=⟨[.st 65,i6],[i6],false,false,fun(a:D.Site×Int)=>gd (a.1.Accounts.length≤34359738368) (some (aQ a.1 a.2))⟩
theorem Ut:OK 67 Ur:=mkS bJa [.tmp 4] aC func67 ntmps67 (fun a _=>aF (Tq a.1 a.2)) (fun _=>by kernel_rfl)
def Lj:SU:=⟨[.st 59,i6,i6],[.st 59, .bool],true,false,fun(a:D.aAG×Int×Int)=>gd (a.1.sz≤34359738300) (some (gB a.1 a.2.1 a.2.2))⟩
theorem Ll:OK 184 Lj:=mkS bI6 [.cell 6 59, .tmp 7] (gc Li (gc oZ aC)) func184 ntmps184 (fun a _=>aF (Kq a.1 a.2.1 a.2.2)) (fun _=>by kernel_rfl)
def Uu:SU:=⟨[.st 65,i6,i6,i6],[.st 65, .bool],true,false,fun(a:D.Site×Int×Int×Int)=>gd (a.1.sz≤34359738300) (some (iA a.1 a.2.1 a.2.2.1 a.2.2.2))⟩
theorem Uv:OK 100 Uu:=mkS (.s .n (.s .n (.s .n (.s (.s (.rj 4 ⟨[(22,4)],[.dat (.s 25) .bool],[],[]⟩ .n) .n) .n)))) [.cell 8 65, .tmp 9] (gc vS (gc Ut (gc mW (gc Ll aC)))) func100 ntmps100 (fun a _=>aF (Tt a.1 a.2.1 a.2.2.1 a.2.2.2)) (fun _=>by kernel_rfl)
def aIx:SU:=⟨[.st 72],[.st 72],true,false,fun(a:D.aAE)=>gd (a.sz≤34359738368) (some (a))⟩
theorem kV:OK 186 aIx:=mkS .n [.cell 2 72] aC func186 ntmps186 (fun(a:D.aAE) _=>aF (aHh a)) (fun _=>by kernel_rfl)
def aIy:SU:=⟨[.st 74],[.st 74],true,false,fun(a:D.Device)=>gd (a.sz≤34359738368) (some (a))⟩
theorem kW:OK 102 aIy:=mkS .n [.cell 2 74] (gc jN (gc kV aC)) func102 ntmps102 (fun(a:D.Device) _=>aF (aHk a)) (fun _=>by kernel_rfl)
def C9:SU:=⟨[.sl 154, .sl 154],[.bool],false,false,fun(a:(List D.aAB)×(List D.aAB))=>gd (a.1.length≤34359738368) (some (dI a.1 a.2))⟩
theorem nW:OK 103 C9:=mkS bFg [.tmp 4] aC func103 ntmps103 (fun a _=>aF (Ze a.1 a.2)) (fun _=>by kernel_rfl)
def D5:SU:=⟨[.st 74, .sl 154,i6],[.st 74, .bool],true,false,fun(a:D.Device×(List D.aAB)×Int)=>gd (a.1.sz≤34359738368∧a.2.1.length≤34359738368) (some (pV a.1 a.2.1 a.2.2))⟩
theorem D6:OK 41 D5:=mkS (.s .n (.s .n (.s (.s (.rj 4 ⟨[(14,19)],[.dat (.s 32) .bool],[],[]⟩ (.r none [(0,true),(1,false),(2,true),(3,true),(4,true),(5,true),(6,true),(7,false),(8,true),(9,true),(10,true),(11,true),(13,true),(14,true),(12,false),(15,true),(16,true),(17,true),(18,true),(19,false),(20,true),(21,true)])) .n) .n))) [.cell 6 74, .tmp 7] (gc kW (gc gP (gc nW (gc kU (gc bS (gc jN aC)))))) func41 ntmps41 (fun a _=>aF (Zt a.1 a.2.1 a.2.2)) (fun _=>by kernel_rfl)
def aAp:SU:=⟨[.st 72,i6,i6],[i6],false,false,fun(a:D.aAE×Int×Int)=>gd (a.1.sz≤34359738368) (some (aI a.1 a.2.1 a.2.2))⟩
theorem lI:OK 187 aAp:=mkS (.s .n (.s (.jx ⟨[(6,28)],[],[],[]⟩ (.s .n (.s (.l ⟨[(6,28)],[.nat (.s 7)],[],[]⟩ FUEL (.s .n (.s (.s (.s (.rj 9 ⟨[(23,10)],[.dat (.s 32) .bool],[],[]⟩ .n) .n) .n) .n))) .n))) .n)) [.tmp 6] aC func187 ntmps187 (fun a _=>aF (V8 a.1 a.2.1 a.2.2)) (fun _=>by kernel_rfl)
def aIz:SU:=⟨[.st 235,i6,i6],[.bool],false,false,fun(a:D.Entry×Int×Int)=>some (qO a.1 a.2.1 a.2.2)⟩
theorem Lm:OK 257 aIz:=mkS (.s .n (.s (.rj 5 ⟨[(6,1),(4,12)],[.dat (.s 6) .bool],[],[]⟩ .n) .n)) [.tmp 6] aC func257 ntmps257 (fun a _=>(aHg a.1 a.2.1 a.2.2).trans) (fun _=>by kernel_rfl)
def aKq:SU:=⟨[.st 72, .st 235],[.st 72],true,false,fun(a:D.aAE×D.Entry)=>gd (a.1.sz≤34359738360) (some (Cr a.1 a.2))⟩
theorem yS:OK 188 aKq:=mkS (.s .n (.s .n (.s .n (.s .n (.s (.j ⟨[(7,1),(16,19)],[.dat (.s 7) i6],[],[]⟩ (.s (.l ⟨[(7,1),(16,19)],[.dat (.s 7) i6],[],[]⟩ FUEL (.s (.s (.rj 6 ⟨[(29,12)],[.dat (.s 40) .bool],[],[]⟩ (.r none (od 17 [15]))) .n) .n)) .n)) (.s (.y true (some 7) (some 15) [(1,true),(2,true),(3,true),(4,true),(6,true),(9,true),(10,true),(11,true),(12,true),(0,false),(5,false),(7,false),(8,false),(13,false),(14,false),(15,false)]) .n)))))) [.cell 4 72] (gc kV (gc lI (gc Lm aC))) func188 ntmps188 (fun a _=>aF (aJ9 a.1 a.2)) (fun _=>by kernel_rfl)
def aD0:SU:=⟨[.st 72],[.bool],false,false,fun(a:D.aAE)=>gd (a.sz≤34359738368) (some (aP a))⟩
theorem iF:OK 189 aD0:=mkS (.s .n (.s (.jx ⟨[(2,49)],[],[],[]⟩ (.s .n (.s (.l ⟨[(2,49)],[.nat (.s 3)],[],[]⟩ FUEL (.s .n (.s (.s (.s .n (.s (.rj 5 ⟨[(21,30)],[.dat (.s 50) .bool],[],[]⟩ (.r none (od 34 [2,7,13,30]))) .n)) .n) .n))) .n))) .n)) [.tmp 2] (gc bE (gc Lm aC)) func189 ntmps189 (fun(a:D.aAE) _=>aF (aC8 a)) (fun _=>by kernel_rfl)
def aD1:SU:=⟨[.st 72,i6,i6],[.st 72, .bool],true,false,fun(a:D.aAE×Int×Int)=>gd (a.1.sz≤34359738360) (some (aQv a.1 a.2.1 a.2.2))⟩
theorem aD2:OK 104 aD1:=mkS (.s .n (.s .n (.s (.jx ⟨[(7,1),(1,1),(4,23)],[.dat (.c 2 2) i6],[],[]⟩ .n) (.s .n (.s (.s (.rj 4 ⟨[(43,5)],[.dat (.s 47) .bool],[],[]⟩ .n) .n) .n))))) [.cell 6 72, .tmp 7] (gc lI (gc kV (gc yS (gc iF aC)))) func104 ntmps104 (fun a _=>aF (aDk a.1 a.2.1 a.2.2)) (fun _=>by kernel_rfl)
def Uw:SU:=⟨[.st 72,i6,i6],[.st 72, .bool],true,false,fun(a:D.aAE×Int×Int)=>gd (a.1.sz≤34359738360) (some (aQw a.1 a.2.1 a.2.2))⟩
theorem Ux:OK 106 Uw:=mkS (.s .n (.s .n (.s (.s (.rj 4 ⟨[(16,21)],[.dat (.s 36) .bool],[],[]⟩ .n) .n) (.s (.r (some 12) (od 14 [11,12,13])) .n)))) [.cell 6 72, .tmp 7] (gc lI (gc iF (gc kV (gc yS aC)))) func106 ntmps106 (fun a _=>aF (Te a.1 a.2.1 a.2.2)) (fun _=>by kernel_rfl)
def Pb:SU:=⟨[.st 74, .str,i6, .bool],[.st 74, .bool],true,false,fun(a:D.Device×ByteArray×Int×Bool)=>gd (a.1.sz≤34359738360∧a.2.1.size≤34359738300) (some (gZ a.1 a.2.1 a.2.2.1 a.2.2.2))⟩
theorem Pd:OK 42 Pb:=mkS (.s .n (.s .n (.s (.y false (some 9) (some 10) [(0,true),(1,true),(2,true),(4,true),(3,false),(5,false),(6,true),(7,true),(8,true),(9,false),(10,false),(11,true)]) (.s (.j ⟨[(12,1),(11,10)],[.dat (.s 12) .bool, .tr (.c 6 0) 5 235 true],[],[]⟩ (.s .n (.s (.y false none (some 9) [(0,true),(1,true),(2,true),(4,true),(3,false),(5,false),(6,true),(7,true),(8,true),(9,false),(10,true)]) .n))) (.s (.j ⟨[(34,3)],[.nt (.c 4 8) 235 true],[],[3,5]⟩ .n) .n))))) [.cell 8 74, .tmp 9] (gc kW (gc Ff (gc aD2 (gc Ux aC)))) func42 ntmps42 (fun a _=>aF (Oe a.1 a.2.1 a.2.2.1 a.2.2.2)) (fun _=>by kernel_rfl)
def aD3:SU:=⟨[i6,i6,i6],[.bool],false,false,fun(a:Int×Int×Int)=>some (bJ a.1&&(aW a.2.1 0 1000000&&aW a.2.2 0 1000000))⟩
theorem Fg:OK 191 aD3:=mkS (.s .n (.s (.rj 3 ⟨[(6,1),(2,8)],[.dat (.s 6) .bool],[],[]⟩ .n) .n)) [.tmp 6] (gc bS (gc bE aC)) func191 ntmps191 (fun a _=>(aDl a.1 a.2.1 a.2.2).trans) (fun _=>by kernel_rfl)
def aKr:SU:=⟨[i6,i6,i6],[i6],false,false,fun(a:Int×Int×Int)=>some (nI a.1 a.2.1 a.2.2)⟩
theorem Rh:OK 193 aKr:=mkS .n [.tmp 6] (gc dS aC) func193 ntmps193 (fun a _=>(aKh a.1 a.2.1 a.2.2).trans) (fun _=>by kernel_rfl)
def Pe:SU:=⟨[.st 72],[.sl 5],true,false,fun(a:D.aAE)=>gd (a.sz≤34359738368) (some (wN a))⟩
theorem sU:OK 194 Pe:=mkS (.s .n (.s .n (.s .n (.s (.j ⟨[(3,3),(8,35)],[.tr (.s 3) 1 3 true],[],[]⟩ (.s .n (.s (.l ⟨[(3,3),(8,35)],[.tr (.s 3) 1 3 true, .nat (.s 4)],[],[]⟩ FUEL (.s .n (.s (.j ⟨[(3,1),(1,1),(15,28)],[.tr (.s 3) 1 3 true],[],[]⟩ (.s (.s .n (.s (.j ⟨[(5,1),(15,6)],[.dat (.s 5) i6],[],[]⟩ .n) (.r (some 21) (od 23 [20,21,22])))) .n)) .n))) .n))) .n)))) [.tmp 2] (gc iF (gc yF aC)) func194 ntmps194 (fun(a:D.aAE) _=>aF (Og a)) (fun _=>by kernel_rfl)
def aAq:SU:=⟨[i6, .st 106],[i6],false,false,fun(a:Int×D.aAC)=>gd (a.2.Data.length≤34359738200) (some (nH a.1 a.2))⟩
theorem Bn:OK 195 aAq:=mkS bI8 [.tmp 4] (gc mV (gc dL aC)) func195 ntmps195 (fun a _=>aF (Y4 a.1 a.2)) (fun _=>by kernel_rfl)
def D7:SU:=⟨[i6,i6,i6, .st 72],[.st 106, .bool],true,false,fun(a:Int×Int×Int×D.aAE)=>gd (a.2.2.2.sz≤34359738368) (some (wO a.1 a.2.1 a.2.2.1 a.2.2.2))⟩
theorem D8:OK 107 D7:=mkS (.s .n (.s (.s (.rj 6 ⟨[(16,5)],[.dat (.s 20) .bool],[],[]⟩ .n) .n) (.s (.y false (some 10) (some 11) [(0,true),(1,true),(2,true),(3,true),(4,true),(6,true),(5,false),(7,false),(8,false),(9,true),(10,false),(11,false)]) .n))) [.cell 8 106, .tmp 9] (gc Fg (gc iF (gc Rh (gc sU (gc Ld (gc Bn aC)))))) func107 ntmps107 (fun a _=>aF (Zm a.1 a.2.1 a.2.2.1 a.2.2.2)) (fun _=>by kernel_rfl)
def Uy:SU:=⟨[.st 74],[.st 74, .st 106, .bool],true,false,fun(a:D.Device)=>gd (a.sz≤34359738368) (some (fA a))⟩
theorem Uz:OK 44 Uy:=mkS (.s .n (.s .n bJc)) [.cell 2 74, .cell 3 106, .tmp 4] (gc kW (gc D8 aC)) func44 ntmps44 (fun(a:D.Device) _=>aF (Ti a)) (fun _=>by kernel_rfl)
def aI0:SU:=⟨[.st 106],[.st 106],true,false,fun(a:D.aAC)=>gd (a.sz≤34359738368) (some (a))⟩
theorem vT:OK 110 aI0:=mkS .n [.cell 2 106] aC func110 ntmps110 (fun(a:D.aAC) _=>aF (aHm a)) (fun _=>by kernel_rfl)
def aI1:SU:=⟨[.st 32],[.st 32],true,false,fun(a:D.aAH)=>gd (a.sz≤34359738368) (some (a))⟩
theorem Lp:OK 108 aI1:=mkS (.s .n (.s bFh (.s (.j ⟨[(4,1),(7,18)],[.nt (.c 4 3) 106 true],[],[]⟩ (.s .n (.s (.l ⟨[(4,1),(7,18)],[.nat (.s 4), .nt (.c 4 3) 106 true],[],[]⟩ FUEL aV8) .n))) .n))) [.cell 2 32] (gc jN (gc Lg (gc vT aC))) func108 ntmps108 (fun(a:D.aAH) _=>aF (aHn a)) (fun _=>by kernel_rfl)
def aAr:SU:=⟨[.st 106, .st 106],[.bool],false,false,fun(a:D.aAC×D.aAC)=>some (Iq a.1 a.2)⟩
theorem aAs:OK 109 aAr:=mkS (.s .n (.s (.rj 6 ⟨[(4,1),(5,14)],[.dat (.s 4) .bool],[],[]⟩ .n) .n)) [.tmp 4] aC func109 ntmps109 (fun a _=>(Y5 a.1 a.2).trans) (fun _=>by kernel_rfl)
def Pf:SU:=⟨[.st 32, .st 106],[.st 32, .bool],true,false,fun(a:D.aAH×D.aAC)=>gd (a.1.sz≤34359738300∧a.2.sz≤34359738300) (some (dR a.1 a.2))⟩
theorem Pg:OK 45 Pf:=mkS (.s .n (.s .n (.s .n (.s (.s (.rj 7 ⟨[(19,19)],[.dat (.s 37) .bool],[],[]⟩ (.r none (od 25 [4,17]))) .n) (.s (.r (some 5) (od 8 [3,4,5,6,7])) .n))))) [.cell 4 32, .tmp 5] (gc Lp (gc kU (gc aAs (gc vT aC)))) func45 ntmps45 (fun a _=>aF (Oi a.1 a.2)) (fun _=>by kernel_rfl)
def Va:SU:=⟨[.st 32,i6],[.st 106, .bool],true,false,fun(a:D.aAH×Int)=>gd (a.1.sz≤34359738368) (some (gI a.1 a.2))⟩
theorem Vb:OK 111 Va:=mkS .n [.cell 4 106, .tmp 5] (gc bE (gc vT aC)) func111 ntmps111 (fun a _=>aF (Tf a.1 a.2)) (fun _=>by kernel_rfl)
def aI2:SU:=⟨[i6, .sl 5],[.sl 5],true,false,fun(a:Int×(List Int))=>gd (a.2.length≤34359738368) (some (aOb a.1 a.2))⟩
theorem Lr:OK 262 aI2:=mkS (.s .n (.s .n (.s (.j ⟨[(5,2),(1,22)],[.tr (.s 5) 0 5 true],[],[]⟩ (.s .n (.s (.l ⟨[(5,2),(1,22)],[.tr (.s 5) 0 5 true, .nat (.s 6)],[],[]⟩ FUEL (.s .n (.s (.s (.r (some 15) (od 17 [8,9,12,14,15,16])) .n) .n))) .n))) .n))) [.tmp 4] (gc dL (gc jW aC)) func262 ntmps262 (fun a _=>aF (aH3 a.1 a.2)) (fun _=>by kernel_rfl)
def aI3:SU:=⟨[i6, .st 224],[.sl 5, .bool],true,false,fun(a:Int×D.Box)=>some (jI a.1 a.2)⟩
theorem aI4:OK 307 aI3:=mkS (.s .n (.s (.s (.rj 4 ⟨[(10,19)],[.dat (.s 28) .bool],[],[]⟩ (.r none (od 22 [1,7,13]))) .n) (.s .n (.s (.s (.r none (od 6 [4])) .n) .n)))) [.tmp 4, .tmp 5] (gc bS (gc lG (gc Re (gc Rf (gc Lr aC))))) func307 ntmps307 (fun a _=>(aH4 a.1 a.2).trans) (fun _=>by kernel_rfl)
def aI5:SU:=⟨[.sl 224,i6],[.sl 5, .bool],true,false,fun(a:(List D.Box)×Int)=>gd (a.1.length≤34359738368) (some (jX a.1 a.2))⟩
theorem aI6:OK 259 aI5:=mkS (.s .n (.s (.jx ⟨[(4,22)],[],[],[]⟩ (.s .n (.s (.l ⟨[(4,22)],[.nat (.s 6)],[],[]⟩ FUEL .n) .n))) .n)) [.tmp 4, .tmp 5] (gc aI4 aC) func259 ntmps259 (fun a _=>aF (aH5 a.1 a.2)) (fun _=>by kernel_rfl)
def Vd:SU:=⟨[.sl 5,i6],[i6,i6, .bool],false,false,fun(a:(List Int)×Int)=>gd (aR a.1) (some (Co a.1 a.2))⟩
theorem vU:OK 308 Vd:=mkS (.s .n (.s .n (.s (.jx ⟨[(4,51)],[],[],[]⟩ (.s .n (.s (.l ⟨[(4,51)],[.dat (.s 7) i6, .nat (.s 8)],[],[]⟩ FUEL (.s .n (.s (.s (.s (.s (.rj 3 ⟨[(16,8)],[.dat (.s 23) .bool],[],[]⟩ .n) .n) (.s .n (.s .n (.s .n (.s (.s (.s (.rj 3 ⟨[(42,8)],[.dat (.s 49) .bool],[],[]⟩ .n) .n) .n) .n))))) .n) .n))) .n))) .n))) [.tmp 4, .tmp 5, .tmp 6] aC func308 ntmps308 (fun a _=>aF (Tg a.1 a.2)) (fun _=>by kernel_rfl)
def D9:SU:=⟨[.sl 5,i6,i6],[.sl 3,i6, .bool],true,false,fun(a:(List Int)×Int×Int)=>gd (aR a.1) (some (mG a.1 a.2.1 a.2.2))⟩
theorem yG:OK 260 D9:=mkS (.s .n (.s .n (.s (.s (.rj 4 ⟨[(18,7)],[.dat (.s 24) .bool],[],[]⟩ .n) .n) (.s (.jx ⟨[(1,1),(4,8),(12,20)],[.dat (.s 1) i6, .tr (.s 9) 0 3 true],[],[]⟩ (.s .n (.s (.l ⟨[(1,1),(4,8),(12,20)],[.dat (.s 1) i6, .tr (.s 9) 0 3 true, .nat (.s 10)],[],[]⟩ FUEL .n) .n))) .n)))) [.tmp 6, .tmp 7, .tmp 8] (gc bE (gc vU aC)) func260 ntmps260 (fun a _=>aF (Zh a.1 a.2.1 a.2.2)) (fun _=>by kernel_rfl)
def Gj:SU:=⟨[.st 69, .st 29],[i6, .bool],false,false,fun(a:D.aAI×D.aAD)=>gd (a.2.sz≤34359738368) (some (bY a.1 a.2))⟩
theorem Gl:OK 196 Gj:=mkS (.s .n (.s (.r none (od 10 [3,4])) (.s .n (.s (.s (.rj 3 ⟨[(27,25)],[.dat (.s 51) .bool],[],[]⟩ (.r none (od 27 [24]))) .n) .n)))) [.tmp 4, .tmp 5] (gc pY (gc aI6 (gc yG (gc bS aC)))) func196 ntmps196 (fun a _=>aF (Fx a.1 a.2)) (fun _=>by kernel_rfl)
def E5:SU:=⟨[.sl 5, .sl 5],[.bool],false,false,fun(a:(List Int)×(List Int))=>gd (aR a.1∧aR a.2) (some ((a.1==a.2)))⟩
theorem nX:OK 216 E5:=mkS .n [.tmp 4] aC func216 ntmps216 (fun a _=>aF (Zj a.1 a.2)) (fun _=>by kernel_rfl)
def Ph:SU:=⟨[.sl 5],[.st 72, .bool],true,false,fun(a:(List Int))=>gd (aR a) (some (aGg a))⟩
theorem Pi:OK 261 Ph:=mkS (.s .n (.s .n (.s (.s (.rj 3 ⟨[(21,4)],[.dat (.s 24) .bool],[],[]⟩ .n) .n) (.s .n (.s (.jx ⟨[(3,1),(1,1),(2,5),(14,40)],[.nt (.c 1 0) 235 true],[],[]⟩ (.s .n (.s (.l ⟨[(3,1),(1,1),(2,5),(14,40)],[.dat (.s 5) i6, .nat (.s 8), .nt (.c 1 0) 235 true],[],[]⟩ FUEL .n) .n))) (.s (.s (.rj 4 ⟨[(70,7)],[.dat (.s 76) .bool],[],[]⟩ .n) .n) .n)))))) [.cell 2 72, .tmp 3] (gc vU (gc yG (gc iF (gc sU (gc nX aC))))) func261 ntmps261 (fun(a:(List Int)) _=>aF (Oh a)) (fun _=>by kernel_rfl)
def E8:SU:=⟨[i6, .st 106],[.st 72, .bool],true,false,fun(a:Int×D.aAC)=>gd (a.2.Data.length≤34359738200) (some (lS a.1 a.2))⟩
theorem E9:OK 197 E8:=mkS (.s .n (.s (.s (.rj 8 ⟨[(13,8)],[.dat (.s 20) .bool],[],[]⟩ (.r none (od 15 [5,12]))) .n) (.s (.r (some 12) [(0,true),(1,true),(2,true),(3,true),(4,true),(6,true),(7,true),(5,false),(8,false),(9,false),(10,true),(11,true),(12,false),(13,false)]) .n))) [.cell 4 72, .tmp 5] (gc Fg (gc Bn (gc Rh (gc Lr (gc Pi aC))))) func197 ntmps197 (fun a _=>aF (Zk a.1 a.2)) (fun _=>by kernel_rfl)
def Pj:SU:=⟨[.st 72, .st 72],[.st 72, .bool],true,false,fun(a:D.aAE×D.aAE)=>gd (a.1.sz≤34359738368∧a.2.sz≤34359738368) (some (lQ a.1 a.2))⟩
theorem Pk:OK 198 Pj:=mkS (.s .n (.s (.s (.rj 4 ⟨[(13,5)],[.dat (.s 17) .bool],[],[]⟩ .n) .n) (.s .n (.s (.j ⟨[(7,3),(12,49)],[.tr (.c 4 0) 3 235 true],[],[]⟩ (.s .n (.s (.l ⟨[(7,3),(12,49)],[.nat (.s 7), .tr (.c 4 0) 3 235 true],[],[]⟩ FUEL (.s .n (.s (.j ⟨[(8,2),(19,42)],[.tr (.c 4 0) 3 235 true],[],[]⟩ (.s (.s .n (.s .n (.s (.rj 3 ⟨[(42,26)],[.dat (.s 67) .bool],[],[]⟩ (.r none (od 28 []))) .n))) .n)) .n))) .n))) .n)))) [.cell 4 72, .tmp 5] (gc iF (gc kV (gc lI (gc yS aC)))) func198 ntmps198 (fun a _=>aF (Nw a.1 a.2)) (fun _=>by kernel_rfl)
def F3:SU:=⟨[.st 74, .sl 154, .st 29, .st 106],[.st 74,i6],true,false,fun(a:D.Device×(List D.aAB)×D.aAD×D.aAC)=>gd (a.1.sz≤34359738368∧a.2.1.length≤34359738368∧a.2.2.1.sz≤34359738368∧a.2.2.2.Data.length≤34359738200) (some (dA a.1 a.2.1 a.2.2.1 a.2.2.2))⟩
theorem F4:OK 112 F3:=mkS (.s .n (.s .n (.s .n (.s (.s (.rj 4 ⟨[(25,7)],[.dat (.s 31) .bool],[],[]⟩ .n) .n) (.s (.s (.r none [(0,true),(2,true),(3,true),(1,false),(4,false),(5,false),(6,true)]) .n) (.s .n (.s (.s (.rj 5 ⟨[(52,4)],[.dat (.s 55) .bool],[],[]⟩ .n) .n) (.s (.s (.rj 5 ⟨[(61,21)],[.dat (.s 81) .bool],[],[]⟩ .n) .n) (.s .n (.s .n (.s (.s (.rj 3 ⟨[(98,4)],[.dat (.s 101) .bool],[],[]⟩ .n) .n) (.s (.r (some 11) [(0,true),(1,true),(2,true),(4,true),(5,true),(6,true),(7,true),(8,true),(9,true),(3,false),(10,true),(11,false),(12,false)]) .n)))))))))))) [.cell 8 74, .tmp 9] (gc kW (gc kU (gc gP (gc nW (gc lH (gc lV (gc yR (gc Gl (gc E9 (gc Pk (gc jN aC))))))))))) func112 ntmps112 (fun a _=>aF (Zl a.1 a.2.1 a.2.2.1 a.2.2.2)) (fun _=>by kernel_rfl)
def aI7:SU:=⟨[.st 74, .st 32,i6],[.st 74,i6],true,false,fun(a:D.Device×D.aAH×Int)=>gd (a.1.sz≤34359738100∧a.2.1.sz≤34359738100) (some (dA a.1 a.2.1.Log a.2.1.Boxes (gI a.2.1 a.2.2).1))⟩
theorem aI8:OK 46 aI7:=mkS .n [.cell 6 74, .tmp 7] (gc Vb (gc F4 aC)) func46 ntmps46 (fun a _=>aF (aH7 a.1 a.2.1 a.2.2)) (fun _=>by kernel_rfl)
def aO3:SU:=⟨[i6],[i6],false,false,fun(a:Int)=>some (aZ a 1019)⟩
theorem F5:OK 263 aO3:=mkS .n [.tmp 2] (gc jW aC) func263 ntmps263 (fun a _=>(aO0 a).trans) (fun _=>by kernel_rfl)
def aKs:SU:=⟨[i6, .sl 3,i6],[i6],false,false,fun(a:Int×(List Int)×Int)=>gd (0≤a.2.2∧a.2.2≤1000∧a.2.1.length≤34359738368) (some (iD a.1 a.2.1 a.2.2))⟩
theorem aKt:OK 199 aKs:=mkS bFd [.tmp 6] (gc F5 aC) func199 ntmps199 (fun a _=>aF (aKe a.1 a.2.1 a.2.2)) (fun _=>by kernel_rfl)
def Ve:SU:=⟨[i6, .sl 3,i6],[.sl 76],true,false,fun(a:Int×(List Int)×Int)=>gd (a.2.1.length≤34359738368) (some (uK a.1 a.2.1 a.2.2))⟩
theorem Vf:OK 114 Ve:=mkS (.s .n (.s .n (.s (.s (.rj 4 ⟨[(13,6)],[.dat (.s 18) .bool],[],[]⟩ .n) .n) (.s (.j ⟨[(7,2),(11,14)],[.tr (.s 7) 0 76 true],[],[]⟩ (.s .n (.s (.l ⟨[(7,2),(11,14)],[.tr (.s 7) 0 76 true, .dat (.s 8) i6],[],[]⟩ FUEL .n) .n))) .n)))) [.tmp 6] (gc bE (gc aKt aC)) func114 ntmps114 (fun a _=>aF (Tx a.1 a.2.1 a.2.2)) (fun _=>by kernel_rfl)
def aO4:SU:=⟨[i6,i6],[i6],false,false,fun(a:Int×Int)=>nP a.1 a.2⟩
theorem F6:OK 265 aO4:=mkS bI7 [.tmp 4] aC func265 ntmps265 (fun _ _=>id) (fun _=>by kernel_rfl)
def Gm:SU:=⟨[i6],[.bool],false,false,fun(a:Int)=>some (fB a)⟩
theorem fG:OK 264 Gm:=mkS bFq [.tmp 2] (gc bE (gc F6 aC)) func264 ntmps264 (fun a _=>(Ga a).trans) (fun _=>by kernel_rfl)
def aD4:SU:=⟨[i6,i6],[i6],false,false,fun(a:Int×Int)=>some (cO a.1 a.2)⟩
theorem iG:OK 200 aD4:=mkS .n [.tmp 4] (gc fG (gc jW (gc F6 aC))) func200 ntmps200 (fun a _=>(aDn a.1 a.2).trans) (fun _=>by kernel_rfl)
def Vg:SU:=⟨[i6,i6],[i6],false,false,fun(a:Int×Int)=>some (nL a.1 a.2)⟩
theorem vV:OK 201 Vg:=mkS .n [.tmp 4] (gc dL (gc iG aC)) func201 ntmps201 (fun a _=>(Tu a.1 a.2).trans) (fun _=>by kernel_rfl)
def Pm:SU:=⟨[i6,i6,i6],[i6],false,false,fun(a:Int×Int×Int)=>some (wQ a.1 a.2.1 a.2.2)⟩
theorem Pn:OK 117 Pm:=mkS .n [.tmp 6] (gc vV (gc iG aC)) func117 ntmps117 (fun a _=>(Ol a.1 a.2.1 a.2.2).trans) (fun _=>by kernel_rfl)
def aAt:SU:=⟨[i6,i6],[i6],false,false,fun(a:Int×Int)=>some (jT a.1 a.2)⟩
theorem Bo:OK 116 aAt:=mkS .n [.tmp 4] (gc dL (gc Dh aC)) func116 ntmps116 (fun a _=>(Y9 a.1 a.2).trans) (fun _=>by kernel_rfl)
def aI9:SU:=⟨[.st 78],[i6],false,false,fun(a:D.aAQ)=>some (fQ a)⟩
theorem Ls:OK 202 aI9:=mkS .n [.tmp 2] aC func202 ntmps202 (fun a _=>(aH1 a).trans) (fun _=>by kernel_rfl)
def aAu:SU:=⟨[.st 78],[.st 81],true,false,fun(a:D.aAQ)=>some (Yf a)⟩
theorem aAv:OK 118 aAu:=mkS (.s .n (.s (.r (some 4) (od 5 [2,4])) .n)) [.cell 2 81] (gc Ls aC) func118 ntmps118 (fun a _=>(Z4 a).trans) (fun _=>by kernel_rfl)
def F7:SU:=⟨[i6,i6],[i6],false,false,fun(a:Int×Int)=>some (mI a.1 a.2)⟩
theorem yH:OK 119 F7:=mkS .n [.tmp 4] (gc dL aC) func119 ntmps119 (fun a _=>(Zw a.1 a.2).trans) (fun _=>by kernel_rfl)
def aJa:SU:=⟨[i6,i6],[i6],false,false,fun(a:Int×Int)=>some (Eb a.1 a.2)⟩
theorem Lt:OK 120 aJa:=mkS .n [.tmp 4] (gc bE (gc dS aC)) func120 ntmps120 (fun a _=>(aIa a.1 a.2).trans) (fun _=>by kernel_rfl)
def aAw:SU:=⟨[i6,i6,i6,i6, .sl 3,i6,i6],[.st 35, .sl 81, .bool],true,false,fun(a:Int×Int×Int×Int×(List Int)×Int×Int)=>gd (a.2.2.2.2.1.length≤34359738368) (some (Cu a.1 a.2.1 a.2.2.1 a.2.2.2.1 a.2.2.2.2.1 a.2.2.2.2.2.1 a.2.2.2.2.2.2))⟩
theorem aAx:OK 48 aAw:=mkS (.s .n (.s .n (.s (.s (.rj 4 ⟨[(28,25)],[.dat (.s 52) .bool],[],[]⟩ .n) .n) (.s .n (.s .n (.s (.j ⟨[(19,2),(41,16)],[.tr (.s 19) 2 81 true],[],[]⟩ (.s .n (.s (.l ⟨[(19,2),(41,16)],[.tr (.s 19) 2 81 true, .nat (.s 20)],[],[]⟩ FUEL .n) .n))) .n)))))) [.cell 14 35, .tmp 15, .tmp 16] (gc Vf (gc bE (gc bS (gc jW (gc Pn (gc Bo (gc aAv (gc yH (gc Lt aC))))))))) func48 ntmps48 (fun a _=>aF (Z5 a.1 a.2.1 a.2.2.1 a.2.2.2.1 a.2.2.2.2.1 a.2.2.2.2.2.1 a.2.2.2.2.2.2)) (fun _=>by kernel_rfl)
def aD5:SU:=⟨[i6,i6,i6,i6,i6],[.st 41],false,false,fun(a:Int×Int×Int×Int×Int)=>some (aV a.1 a.2.1 a.2.2.1 a.2.2.2.1 a.2.2.2.2)⟩
theorem aD6:OK 7 aD5:=mkS (.s .n (.s (.s (.rj 4 ⟨[(30,21)],[.dat (.s 50) .bool],[],[]⟩ .n) .n) (.s .n (.s .n (.s (.j ⟨[(12,3),(41,33)],[.tr (.s 12) 2 154 true, .nt (.c 1 2) 74 true, .nt (.c 1 3) 4 true],[],[]⟩ (.s .n (.s (.l ⟨[(12,3),(41,33)],[.tr (.s 12) 2 154 true, .nat (.s 13), .nt (.c 1 2) 74 true, .nt (.c 1 3) 4 true],[],[]⟩ FUEL (.s .n (.s (.s (.s .n (.s .n (.s .n (.r none [(0,true),(1,true),(2,true),(4,true),(5,true),(6,true),(7,true),(8,true),(3,false),(9,false),(10,true),(11,true),(12,true),(13,true)])))) .n) .n))) .n))) (.s .n (.s .n (.s .n (.s (.il 3 (.s .n (.s .n (.s (.j ⟨[(5,5),(1,40)],[.tr (.s 5) 10 65 false],[],[]⟩ (.s .n (.s (.l ⟨[(5,5),(1,40)],[.tr (.s 5) 10 65 false, .nat (.s 6)],[],[]⟩ FUEL (.s .n (.s (.j ⟨[(5,1),(1,3),(5,36)],[.tr (.s 5) 10 65 false],[],[]⟩ (.s (.s .n (.s (.j ⟨[(9,1),(16,21)],[.dat (.c 12 0) (.str), .dat (.c 12 1) (.sl 59), .dat (.c 12 2) i6, .dat (.c 12 3) i6, .dat (.c 12 4) (.sl 254), .dat (.c 12 5) (.sl 3)],[],[]⟩ (.s .n (.s (.l ⟨[(9,1),(16,21)],[.nat (.s 9), .dat (.c 12 0) (.str), .dat (.c 12 1) (.sl 59), .dat (.c 12 2) i6, .dat (.c 12 3) i6, .dat (.c 12 4) (.sl 254), .dat (.c 12 5) (.sl 3)],[],[]⟩ FUEL (.s .n (.s (.s (.y false none (some 15) [(0,true),(1,true),(2,true),(3,true),(4,true),(5,true),(6,true),(7,true),(9,true),(8,false),(10,false),(11,false),(12,true),(13,true),(14,true),(15,false)]) .n) .n))) .n))) .n)) .n)) .n))) .n))) .n))) .n) (.s (.j ⟨[(18,1),(90,20)],[.tr (.c 1 2) 3 74 true],[],[]⟩ (.s .n (.s (.l ⟨[(18,1),(90,20)],[.nat (.s 18), .tr (.c 1 2) 3 74 true],[],[]⟩ FUEL bFr) .n))) (.s (.j ⟨[(19,2),(108,23)],[.tr (.c 1 2) 3 74 true],[],[]⟩ (.s .n (.s (.l ⟨[(19,2),(108,23)],[.nat (.s 19), .tr (.c 1 2) 3 74 true],[],[]⟩ FUEL (.s .n (.s (.j ⟨[(20,1),(112,19)],[.tr (.c 1 2) 3 74 true],[],[]⟩ (.s (.s .n (.s (.l ⟨[(20,1),(112,19)],[.nat (.s 20), .tr (.c 1 2) 3 74 true],[],[]⟩ FUEL (.s .n (.s (.s (.y false none (some 14) [(0,true),(1,true),(2,true),(3,true),(4,true),(5,true),(6,true),(8,true),(7,false),(9,false),(10,true),(11,true),(12,true),(13,true),(14,false)]) .n) .n))) .n)) .n)) .n))) .n))) (.s .n (.s .n (.s .n (.s (.j ⟨[(24,1),(148,20)],[.tr (.c 1 2) 3 74 true],[],[]⟩ (.s .n (.s (.l ⟨[(24,1),(148,20)],[.dat (.s 24) i6, .tr (.c 1 2) 3 74 true],[],[]⟩ FUEL bFr) .n))) (.s .n (.s (.j ⟨[(25,2),(167,12)],[.tr (.s 25) 19 3 true],[],[]⟩ (.s .n (.s (.l ⟨[(25,2),(167,12)],[.tr (.s 25) 19 3 true, .dat (.s 26) i6],[],[]⟩ FUEL .n) .n))) .n))))))))))))))))) [.cell 10 41] (gc bE (gc bS (gc x9 (gc aAf (gc lV (gc Ug (gc aDu (gc Gh (gc aDw (gc (sIl 40) (gc D6 (gc Fb (gc Pd (gc Uz (gc Pg (gc aI8 (gc dS (gc aAx (gcp Lh (gc Um (gc C8 (gcp Uv aC)))))))))))))))))))))) func7 ntmps7 (fun a _=>(aDq a.1 a.2.1 a.2.2.1 a.2.2.2.1 a.2.2.2.2).trans) (fun _=>by kernel_rfl)
def aJb:SU:=⟨[i6,i6,i6],[.bool],false,false,fun(a:Int×Int×Int)=>some (aW a.1 a.2.1 a.2.2)⟩
theorem dP:OK 121 aJb:=mkS bFp [.tmp 6] aC func121 ntmps121 (fun a _=>(aHe a.1 a.2.1 a.2.2).trans) (fun _=>by kernel_rfl)
def aKu:SU:=⟨[.str],[.bool],false,false,fun(a:ByteArray)=>some (gH a)⟩
theorem Ri:OK 266 aKu:=mkS (.s .n (.s .n (.s (.jx ⟨[(2,1),(1,3),(3,57)],[],[],[]⟩ (.s .n (.s (.l ⟨[(2,1),(1,3),(6,54)],[.nat (.s 13)],[],[]⟩ FUEL (.s .n (.s .n (.s (.jx ⟨[(2,1),(1,3),(8,51)],[],[],[]⟩ (.s (.s .n (.s (.s (.rj 4 ⟨[(20,18)],[.dat (.s 37) .bool],[],[]⟩ .n) .n) (.s .n (.s (.l ⟨[(2,1),(2,2),(31,28)],[.nat (.s 5)],[],[]⟩ FUEL (.s .n (.s (.s (.s .n (.s (.rj 3 ⟨[(49,17)],[.dat (.s 65) .bool],[],[]⟩ .n) .n)) .n) .n))) .n)))) .n)) .n)))) .n))) .n))) [.tmp 2] (gc Ec aC) func266 ntmps266 (fun a _=>(aKc a).trans) (fun _=>by kernel_rfl)
def Vh:SU:=⟨[.str],[.str],false,false,fun(a:ByteArray)=>some (aXf a)⟩
theorem Vi:OK 267 Vh:=mkS .n [.tmp 2] (gc Ri (gc Ec (gc aG5 aC))) func267 ntmps267 (fun a _=>(Sy a).trans) (fun _=>by kernel_rfl)
def aKv:SU:=⟨[.str],[.bool],false,false,fun(a:ByteArray)=>gd (a.size≤9223372036854775807) (some (Ni a))⟩
theorem aKw:OK 268 aKv:=mkS (.s .n (.s (.jx ⟨[(2,12)],[],[],[]⟩ (.s .n (.s (.l ⟨[(2,12)],[.nat (.s 3)],[],[]⟩ FUEL .n) .n))) .n)) [.tmp 2] aC func268 ntmps268 (fun(a:ByteArray) _=>aF (aKd a)) (fun _=>by kernel_rfl)
def F8:SU:=⟨[i6],[.bool],false,false,fun(a:Int)=>some (bJ a)⟩
theorem kL:OK 126 F8:=mkS .n [.tmp 2] (gc dP aC) func126 ntmps126 (fun a _=>(Yu a).trans) (fun _=>by kernel_rfl)
def Vj:SU:=⟨[.str,i6],[.bool],false,false,fun(a:ByteArray×Int)=>gd (a.1.size≤9223372036854775807) (some (iN a.1 a.2))⟩
theorem Vk:OK 203 Vj:=mkS (.s .n (.s (.rj 3 ⟨[(4,1),(2,13)],[.dat (.s 4) .bool],[],[]⟩ .n) .n)) [.tmp 4] (gc Ri (gc Vi (gc aKw (gc kL aC)))) func203 ntmps203 (fun a _=>aF (Sz a.1 a.2)) (fun _=>by kernel_rfl)
def Vl:SU:=⟨[.st 63],[.bool],false,false,fun(a:D.aAF)=>gd (a.sz≤34359738368) (some (iM a))⟩
theorem Vm:OK 204 Vl:=mkS (.s .n (.s (.s (.rj 5 ⟨[(9,6)],[.dat (.s 14) .bool],[],[]⟩ .n) .n) (.s (.jx ⟨[(2,3),(10,44)],[],[],[]⟩ (.s .n (.s (.l ⟨[(2,3),(13,41)],[.nat (.s 18)],[],[]⟩ FUEL (.s .n (.s .n (.s (.s (.s .n (.s (.rj 8 ⟨[(30,28)],[.dat (.s 57) .bool],[],[]⟩ (.r none (od 35 [5,26,32]))) .n)) .n) .n)))) .n))) .n))) [.tmp 2] (gc dP aC) func204 ntmps204 (fun(a:D.aAF) _=>aF (Sw a)) (fun _=>by kernel_rfl)
def aO5:SU:=⟨[i6,i6,i6],[i6],false,false,fun(a:Int×Int×Int)=>eT a.1 a.2.1 a.2.2⟩
theorem tO:OK 311 aO5:=mkS (.s .n (.s .n (.s .n (.s (.j ⟨[(0,2),(5,1),(5,17)],[.dat (.s 7) i6],[],[]⟩ (.s (.l ⟨[(0,2),(5,1),(5,17)],[.dat (.s 0) i6, .dat (.s 1) i6, .dat (.s 7) i6],[],[]⟩ FUEL (.s .n (.s (.s (.j ⟨[(7,1),(7,8)],[.dat (.s 7) i6],[],[]⟩ .n) .n) .n))) .n)) .n)))) [.tmp 6] aC func311 ntmps311 (fun _ _=>id) (fun _=>by kernel_rfl)
def F9:SU:=⟨[i6],[i6],false,false,fun(a:Int)=>some (dW a)⟩
theorem yI:OK 269 F9:=mkS .n [.tmp 2] (gc kL (gc tO aC)) func269 ntmps269 (fun a _=>(Yz a).trans) (fun _=>by kernel_rfl)
def Gn:SU:=⟨[.st 59],[.bool],false,false,fun(a:D.aAG)=>gd (a.sz≤34359738368) (some (bC a))⟩
theorem Gp:OK 205 Gn:=mkS (.s .n (.s (.s (.rj 5 ⟨[(11,12)],[.dat (.s 22) .bool],[],[]⟩ .n) .n) (.s (.jx ⟨[(2,3),(1,1),(16,56)],[],[],[]⟩ (.s .n (.s (.l ⟨[(2,3),(1,1),(19,53)],[.nat (.s 26)],[],[]⟩ FUEL (.s .n (.s .n (.s (.jx ⟨[(2,3),(1,1),(21,50)],[],[],[]⟩ (.s (.s .n (.s (.s (.rj 5 ⟨[(35,28)],[.dat (.s 62) .bool],[],[]⟩ (.r none (od 32 [2,23,29]))) .n) (.s .n (.s (.l ⟨[(2,1),(3,1),(61,10)],[.nat (.s 68)],[],[]⟩ FUEL .n) .n)))) .n)) .n)))) .n))) .n))) [.tmp 2] (gc dP (gc yI aC)) func205 ntmps205 (fun(a:D.aAG) _=>aF (Fw a)) (fun _=>by kernel_rfl)
def Vn:SU:=⟨[.st 65],[.bool],false,false,fun(a:D.Site)=>gd (a.sz≤34359738368) (some (dQ a))⟩
theorem Vo:OK 122 Vn:=mkS (.s .n (.s (.s (.rj 8 ⟨[(12,12)],[.dat (.s 23) .bool],[],[]⟩ .n) .n) (.s (.jx ⟨[(2,3),(19,28)],[],[],[]⟩ (.s .n (.s (.l ⟨[(2,3),(22,25)],[.nat (.s 27)],[],[]⟩ FUEL (.s .n (.s .n (.s (.s (.s .n (.s (.rj 4 ⟨[(35,16)],[.dat (.s 50) .bool],[],[]⟩ (.r none (od 19 [1]))) .n)) .n) .n)))) .n))) .n))) [.tmp 2] (gc Vk (gc Vm (gc Gp aC))) func122 ntmps122 (fun(a:D.Site) _=>aF (Tc a)) (fun _=>by kernel_rfl)
def aD7:SU:=⟨[i6],[.str],false,false,fun(a:Int)=>some (aD a)⟩
theorem aD8:OK 123 aD7:=mkS .n [.tmp 2] aC func123 ntmps123 (fun a _=>(aDf a).trans) (fun _=>by kernel_rfl)
def Gq:SU:=⟨[.st 39],[.bool],false,false,fun(a:D.aAJ)=>gd (a.sz≤34359738368) (some (cZ a))⟩
theorem pE:OK 124 Gq:=mkS (.s .n (.s .n (.s (.jx ⟨[(2,3),(4,41)],[],[],[]⟩ (.s .n (.s (.l ⟨[(2,3),(7,38)],[.nat (.s 12)],[],[]⟩ FUEL (.s .n bFi)) .n))) .n))) [.tmp 2] (gc dP aC) func124 ntmps124 (fun(a:D.aAJ) _=>aF (Fu a)) (fun _=>by kernel_rfl)
def aT7:SU:=⟨[.sl 3,i6],[.bool],false,false,fun(a:(List Int)×Int)=>gd (a.1.length≤1099511627776) (some (fV a.1 a.2))⟩
theorem Vp:OK 167 aT7:=mkS (.s .n (.s (.jx ⟨[(4,1),(1,11)],[],[],[]⟩ (.s .n (.s (.l ⟨[(4,1),(1,1),(2,8)],[.nat (.s 9)],[],[]⟩ FUEL .n) .n))) .n)) [.tmp 4] aC func167 ntmps167 (fun a _=>aF (aTu a.1 a.2)) (fun _=>by kernel_rfl)
def aAy:SU:=⟨[.sl 154],[.sl 3],true,false,fun(a:(List D.aAB))=>gd (a.length≤34359738368) (some (aB a))⟩
theorem aAz:OK 168 aAy:=mkS (.s .n (.s .n (.s (.j ⟨[(3,1),(1,2),(1,1),(1,40)],[.tr (.s 3) 0 3 true],[],[]⟩ (.s .n (.s (.l ⟨[(3,1),(1,2),(1,1),(3,38)],[.tr (.s 3) 0 3 true, .nat (.s 12)],[],[]⟩ FUEL (.s .n (.s .n (.s (.j ⟨[(3,1),(1,2),(1,1),(5,35)],[.tr (.s 3) 0 3 true],[],[]⟩ (.s (.s .n (.s .n (.s (.s .n (.s .n (.s .n (.s (.s .n (.s (.j ⟨[(6,1),(1,1),(24,15)],[.tr (.s 6) 2 3 true],[],[]⟩ (.s .n (.s (.l ⟨[(6,1),(1,1),(26,13)],[.tr (.s 6) 2 3 true, .nat (.s 35)],[],[]⟩ FUEL (.s .n (.s .n (.s (.j ⟨[(6,1),(1,1),(28,10)],[.tr (.s 6) 2 3 true],[],[]⟩ .n) .n)))) .n))) .n)) .n)))) .n))) .n)) .n)))) .n))) .n))) [.tmp 2] (gc Vp aC) func168 ntmps168 (fun(a:(List D.aAB)) _=>aF (V7 a)) (fun _=>by kernel_rfl)
def aT8:SU:=⟨[i6,i6],[i6],false,false,fun(a:Int×Int)=>some (aZ a.1 a.2)⟩
theorem kX:OK 277 aT8:=mkS (.s .n (.s (.s (.rj 3 ⟨[(8,4)],[.dat (.s 11) .bool],[],[]⟩ .n) .n) (.s .n (.s (.j ⟨[(5,1),(9,5)],[.dat (.s 5) i6],[],[]⟩ .n) .n)))) [.tmp 4] aC func277 ntmps277 (fun a _=>(aTs a.1 a.2).trans) (fun _=>by kernel_rfl)
def aRy:SU:=⟨[.sl 3],[i6],false,false,fun(a:(List Int))=>gd (a.length≤1099511627776) (some (rT a))⟩
theorem aCp:OK 223 aRy:=mkS (.s .n (.s .n (.s (.j ⟨[(3,1),(1,15)],[.dat (.s 3) i6],[],[]⟩ (.s .n (.s (.l ⟨[(3,1),(1,1),(2,12)],[.dat (.s 3) i6, .nat (.s 8)],[],[]⟩ FUEL .n) .n))) .n))) [.tmp 2] (gc kX aC) func223 ntmps223 (fun(a:(List Int)) _=>aF (aRq a)) (fun _=>by kernel_rfl)
def aA0:SU:=⟨[.st 154],[i6],false,false,fun(a:D.aAB)=>some (bL a)⟩
theorem Bp:OK 208 aA0:=mkS .n [.tmp 2] (gc aCp aC) func208 ntmps208 (fun a _=>(X7 a).trans) (fun _=>by kernel_rfl)
def aJc:SU:=⟨[.sl 154],[i6],false,false,fun(a:(List D.aAB))=>gd (a.length≤34359738368) (some (fD a))⟩
theorem aJd:OK 206 aJc:=mkS .n [.tmp 2] (gc Bp aC) func206 ntmps206 (fun(a:(List D.aAB)) _=>aF (aHw a)) (fun _=>by kernel_rfl)
def G5:SU:=⟨[.sl 154,i6],[.bool],false,false,fun(a:(List D.aAB)×Int)=>gd (a.1.length≤34359738368) (some (iL a.1 a.2))⟩
theorem G6:OK 74 G5:=mkS (.s .n (.s (.jx ⟨[(4,1),(1,17)],[],[],[]⟩ (.s .n (.s (.l ⟨[(4,1),(1,1),(2,14)],[.nat (.s 9)],[],[]⟩ FUEL (.s .n (.s .n (.s (.s (.s .n (.s (.rj 4 ⟨[(16,6)],[.dat (.s 21) .bool],[],[]⟩ .n) .n)) .n) .n)))) .n))) .n)) [.tmp 4] aC func74 ntmps74 (fun a _=>aF (Za a.1 a.2)) (fun _=>by kernel_rfl)
def aKx:SU:=⟨[.sl 3, .sl 53],[.sl 3],true,false,fun(a:(List Int)×(List (List Int)))=>gd (Ik a.1 a.2) (some (zC a.1 a.2))⟩
theorem qI:OK 144 aKx:=mkS (.s .n (.s .n (.s (.j ⟨[(5,1),(1,1),(3,10)],[.tr (.s 5) 0 3 true],[],[]⟩ (.s .n (.s (.l ⟨[(5,1),(1,1),(5,8)],[.tr (.s 5) 0 3 true, .nat (.s 13)],[],[]⟩ FUEL .n) .n))) .n))) [.tmp 4] aC func144 ntmps144 (fun a _=>aF (aJ7 a.1 a.2)) (fun _=>by kernel_rfl)
def aA1:SU:=⟨[i6, .sl 3],[i6],false,false,fun(a:Int×(List Int))=>gd (a.2.length≤34359738368) (some (aX a.1 a.2))⟩
theorem jO:OK 143 aA1:=mkS .n [.tmp 4] (gc qI (gc aCp aC)) func143 ntmps143 (fun a _=>aF (U8 a.1 a.2)) (fun _=>by kernel_rfl)
def Vq:SU:=⟨[i6, .sl 3],[i6],false,false,fun(a:Int×(List Int))=>gd (a.2.length≤34359738300) (some (zG a.1 a.2))⟩
theorem Vr:OK 270 Vq:=mkS .n [.tmp 4] (gc kL (gc qI (gc jO aC))) func270 ntmps270 (fun a _=>aF (Sr a.1 a.2)) (fun _=>by kernel_rfl)
def Dk:SU:=⟨[i6, .sl 3,i6],[.bool],false,false,fun(a:Int×(List Int)×Int)=>gd (a.2.1.length≤34359738300) (some (gY a.1 a.2.1 a.2.2))⟩
theorem Dl:OK 207 Dk:=mkS bFl [.tmp 6] (gc yI (gc Vr aC)) func207 ntmps207 (fun a _=>aF (Da a.1 a.2.1 a.2.2)) (fun _=>by kernel_rfl)
def aA2:SU:=⟨[.sl 154],[.bool],false,false,fun(a:(List D.aAB))=>gd (a.length≤34359738368) (some (aT a))⟩
theorem aA3:OK 125 aA2:=mkS (.s .n (.s (.s (.rj 4 ⟨[(10,5)],[.dat (.s 14) .bool],[],[]⟩ .n) .n) (.s (.jx ⟨[(2,5),(8,83)],[],[],[]⟩ (.s .n (.s (.l ⟨[(2,5),(10,81)],[.nat (.s 17)],[],[]⟩ FUEL (.s .n (.s .n (.s (.jx ⟨[(2,5),(12,78)],[],[],[]⟩ (.s (.s .n (.s .n (.s .n (.s (.s (.rj 5 ⟨[(31,26)],[.dat (.s 56) .bool],[],[]⟩ (.r none (od 30 [8,15]))) .n) (.s (.jx ⟨[(2,1),(54,31)],[],[],[]⟩ (.s .n (.s (.s .n (.s (.s (.rj 5 ⟨[(65,11)],[.dat (.s 75) .bool],[],[]⟩ .n) .n) (.s .n (.s (.s (.rj 6 ⟨[(83,5)],[.dat (.s 87) .bool],[],[]⟩ .n) .n) .n)))) .n))) (.s (.r none [(0,true),(1,true),(2,true),(5,true),(6,true),(3,false),(4,false),(7,false),(8,true)]) .n)))))) .n)) .n)))) .n))) .n))) [.tmp 2] (gc aAz (gc aJd (gc Vp (gc G6 (gc Bp (gc Dl aC)))))) func125 ntmps125 (fun(a:(List D.aAB)) _=>aF (X9 a)) (fun _=>by kernel_rfl)
def Po:SU:=⟨[.st 41],[.bool],false,false,fun(a:D.World)=>gd (a.sz≤34359738368) (some (bK a))⟩
theorem jF:OK 49 Po:=mkS (.s .n (.s (.s (.rj 5 ⟨[(9,22)],[.dat (.s 30) .bool],[],[]⟩ .n) .n) (.s (.jx ⟨[(2,3),(26,19)],[],[],[]⟩ (.s .n (.s (.l ⟨[(2,3),(29,16)],[.nat (.s 34)],[],[]⟩ FUEL (.s .n (.s .n (.s (.s (.s .n (.s (.rj 4 ⟨[(42,7)],[.dat (.s 48) .bool],[],[]⟩ (.r none (od 10 [1,7]))) .n)) .n) .n)))) .n))) (.s (.rj 4 ⟨[(2,1),(50,11)],[.dat (.s 2) .bool],[],[]⟩ .n) .n)))) [.tmp 2] (gc dP (gc Vo (gc aD8 (gc pE (gc aA3 (gc kL aC)))))) func49 ntmps49 (fun(a:D.World) _=>aF (Oa a)) (fun _=>by kernel_rfl)
def aD9:SU:=⟨[.st 78],[i6],false,false,fun(a:D.aAQ)=>some (fQ a)⟩
theorem rQ:OK 50 aD9:=mkS .n [.tmp 2] aC func50 ntmps50 (fun a _=>(aDi a).trans) (fun _=>by kernel_rfl)
def Vs:SU:=⟨[.st 41],[i6],false,false,fun(a:D.World)=>gd (a.sz≤34359738368) (some (dG a))⟩
theorem Vt:OK 9 Vs:=mkS (.s .n (.s (.s (.rj 4 ⟨[(10,9)],[.dat (.s 18) .bool],[],[]⟩ .n) .n) (.s .n (.s (.j ⟨[(3,1),(1,2),(12,29)],[.dat (.s 3) i6],[],[]⟩ (.s .n (.s (.l ⟨[(3,1),(1,2),(20,21)],[.dat (.s 3) i6, .nat (.s 27)],[],[]⟩ FUEL (.s .n (.s .n (.s (.j ⟨[(3,1),(1,2),(22,18)],[.dat (.s 3) i6],[],[]⟩ (.s (.s .n (.s .n (.s (.j ⟨[(6,1),(31,6)],[.dat (.s 6) i6],[],[]⟩ bFk) .n))) .n)) .n)))) .n))) .n)))) [.tmp 2] (gc jF (gc rQ aC)) func9 ntmps9 (fun(a:D.World) _=>aF (Ua a)) (fun _=>by kernel_rfl)
def aJe:SU:=⟨[.sl 154],[.sl 154],true,false,fun(a:(List D.aAB))=>gd (a.length≤34359738368) (some (a))⟩
theorem Lu:OK 217 aJe:=mkS .n [.tmp 2] aC func217 ntmps217 (fun(a:(List D.aAB)) _=>aF (aHj a)) (fun _=>by kernel_rfl)
def aA4:SU:=⟨[.sl 5],[.sl 5],true,false,fun(a:(List Int))=>gd (a.length≤34359738368) (some (a))⟩
theorem Bq:OK 276 aA4:=mkS .n [.tmp 2] aC func276 ntmps276 (fun(a:(List Int)) _=>aF (V9 a)) (fun _=>by kernel_rfl)
def aA5:SU:=⟨[.sl 224],[.sl 224],true,false,fun(a:(List D.Box))=>gd (lW D.Box.sz a≤34359738368) (some (a))⟩
theorem aA6:OK 275 aA5:=mkS (.s .n (.s .n (.s (.j ⟨[(3,1),(1,1),(1,15)],[.tr (.s 3) 0 224 true],[],[]⟩ (.s .n (.s (.l ⟨[(3,1),(1,1),(3,13)],[.tr (.s 3) 0 224 true, .nat (.s 9)],[],[]⟩ FUEL .n) .n))) .n))) [.tmp 2] (gc Bq aC) func275 ntmps275 (fun(a:(List D.Box)) _=>aF (W9 a)) (fun _=>by kernel_rfl)
def Gr:SU:=⟨[.st 29],[.st 29],true,false,fun(a:D.aAD)=>gd (a.sz≤34359738368) (some (a))⟩
theorem Gs:OK 218 Gr:=mkS (.s .n (.s (.r (some 6) (od 7 [4,6])) .n)) [.cell 2 29] (gc aA6 aC) func218 ntmps218 (fun(a:D.aAD) _=>aF (Fq a)) (fun _=>by kernel_rfl)
def G7:SU:=⟨[.st 106],[.st 106],true,false,fun(a:D.aAC)=>gd (a.sz≤34359738368) (some (a))⟩
theorem G8:OK 219 G7:=mkS .n [.cell 2 106] (gc Bq aC) func219 ntmps219 (fun(a:D.aAC) _=>aF (Yx a)) (fun _=>by kernel_rfl)
def aA7:SU:=⟨[.st 32],[.st 32],true,false,fun(a:D.aAH)=>gd (a.sz≤34359738368) (some (a))⟩
theorem aA8:OK 136 aA7:=mkS (.s .n (.s bFh (.s (.j ⟨[(5,1),(7,15)],[.nt (.c 4 3) 106 true],[],[]⟩ (.s .n (.s (.l ⟨[(5,1),(10,12)],[.nat (.s 16), .nt (.c 4 3) 106 true],[],[]⟩ FUEL bEh) .n))) .n))) [.cell 2 32] (gc Lu (gc Gs (gc G8 aC))) func136 ntmps136 (fun(a:D.aAH) _=>aF (X3 a)) (fun _=>by kernel_rfl)
def aEa:SU:=⟨[.st 81],[.st 81],true,false,fun(a:D.aAA)=>gd (a.sz≤34359738368) (some (a))⟩
theorem mK:OK 141 aEa:=mkS .n [.cell 2 81] aC func141 ntmps141 (fun(a:D.aAA) _=>aF (aDb a)) (fun _=>by kernel_rfl)
def aA9:SU:=⟨[.sl 81],[.sl 81],true,false,fun(a:(List D.aAA))=>gd (lW D.aAA.sz a≤34359738368) (some (a))⟩
theorem qB:OK 137 aA9:=mkS (.s .n (.s .n (.s (.j ⟨[(3,1),(1,1),(1,12)],[.tr (.s 3) 0 81 true],[],[]⟩ (.s .n (.s (.l ⟨[(3,1),(1,1),(3,10)],[.tr (.s 3) 0 81 true, .nat (.s 9)],[],[]⟩ FUEL .n) .n))) .n))) [.tmp 2] (gc mK aC) func137 ntmps137 (fun(a:(List D.aAA)) _=>aF (X4 a)) (fun _=>by kernel_rfl)
def aEb:SU:=⟨[.st 39],[.st 39],true,false,fun(a:D.aAJ)=>gd (a.sz≤34359738368) (some (a))⟩
theorem Fh:OK 138 aEb:=mkS .n [.cell 2 39] aC func138 ntmps138 (fun(a:D.aAJ) _=>aF (aDd a)) (fun _=>by kernel_rfl)
def G9:SU:=⟨[.st 72],[.st 72],true,false,fun(a:D.aAE)=>gd (a.sz≤34359738368) (some (a))⟩
theorem H5:OK 220 G9:=mkS .n [.cell 2 72] aC func220 ntmps220 (fun(a:D.aAE) _=>aF (Yv a)) (fun _=>by kernel_rfl)
def H6:SU:=⟨[.st 74],[.st 74],true,false,fun(a:D.Device)=>gd (a.sz≤34359738368) (some (a))⟩
theorem H7:OK 139 H6:=mkS .n [.cell 2 74] (gc Lu (gc H5 aC)) func139 ntmps139 (fun(a:D.Device) _=>aF (Yw a)) (fun _=>by kernel_rfl)
def aEc:SU:=⟨[.st 63],[.st 63],true,false,fun(a:D.aAF)=>gd (a.sz≤34359738368) (some (a))⟩
theorem aEd:OK 221 aEc:=mkS bFe [.cell 2 63] aC func221 ntmps221 (fun(a:D.aAF) _=>aF (aC9 a)) (fun _=>by kernel_rfl)
def Vu:SU:=⟨[.st 59],[.st 59],true,false,fun(a:D.aAG)=>gd (a.sz≤34359738368) (some (a))⟩
theorem Vv:OK 222 Vu:=mkS bFe [.cell 2 59] aC func222 ntmps222 (fun(a:D.aAG) _=>aF (Sm a)) (fun _=>by kernel_rfl)
def aEe:SU:=⟨[.st 65],[.st 65],true,false,fun(a:D.Site)=>gd (a.sz≤34359738368) (some (a))⟩
theorem aEf:OK 140 aEe:=mkS (.s .n (.s (.y false (some 9) (some 10) [(0,true),(1,true),(2,true),(3,true),(5,true),(6,true),(4,false),(7,false),(8,true),(9,false),(10,false)]) (.s (.j ⟨[(5,1),(9,15)],[.nt (.c 4 1) 59 true],[],[]⟩ (.s .n (.s (.l ⟨[(5,1),(12,12)],[.nat (.s 18), .nt (.c 4 1) 59 true],[],[]⟩ FUEL bEh) .n))) .n))) [.cell 2 65] (gc aEd (gc qI (gc Vv aC))) func140 ntmps140 (fun(a:D.Site) _=>aF (aDa a)) (fun _=>by kernel_rfl)
def aBa:SU:=⟨[.st 41],[.st 41],true,false,fun(a:D.World)=>gd (a.sz≤34359738368) (some (a))⟩
theorem qC:OK 57 aBa:=mkS (.s .n (.s (.y true (some 22) (some 23) [(0,true),(1,true),(2,true),(3,true),(5,true),(6,true),(8,true),(9,true),(11,true),(12,true),(13,true),(14,true),(16,true),(17,true),(18,true),(19,true),(4,false),(7,false),(10,false),(15,false),(20,false),(21,false),(22,false),(23,false)]) (.s (.j ⟨[(5,1),(24,15)],[.nt (.c 8 2) 74 true],[],[]⟩ (.s .n (.s (.l ⟨[(5,1),(27,12)],[.nat (.s 33), .nt (.c 8 2) 74 true],[],[]⟩ FUEL bEh) .n))) (.s (.j ⟨[(7,1),(37,15)],[.nt (.c 8 8) 65 true],[],[]⟩ (.s .n (.s (.l ⟨[(7,1),(40,12)],[.nat (.s 48), .nt (.c 8 8) 65 true],[],[]⟩ FUEL bEh) .n))) .n)))) [.cell 2 41] (gc aA8 (gc qB (gc Fh (gc H7 (gc aEf aC))))) func57 ntmps57 (fun(a:D.World) _=>aF (X5 a)) (fun _=>by kernel_rfl)
def aO6:SU:=⟨[i6],[i6],false,false,fun(a:Int)=>some (gG a)⟩
theorem H8:OK 142 aO6:=mkS .n [.tmp 2] aC func142 ntmps142 (fun a _=>(aOx a).trans) (fun _=>by kernel_rfl)
def aBb:SU:=⟨[i6, .sl 3],[i6],false,false,fun(a:Int×(List Int))=>gd (a.2.length≤34359738300) (some (aK a.1 a.2))⟩
theorem lJ:OK 59 aBb:=mkS .n [.tmp 4] (gc qI (gc jO (gc H8 aC))) func59 ntmps59 (fun a _=>aF (V3 a.1 a.2)) (fun _=>by kernel_rfl)
def aKy:SU:=⟨[.sl 81, .sl 3,i6,i6],[.bool],false,false,fun(a:(List D.aAA)×(List Int)×Int×Int)=>gd (a.1.length≤34359738368∧a.2.1.length≤34359738368) (some (Yj a.1 a.2.1 a.2.2.1 a.2.2.2))⟩
theorem aKz:OK 227 aKy:=mkS (.s .n (.s (.jx ⟨[(8,26)],[],[],[]⟩ (.s .n (.s (.l ⟨[(8,3),(2,21)],[.nat (.s 13)],[],[]⟩ FUEL (.s .n (.s .n (.s (.s (.s .n (.s (.rj 3 ⟨[(20,13)],[.dat (.s 32) .bool],[],[]⟩ .n) .n)) .n) .n)))) .n))) (.s (.rj 4 ⟨[(8,1),(28,4)],[.dat (.s 8) .bool],[],[]⟩ .n) .n))) [.tmp 8] (gc Vp (gc kX (gc dP aC))) func227 ntmps227 (fun a _=>aF (aKj a.1 a.2.1 a.2.2.1 a.2.2.2)) (fun _=>by kernel_rfl)
def kI:SU:=⟨[i6],[.bool],false,false,fun(a:Int)=>some (fB a)⟩
theorem dV:OK 281 kI:=mkS bFq [.tmp 2] (gc dP (gc tO aC)) func281 ntmps281 (fun a _=>(Gb a).trans) (fun _=>by kernel_rfl)
def jZ:SU:=⟨[i6,i6],[i6],false,false,fun(a:Int×Int)=>some (cO a.1 a.2)⟩
theorem kC:OK 278 jZ:=mkS .n [.tmp 4] (gc dV (gc kX (gc tO aC))) func278 ntmps278 (fun a _=>(aDo a.1 a.2).trans) (fun _=>by kernel_rfl)
def Vw:SU:=⟨[i6,i6],[i6],false,false,fun(a:Int×Int)=>some (nL a.1 a.2)⟩
theorem Vx:OK 279 Vw:=mkS .n [.tmp 4] (gc jO (gc kC aC)) func279 ntmps279 (fun a _=>(Tv a.1 a.2).trans) (fun _=>by kernel_rfl)
def H9:SU:=⟨[i6,i6,i6],[i6],false,false,fun(a:Int×Int×Int)=>some (bZ a.1 a.2.1 a.2.2)⟩
theorem I1:OK 228 H9:=mkS .n [.tmp 6] (gc kX (gc Vx (gc kC aC))) func228 ntmps228 (fun a _=>(o5 a.1 a.2.1 a.2.2).trans) (fun _=>by kernel_rfl)
def aBc:SU:=⟨[.sl 76],[.bool],false,false,fun(a:(List D.aAM))=>some (pQ a)⟩
theorem qD:OK 224 aBc:=mkS (.s .n (.s .n (.s .n (.s (.jx ⟨[(2,1),(2,1),(5,26)],[],[],[0]⟩ (.s .n (.s (.l ⟨[(2,1),(2,1),(7,24)],[.nat (.s 13), .dat (.c 0 0) .bool, .dat (.c 0 1) .bool, .dat (.c 0 2) .bool, .dat (.c 0 3) .bool, .dat (.c 0 4) .bool, .dat (.c 0 5) .bool, .dat (.c 0 6) .bool, .dat (.c 0 7) .bool],[],[]⟩ FUEL (.s .n (.s .n (.s (.s (.s .n (.s (.s (.rj 5 ⟨[(21,12)],[.dat (.s 32) .bool],[],[]⟩ .n) .n) .n)) .n) .n)))) .n))) .n)))) [.tmp 2] (gc dP aC) func224 ntmps224 (fun a _=>(Y2 a).trans) (fun _=>by kernel_rfl)
def Lv:SU:=⟨[.st 78],[.bool],false,false,fun(a:D.aAQ)=>some (dX a)⟩
theorem rH:OK 226 Lv:=mkS bFn [.tmp 2] (gc qD (gc dP aC)) func226 ntmps226 (fun a _=>(Kn a).trans) (fun _=>by kernel_rfl)
def Lx:SU:=⟨[.st 76,i6],[i6],false,false,fun(a:D.aAM×Int)=>some (mJ a.1 a.2)⟩
theorem Ma:OK 313 Lx:=mkS bFm [.tmp 4] (gc dV (gc dP (gc kC aC))) func313 ntmps313 (fun a _=>(Kv a.1 a.2).trans) (fun _=>by kernel_rfl)
def aBd:SU:=⟨[.st 78,i6],[.st 78,i6, .bool],false,false,fun(a:D.aAQ×Int)=>some (eQ a.1 a.2)⟩
theorem aBe:OK 280 aBd:=mkS (.s .n (.s (.s (.rj 4 ⟨[(10,16)],[.dat (.s 25) .bool],[],[]⟩ .n) .n) (.s .n (.s (.r (some 5) (od 8 [4,5,6,7])) .n)))) [.cell 4 78, .tmp 5, .tmp 6] (gc rH (gc dV (gc Ma aC))) func280 ntmps280 (fun a _=>(Z7 a.1 a.2).trans) (fun _=>by kernel_rfl)
def aJf:SU:=⟨[.st 81,i6],[.st 81,i6, .bool],true,false,fun(a:D.aAA×Int)=>gd (a.1.sz≤34359738300) (some (jK a.1 a.2))⟩
theorem aJg:OK 229 aJf:=mkS (.s .n (.s .n (.s bFk (.s .n (.s .n (.s .n (.s (.j ⟨[(38,10)],[.tr (.c 3 5) 2 78 true],[],[]⟩ .n) .n))))))) [.cell 4 81, .tmp 5, .tmp 6] (gc mK (gc rQ (gc aBe aC))) func229 ntmps229 (fun a _=>aF (aId a.1 a.2)) (fun _=>by kernel_rfl)
def Dm:SU:=⟨[i6],[i6],false,false,fun(a:Int)=>some (oH a)⟩
theorem nY:OK 286 Dm:=mkS .n [.tmp 2] (gc kX (gc tO aC)) func286 ntmps286 (fun a _=>(Dc a).trans) (fun _=>by kernel_rfl)
def fH:SU:=⟨[.sl 3,i6,i6],[i6],false,false,fun(a:(List Int)×Int×Int)=>gd (a.1.length≤34359738368) (some (rO a.1 a.2.1 a.2.2))⟩
theorem Gt:OK 283 fH:=mkS (.s .n (.s (.s (.rj 3 ⟨[(15,6)],[.dat (.s 20) .bool],[],[]⟩ .n) .n) (.s (.jx ⟨[(6,3),(12,22)],[],[],[]⟩ (.s .n (.s (.l ⟨[(6,3),(14,20)],[.nat (.s 23)],[],[]⟩ FUEL (.s .n (.s .n (.s (.jx ⟨[(6,3),(16,17)],[],[],[]⟩ (.s (.s .n (.s .n (.s (.l ⟨[(6,1),(1,1),(17,16)],[.nat (.s 8)],[],[]⟩ FUEL bFc) .n))) .n)) .n)))) .n))) (.s .n (.s .n (.s (.j ⟨[(9,1),(1,2),(35,28)],[.dat (.s 9) i6],[],[]⟩ (.s .n (.s (.l ⟨[(9,1),(1,2),(37,26)],[.dat (.s 9) i6, .nat (.s 50)],[],[]⟩ FUEL (.s .n (.s .n (.s (.j ⟨[(9,1),(1,2),(39,23)],[.dat (.s 9) i6],[],[]⟩ .n) .n)))) .n))) .n)))))) [.tmp 6] (gc kX (gc nY aC)) func283 ntmps283 (fun a _=>aF (Gd a.1 a.2.1 a.2.2)) (fun _=>by kernel_rfl)
def kD:SU:=⟨[i6,i6],[i6],false,false,fun(a:Int×Int)=>some (gL a.1 a.2)⟩
theorem aEg:OK 282 kD:=mkS bB8 [.tmp 4] (gc dV aC) func282 ntmps282 (fun a _=>(aDs a.1 a.2).trans) (fun _=>by kernel_rfl)
def dD:SU:=⟨[.sl 3, .sl 3],[i6, .bool],false,false,fun(a:(List Int)×(List Int))=>gd (a.1.length≤34359738368∧a.2.length≤34359738368) (some (jL a.1 a.2))⟩
theorem vW (args:Array Value)(w:World):(callFunc 230 args).run Tryz.prog w= .ok (.enter 230 args) w:=by kernel_rfl
theorem uh1 (a:Int):(EV.aY Yn kI.ar a).map EV.mM=[V.int IntKind.i64 a]:=by kernel_rfl
theorem rh1 (a:Int):iX ((EV.aY Yn kI.rs (fB a)).map EV.mM)= .bool (fB a):=by kernel_rfl
theorem uh2 (a:Int×Int):(EV.aY Yn jZ.ar a).map EV.mM=[V.int IntKind.i64 a.1,V.int IntKind.i64 a.2]:=by kernel_rfl
theorem rh2 (a:Int×Int):iX ((EV.aY Yn jZ.rs (cO a.1 a.2)).map EV.mM)=V.int IntKind.i64 (cO a.1 a.2):=by kernel_rfl
theorem uh3 (a:Int×Int):(EV.aY Yn kD.ar a).map EV.mM=[V.int IntKind.i64 a.1,V.int IntKind.i64 a.2]:=by kernel_rfl
theorem rh3 (a:Int×Int):iX ((EV.aY Yn kD.rs (gL a.1 a.2)).map EV.mM)=V.int IntKind.i64 (gL a.1 a.2):=by kernel_rfl
theorem uh4 (a:List Int×Int×Int):(EV.aY Yn fH.ar a).map EV.mM=[.slice 1 (a.1.map iV),V.int IntKind.i64 a.2.1,V.int IntKind.i64 a.2.2]:=by kernel_rfl
theorem rh4 (a:List Int×Int×Int):iX ((EV.aY Yn fH.rs (rO a.1 a.2.1 a.2.2)).map EV.mM)=V.int IntKind.i64 (rO a.1 a.2.1 a.2.2):=by kernel_rfl
theorem sh1 (a:Int):Spec Tryz.prog G0 281 [V.int IntKind.i64 a] (fun r=>r= .bool (fB a)):=by
 have h:=(dV a (fB a) rfl).1 rfl rfl
 rw[←uh1,←rh1];exact h
theorem sh2 (a b:Int):Spec Tryz.prog G0 278 [V.int IntKind.i64 a,V.int IntKind.i64 b] (fun r=>r=V.int IntKind.i64 (cO a b)):=by
 have h:=(kC (a,b) (cO a b) rfl).1 rfl rfl
 have e1:(EV.aY Yn jZ.ar ((a,b):Int×Int)).map EV.mM=[V.int IntKind.i64 a,V.int IntKind.i64 b]:=uh2 (a,b)
 have e2:iX ((EV.aY Yn jZ.rs (cO a b)).map EV.mM)=V.int IntKind.i64 (cO a b):=rh2 (a,b)
 rw[←e1,←e2];exact h
theorem sh3 (a b:Int):Spec Tryz.prog G0 282 [V.int IntKind.i64 a,V.int IntKind.i64 b] (fun r=>r=V.int IntKind.i64 (gL a b)):=by
 have h:=(aEg (a,b) (gL a b) rfl).1 rfl rfl
 have e1:(EV.aY Yn kD.ar ((a,b):Int×Int)).map EV.mM=[V.int IntKind.i64 a,V.int IntKind.i64 b]:=uh3 (a,b)
 have e2:iX ((EV.aY Yn kD.rs (gL a b)).map EV.mM)=V.int IntKind.i64 (gL a b):=rh3 (a,b)
 rw[←e1,←e2];exact h
theorem sh4 (l:List Int)(k a:Int)(hl:l.length≤34359738368):Spec Tryz.prog G0 283 [.slice 1 (l.map iV),V.int IntKind.i64 k,V.int IntKind.i64 a] (fun r=>r=V.int IntKind.i64 (rO l k a)):=by
 have h:=(Gt (l,k,a) (rO l k a) (aA hl)).1 rfl rfl
 have e1:(EV.aY Yn fH.ar ((l,k,a):List Int×Int×Int)).map EV.mM=[.slice 1 (l.map iV),V.int IntKind.i64 k,V.int IntKind.i64 a]:=uh4 (l,k,a)
 have e2:iX ((EV.aY Yn fH.rs (rO l k a)).map EV.mM)=V.int IntKind.i64 (rO l k a):=rh4 (l,k,a)
 rw[←e1,←e2];exact h
theorem wD (a:List Int×List Int):(EV.aY Yn dD.ar a).map EV.mM=[.slice 1 (a.1.map iV), .slice 1 (a.2.map iV)]:=by kernel_rfl
theorem wE (a:List Int×List Int):iX ((EV.aY Yn dD.rs (jL a.1 a.2)).map EV.mM)= .tup [V.int IntKind.i64 (jL a.1 a.2).1, .bool (jL a.1 a.2).2]:=by kernel_rfl
theorem wF (a:List Int×List Int)(r:EV.vY Un dD.rs)(hr:gd (a.1.length≤34359738368∧a.2.length≤34359738368) (some (jL a.1 a.2))=some r):Spec Tryz.prog G0 230 ((EV.aY Yn dD.ar a).map EV.mM) (fun v=>v=iX ((EV.aY Yn dD.rs r).map EV.mM)):=by
 unfold gd at hr
 split at hr
 ·rename_i hp
  have e:=Option.some.inj hr
  subst e
  rw[wD,wE]
  exact aX9 vW sh1 sh2 sh3 sh4 a.1 a.2 hp
 ·cases hr
theorem wG:EV.Dy Tryz.prog G0 Yn 230 dD:=fun(a:List Int×List Int) r hr=>⟨fun _ _=>wF a r hr,fun _ h=>absurd (show false=true from h) Bool.false_ne_true,fun h=>absurd (show false=true from h) Bool.false_ne_true,fun h=>absurd (show false=true from h) Bool.false_ne_true⟩
def Pp:SU:=⟨[i6,i6],[i6],false,false,fun(a:Int×Int)=>some (Qo a.1 a.2)⟩
theorem Pq:OK 233 Pp:=mkS bB8 [.tmp 4] (gc dV (gc kX (gc nY (gc kC aC)))) func233 ntmps233 (fun a _=>(Oo a.1 a.2).trans) (fun _=>by kernel_rfl)
def aBf:SU:=⟨[i6,i6],[i6],false,false,fun(a:Int×Int)=>some (jT a.1 a.2)⟩
theorem aBg:OK 232 aBf:=mkS .n [.tmp 4] (gc jO (gc H8 aC)) func232 ntmps232 (fun a _=>(Z0 a.1 a.2).trans) (fun _=>by kernel_rfl)
def I4:SU:=⟨[i6,i6],[i6],false,false,fun(a:Int×Int)=>some (mI a.1 a.2)⟩
theorem I5:OK 284 I4:=mkS .n [.tmp 4] (gc jO aC) func284 ntmps284 (fun a _=>(Zx a.1 a.2).trans) (fun _=>by kernel_rfl)
def aJh:SU:=⟨[i6,i6],[i6],false,false,fun(a:Int×Int)=>some (Eb a.1 a.2)⟩
theorem aJi:OK 285 aJh:=mkS .n [.tmp 4] (gc dP (gc lJ aC)) func285 ntmps285 (fun a _=>(aIb a.1 a.2).trans) (fun _=>by kernel_rfl)
def aBh:SU:=⟨[.st 35,i6],[i6, .bool],false,false,fun(a:D.aAL×Int)=>some (yQ a.1 a.2)⟩
theorem aBi:OK 231 aBh:=mkS bFj [.tmp 4, .tmp 5] (gc I5 (gc aJi aC)) func231 ntmps231 (fun a _=>(Z9 a.1 a.2).trans) (fun _=>by kernel_rfl)
def I6:SU:=⟨[.st 35, .sl 81, .sl 3,i6,i6],[.sl 81,i6, .bool, .bool],true,false,fun(a:D.aAL×(List D.aAA)×(List Int)×Int×Int)=>gd (lW D.aAA.sz a.2.1≤34000000000∧a.2.2.1.length≤100000000) (some (aVl a.1 a.2.1 a.2.2.1 a.2.2.2.1 a.2.2.2.2))⟩
theorem I7:OK 148 I6:=mkS (.s .n (.s .n (.s .n (.s .n (.s .n (.s .n (.s .n (.s (.j ⟨[(16,3),(1,4),(20,36)],[.tr (.s 16) 2 3 true, .tr (.s 17) 3 3 true, .dat (.s 18) .bool, .ti 1 81 true],[],[]⟩ (.s .n (.s (.l ⟨[(16,3),(1,4),(22,34)],[.tr (.s 16) 2 3 true, .tr (.s 17) 3 3 true, .dat (.s 18) .bool, .nat (.s 46), .ti 1 81 true],[],[]⟩ FUEL (.s .n (.s .n (.s (.s (.s .n (.s .n (.s .n (.s (.rj 2 ⟨[(18,1),(46,3)],[.dat (.s 18) .bool],[],[]⟩ .n) .n)))) .n) .n)))) .n))) (.s (.s (.rj 3 ⟨[(82,7)],[.dat (.s 88) .bool],[],[]⟩ .n) .n) (.s .n (.s .n bFb))))))))))) [.tmp 10, .tmp 11, .tmp 12, .tmp 13] (gc qB (gc aKz (gc I1 (gc aJg (gc wG (gc Pq (gc aBg (gc aBi aC)))))))) func148 ntmps148 (fun a _=>aF (o7 a.1 a.2.1 a.2.2.1 a.2.2.2.1 a.2.2.2.2)) (fun _=>by kernel_rfl)
def I8:SU:=⟨[.st 35, .sl 81, .sl 3,i6,i6],[.sl 81,i6, .bool],true,false,fun(a:D.aAL×(List D.aAA)×(List Int)×Int×Int)=>gd (lW D.aAA.sz a.2.1≤34000000000∧a.2.2.1.length≤100000000) (some (lM a.1 a.2.1 a.2.2.1 a.2.2.2.1 a.2.2.2.2))⟩
theorem I9:OK 61 I8:=mkS .n [.tmp 10, .tmp 11, .tmp 12] (gc I7 aC) func61 ntmps61 (fun a _=>aF (o8 a.1 a.2.1 a.2.2.1 a.2.2.2.1 a.2.2.2.2)) (fun _=>by kernel_rfl)
def J2:SU:=⟨[.st 39,i6,i6,i6],[.st 39, .bool],true,false,fun(a:D.aAJ×Int×Int×Int)=>gd (a.1.sz≤34359738300) (some (zN a.1 a.2.1 a.2.2.1 a.2.2.2))⟩
theorem J3:OK 149 J2:=mkS (.s .n (.s .n (.s .n (.s .n (.s (.j ⟨[(11,3),(16,29)],[.tr (.c 3 0) 2 193 true],[],[]⟩ (.s .n (.s (.s .n (.s (.j ⟨[(11,3),(20,12)],[.dat (.s 11) i6],[],[]⟩ (.s .n (.s (.l ⟨[(11,3),(23,9)],[.dat (.s 11) i6, .nat (.s 37)],[],[]⟩ FUEL .n) .n))) bKh)) .n))) .n))))) [.cell 8 39, .tmp 9] (gc pE (gc Fh aC)) func149 ntmps149 (fun a _=>aF (Zq a.1 a.2.1 a.2.2.1 a.2.2.2)) (fun _=>by kernel_rfl)
def Ps:SU:=⟨[.st 41, .sl 3,i6],[.st 41,i6, .bool],true,false,fun(a:D.World×(List Int)×Int)=>gd (a.1.sz≤34000000000∧a.2.1.length≤100000000) (some (cB a.1 a.2.1 a.2.2))⟩
theorem sW:OK 16 Ps:=mkS (.s .n (.s .n (.s .n (.s (.r none (od 22 [10,11,14])) (.s .n (.s (.il 1 .n .n) .n)))))) [.cell 6 41, .tmp 7, .tmp 8] (gc qC (gc jF (gc lJ (gc I9 (gc (sIl 62) (gc J3 aC)))))) func16 ntmps16 (fun a _=>aF (Ot a.1 a.2.1 a.2.2)) (fun _=>by kernel_rfl)
def J4:SU:=⟨[.st 41,i6],[.st 41, .bool],true,false,fun(a:D.World×Int)=>gd (a.1.sz≤33000000) (some (jU a.1 a.2))⟩
theorem J5:OK 10 J4:=mkS (.s .n (.s .n (.s (.j ⟨[(6,2),(4,16)],[.tr (.s 6) 2 3 true],[],[]⟩ (.s .n (.s (.l ⟨[(6,2),(4,16)],[.tr (.s 6) 2 3 true, .nat (.s 7)],[],[]⟩ FUEL .n) .n))) .n))) [.cell 4 41, .tmp 5] (gc sW aC) func10 ntmps10 (fun a _=>aF (p8 a.1 a.2)) (fun _=>by kernel_rfl)
def aJj:SU:=⟨[.st 81],[.st 81],true,false,fun(a:D.aAA)=>gd (a.sz≤34359738368) (some (a))⟩
theorem Mc:OK 235 aJj:=mkS .n [.cell 2 81] aC func235 ntmps235 (fun(a:D.aAA) _=>aF (aHr a)) (fun _=>by kernel_rfl)
def aEh:SU:=⟨[.sl 81],[.sl 81],true,false,fun(a:(List D.aAA))=>gd (lW D.aAA.sz a≤34359738368) (some (a))⟩
theorem rR:OK 153 aEh:=mkS (.s .n (.s .n (.s (.j ⟨[(3,2),(1,14)],[.tr (.s 3) 0 81 true],[],[]⟩ (.s .n (.s (.l ⟨[(3,2),(1,14)],[.tr (.s 3) 0 81 true, .nat (.s 4)],[],[]⟩ FUEL .n) .n))) .n))) [.tmp 2] (gc Mc aC) func153 ntmps153 (fun(a:(List D.aAA)) _=>aF (aDc a)) (fun _=>by kernel_rfl)
def aJk:SU:=⟨[.st 39],[.st 39],true,false,fun(a:D.aAJ)=>gd (a.sz≤34359738368) (some (a))⟩
theorem Md:OK 154 aJk:=mkS .n [.cell 2 39] aC func154 ntmps154 (fun(a:D.aAJ) _=>aF (aHs a)) (fun _=>by kernel_rfl)
def aJl:SU:=⟨[.st 41],[.st 41],true,false,fun(a:D.World)=>gd (a.sz≤34359738368) (some (a))⟩
theorem aJm:OK 65 aJl:=mkS (.s .n (.s .n (.s .n (.s (.j ⟨[(4,1),(4,18)],[.tr (.c 2 2) 3 74 true],[],[]⟩ (.s .n (.s (.l ⟨[(4,1),(4,18)],[.nat (.s 4), .tr (.c 2 2) 3 74 true],[],[]⟩ FUEL aV8) .n))) (.s .n (.s .n (.s .n (.s (.j ⟨[(5,1),(32,18)],[.tr (.c 2 8) 8 65 true],[],[]⟩ (.s .n (.s (.l ⟨[(5,1),(32,18)],[.nat (.s 5), .tr (.c 2 8) 8 65 true],[],[]⟩ FUEL aV8) .n))) .n)))))))) [.cell 2 41] (gc kW (gc Lp (gc vS (gc rR (gc Md aC))))) func65 ntmps65 (fun(a:D.World) _=>aF (aHt a)) (fun _=>by kernel_rfl)
def Gu:SU:=⟨[.st 39],[.bool],false,false,fun(a:D.aAJ)=>gd (a.sz≤34359738368) (some (cZ a))⟩
theorem pF:OK 84 Gu:=mkS (.s .n (.s (.jx ⟨[(2,47)],[],[],[]⟩ (.s .n (.s (.l ⟨[(2,47)],[.nat (.s 3)],[],[]⟩ FUEL bFi) .n))) .n)) [.tmp 2] (gc bE aC) func84 ntmps84 (fun(a:D.aAJ) _=>aF (Fs a)) (fun _=>by kernel_rfl)
def Pt:SU:=⟨[.st 41],[.bool],false,false,fun(a:D.World)=>gd (a.sz≤34359738368) (some (bK a))⟩
theorem Pv:OK 30 Pt:=mkS (.s .n (.s (.jx ⟨[(2,27)],[],[],[]⟩ (.s .n (.s (.l ⟨[(2,27)],[.nat (.s 3)],[],[]⟩ FUEL (.s .n (.s (.s (.s (.rj 8 ⟨[(18,11)],[.dat (.s 28) .bool],[],[]⟩ (.r none (od 18 [5,15]))) .n) .n) .n))) .n))) (.s (.rj 4 ⟨[(2,1),(29,37)],[.dat (.s 2) .bool],[],[]⟩ .n) .n))) [.tmp 2] (gc mW (gc Fb (gc bE (gc pF (gc gP (gc bS aC)))))) func30 ntmps30 (fun(a:D.World) _=>aF (Ny a)) (fun _=>by kernel_rfl)
def aBj:SU:=⟨[.sl 81, .sl 3],[.bool],false,false,fun(a:(List D.aAA)×(List Int))=>gd (a.1.length≤34359738368∧a.2.length≤34359738368) (some (gJ a.1 a.2))⟩
theorem aBk:OK 209 aBj:=mkS (.s .n (.s (.jx ⟨[(4,32)],[],[],[]⟩ (.s .n (.s (.l ⟨[(4,32)],[.nat (.s 5)],[],[]⟩ FUEL (.s .n (.s (.jx ⟨[(4,1),(1,1),(6,23)],[],[],[]⟩ (.s (.s .n (.s .n (.s (.l ⟨[(4,1),(1,1),(15,14)],[.nat (.s 6)],[],[]⟩ FUEL bEi) .n))) .n)) .n))) .n))) .n)) [.tmp 4] (gc bE aC) func209 ntmps209 (fun a _=>aF (aAa a.1 a.2)) (fun _=>by kernel_rfl)
def J6:SU:=⟨[i6,i6,i6],[i6],false,false,fun(a:Int×Int×Int)=>some (bZ a.1 a.2.1 a.2.2)⟩
theorem J7:OK 211 J6:=mkS .n [.tmp 6] (gc jW (gc vV (gc iG aC))) func211 ntmps211 (fun a _=>(d9 a.1 a.2.1 a.2.2).trans) (fun _=>by kernel_rfl)
def aBl:SU:=⟨[.sl 76],[.bool],false,false,fun(a:(List D.aAM))=>gd (a.length≤34359738368) (some (pQ a))⟩
theorem aBm:OK 334 aBl:=mkS (.s .n (.s (.jx ⟨[(2,41)],[],[],[]⟩ (.s .n (.s (.l ⟨[(2,41)],[.nat (.s 3)],[],[]⟩ FUEL (.s .n (.s (.jx ⟨[(2,1),(1,1),(6,32)],[],[],[]⟩ (.s (.s (.s (.rj 8 ⟨[(18,9)],[.dat (.s 26) .bool],[],[]⟩ .n) .n) (.s .n (.s (.l ⟨[(2,1),(1,1),(22,16)],[.nat (.s 4)],[],[]⟩ FUEL (.s .n (.s (.s (.s (.r none (od 11 [])) .n) .n) .n))) .n))) .n)) .n))) .n))) .n)) [.tmp 2] (gc bE aC) func334 ntmps334 (fun(a:(List D.aAM)) _=>aF (Y1 a)) (fun _=>by kernel_rfl)
def Me:SU:=⟨[.st 78],[.bool],false,false,fun(a:D.aAQ)=>some (dX a)⟩
theorem Mf:OK 329 Me:=mkS bFn [.tmp 2] (gc aBm (gc bE aC)) func329 ntmps329 (fun a _=>(Km a).trans) (fun _=>by kernel_rfl)
def Mg:SU:=⟨[.st 76,i6],[i6],false,false,fun(a:D.aAM×Int)=>some (mJ a.1 a.2)⟩
theorem Mh:OK 330 Mg:=mkS bFm [.tmp 4] (gc fG (gc bE (gc iG aC))) func330 ntmps330 (fun a _=>(Ku a.1 a.2).trans) (fun _=>by kernel_rfl)
def aBn:SU:=⟨[.st 78,i6],[.st 78,i6, .bool],false,false,fun(a:D.aAQ×Int)=>some (eQ a.1 a.2)⟩
theorem aBo:OK 312 aBn:=mkS (.s .n (.s (.s (.rj 4 ⟨[(11,16)],[.dat (.s 26) .bool],[],[]⟩ .n) .n) (.s .n (.s .n (.s (.r (some 5) (od 8 [4,5,6,7])) .n))))) [.cell 4 78, .tmp 5, .tmp 6] (gc Mf (gc fG (gc Mh aC))) func312 ntmps312 (fun a _=>(Z6 a.1 a.2).trans) (fun _=>by kernel_rfl)
def aK0:SU:=⟨[.sl 81, .sl 3,i6],[.sl 81, .sl 3, .sl 3],false,false,fun(a:(List D.aAA)×(List Int)×Int)=>gd ((lW D.aAA.sz a.1≤34000000000∧a.2.1.length≤100000000)∧gJ a.1 a.2.1=true) (some (jE a.1 a.2.1 a.2.2))⟩
theorem aK1:OK 210 aK0:=mkS (.s .n (.s .n (.s .n (.s .n (.s (.j ⟨[(10,6),(4,38)],[.tr (.s 10) 1 3 true, .tr (.s 11) 2 3 true, .ti 0 81 false],[],[]⟩ (.s .n (.s (.l ⟨[(10,6),(4,38)],[.tr (.s 10) 1 3 true, .tr (.s 11) 2 3 true, .nat (.s 12), .ti 0 81 false],[],[]⟩ FUEL (.s .n (.s (.j ⟨[(10,2),(1,3),(10,32)],[.tr (.s 10) 1 3 true, .tr (.s 11) 2 3 true, .ti 0 81 false],[],[]⟩ (.s (.s (.il 8 (.s .n (.s .n (.s (.s (.rj 7 ⟨[(25,4)],[.dat (.s 28) .bool],[],[]⟩ (.r none [(0,true),(1,true),(3,true),(4,true),(2,false),(5,true),(6,true),(7,true),(8,true),(9,true)])) .n) (.s (.u [] [7,12] [(0,true),(2,true),(3,true),(5,true),(6,true),(9,true),(1,false),(4,false),(7,false),(8,false),(10,false),(11,false),(12,false),(13,false)]) .n)))) .n) bJd) .n)) .n))) .n))) .n))))) [.tmp 6, .tmp 7, .tmp 8] (gc rR (gc (sIl 271) (gc aBo (gc Ls (gc Mc (gc (bE6 2000000) aC)))))) func210 ntmps210 (fun a _=>aF (aKk a.1 a.2.1 a.2.2)) (fun _=>by kernel_rfl)
def Dp:SU:=⟨[i6],[i6],false,false,fun(a:Int)=>some (oH a)⟩
theorem nZ:OK 274 Dp:=mkS (.s .n (.s .n (.s (.jx ⟨[(2,1),(1,1),(2,10)],[],[],[]⟩ (.s .n (.s (.l ⟨[(2,1),(1,1),(2,10)],[.dat (.s 4) i6],[],[]⟩ FUEL .n) .n))) .n))) [.tmp 2] (gc jW aC) func274 ntmps274 (fun a _=>(Db a).trans) (fun _=>by kernel_rfl)
def Gv:SU:=⟨[.sl 3,i6,i6],[i6],false,false,fun(a:(List Int)×Int×Int)=>gd (a.1.length≤34359738368) (some (rO a.1 a.2.1 a.2.2))⟩
theorem Gw:OK 273 Gv:=mkS (.s .n (.s .n (.s .n (.s (.jx ⟨[(6,6),(6,54)],[.dat (.s 7) i6],[],[]⟩ (.s .n (.s (.l ⟨[(6,6),(6,54)],[.dat (.s 7) i6, .nat (.s 8)],[],[]⟩ FUEL (.s .n (.s (.jx ⟨[(6,2),(1,3),(12,48)],[.dat (.s 7) i6],[],[]⟩ (.s (.s (.jx ⟨[(6,1),(2,1),(14,16)],[],[],[]⟩ (.s .n (.s (.l ⟨[(6,1),(2,1),(14,16)],[.nat (.s 9)],[],[]⟩ FUEL bFc) .n))) (.s .n (.s (.s (.r none [(0,true),(2,true),(3,true),(4,true),(5,true),(1,false),(6,false),(7,true),(8,false),(9,true)]) (.s (.r none [(0,true),(1,true),(2,true),(3,true),(5,true),(6,true),(7,true),(8,true),(4,false),(9,false),(10,true),(11,false),(12,true)]) .n)) .n))) .n)) .n))) .n))) .n)))) [.tmp 6] (gc bE (gc F5 (gc nZ aC))) func273 ntmps273 (fun a _=>aF (Gc a.1 a.2.1 a.2.2)) (fun _=>by kernel_rfl)
def aEi:SU:=⟨[i6,i6],[i6],false,false,fun(a:Int×Int)=>some (gL a.1 a.2)⟩
theorem aEj:OK 272 aEi:=mkS bB8 [.tmp 4] (gc fG aC) func272 ntmps272 (fun a _=>(aDr a.1 a.2).trans) (fun _=>by kernel_rfl)
def wH:SU:=⟨[.sl 3, .sl 3],[i6, .bool],false,false,fun(a:(List Int)×(List Int))=>gd (a.1.length≤34359738368∧a.2.length≤34359738368) (some (jL a.1 a.2))⟩
theorem wI:OK 212 wH:=mkS (.s .n (.s (.s (.rj 6 ⟨[(15,5)],[.dat (.s 19) .bool],[],[]⟩ .n) .n) (.s (.jx ⟨[(4,4),(12,34)],[],[],[]⟩ (.s .n (.s (.l ⟨[(4,4),(12,34)],[.nat (.s 6)],[],[]⟩ FUEL (.s .n (.s (.jx ⟨[(4,2),(1,1),(18,28)],[],[],[]⟩ (.s (.s (.s (.rj 7 ⟨[(32,8)],[.dat (.s 39) .bool],[],[]⟩ .n) .n) (.s .n (.s (.l ⟨[(4,2),(1,1),(32,14)],[.nat (.s 7)],[],[]⟩ FUEL bEi) .n))) .n)) .n))) .n))) (.s .n (.s (.j ⟨[(8,2),(44,16)],[.dat (.s 8) i6],[],[]⟩ (.s .n (.s (.l ⟨[(8,2),(44,16)],[.dat (.s 8) i6, .nat (.s 9)],[],[]⟩ FUEL (.s .n (.s (.s (.r none (od 11 [7,8,9])) .n) .n))) .n))) .n))))) [.tmp 4, .tmp 5] (gc bE (gc fG (gc Gw (gc iG (gc aEj aC))))) func212 ntmps212 (fun a _=>aF (wC a.1 a.2)) (fun _=>by kernel_rfl)
def Pw:SU:=⟨[i6,i6],[i6],false,false,fun(a:Int×Int)=>some (Qo a.1 a.2)⟩
theorem Px:OK 214 Pw:=mkS .n [.tmp 4] (gc jW (gc nZ (gc iG aC))) func214 ntmps214 (fun a _=>(Om a.1 a.2).trans) (fun _=>by kernel_rfl)
def aBp:SU:=⟨[.st 35,i6],[i6, .bool],false,false,fun(a:D.aAL×Int)=>some (yQ a.1 a.2)⟩
theorem aBq:OK 213 aBp:=mkS bFj [.tmp 4, .tmp 5] (gc yH (gc Lt aC)) func213 ntmps213 (fun a _=>(Z8 a.1 a.2).trans) (fun _=>by kernel_rfl)
def J8:SU:=⟨[.st 35, .sl 81, .sl 3,i6,i6],[.sl 81,i6, .bool],false,false,fun(a:D.aAL×(List D.aAA)×(List Int)×Int×Int)=>gd (lW D.aAA.sz a.2.1≤34000000000∧a.2.2.1.length≤100000000) (some (lM a.1 a.2.1 a.2.2.1 a.2.2.2.1 a.2.2.2.2))⟩
theorem J9:OK 127 J8:=mkS (.s .n (.s (.s (.rj 5 ⟨[(24,10)],[.dat (.s 33) .bool],[],[]⟩ .n) .n) (.s .n (.s .n (.s (.s (.rj 6 ⟨[(59,11)],[.dat (.s 69) .bool],[],[]⟩ .n) .n) bFb))))) [.tmp 10, .tmp 11, .tmp 12] (gc aBk (gc jW (gc bE (gc rR (gc J7 (gc aK1 (gc wI (gc Px (gc Bo (gc aBq aC)))))))))) func127 ntmps127 (fun a _=>aF (o6 a.1 a.2.1 a.2.2.1 a.2.2.2.1 a.2.2.2.2)) (fun _=>by kernel_rfl)
def K3:SU:=⟨[.st 39,i6,i6,i6],[.st 39, .bool],true,false,fun(a:D.aAJ×Int×Int×Int)=>gd (a.1.sz≤34359738300) (some (zN a.1 a.2.1 a.2.2.1 a.2.2.2))⟩
theorem K4:OK 158 K3:=mkS (.s .n (.s .n (.s .n (.s (.j ⟨[(10,3),(12,26)],[.tr (.s 10) 2 193 true],[],[]⟩ (.s .n (.s (.s .n (.s (.j ⟨[(11,2),(15,13)],[.dat (.s 11) i6],[],[]⟩ (.s .n (.s (.l ⟨[(11,2),(18,10)],[.dat (.s 11) i6, .dat (.s 12) i6],[],[]⟩ FUEL (.s .n (.s (.j ⟨[(11,1),(23,6)],[.dat (.s 11) i6],[],[]⟩ .n) .n))) .n))) (.y true none (some 9) [(1,true),(2,true),(3,true),(5,true),(6,true),(7,true),(8,true),(0,false),(4,false),(9,false),(10,true)]))) .n))) (.s .n (.s (.s (.rj 4 ⟨[(56,5)],[.dat (.s 60) .bool],[],[]⟩ .n) .n) .n)))))) [.cell 8 39, .tmp 9] (gc pF (gc Md aC)) func158 ntmps158 (fun a _=>aF (Zr a.1 a.2.1 a.2.2.1 a.2.2.2)) (fun _=>by kernel_rfl)
def Py:SU:=⟨[.st 41, .sl 3,i6],[.st 41,i6, .bool],false,false,fun(a:D.World×(List Int)×Int)=>gd (a.1.sz≤34000000000∧a.2.1.length≤100000000) (some (cB a.1 a.2.1 a.2.2))⟩
theorem Pz:OK 51 Py:=mkS (.s .n (.s .n (.s .n (.s .n (.s .n (.s .n bJb)))))) [.cell 6 41, .tmp 7, .tmp 8] (gc aJm (gc Pv (gc dS (gc J9 (gc (sIl 71) (gc K4 aC)))))) func51 ntmps51 (fun a _=>aF (Oq a.1 a.2.1 a.2.2)) (fun _=>by kernel_rfl)
def K5:SU:=⟨[.st 41,i6],[.st 41, .bool],false,false,fun(a:D.World×Int)=>gd (a.1.sz≤33000000) (some (jU a.1 a.2))⟩
theorem K6:OK 11 K5:=mkS (.s .n (.s .n (.s (.j ⟨[(6,2),(4,18)],[.tr (.s 6) 2 3 true],[],[]⟩ (.s .n (.s (.l ⟨[(6,2),(4,18)],[.tr (.s 6) 2 3 true, .dat (.s 7) i6],[],[]⟩ FUEL (.s (.s (.rj 6 ⟨[(17,7)],[.dat (.s 23) .bool],[],[]⟩ .n) .n) .n)) .n))) .n))) [.cell 4 41, .tmp 5] (gc Pz aC) func11 ntmps11 (fun a _=>aF (o9 a.1 a.2)) (fun _=>by kernel_rfl)
def aJn:SU:=⟨[.sl 154, .sl 154],[.bool],false,false,fun(a:(List D.aAB)×(List D.aAB))=>gd (mF a.1.length a.1 a.2∧a.1.length≤34359738368) (some true)⟩
theorem Mi:OK 128 aJn:=mkS (.s .n (.s (.rj 6 ⟨[(4,1),(5,5)],[.dat (.s 4) .bool],[],[]⟩ .n) .n)) [.tmp 4] (gc nW aC) func128 ntmps128 (fun a _=>aF (aIe a.1 a.2)) (fun _=>by kernel_rfl)
def Qa:SU:=⟨[.st 72, .st 72],[.bool],false,false,fun(a:D.aAE×D.aAE)=>gd (mF a.1.sz a.1 a.2∧a.1.sz≤34359738368) (some true)⟩
theorem Qb:OK 129 Qa:=mkS bFa [.tmp 4] aC func129 ntmps129 (fun a _=>aF (Ou a.1 a.2)) (fun _=>by kernel_rfl)
def Qc:SU:=⟨[.st 74, .st 74],[.bool],false,false,fun(a:D.Device×D.Device)=>gd (mF a.1.sz a.1 a.2∧a.1.sz≤34359738368) (some true)⟩
theorem Qd:OK 52 Qc:=mkS (.s .n (.s (.rj 6 ⟨[(4,1),(5,35)],[.dat (.s 4) .bool],[],[]⟩ .n) .n)) [.tmp 4] (gc Mi (gc Qb aC)) func52 ntmps52 (fun a _=>aF (Ov a.1 a.2)) (fun _=>by kernel_rfl)
def K7:SU:=⟨[.st 63, .st 63],[.bool],false,false,fun(a:D.aAF×D.aAF)=>gd (mF a.1.sz a.1 a.2∧a.1.sz≤34359738368) (some true)⟩
theorem K8:OK 130 K7:=mkS bHo [.tmp 4] aC func130 ntmps130 (fun a _=>aF (p9 a.1 a.2)) (fun _=>by kernel_rfl)
def aBr:SU:=⟨[.sl 3, .sl 3],[.bool],false,false,fun(a:(List Int)×(List Int))=>gd (mF a.1.length a.1 a.2∧a.1.length≤34359738368) (some true)⟩
theorem aBs:OK 131 aBr:=mkS bFg [.tmp 4] aC func131 ntmps131 (fun a _=>aF (aAb a.1 a.2)) (fun _=>by kernel_rfl)
def Mj:SU:=⟨[.st 59, .st 59],[.bool],false,false,fun(a:D.aAG×D.aAG)=>gd (mF a.1.sz a.1 a.2∧a.1.sz≤34359738368) (some true)⟩
theorem Mk:OK 132 Mj:=mkS bHo [.tmp 4] aC func132 ntmps132 (fun a _=>aF (Kw a.1 a.2)) (fun _=>by kernel_rfl)
def K9:SU:=⟨[.st 65, .st 65],[.bool],false,false,fun(a:D.Site×D.Site)=>gd (mF a.1.sz a.1 a.2∧a.1.sz≤34359738368) (some true)⟩
theorem L6:OK 53 K9:=mkS (.s .n (.s (.s (.rj 6 ⟨[(11,25)],[.dat (.s 35) .bool],[],[]⟩ .n) .n) (.s (.jx ⟨[(4,2),(30,19)],[],[],[]⟩ (.s .n (.s (.l ⟨[(4,2),(30,19)],[.nat (.s 5)],[],[]⟩ FUEL bB7) .n))) .n))) [.tmp 4] (gc K8 (gc aBs (gc Mk aC))) func53 ntmps53 (fun a _=>aF (q8 a.1 a.2)) (fun _=>by kernel_rfl)
def L8:SU:=⟨[.st 224, .st 224],[.bool],false,false,fun(a:D.Box×D.Box)=>gd (mF a.1.sz a.1 a.2∧aR a.1.Data) (some true)⟩
theorem L9:OK 215 L8:=mkS bFo [.tmp 4] (gc nX aC) func215 ntmps215 (fun a _=>aF (q9 a.1 a.2)) (fun _=>by kernel_rfl)
def Dq:SU:=⟨[.st 29, .st 29],[.bool],false,false,fun(a:D.aAD×D.aAD)=>gd (mF a.1.sz a.1 a.2∧(a.1.sz≤34359738368∧aXu a.1)) (some true)⟩
theorem Dt:OK 133 Dq:=mkS (.s .n (.s (.s (.rj 6 ⟨[(11,9)],[.dat (.s 19) .bool],[],[]⟩ .n) .n) (.s (.jx ⟨[(4,2),(14,19)],[],[],[]⟩ (.s .n (.s (.l ⟨[(4,2),(14,19)],[.nat (.s 5)],[],[]⟩ FUEL bB7) .n))) .n))) [.tmp 4] (gc L9 aC) func133 ntmps133 (fun a _=>aF (De a.1 a.2)) (fun _=>by kernel_rfl)
def Vy:SU:=⟨[.st 106, .st 106],[.bool],false,false,fun(a:D.aAC×D.aAC)=>gd (mF a.1.sz a.1 a.2∧aR a.1.Data) (some true)⟩
theorem Vz:OK 134 Vy:=mkS bFo [.tmp 4] (gc nX aC) func134 ntmps134 (fun a _=>aF (Ub a.1 a.2)) (fun _=>by kernel_rfl)
def Wd:SU:=⟨[.st 32, .st 32],[.bool],false,false,fun(a:D.aAH×D.aAH)=>gd (mF a.1.sz a.1 a.2∧(a.1.sz≤34359738368∧rP a.1)) (some true)⟩
theorem We:OK 54 Wd:=mkS (.s .n (.s (.s (.rj 7 ⟨[(12,17)],[.dat (.s 28) .bool],[],[]⟩ .n) .n) (.s (.jx ⟨[(4,2),(23,19)],[],[],[]⟩ (.s .n (.s (.l ⟨[(4,2),(23,19)],[.nat (.s 5)],[],[]⟩ FUEL bB7) .n))) .n))) [.tmp 4] (gc Mi (gc Dt (gc Vz aC))) func54 ntmps54 (fun a _=>aF (Uc a.1 a.2)) (fun _=>by kernel_rfl)
def M0:SU:=⟨[.st 81, .st 81],[.bool],false,false,fun(a:D.aAA×D.aAA)=>gd (mF a.1.sz a.1 a.2∧a.1.sz≤34359738368) (some true)⟩
theorem M3:OK 135 M0:=mkS bHo [.tmp 4] aC func135 ntmps135 (fun a _=>aF (r9 a.1 a.2)) (fun _=>by kernel_rfl)
def Du:SU:=⟨[.sl 81, .sl 81],[.bool],false,false,fun(a:(List D.aAA)×(List D.aAA))=>gd (mF (lW D.aAA.sz a.1) a.1 a.2∧lW D.aAA.sz a.1≤34359738368) (some true)⟩
theorem Dv:OK 55 Du:=mkS (.s .n (.s .n (.s (.jx ⟨[(4,2),(5,16)],[],[],[]⟩ (.s .n (.s (.l ⟨[(4,2),(5,16)],[.nat (.s 5)],[],[]⟩ FUEL (.s .n (.s (.s (.s (.r none (od 10 [8])) .n) .n) .n))) .n))) .n))) [.tmp 4] (gc M3 aC) func55 ntmps55 (fun a _=>aF (Df a.1 a.2)) (fun _=>by kernel_rfl)
def Gx:SU:=⟨[.st 39, .st 39],[.bool],false,false,fun(a:D.aAJ×D.aAJ)=>gd (mF a.1.sz a.1 a.2∧a.1.sz≤34359738368) (some true)⟩
theorem Gy:OK 56 Gx:=mkS bFa [.tmp 4] aC func56 ntmps56 (fun a _=>aF (Gf a.1 a.2)) (fun _=>by kernel_rfl)
def Wh:SU:=⟨[.st 41, .st 41],[.bool],false,false,fun(a:D.World×D.World)=>gd (mF a.1.sz a.1 a.2∧(a.1.sz≤34359738368∧rP a.1.aAH)) (some true)⟩
theorem Wi:OK 12 Wh:=mkS (.s .n (.s (.s (.rj 6 ⟨[(13,48)],[.dat (.s 60) .bool],[],[]⟩ .n) .n) (.s (.jx ⟨[(4,2),(55,19)],[],[],[]⟩ (.s .n (.s (.l ⟨[(4,2),(55,19)],[.nat (.s 5)],[],[]⟩ FUEL bB7) .n))) (.s (.jx ⟨[(4,1),(1,1),(73,18)],[],[],[]⟩ (.s .n (.s (.l ⟨[(4,1),(1,1),(73,18)],[.nat (.s 6)],[],[]⟩ FUEL (.s .n (.s (.s (.s (.r none (od 11 [])) .n) .n) .n))) .n))) (.s (.jx ⟨[(4,1),(2,1),(90,19)],[],[],[]⟩ (.s .n (.s (.l ⟨[(4,1),(2,1),(90,19)],[.nat (.s 7)],[],[]⟩ FUEL bB7) .n))) (.s (.rj 6 ⟨[(4,1),(117,14)],[.dat (.s 4) .bool],[],[]⟩ .n) .n)))))) [.tmp 4] (gc Qd (gc L6 (gc We (gc Dv (gc Gy aC))))) func12 ntmps12 (fun a _=>aF (Ud a.1 a.2)) (fun _=>by kernel_rfl)
def Qe:SU:=⟨[.st 81,i6],[.st 81, .bool],true,false,fun(a:D.aAA×Int)=>gd (a.1.sz≤34359738368) (some (fT a.1 a.2))⟩
theorem Qf:OK 58 Qe:=mkS (.s .n (.s .n (.s (.s (.rj 3 ⟨[(11,7)],[.dat (.s 17) .bool],[],[]⟩ .n) .n) .n))) [.cell 4 81, .tmp 5] (gc mK aC) func58 ntmps58 (fun a _=>aF (Oc a.1 a.2)) (fun _=>by kernel_rfl)
def Ml:SU:=⟨[.st 41,i6,i6],[.st 41, .bool],true,false,fun(a:D.World×Int×Int)=>gd (a.1.sz≤34359738368) (some (dM a.1 a.2.1 a.2.2))⟩
theorem Mo:OK 14 Ml:=mkS (.s .n (.s .n (.s (.s (.rj 4 ⟨[(16,11)],[.dat (.s 26) .bool],[],[]⟩ .n) .n) .n))) [.cell 6 41, .tmp 7] (gc qC (gc jF (gc Qf aC))) func14 ntmps14 (fun a _=>aF (Kk a.1 a.2.1 a.2.2)) (fun _=>by kernel_rfl)
def aEk:SU:=⟨[.sl 81],[.sl 76],true,false,fun(a:(List D.aAA))=>gd (a.length≤34359738368) (some (a.map fun h=>h.State.aAM))⟩
theorem aEl:OK 146 aEk:=mkS (.s .n (.s .n (.s (.j ⟨[(3,1),(1,1),(1,13)],[.tr (.s 3) 0 76 true],[],[]⟩ (.s .n (.s (.l ⟨[(3,1),(1,1),(3,11)],[.tr (.s 3) 0 76 true, .nat (.s 9)],[],[]⟩ FUEL .n) .n))) .n))) [.tmp 2] aC func146 ntmps146 (fun(a:(List D.aAA)) _=>aF (aDh a)) (fun _=>by kernel_rfl)
def M4:SU:=⟨[i6, .sl 3,i6],[i6],false,false,fun(a:Int×(List Int)×Int)=>gd (0≤a.2.2∧a.2.2≤1000∧a.2.1.length≤34359738368) (some (iD a.1 a.2.1 a.2.2))⟩
theorem M5:OK 225 M4:=mkS bFd [.tmp 6] (gc kX aC) func225 ntmps225 (fun a _=>aF (Zb a.1 a.2.1 a.2.2)) (fun _=>by kernel_rfl)
def Mq:SU:=⟨[.sl 76, .sl 3],[.sl 76],true,false,fun(a:(List D.aAM)×(List Int))=>gd (a.1.length≤34359738368∧a.2.length≤34359738368) (some (fZ a.1 a.2))⟩
theorem Mr:OK 145 Mq:=mkS (.s .n (.s .n (.s .n (.s (.j ⟨[(5,1),(1,1),(4,21)],[.tr (.s 5) 0 76 true],[],[]⟩ (.s .n (.s (.l ⟨[(5,1),(1,1),(6,19)],[.tr (.s 5) 0 76 true, .nat (.s 14)],[],[]⟩ FUEL (.s .n (.s .n (.s (.s (.s .n (.r (some 13) (od 15 [8,12,13,14]))) .n) .n)))) .n))) .n)))) [.tmp 4] (gc qD (gc M5 aC)) func145 ntmps145 (fun a _=>aF (Kl a.1 a.2)) (fun _=>by kernel_rfl)
def Qg:SU:=⟨[.st 81, .st 76],[.st 81, .bool],true,false,fun(a:D.aAA×D.aAM)=>gd (a.1.sz≤34359738368) (some (aGa a.1 a.2))⟩
theorem Qh:OK 147 Qg:=mkS (.s .n (.s .n (.s .n (.s (.s (.rj 4 ⟨[(15,26)],[.dat (.s 40) .bool],[],[]⟩ (.r none [(0,true),(1,false),(2,true),(3,true),(4,true),(6,true),(7,true),(5,false),(8,true),(9,true),(10,true),(11,true),(12,true),(13,true),(14,true),(15,true),(16,true),(17,true),(18,true),(19,true),(20,true),(21,true),(22,true),(23,true),(24,true),(25,false),(26,false),(27,true),(28,true)])) .n) .n)))) [.cell 4 81, .tmp 5] (gc mK (gc rH (gc rQ (gc qD aC)))) func147 ntmps147 (fun a _=>aF (Od a.1 a.2)) (fun _=>by kernel_rfl)
def M6:SU:=⟨[.sl 81, .sl 3],[.sl 81, .bool],true,false,fun(a:(List D.aAA)×(List Int))=>gd (lW D.aAA.sz a.1≤34359738368∧a.2.length≤34359738368) (some (dC a.1 a.2))⟩
theorem M7:OK 60 M6:=mkS (.s .n (.s .n (.s .n (.s .n (.s (.jx ⟨[(4,2),(1,5),(10,25)],[.tr (.s 7) 2 81 true],[],[]⟩ (.s .n (.s (.l ⟨[(4,2),(1,5),(12,23)],[.tr (.s 7) 2 81 true, .nat (.s 24)],[],[]⟩ FUEL (.s .n (.s .n (.s (.s (.s .n (.s (.y false (some 9) (some 10) (od 12 [5,9,10])) .n)) .n) .n)))) .n))) .n))))) [.tmp 4, .tmp 5] (gc aEl (gc Mr (gc qB (gc Qh aC)))) func60 ntmps60 (fun a _=>aF (Zc a.1 a.2)) (fun _=>by kernel_rfl)
def M8:SU:=⟨[.st 41],[.st 41, .bool],true,false,fun(a:D.World)=>gd (a.sz≤34359738368) (some (bR a))⟩
theorem M9:OK 15 M8:=mkS (.s .n (.s .n (.s .n (.s .n (.s (.j ⟨[(5,2),(9,21)],[.tr (.s 5) 11 3 true],[],[]⟩ (.s .n (.s (.l ⟨[(5,2),(9,21)],[.tr (.s 5) 11 3 true, .dat (.s 6) i6],[],[]⟩ FUEL (.s (.s (.rj 6 ⟨[(21,4)],[.dat (.s 24) .bool],[],[]⟩ .n) .n) .n)) .n))) .n))))) [.cell 2 41, .tmp 3] (gc qC (gc jF (gc lJ (gc M7 aC)))) func15 ntmps15 (fun(a:D.World) _=>aF (Zd a)) (fun _=>by kernel_rfl)
def Wj:SU:=⟨[.st 41],[i6],false,false,fun(a:D.World)=>some (Cn a)⟩
theorem Wl:OK 17 Wj:=mkS .n [.tmp 2] (gc lJ aC) func17 ntmps17 (fun a _=>(Tw a).trans) (fun _=>by kernel_rfl)
def rJ:SU:=⟨[.sl 5],[.bool],false,false,fun(a:(List Int))=>gd (U0 a) (some true)⟩
theorem Mt:OK 3 rJ:=mkS (.s .n (.s .n (.s .n (.s .n (.s (.jx ⟨[(2,1),(1,6),(17,43)],[.dat (.s 4) i6, .dat (.c 0 0) i6, .dat (.c 0 1) i6, .dat (.c 0 2) (.sl 74), .dat (.c 0 3) (.sl 4), .dat (.c 0 4) (.sl 154), .dat (.c 0 5) i6, .dat (.c 0 6) (.sl 224), .dat (.c 0 7) (.sl 106), .dat (.c 0 8) (.sl 65), .dat (.c 0 9) i6, .dat (.c 0 10) i6, .dat (.c 0 11) i6, .dat (.c 0 12) i6, .dat (.c 0 13) (.sl 81), .dat (.c 0 14) i6, .dat (.c 0 15) (.sl 193)],[],[]⟩ (.s .n (.s (.l ⟨[(2,1),(1,6),(17,43)],[.dat (.s 4) i6, .nat (.s 5), .dat (.c 0 0) i6, .dat (.c 0 1) i6, .dat (.c 0 2) (.sl 74), .dat (.c 0 3) (.sl 4), .dat (.c 0 4) (.sl 154), .dat (.c 0 5) i6, .dat (.c 0 6) (.sl 224), .dat (.c 0 7) (.sl 106), .dat (.c 0 8) (.sl 65), .dat (.c 0 9) i6, .dat (.c 0 10) i6, .dat (.c 0 11) i6, .dat (.c 0 12) i6, .dat (.c 0 13) (.sl 81), .dat (.c 0 14) i6, .dat (.c 0 15) (.sl 193)],[],[]⟩ FUEL (.s .n (.s (.s (.s bFf (.s bFf (.s (.s (.rj 4 ⟨[(52,14)],[.dat (.s 65) .bool],[],[]⟩ .n) .n) .n))) .n) .n))) .n))) (.s (.y false (some 8) (some 9) (od 11 [2,4,8,9])) (.s (.s (.rj 3 ⟨[(80,5)],[.dat (.s 84) .bool],[],[]⟩ .n) .n) (.s .n (.s .n (.s .n (.s (.rj 3 ⟨[(2,1),(101,21)],[.dat (.s 2) .bool],[],[]⟩ .n) .n))))))))))) [.tmp 2] (gc aT4 (gc aYm (gc aD6 (gc Vt (gcp J5 (gc K6 (gc Wi (gc Dh (gcp Mo (gcp M9 (gcp sW (gc Wl aC)))))))))))) func3 ntmps3 (fun(a:(List Int)) _=>aF (Ky a)) (fun _=>by kernel_rfl)
end
end Go.VK
