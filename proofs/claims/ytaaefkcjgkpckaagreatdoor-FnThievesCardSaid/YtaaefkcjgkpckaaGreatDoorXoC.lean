import Derived.Test.YtaaefkcjgkpckaaGreatDoorXoL
import Derived.Test.YtaaefkcjgkpckaaGreatDoorXoM
import Derived.Test.YtaaefkcjgkpckaaGreatDoorXoPza
/- Printed by wip/tools: models, walks, proofs. -/
set_option linter.unusedVariables false
set_option linter.unusedSimpArgs false
set_option maxRecDepth 100000
set_option maxHeartbeats 4000000
namespace Go.VK
open Go.RowKit Go.Proofs Tryz
noncomputable section
def i6:EV.Kd:= .int .i64
def bIm:EV.An:=(.s .n (.s .n (.s .n (.s (.j ⟨[(9,1),(2,17)],[.dat (.s 9) i6],[],[]⟩ (.s (.l ⟨[(9,1),(2,17)],[.dat (.s 9) i6],[],[]⟩ FUEL (.s (.s (.rj 6 ⟨[(17,10)],[.dat (.s 26) .bool],[],[]⟩ .n) .n) .n)) .n)) (.s (.y true (some 9) (some 17) [(1,true),(2,true),(3,true),(4,true),(6,true),(7,true),(8,true),(11,true),(12,true),(13,true),(14,true),(0,false),(5,false),(9,false),(10,false),(15,false),(16,false),(17,false)]) (.s (.s (.rj 4 ⟨[(49,5)],[.dat (.s 53) .bool],[],[]⟩ .n) .n) .n))))))
def bIn:EV.An:=(.s .n (.s .n (.s (.j ⟨[(0,2),(3,16)],[.dat (.s 5) i6],[],[]⟩ (.s (.l ⟨[(0,2),(3,16)],[.dat (.s 0) i6, .dat (.s 1) i6, .dat (.s 5) i6],[],[]⟩ FUEL (.s .n (.s (.s (.j ⟨[(5,1),(2,7)],[.dat (.s 5) i6],[],[]⟩ .n) .n) .n))) .n)) .n)))
def bG3:EV.An:=(.s .n (.s (.jx ⟨[(4,17)],[],[],[]⟩ (.s .n (.s (.l ⟨[(4,3),(3,11)],[.nat (.s 10)],[],[]⟩ FUEL .n) .n))) .n))
def bEj:EV.An:=(.s .n (.s .n (.s (.s (.s .n (.r (some 5) (od 8 [3,4,5,6,7]))) .n) .n)))
def bIo:EV.An:=(.s .n (.s (.s (.s (.y false (some 9) (some 10) [(0,true),(1,true),(3,true),(4,true),(2,false),(5,false),(6,true),(7,true),(8,true),(9,false),(10,false),(11,true)]) .n) .n) .n))
def bIp:EV.An:=(.s .n (.s (.s (.s (.r none (od 9 [])) .n) .n) .n))
def bIq:EV.An:=(.y true none (some 13) [(1,true),(2,true),(3,true),(4,true),(6,true),(7,true),(8,true),(9,true),(10,true),(0,false),(5,false),(11,false),(12,false),(13,false)])
def bIr:EV.An:=(.s .n (.s (.y false (some 5) (some 9) [(0,true),(1,true),(2,true),(3,true),(4,true),(6,true),(7,true),(8,false),(5,false),(9,false),(10,false),(11,true)]) .n))
def aVx:EV.An:=(.s .n (.s (.s (.r (some 9) (od 12 [7,8,9,10,11])) .n) .n))
def bIs:EV.An:=(.s .n (.s .n (.s (.j ⟨[(7,19)],[.dat (.s 7) i6],[],[]⟩ (.s .n (.s (.l ⟨[(7,2),(3,14)],[.dat (.s 7) i6, .dat (.s 8) i6],[],[]⟩ FUEL .n) .n))) .n)))
def bE1:EV.An:=(.s .n (.s (.y true none (some 9) [(0,true),(1,true),(2,true),(3,true),(5,true),(6,true),(4,false),(7,false),(8,false),(9,false)]) .n))
def bE2:EV.An:=(.y false (some 9) (some 10) (od 12 [4,5,9,10]))
def bIt:EV.An:=(.s .n (.s .n (.s (.jx ⟨[(4,2),(5,15)],[],[],[]⟩ (.s .n (.s (.l ⟨[(4,2),(5,15)],[.nat (.s 5)],[],[]⟩ FUEL bIp) .n))) .n)))
def bE3:EV.An:=(.y false (some 7) (some 8) [(0,true),(1,true),(3,true),(4,true),(2,false),(5,false),(6,true),(7,false),(8,false)])
def bE4:EV.An:=(.s .n (.s (.s (.s .n (.s (.rj 5 ⟨[(21,28)],[.dat (.s 48) .bool],[],[]⟩ (.r none (od 32 [2,7,13]))) .n)) .n) .n))
def bE5:EV.An:=(.s .n (.s (.r none [(0,true),(1,true),(2,true),(4,true),(3,false),(5,false),(6,false),(7,true)]) .n))
def bE6:EV.An:=(.s .n (.s (.jx ⟨[(4,18)],[],[],[]⟩ (.s .n (.s (.l ⟨[(4,18)],[.nat (.s 5)],[],[]⟩ FUEL .n) .n))) .n))
def bE7:EV.An:=(.s .n (.s .n (.s (.rj 3 ⟨[(6,1),(5,7)],[.dat (.s 6) .bool],[],[]⟩ .n) .n)))
def bIu:EV.An:=(.s (.il 0 (.s (.y false (some 13) (some 14) (od 16 [9,13,14])) .n) .n) .n)
def bE8:EV.An:=(.s .n (.s (.rj 4 ⟨[(6,1),(3,5)],[.dat (.s 6) .bool],[],[]⟩ .n) .n))
def bIv:EV.An:=(.s .n (.s (.rj 3 ⟨[(2,1),(2,5)],[.dat (.s 2) .bool],[],[]⟩ .n) .n))
def bE9:EV.An:=(.s .n (.s (.rj 3 ⟨[(4,1),(2,7)],[.dat (.s 4) .bool],[],[]⟩ .n) .n))
def bFa:EV.An:=(.s .n (.s (.s (.y false none (some 15) (od 16 [10,15])) .n) .n))
def bFb:EV.An:=(.s .n (.s .n (.s .n (.s (.u [1,2] [] (od 5 [2,3,4])) .n))))
def bFc:EV.An:=(.s (.r (some 7) (od 8 [7])) .n)
def aTv:SU:=⟨[.sl 5],[.bool],false,false,fun(a:(List Int))=>some (bA2 a)⟩
theorem aTw:OK 6 aTv:=mkS .n [.tmp 2] aH func6 ntmps6 (fun a _=>(aTu a).trans) (fun _=>by kernel_rfl)
def aYk:SU:=⟨[.sl 5,i6],[i6],false,false,fun(a:(List Int)×Int)=>gd (0≤a.2) (some (atF a.1 a.2))⟩
theorem aYl:OK 8 aYk:=mkS .n [.tmp 4] aH func8 ntmps8 (fun a _=>aI (aYj a.1 a.2)) (fun _=>by kernel_rfl)
def aRm:SU:=⟨[i6,i6,i6],[.bool],false,false,fun(a:Int×Int×Int)=>some (bR a.1 a.2.1 a.2.2)⟩
theorem dE:OK 31 aRm:=mkS bE8 [.tmp 6] aH func31 ntmps31 (fun a _=>(aRa a.1 a.2.1 a.2.2).trans) (fun _=>by kernel_rfl)
def o9:SU:=⟨[i6],[.bool],false,false,fun(a:Int)=>some (bE a)⟩
theorem dG:OK 32 o9:=mkS .n [.tmp 2] (gc dE aH) func32 ntmps32 (fun a _=>(Yz a).trans) (fun _=>by kernel_rfl)
def aTx:SU:=⟨[i6,i6],[i6],false,false,fun(a:Int×Int)=>some (kN a.1 a.2)⟩
theorem wX:OK 115 aTx:=mkS .n [.tmp 4] (gc dE aH) func115 ntmps115 (fun a _=>(aTh a.1 a.2).trans) (fun _=>by kernel_rfl)
def aRn:SU:=⟨[.sl 3],[i6],false,false,fun(a:(List Int))=>gd (a.length≤1099511627776) (some (sW a))⟩
theorem aBp:OK 178 aRn:=mkS (.s .n (.s .n (.s (.j ⟨[(3,18)],[.dat (.s 3) i6],[],[]⟩ (.s .n (.s (.l ⟨[(3,18)],[.dat (.s 3) i6, .nat (.s 4)],[],[]⟩ FUEL .n) .n))) .n))) [.tmp 2] (gc wX aH) func178 ntmps178 (fun(a:(List Int)) _=>aI (aRb a)) (fun _=>by kernel_rfl)
def V9:SU:=⟨[i6, .sl 3],[i6],false,false,fun(a:Int×(List Int))=>gd (a.2.length≤34359738368) (some (bH a.1 a.2))⟩
theorem dX:OK 113 V9:=mkS .n [.tmp 4] (gc aBp aH) func113 ntmps113 (fun a _=>aI (Q4 a.1 a.2)) (fun _=>by kernel_rfl)
def aTy:SU:=⟨[i6,i6],[i6],false,false,fun(a:Int×Int)=>some (aNp a.1 a.2)⟩
theorem Uo:OK 13 aTy:=mkS .n [.tmp 4] aH func13 ntmps13 (fun a _=>(aTj a.1 a.2).trans) (fun _=>by kernel_rfl)
def W9:SU:=⟨[i6, .sl 3],[i6],false,false,fun(a:Int×(List Int))=>gd (a.2.length≤34359738300) (some (bA a.1 a.2))⟩
theorem eY:OK 47 W9:=mkS .n [.tmp 4] (gc dX (gc Uo aH)) func47 ntmps47 (fun a _=>aI (Q6 a.1 a.2)) (fun _=>by kernel_rfl)
def p8:SU:=⟨[i6,i6],[.st 69],false,false,fun(a:Int×Int)=>some (aL a.1 a.2)⟩
theorem p9:OK 34 p8:=mkS .n [.cell 4 69] (gc eY aH) func34 ntmps34 (fun a _=>(Zq a.1 a.2).trans) (fun _=>by kernel_rfl)
def X3:SU:=⟨[.st 69],[.st 74],true,false,fun(a:D.aAH)=>some (bG a)⟩
theorem X4:OK 33 X3:=mkS .n [.cell 2 74] aH func33 ntmps33 (fun a _=>(U7 a).trans) (fun _=>by kernel_rfl)
def X5:SU:=⟨[.st 69],[i6],false,false,fun(a:D.aAH)=>some (gM a)⟩
theorem qX:OK 91 X5:=mkS .n [.tmp 2] (gc eY aH) func91 ntmps91 (fun a _=>(Q9 a).trans) (fun _=>by kernel_rfl)
def X6:SU:=⟨[i6],[i6],false,false,fun(a:Int)=>some (dI a)⟩
theorem mH:OK 90 X6:=mkS .n [.tmp 2] (gc dG aH) func90 ntmps90 (fun a _=>(Q8 a).trans) (fun _=>by kernel_rfl)
def Pv:SU:=⟨[.st 69],[i6],false,false,fun(a:D.aAH)=>some (aN a)⟩
theorem iG:OK 36 Pv:=mkS .n [.tmp 2] (gc qX (gc mH aH)) func36 ntmps36 (fun a _=>(Pf a).trans) (fun _=>by kernel_rfl)
def X7:SU:=⟨[.st 154],[i6],false,false,fun(a:D.aAA)=>some (bN a)⟩
theorem qY:OK 88 X7:=mkS .n [.tmp 2] (gc aBp aH) func88 ntmps88 (fun a _=>(U0 a).trans) (fun _=>by kernel_rfl)
def aHs:SU:=⟨[.sl 154],[i6],false,false,fun(a:(List D.aAA))=>gd (a.length≤34359738368) (some (fH a))⟩
theorem Md:OK 86 aHs:=mkS .n [.tmp 2] (gc qY aH) func86 ntmps86 (fun(a:(List D.aAA)) _=>aI (aHa a)) (fun _=>by kernel_rfl)
def Uq:SU:=⟨[i6, .sl 3],[i6],false,false,fun(a:Int×(List Int))=>gd (a.2.length≤34359738300) (some (oN a.1 a.2))⟩
theorem wY:OK 177 Uq:=mkS .n [.tmp 4] (gc dG (gc dX aH)) func177 ntmps177 (fun a _=>aI (Te a.1 a.2)) (fun _=>by kernel_rfl)
def Pw:SU:=⟨[.st 69, .sl 3],[i6],false,false,fun(a:D.aAH×(List Int))=>gd (a.2.length≤34359738300) (some (kQ a.1 a.2))⟩
theorem Px:OK 87 Pw:=mkS .n [.tmp 4] (gc qX (gc wY aH)) func87 ntmps87 (fun a _=>aI (Po a.1 a.2)) (fun _=>by kernel_rfl)
def aHt:SU:=⟨[.sl 154],[.sl 154],true,false,fun(a:(List D.aAA))=>gd (a.length≤34359738368) (some (a))⟩
theorem iQ:OK 89 aHt:=mkS .n [.tmp 2] aH func89 ntmps89 (fun(a:(List D.aAA)) _=>aI (aGx a)) (fun _=>by kernel_rfl)
def aJz:SU:=⟨[.sl 3,i6],[.bool],false,false,fun(a:(List Int)×Int)=>gd (a.1.length≤1099511627776) (some (gP a.1 a.2))⟩
theorem rE:OK 151 aJz:=mkS (.s .n (.s (.jx ⟨[(4,14)],[],[],[]⟩ (.s .n (.s (.l ⟨[(4,14)],[.nat (.s 5)],[],[]⟩ FUEL .n) .n))) .n)) [.tmp 4] aH func151 ntmps151 (fun a _=>aI (aJm a.1 a.2)) (fun _=>by kernel_rfl)
def X8:SU:=⟨[.sl 154],[.sl 3],true,false,fun(a:(List D.aAA))=>gd (a.length≤34359738368) (some (aB a))⟩
theorem kG:OK 94 X8:=mkS (.s .n (.s .n (.s (.j ⟨[(3,5),(1,56)],[.tr (.s 3) 0 3 true],[],[]⟩ (.s .n (.s (.l ⟨[(3,5),(1,56)],[.tr (.s 3) 0 3 true, .nat (.s 4)],[],[]⟩ FUEL (.s .n (.s (.j ⟨[(3,1),(1,3),(7,50)],[.tr (.s 3) 0 3 true],[],[]⟩ (.s (.s .n (.s (.s (.rj 7 ⟨[(20,1),(6,6)],[.dat (.s 20) .bool],[],[]⟩ .n) (.s .n (.s .n (.s (.s .n (.s (.j ⟨[(6,2),(37,19)],[.tr (.s 6) 1 3 true],[],[]⟩ (.s .n (.s (.l ⟨[(6,2),(37,19)],[.tr (.s 6) 1 3 true, .nat (.s 7)],[],[]⟩ FUEL (.s .n (.s (.j ⟨[(6,1),(44,13)],[.tr (.s 6) 1 3 true],[],[]⟩ .n) .n))) .n))) .n)) .n)))) .n)) .n)) .n))) .n))) .n))) [.tmp 2] (gc rE aH) func94 ntmps94 (fun(a:(List D.aAA)) _=>aI (R3 a)) (fun _=>by kernel_rfl)
def aHu:SU:=⟨[i6,i6],[i6],false,false,fun(a:Int×Int)=>oZ a.1 a.2⟩
theorem aHv:OK 287 aHu:=mkS bIn [.tmp 4] aH func287 ntmps287 (fun _ _=>id) (fun _=>by kernel_rfl)
def q9:SU:=⟨[i6],[i6],false,false,fun(a:Int)=>some (fF a)⟩
theorem pI:OK 236 q9:=mkS .n [.tmp 2] (gc dE (gc aHv (gc mH aH))) func236 ntmps236 (fun a _=>(Ze a).trans) (fun _=>by kernel_rfl)
def Eg:SU:=⟨[i6, .sl 3,i6],[.bool],false,false,fun(a:Int×(List Int)×Int)=>gd (a.2.1.length≤34359738300) (some (fA a.1 a.2.1 a.2.2))⟩
theorem Eh:OK 253 Eg:=mkS bE7 [.tmp 6] (gc pI (gc wY aH)) func253 ntmps253 (fun a _=>aI (Ed a.1 a.2.1 a.2.2)) (fun _=>by kernel_rfl)
def aHw:SU:=⟨[.sl 154, .st 154],[.bool],false,false,fun(a:(List D.aAA)×D.aAA)=>gd (a.1.length≤34359738368) (some (iT a.1 a.2))⟩
theorem aHx:OK 176 aHw:=mkS (.s .n (.s .n (.s (.rj 5 ⟨[(6,1),(7,12)],[.dat (.s 6) .bool],[],[]⟩ .n) (.s (.s (.rj 6 ⟨[(31,22)],[.dat (.s 52) .bool],[],[]⟩ (.r none [(0,true),(1,true),(2,true),(3,true),(4,true),(5,true),(6,true),(7,true),(8,true),(9,false),(10,true),(11,true),(12,true),(13,true),(14,true),(15,true),(16,true),(17,true),(18,true),(19,true),(22,true),(23,true),(20,false),(21,false),(24,false),(25,true),(26,true)])) .n) (.s (.s .n (.s (.s (.rj 5 ⟨[(4,1),(55,5)],[.dat (.s 4) .bool],[],[]⟩ .n) .n) .n)) (.s (.jx ⟨[(4,1),(2,1),(57,22)],[],[],[]⟩ (.s .n (.s (.l ⟨[(4,1),(2,1),(57,22)],[.nat (.s 7)],[],[]⟩ FUEL (.s .n (.s (.s (.s (.rj 7 ⟨[(77,10)],[.dat (.s 86) .bool],[],[]⟩ (.r none (od 16 []))) .n) .n) .n))) .n))) (.s (.rj 4 ⟨[(4,1),(85,12)],[.dat (.s 4) .bool],[],[]⟩ .n) .n))))))) [.tmp 4] (gc kG (gc rE (gc Md (gc qY (gc Eh aH))))) func176 ntmps176 (fun a _=>aI (aHf a.1 a.2)) (fun _=>by kernel_rfl)
def X9:SU:=⟨[.sl 154],[.bool],false,false,fun(a:(List D.aAA))=>gd (a.length≤34359738368) (some (aT a))⟩
theorem gL:OK 85 X9:=mkS (.s .n (.s (.jx ⟨[(2,17)],[],[],[]⟩ (.s .n (.s (.l ⟨[(2,17)],[.nat (.s 3)],[],[]⟩ FUEL (.s .n (.s (.s (.s (.r none (od 9 [7])) .n) .n) .n))) .n))) .n)) [.tmp 2] (gc aHx (gc dE aH)) func85 ntmps85 (fun(a:(List D.aAA)) _=>aI (U2 a)) (fun _=>by kernel_rfl)
def Ur:SU:=⟨[.sl 154,i6,i6, .st 69],[.sl 154, .bool],true,false,fun(a:(List D.aAA)×Int×Int×D.aAH)=>gd (a.1.length≤34359738300) (some (dD a.1 a.2.1 a.2.2.1 a.2.2.2))⟩
theorem wZ:OK 35 Ur:=mkS (.s .n (.s .n (.s (.r (some 6) (od 7 [2,3,4,6])) (.s (.y false (some 3) (some 4) [(0,true),(2,true),(1,false),(3,false),(4,false),(5,true)]) (.s (.s (.rj 4 ⟨[(35,10)],[.dat (.s 44) .bool],[],[]⟩ .n) .n) .n))))) [.tmp 8, .tmp 9] (gc iG (gc Md (gc qY (gc Px (gc iQ (gc gL aH)))))) func35 ntmps35 (fun a _=>aI (Uc a.1 a.2.1 a.2.2.1 a.2.2.2)) (fun _=>by kernel_rfl)
def aCv:SU:=⟨[i6,i6],[i6],false,false,fun(a:Int×Int)=>some (bP a.1 a.2)⟩
theorem Gb:OK 37 aCv:=mkS .n [.tmp 4] (gc eY aH) func37 ntmps37 (fun a _=>(aCp a.1 a.2).trans) (fun _=>by kernel_rfl)
def aHy:SU:=⟨[.sl 154],[i6],false,false,fun(a:(List D.aAA))=>gd (a.length≤34359738368) (some (aD a))⟩
theorem kH:OK 92 aHy:=mkS (.s .n (.s .n (.s (.j ⟨[(3,16)],[.dat (.s 3) i6],[],[]⟩ (.s .n (.s (.l ⟨[(3,16)],[.dat (.s 3) i6, .nat (.s 4)],[],[]⟩ FUEL (.s .n (.s (.j ⟨[(3,1),(7,8)],[.dat (.s 3) i6],[],[]⟩ .n) .n))) .n))) .n))) [.tmp 2] aH func92 ntmps92 (fun(a:(List D.aAA)) _=>aI (aHh a)) (fun _=>by kernel_rfl)
def Me:SU:=⟨[.sl 5,i6],[.sl 5],true,false,fun(a:(List Int)×Int)=>gd (a.1.length≤34359738300) (some (Jn a.1 a.2))⟩
theorem Mf:OK 180 Me:=mkS (.s .n (.s .n (.s .n (.s (.j ⟨[(1,1),(3,1),(7,11)],[.dat (.s 1) i6, .tr (.s 5) 0 5 true],[],[]⟩ (.s (.l ⟨[(1,1),(3,1),(7,11)],[.dat (.s 1) i6, .tr (.s 5) 0 5 true],[],[]⟩ FUEL .n) .n)) .n)))) [.tmp 4] (gc dE aH) func180 ntmps180 (fun a _=>aI (Ll a.1 a.2)) (fun _=>by kernel_rfl)
def r9:SU:=⟨[.sl 3],[.sl 5],true,false,fun(a:(List Int))=>gd (a.length≤5000000000) (some (gV a))⟩
theorem zA:OK 95 r9:=mkS (.s .n (.s .n (.s (.j ⟨[(3,2),(1,12)],[.tr (.s 3) 0 5 true],[],[]⟩ (.s .n (.s (.l ⟨[(3,2),(1,12)],[.tr (.s 3) 0 5 true, .nat (.s 4)],[],[]⟩ FUEL .n) .n))) .n))) [.tmp 2] (gc Mf aH) func95 ntmps95 (fun(a:(List Int)) _=>aI (Zl a)) (fun _=>by kernel_rfl)
def aJ0:SU:=⟨[i6,i6],[i6],false,false,fun(a:Int×Int)=>some (iR a.1 a.2)⟩
theorem Rm:OK 254 aJ0:=mkS .n [.tmp 4] (gc eY aH) func254 ntmps254 (fun a _=>(aJu a.1 a.2).trans) (fun _=>by kernel_rfl)
def aHz:SU:=⟨[i6, .sl 5],[.sl 5],true,false,fun(a:Int×(List Int))=>gd (bF a.2) (some (lT a.1 a.2))⟩
theorem Mg:OK 192 aHz:=mkS (.s .n (.s .n (.s (.j ⟨[(5,2),(1,22)],[.tr (.s 5) 0 5 true],[],[]⟩ (.s .n (.s (.l ⟨[(5,2),(1,22)],[.tr (.s 5) 0 5 true, .nat (.s 6)],[],[]⟩ FUEL (.s .n (.s (.s (.r (some 15) (od 17 [8,9,14,15,16])) .n) .n))) .n))) .n))) [.tmp 4] (gc dX aH) func192 ntmps192 (fun a _=>aI (aHo a.1 a.2)) (fun _=>by kernel_rfl)
def Ut:SU:=⟨[.sl 5],[.sl 3],true,false,fun(a:(List Int))=>gd (a.length≤34359738360) (some (Di a))⟩
theorem nM:OK 258 Ut:=mkS (.s .n (.s .n (.s (.j ⟨[(3,2),(3,14)],[.tr (.s 3) 0 3 true],[],[]⟩ (.s .n (.s (.l ⟨[(3,2),(3,14)],[.tr (.s 3) 0 3 true, .nat (.s 4)],[],[]⟩ FUEL .n) .n))) .n))) [.tmp 2] aH func258 ntmps258 (fun(a:(List Int)) _=>aI (Tu a)) (fun _=>by kernel_rfl)
def aJ1:SU:=⟨[i6, .st 224],[i6],false,false,fun(a:Int×D.Box)=>gd (a.2.Data.length≤34359738200) (some (aB0 a.1 a.2))⟩
theorem Rn:OK 255 aJ1:=mkS bIr [.tmp 4] (gc nM (gc dX aH)) func255 ntmps255 (fun a _=>aI (aJv a.1 a.2)) (fun _=>by kernel_rfl)
def aH0:SU:=⟨[i6,i6, .sl 5],[.st 224, .bool],true,false,fun(a:Int×Int×(List Int))=>gd (bF a.2.2) (some (fU a.1 a.2.1 a.2.2))⟩
theorem aH1:OK 179 aH0:=mkS (.s .n (.s .n (.s (.s (.rj 3 ⟨[(15,10)],[.dat (.s 24) .bool],[],[]⟩ .n) .n) .n))) [.cell 6 224, .tmp 7] (gc pI (gc dG (gc Rm (gc Mg (gc Rn aH))))) func179 ntmps179 (fun a _=>aI (aHp a.1 a.2.1 a.2.2)) (fun _=>by kernel_rfl)
def Y1:SU:=⟨[.sl 3,i6, .sl 5],[.sl 224, .bool],true,false,fun(a:(List Int)×Int×(List Int))=>gd (a.1.length≤34359738300∧bF a.2.2) (some (fI a.2.1 a.2.2 0 a.1))⟩
theorem Y2:OK 93 Y1:=mkS (.s .n (.s .n (.s (.jx ⟨[(6,6),(1,25)],[.tr (.s 8) 0 224 true],[],[]⟩ (.s .n (.s (.l ⟨[(6,6),(1,25)],[.tr (.s 8) 0 224 true, .nat (.s 9)],[],[]⟩ FUEL .n) .n))) .n))) [.tmp 6, .tmp 7] (gc aH1 aH) func93 ntmps93 (fun a _=>aI (U8 a.1 a.2.1 a.2.2)) (fun _=>by kernel_rfl)
def Hf:SU:=⟨[.sl 154,i6,i6],[.st 29, .bool],true,false,fun(a:(List D.aAA)×Int×Int)=>gd (a.1.length≤34359738300) (some (aW a.1 a.2.1 a.2.2))⟩
theorem qK:OK 38 Hf:=mkS (.s .n (.s .n (.s .n (.s (.s (.rj 4 ⟨[(27,9)],[.dat (.s 35) .bool],[],[]⟩ .n) .n) .n)))) [.cell 6 29, .tmp 7] (gc kH (gc kG (gc zA (gc Y2 (gc gL (gc dG aH)))))) func38 ntmps38 (fun a _=>aI (Gv a.1 a.2.1 a.2.2)) (fun _=>by kernel_rfl)
def w9:SU:=⟨[.st 29,i6],[i6],false,false,fun(a:D.aAG×Int)=>gd (a.1.Boxes.length≤34359738368) (some (oO a.1 a.2))⟩
theorem x8:OK 181 w9:=mkS (.s .n (.s .n (.s (.j ⟨[(5,19)],[.dat (.s 5) i6],[],[]⟩ (.s .n (.s (.l ⟨[(5,19)],[.dat (.s 5) i6, .nat (.s 6)],[],[]⟩ FUEL (.s .n (.s (.j ⟨[(5,1),(8,10)],[.dat (.s 5) i6],[],[]⟩ .n) .n))) .n))) .n))) [.tmp 4] aH func181 ntmps181 (fun a _=>aI (Zt a.1 a.2)) (fun _=>by kernel_rfl)
def Y3:SU:=⟨[.st 29, .sl 154],[.bool],false,false,fun(a:D.aAG×(List D.aAA))=>gd (a.1.Boxes.length≤34359738368∧a.2.length≤34359738368) (some (iA a.1 a.2))⟩
theorem Bu:OK 96 Y3:=mkS (.s .n (.s .n (.s (.jx ⟨[(4,1),(1,1),(2,13)],[],[],[]⟩ (.s .n (.s (.l ⟨[(4,1),(1,1),(2,13)],[.nat (.s 6)],[],[]⟩ FUEL (.s .n (.s (.s (.s (.r none (od 7 [5])) .n) .n) .n))) .n))) (.s (.rj 6 ⟨[(4,1),(22,8)],[.dat (.s 4) .bool],[],[]⟩ (.r none (od 14 [3]))) .n)))) [.tmp 4] (gc kG (gc x8 (gc kH aH))) func96 ntmps96 (fun a _=>aI (U9 a.1 a.2)) (fun _=>by kernel_rfl)
def aH2:SU:=⟨[.st 29],[.st 29],true,false,fun(a:D.aAG)=>gd (a.sz≤34359738368) (some (a))⟩
theorem xA:OK 97 aH2:=mkS (.s .n (.s .n (.s (.j ⟨[(4,2),(3,27)],[.nt (.c 2 1) 224 true],[],[]⟩ (.s .n (.s (.l ⟨[(4,2),(3,27)],[.nat (.s 4), .nt (.c 2 1) 224 true],[],[]⟩ FUEL .n) .n))) .n))) [.cell 2 29] aH func97 ntmps97 (fun(a:D.aAG) _=>aI (aG0 a)) (fun _=>by kernel_rfl)
def aCw:SU:=⟨[.sl 154, .st 29],[.st 32, .bool],true,false,fun(a:(List D.aAA)×D.aAG)=>gd (a.1.length≤34359738368∧a.2.sz≤34359738368) (some (dW a.1 a.2))⟩
theorem aCx:OK 39 aCw:=mkS (.s .n (.s (.s (.rj 4 ⟨[(9,6)],[.dat (.s 14) .bool],[],[]⟩ .n) .n) (.s (.r (some 5) [(0,true),(2,true),(1,false),(3,false),(4,true),(5,false),(6,false)]) .n))) [.cell 4 32, .tmp 5] (gc gL (gc Bu (gc iQ (gc xA aH)))) func39 ntmps39 (fun a _=>aI (aCt a.1 a.2)) (fun _=>by kernel_rfl)
def aCy:SU:=⟨[i6],[.str],false,false,fun(a:Int)=>some (aA a)⟩
theorem sN:OK 43 aCy:=mkS .n [.tmp 2] aH func43 ntmps43 (fun a _=>(aCh a).trans) (fun _=>by kernel_rfl)
def aCz:SU:=⟨[.str],[.sl 9],true,false,fun(a:ByteArray)=>gd (a.size≤34359738368) (some (bD a))⟩
theorem Gc:OK 183 aCz:=mkS (.s .n (.s .n (.s .n (.s (.j ⟨[(3,3),(1,25)],[.tr (.s 3) 0 9 true],[],[]⟩ (.s .n (.s (.l ⟨[(3,3),(1,25)],[.tr (.s 3) 0 9 true, .dat (.s 4) i6, .dat (.s 5) i6],[],[]⟩ FUEL (.s .n (.s (.j ⟨[(3,2),(8,19)],[.tr (.s 3) 0 9 true, .dat (.s 4) i6],[],[]⟩ (.s (.s (.rj 5 ⟨[(17,6)],[.dat (.s 22) .bool],[],[]⟩ .n) .n) .n)) .n))) .n))) .n)))) [.tmp 2] aH func183 ntmps183 (fun(a:ByteArray) _=>aI (aCj a)) (fun _=>by kernel_rfl)
def aH3:SU:=⟨[.str],[.bool],false,false,fun(a:ByteArray)=>gd (a.size≤34359738368) (some (rO a))⟩
theorem aH4:OK 256 aH3:=mkS (.s .n (.s (.jx ⟨[(2,39)],[],[],[]⟩ (.s .n (.s (.l ⟨[(2,39)],[.nat (.s 3)],[],[]⟩ FUEL (.s .n (.s (.s (.s (.rj 5 ⟨[(4,1),(10,24)],[.dat (.s 4) .bool],[],[]⟩ .n) .n) .n) .n))) .n))) (.s (.rj 4 ⟨[(2,1),(41,13)],[.dat (.s 2) .bool],[],[]⟩ .n) .n))) [.tmp 2] (gc dE aH) func256 ntmps256 (fun(a:ByteArray) _=>aI (aHd a)) (fun _=>by kernel_rfl)
def aJ2:SU:=⟨[.str],[.bool],false,false,fun(a:ByteArray)=>gd (a.size≤34359738368) (some (fQ a))⟩
theorem aJ3:OK 182 aJ2:=mkS (.s .n (.s .n (.s (.jx ⟨[(2,1),(1,1),(2,12)],[],[],[]⟩ (.s .n (.s (.l ⟨[(2,1),(1,1),(2,12)],[.nat (.s 4)],[],[]⟩ FUEL .n) .n))) .n))) [.tmp 2] (gc Gc (gc aH4 aH)) func182 ntmps182 (fun(a:ByteArray) _=>aI (aJq a)) (fun _=>by kernel_rfl)
def aH5:SU:=⟨[.str,i6],[.st 65],true,false,fun(a:ByteArray×Int)=>gd (a.1.size≤34359738368) (some (fD a.1 a.2))⟩
theorem Mh:OK 99 aH5:=mkS (.s .n (.s (.s (.rj 4 ⟨[(8,11)],[.dat (.s 18) .bool],[],[]⟩ .n) .n) .n)) [.cell 4 65] (gc aJ3 (gc Gc (gc dG aH))) func99 ntmps99 (fun a _=>aI (aHe a.1 a.2)) (fun _=>by kernel_rfl)
def aH6:SU:=⟨[.st 59],[.st 59],true,false,fun(a:D.aAF)=>gd (a.sz≤34359738368) (some (a))⟩
theorem xB:OK 156 aH6:=mkS .n [.cell 2 59] aH func156 ntmps156 (fun(a:D.aAF) _=>aI (aG3 a)) (fun _=>by kernel_rfl)
def aH7:SU:=⟨[.st 63],[.st 63],true,false,fun(a:D.aAD)=>gd (a.sz≤34359738368) (some (a))⟩
theorem aH8:OK 234 aH7:=mkS .n [.cell 2 63] aH func234 ntmps234 (fun(a:D.aAD) _=>aI (aG4 a)) (fun _=>by kernel_rfl)
def aH9:SU:=⟨[.st 65],[.st 65],true,false,fun(a:D.Site)=>gd (a.sz≤34359738368) (some (a))⟩
theorem xC:OK 152 aH9:=mkS (.s .n (.s .n (.s .n (.s (.j ⟨[(4,1),(3,18)],[.tr (.c 2 1) 3 59 true],[],[]⟩ (.s .n (.s (.l ⟨[(4,1),(3,18)],[.nat (.s 4), .tr (.c 2 1) 3 59 true],[],[]⟩ FUEL aVx) .n))) .n)))) [.cell 2 65] (gc xB (gc aH8 aH)) func152 ntmps152 (fun(a:D.Site) _=>aI (aG5 a)) (fun _=>by kernel_rfl)
def Hg:SU:=⟨[.st 59],[.bool],false,false,fun(a:D.aAF)=>gd (a.sz≤34359738368) (some (aU a))⟩
theorem kZ:OK 157 Hg:=mkS (.s .n (.s (.jx ⟨[(2,62)],[],[],[]⟩ (.s .n (.s (.l ⟨[(2,62)],[.nat (.s 3)],[],[]⟩ FUEL (.s .n (.s (.jx ⟨[(2,1),(1,2),(7,51)],[],[],[]⟩ (.s (.s .n (.s (.s (.rj 5 ⟨[(22,28)],[.dat (.s 49) .bool],[],[]⟩ (.r none (od 32 [2,23,29]))) .n) (.s .n (.s (.l ⟨[(2,1),(2,1),(44,14)],[.nat (.s 5)],[],[]⟩ FUEL bIp) .n)))) .n)) .n))) .n))) (.s (.rj 4 ⟨[(2,1),(64,11)],[.dat (.s 2) .bool],[],[]⟩ .n) .n))) [.tmp 2] (gc dE (gc pI aH)) func157 ntmps157 (fun(a:D.aAF) _=>aI (Gs a)) (fun _=>by kernel_rfl)
def Uu:SU:=⟨[.st 63],[.bool],false,false,fun(a:D.aAD)=>gd (a.sz≤34359738368) (some (dV a))⟩
theorem Uv:OK 175 Uu:=mkS (.s .n (.s (.jx ⟨[(2,50)],[],[],[]⟩ (.s .n (.s (.l ⟨[(2,50)],[.nat (.s 3)],[],[]⟩ FUEL (.s .n (.s (.s (.s .n (.s (.rj 8 ⟨[(24,28)],[.dat (.s 51) .bool],[],[]⟩ (.r none (od 35 [5,26,32]))) .n)) .n) .n))) .n))) (.s (.rj 4 ⟨[(2,1),(52,6)],[.dat (.s 2) .bool],[],[]⟩ .n) .n))) [.tmp 2] (gc dE aH) func175 ntmps175 (fun(a:D.aAD) _=>aI (Tg a)) (fun _=>by kernel_rfl)
def Uw:SU:=⟨[.st 65],[.bool],false,false,fun(a:D.Site)=>gd (a.sz≤34359738368) (some (bL a))⟩
theorem nN:OK 83 Uw:=mkS (.s .n (.s (.jx ⟨[(2,36)],[],[],[]⟩ (.s .n (.s (.l ⟨[(2,36)],[.nat (.s 3)],[],[]⟩ FUEL (.s .n (.s (.s (.s (.rj 8 ⟨[(18,20)],[.dat (.s 37) .bool],[],[]⟩ (.r none (od 27 [5]))) .n) .n) .n))) .n))) (.s (.rj 9 ⟨[(2,1),(43,11)],[.dat (.s 2) .bool],[],[]⟩ .n) .n))) [.tmp 2] (gc kZ (gc Mh (gc Uv aH))) func83 ntmps83 (fun(a:D.Site) _=>aI (Tq a)) (fun _=>by kernel_rfl)
def Ux:SU:=⟨[.st 65,i6,i6],[.st 65, .bool],false,false,fun(a:D.Site×Int×Int)=>gd (a.1.sz≤34359738300) (some (kU a.1 a.2.1 a.2.2))⟩
theorem Uy:OK 98 Ux:=mkS bIm [.cell 6 65, .tmp 7] (gcp xC (gc nN aH)) func98 ntmps98 (fun a _=>aI (Ul a.1 a.2.1 a.2.2)) (fun _=>by kernel_rfl)
def Bv:SU:=⟨[i6, .str],[i6],false,false,fun(a:Int×ByteArray)=>gd (a.2.size≤34359738300) (some (lK a.1 a.2))⟩
theorem Bw:OK 190 Bv:=mkS .n [.tmp 4] (gc nM (gc dX (gc Uo (gc (bE0 1000022) aH)))) func190 ntmps190 (fun a _=>aI (Bp a.1 a.2)) (fun _=>by kernel_rfl)
def aC0:SU:=⟨[.str],[i6],false,false,fun(a:ByteArray)=>gd (a.size≤34359738300) (some (bB a))⟩
theorem Gd:OK 105 aC0:=mkS .n [.tmp 2] (gc Bw aH) func105 ntmps105 (fun(a:ByteArray) _=>aI (aCk a)) (fun _=>by kernel_rfl)
def Uz:SU:=⟨[.st 69, .str,i6],[i6],false,false,fun(a:D.aAH×ByteArray×Int)=>gd (a.2.1.size≤34359738300) (some (bS a.1 a.2.1 a.2.2))⟩
theorem Va:OK 185 Uz:=mkS bE5 [.tmp 6] (gc Gd (gc eY aH)) func185 ntmps185 (fun a _=>aI (Ua a.1 a.2.1 a.2.2)) (fun _=>by kernel_rfl)
def x9:SU:=⟨[.st 69, .str,i6],[i6],false,false,fun(a:D.aAH×ByteArray×Int)=>gd (a.2.1.size≤34359738300) (some (fT a.1 a.2.1 a.2.2))⟩
theorem y7:OK 101 x9:=mkS .n [.tmp 6] (gc Va (gc mH aH)) func101 ntmps101 (fun a _=>aI (Zr a.1 a.2.1 a.2.2)) (fun _=>by kernel_rfl)
def Vb:SU:=⟨[.st 65,i6],[i6],false,false,fun(a:D.Site×Int)=>gd (a.1.Accounts.length≤34359738368) (some (aC a.1 a.2))⟩
theorem xD:OK 67 Vb:=mkS bE6 [.tmp 4] aH func67 ntmps67 (fun a _=>aI (Ud a.1 a.2)) (fun _=>by kernel_rfl)
def Mi:SU:=⟨[.st 59,i6,i6],[.st 59, .bool],true,false,fun(a:D.aAF×Int×Int)=>gd (a.1.sz≤34359738300) (some (fE a.1 a.2.1 a.2.2))⟩
theorem Mj:OK 184 Mi:=mkS bIm [.cell 6 59, .tmp 7] (gc xB (gc kZ aH)) func184 ntmps184 (fun a _=>aI (Lm a.1 a.2.1 a.2.2)) (fun _=>by kernel_rfl)
def Vd:SU:=⟨[.st 65,i6,i6,i6],[.st 65, .bool],true,false,fun(a:D.Site×Int×Int×Int)=>gd (a.1.sz≤34359738300) (some (fV a.1 a.2.1 a.2.2.1 a.2.2.2))⟩
theorem Ve:OK 100 Vd:=mkS (.s .n (.s .n (.s .n (.s (.s (.rj 4 ⟨[(22,4)],[.dat (.s 25) .bool],[],[]⟩ .n) .n) .n)))) [.cell 8 65, .tmp 9] (gc xC (gc xD (gc nN (gc Mj aH)))) func100 ntmps100 (fun a _=>aI (Uf a.1 a.2.1 a.2.2.1 a.2.2.2)) (fun _=>by kernel_rfl)
def aIa:SU:=⟨[.st 72],[.st 72],true,false,fun(a:D.aAE)=>gd (a.sz≤34359738368) (some (a))⟩
theorem lW:OK 186 aIa:=mkS .n [.cell 2 72] aH func186 ntmps186 (fun(a:D.aAE) _=>aI (aGw a)) (fun _=>by kernel_rfl)
def aIb:SU:=⟨[.st 74],[.st 74],true,false,fun(a:D.Device)=>gd (a.sz≤34359738368) (some (a))⟩
theorem lX:OK 102 aIb:=mkS .n [.cell 2 74] (gc iQ (gc lW aH)) func102 ntmps102 (fun(a:D.Device) _=>aI (aGz a)) (fun _=>by kernel_rfl)
def y9:SU:=⟨[.sl 154, .sl 154],[.bool],false,false,fun(a:(List D.aAA)×(List D.aAA))=>gd (a.1.length≤34359738368) (some (cO a.1 a.2))⟩
theorem pJ:OK 103 y9:=mkS bIt [.tmp 4] aH func103 ntmps103 (fun a _=>aI (Zi a.1 a.2)) (fun _=>by kernel_rfl)
def A7:SU:=⟨[.st 74, .sl 154,i6],[.st 74, .bool],true,false,fun(a:D.Device×(List D.aAA)×Int)=>gd (a.1.sz≤34359738368∧a.2.1.length≤34359738368) (some (kD a.1 a.2.1 a.2.2))⟩
theorem zB:OK 41 A7:=mkS (.s .n (.s .n (.s (.s (.rj 4 ⟨[(14,19)],[.dat (.s 32) .bool],[],[]⟩ (.r none [(0,true),(1,false),(2,true),(3,true),(4,true),(5,true),(6,true),(7,false),(8,true),(9,true),(10,true),(11,true),(13,true),(14,true),(12,false),(15,true),(16,true),(17,true),(18,true),(19,false),(20,true),(21,true)])) .n) .n))) [.cell 6 74, .tmp 7] (gc lX (gc gL (gc pJ (gc kH (gc dG (gc iQ aH)))))) func41 ntmps41 (fun a _=>aI (Zx a.1 a.2.1 a.2.2)) (fun _=>by kernel_rfl)
def Y4:SU:=⟨[.st 72,i6,i6],[i6],false,false,fun(a:D.aAE×Int×Int)=>gd (a.1.sz≤34359738368) (some (aJ a.1 a.2.1 a.2.2))⟩
theorem mI:OK 187 Y4:=mkS (.s .n (.s (.jx ⟨[(6,28)],[],[],[]⟩ (.s .n (.s (.l ⟨[(6,28)],[.nat (.s 7)],[],[]⟩ FUEL (.s .n (.s (.s (.s (.rj 9 ⟨[(23,10)],[.dat (.s 32) .bool],[],[]⟩ .n) .n) .n) .n))) .n))) .n)) [.tmp 6] aH func187 ntmps187 (fun a _=>aI (R6 a.1 a.2.1 a.2.2)) (fun _=>by kernel_rfl)
def aIc:SU:=⟨[.st 235,i6,i6],[.bool],false,false,fun(a:D.Entry×Int×Int)=>some (rP a.1 a.2.1 a.2.2)⟩
theorem Mk:OK 257 aIc:=mkS (.s .n (.s (.rj 5 ⟨[(6,1),(4,12)],[.dat (.s 6) .bool],[],[]⟩ .n) .n)) [.tmp 6] aH func257 ntmps257 (fun a _=>(aGv a.1 a.2.1 a.2.2).trans) (fun _=>by kernel_rfl)
def aJ4:SU:=⟨[.st 72, .st 235],[.st 72],true,false,fun(a:D.aAE×D.Entry)=>gd (a.1.sz≤34359738360) (some (uO a.1 a.2))⟩
theorem zL:OK 188 aJ4:=mkS (.s .n (.s .n (.s .n (.s .n (.s (.j ⟨[(7,1),(16,19)],[.dat (.s 7) i6],[],[]⟩ (.s (.l ⟨[(7,1),(16,19)],[.dat (.s 7) i6],[],[]⟩ FUEL (.s (.s (.rj 6 ⟨[(29,12)],[.dat (.s 40) .bool],[],[]⟩ (.r none (od 17 [15]))) .n) .n)) .n)) (.s (.y true (some 7) (some 15) [(1,true),(2,true),(3,true),(4,true),(6,true),(9,true),(10,true),(11,true),(12,true),(0,false),(5,false),(7,false),(8,false),(13,false),(14,false),(15,false)]) .n)))))) [.cell 4 72] (gc lW (gc mI (gc Mk aH))) func188 ntmps188 (fun a _=>aI (aJo a.1 a.2)) (fun _=>by kernel_rfl)
def aC1:SU:=⟨[.st 72],[.bool],false,false,fun(a:D.aAE)=>gd (a.sz≤34359738368) (some (aP a))⟩
theorem jD:OK 189 aC1:=mkS (.s .n (.s (.jx ⟨[(2,49)],[],[],[]⟩ (.s .n (.s (.l ⟨[(2,49)],[.nat (.s 3)],[],[]⟩ FUEL (.s .n (.s (.s (.s .n (.s (.rj 5 ⟨[(21,30)],[.dat (.s 50) .bool],[],[]⟩ (.r none (od 34 [2,7,13,30]))) .n)) .n) .n))) .n))) .n)) [.tmp 2] (gc dE (gc Mk aH)) func189 ntmps189 (fun(a:D.aAE) _=>aI (aCb a)) (fun _=>by kernel_rfl)
def aC2:SU:=⟨[.st 72,i6,i6],[.st 72, .bool],true,false,fun(a:D.aAE×Int×Int)=>gd (a.1.sz≤34359738360) (some (aJf a.1 a.2.1 a.2.2))⟩
theorem aC3:OK 104 aC2:=mkS (.s .n (.s .n (.s (.jx ⟨[(7,1),(1,1),(4,23)],[.dat (.c 2 2) i6],[],[]⟩ .n) (.s .n (.s (.s (.rj 4 ⟨[(43,5)],[.dat (.s 47) .bool],[],[]⟩ .n) .n) .n))))) [.cell 6 72, .tmp 7] (gc mI (gc lW (gc zL (gc jD aH)))) func104 ntmps104 (fun a _=>aI (aCm a.1 a.2.1 a.2.2)) (fun _=>by kernel_rfl)
def Vf:SU:=⟨[.st 72,i6,i6],[.st 72, .bool],true,false,fun(a:D.aAE×Int×Int)=>gd (a.1.sz≤34359738360) (some (aJg a.1 a.2.1 a.2.2))⟩
theorem Vg:OK 106 Vf:=mkS (.s .n (.s .n (.s (.s (.rj 4 ⟨[(16,21)],[.dat (.s 36) .bool],[],[]⟩ .n) .n) (.s (.r (some 12) (od 14 [11,12,13])) .n)))) [.cell 6 72, .tmp 7] (gc mI (gc jD (gc lW (gc zL aH)))) func106 ntmps106 (fun a _=>aI (Tw a.1 a.2.1 a.2.2)) (fun _=>by kernel_rfl)
def Py:SU:=⟨[.st 74, .str,i6, .bool],[.st 74, .bool],true,false,fun(a:D.Device×ByteArray×Int×Bool)=>gd (a.1.sz≤34359738360∧a.2.1.size≤34359738300) (some (fB a.1 a.2.1 a.2.2.1 a.2.2.2))⟩
theorem uB:OK 42 Py:=mkS (.s .n (.s .n (.s (.y false (some 9) (some 10) [(0,true),(1,true),(2,true),(4,true),(3,false),(5,false),(6,true),(7,true),(8,true),(9,false),(10,false),(11,true)]) (.s (.j ⟨[(12,1),(11,10)],[.dat (.s 12) .bool, .tr (.c 6 0) 5 235 true],[],[]⟩ (.s .n (.s (.y false none (some 9) [(0,true),(1,true),(2,true),(4,true),(3,false),(5,false),(6,true),(7,true),(8,true),(9,false),(10,true)]) .n))) (.s (.j ⟨[(34,3)],[.nt (.c 4 8) 235 true],[],[3,5]⟩ .n) .n))))) [.cell 8 74, .tmp 9] (gc lX (gc Gd (gc aC3 (gc Vg aH)))) func42 ntmps42 (fun a _=>aI (Pj a.1 a.2.1 a.2.2.1 a.2.2.2)) (fun _=>by kernel_rfl)
def aC4:SU:=⟨[i6,i6,i6],[.bool],false,false,fun(a:Int×Int×Int)=>some (bE a.1&&(bR a.2.1 0 1000000&&bR a.2.2 0 1000000))⟩
theorem Gf:OK 191 aC4:=mkS (.s .n (.s (.rj 3 ⟨[(6,1),(2,8)],[.dat (.s 6) .bool],[],[]⟩ .n) .n)) [.tmp 6] (gc dG (gc dE aH)) func191 ntmps191 (fun a _=>(aCo a.1 a.2.1 a.2.2).trans) (fun _=>by kernel_rfl)
def aJ5:SU:=⟨[i6,i6,i6],[i6],false,false,fun(a:Int×Int×Int)=>some (lQ a.1 a.2.1 a.2.2)⟩
theorem Ro:OK 193 aJ5:=mkS .n [.tmp 6] (gc eY aH) func193 ntmps193 (fun a _=>(aJw a.1 a.2.1 a.2.2).trans) (fun _=>by kernel_rfl)
def Pz:SU:=⟨[.st 72],[.sl 5],true,false,fun(a:D.aAE)=>gd (a.sz≤34359738368) (some (nT a))⟩
theorem uC:OK 194 Pz:=mkS (.s .n (.s .n (.s .n (.s (.j ⟨[(3,3),(8,35)],[.tr (.s 3) 1 3 true],[],[]⟩ (.s .n (.s (.l ⟨[(3,3),(8,35)],[.tr (.s 3) 1 3 true, .nat (.s 4)],[],[]⟩ FUEL (.s .n (.s (.j ⟨[(3,1),(1,1),(15,28)],[.tr (.s 3) 1 3 true],[],[]⟩ (.s (.s .n (.s (.j ⟨[(5,1),(15,6)],[.dat (.s 5) i6],[],[]⟩ .n) (.r (some 21) (od 23 [20,21,22])))) .n)) .n))) .n))) .n)))) [.tmp 2] (gc jD (gc zA aH)) func194 ntmps194 (fun(a:D.aAE) _=>aI (Pk a)) (fun _=>by kernel_rfl)
def Y5:SU:=⟨[i6, .st 106],[i6],false,false,fun(a:Int×D.aAC)=>gd (a.2.Data.length≤34359738200) (some (lN a.1 a.2))⟩
theorem Ca:OK 195 Y5:=mkS bIr [.tmp 4] (gc nM (gc dX aH)) func195 ntmps195 (fun a _=>aI (U5 a.1 a.2)) (fun _=>by kernel_rfl)
def A8:SU:=⟨[i6,i6,i6, .st 72],[.st 106, .bool],true,false,fun(a:Int×Int×Int×D.aAE)=>gd (a.2.2.2.sz≤34359738368) (some (tJ a.1 a.2.1 a.2.2.1 a.2.2.2))⟩
theorem A9:OK 107 A8:=mkS (.s .n (.s (.s (.rj 6 ⟨[(16,5)],[.dat (.s 20) .bool],[],[]⟩ .n) .n) (.s (.y false (some 10) (some 11) [(0,true),(1,true),(2,true),(3,true),(4,true),(6,true),(5,false),(7,false),(8,false),(9,true),(10,false),(11,false)]) .n))) [.cell 8 106, .tmp 9] (gc Gf (gc jD (gc Ro (gc uC (gc Mg (gc Ca aH)))))) func107 ntmps107 (fun a _=>aI (Zp a.1 a.2.1 a.2.2.1 a.2.2.2)) (fun _=>by kernel_rfl)
def Vh:SU:=⟨[.st 74],[.st 74, .st 106, .bool],true,false,fun(a:D.Device)=>gd (a.sz≤34359738368) (some (dF a))⟩
theorem xE:OK 44 Vh:=mkS (.s .n (.s .n bFb)) [.cell 2 74, .cell 3 106, .tmp 4] (gc lX (gc A9 aH)) func44 ntmps44 (fun(a:D.Device) _=>aI (Tz a)) (fun _=>by kernel_rfl)
def aId:SU:=⟨[.st 106],[.st 106],true,false,fun(a:D.aAC)=>gd (a.sz≤34359738368) (some (a))⟩
theorem xG:OK 110 aId:=mkS .n [.cell 2 106] aH func110 ntmps110 (fun(a:D.aAC) _=>aI (aG1 a)) (fun _=>by kernel_rfl)
def aIe:SU:=⟨[.st 32],[.st 32],true,false,fun(a:D.aAB)=>gd (a.sz≤34359738368) (some (a))⟩
theorem xH:OK 108 aIe:=mkS (.s .n (.s bE3 (.s (.j ⟨[(4,1),(7,18)],[.nt (.c 4 3) 106 true],[],[]⟩ (.s .n (.s (.l ⟨[(4,1),(7,18)],[.nat (.s 4), .nt (.c 4 3) 106 true],[],[]⟩ FUEL aVx) .n))) .n))) [.cell 2 32] (gc iQ (gc xA (gc xG aH))) func108 ntmps108 (fun(a:D.aAB) _=>aI (aG2 a)) (fun _=>by kernel_rfl)
def Y6:SU:=⟨[.st 106, .st 106],[.bool],false,false,fun(a:D.aAC×D.aAC)=>some (sJ a.1 a.2)⟩
theorem Y7:OK 109 Y6:=mkS (.s .n (.s (.rj 6 ⟨[(4,1),(5,14)],[.dat (.s 4) .bool],[],[]⟩ .n) .n)) [.tmp 4] aH func109 ntmps109 (fun a _=>(U6 a.1 a.2).trans) (fun _=>by kernel_rfl)
def Qa:SU:=⟨[.st 32, .st 106],[.st 32, .bool],true,false,fun(a:D.aAB×D.aAC)=>gd (a.1.sz≤34359738300∧a.2.sz≤34359738300) (some (cZ a.1 a.2))⟩
theorem uD:OK 45 Qa:=mkS (.s .n (.s .n (.s .n (.s (.s (.rj 7 ⟨[(19,19)],[.dat (.s 37) .bool],[],[]⟩ (.r none (od 25 [4,17]))) .n) (.s (.r (some 5) (od 8 [3,4,5,6,7])) .n))))) [.cell 4 32, .tmp 5] (gc xH (gc kH (gc Y7 (gc xG aH)))) func45 ntmps45 (fun a _=>aI (Pn a.1 a.2)) (fun _=>by kernel_rfl)
def Vi:SU:=⟨[.st 32,i6],[.st 106, .bool],true,false,fun(a:D.aAB×Int)=>gd (a.1.sz≤34359738368) (some (fG a.1 a.2))⟩
theorem Vj:OK 111 Vi:=mkS .n [.cell 4 106, .tmp 5] (gc dE (gc xG aH)) func111 ntmps111 (fun a _=>aI (Tx a.1 a.2)) (fun _=>by kernel_rfl)
def aIf:SU:=⟨[i6, .sl 5],[.sl 5],true,false,fun(a:Int×(List Int))=>gd (a.2.length≤34359738368) (some (O0 a.1 a.2))⟩
theorem Ml:OK 262 aIf:=mkS (.s .n (.s .n (.s (.j ⟨[(5,2),(1,22)],[.tr (.s 5) 0 5 true],[],[]⟩ (.s .n (.s (.l ⟨[(5,2),(1,22)],[.tr (.s 5) 0 5 true, .nat (.s 6)],[],[]⟩ FUEL (.s .n (.s (.s (.r (some 15) (od 17 [8,9,12,14,15,16])) .n) .n))) .n))) .n))) [.tmp 4] (gc dX (gc wX aH)) func262 ntmps262 (fun a _=>aI (aHi a.1 a.2)) (fun _=>by kernel_rfl)
def aIg:SU:=⟨[i6, .st 224],[.sl 5, .bool],true,false,fun(a:Int×D.Box)=>some (gQ a.1 a.2)⟩
theorem aIh:OK 307 aIg:=mkS (.s .n (.s (.s (.rj 4 ⟨[(10,19)],[.dat (.s 28) .bool],[],[]⟩ (.r none (od 22 [1,7,13]))) .n) (.s .n (.s (.s (.r none (od 6 [4])) .n) .n)))) [.tmp 4, .tmp 5] (gc dG (gc mH (gc Rm (gc Rn (gc Ml aH))))) func307 ntmps307 (fun a _=>(aHj a.1 a.2).trans) (fun _=>by kernel_rfl)
def aIi:SU:=⟨[.sl 224,i6],[.sl 5, .bool],true,false,fun(a:(List D.Box)×Int)=>gd (a.1.length≤34359738368) (some (iD a.1 a.2))⟩
theorem aIj:OK 259 aIi:=mkS (.s .n (.s (.jx ⟨[(4,22)],[],[],[]⟩ (.s .n (.s (.l ⟨[(4,22)],[.nat (.s 6)],[],[]⟩ FUEL .n) .n))) .n)) [.tmp 4, .tmp 5] (gc aIh aH) func259 ntmps259 (fun a _=>aI (aHk a.1 a.2)) (fun _=>by kernel_rfl)
def Vk:SU:=⟨[.sl 5,i6],[i6,i6, .bool],false,false,fun(a:(List Int)×Int)=>gd (bF a.1) (some (zM a.1 a.2))⟩
theorem xI:OK 308 Vk:=mkS (.s .n (.s .n (.s (.jx ⟨[(4,51)],[],[],[]⟩ (.s .n (.s (.l ⟨[(4,51)],[.dat (.s 7) i6, .nat (.s 8)],[],[]⟩ FUEL (.s .n (.s (.s (.s (.s (.rj 3 ⟨[(16,8)],[.dat (.s 23) .bool],[],[]⟩ .n) .n) (.s .n (.s .n (.s .n (.s (.s (.s (.rj 3 ⟨[(42,8)],[.dat (.s 49) .bool],[],[]⟩ .n) .n) .n) .n))))) .n) .n))) .n))) .n))) [.tmp 4, .tmp 5, .tmp 6] aH func308 ntmps308 (fun a _=>aI (Ty a.1 a.2)) (fun _=>by kernel_rfl)
def C8:SU:=⟨[.sl 5,i6,i6],[.sl 3,i6, .bool],true,false,fun(a:(List Int)×Int×Int)=>gd (bF a.1) (some (lD a.1 a.2.1 a.2.2))⟩
theorem zC:OK 260 C8:=mkS (.s .n (.s .n (.s (.s (.rj 4 ⟨[(18,7)],[.dat (.s 24) .bool],[],[]⟩ .n) .n) (.s (.jx ⟨[(1,1),(4,8),(12,20)],[.dat (.s 1) i6, .tr (.s 9) 0 3 true],[],[]⟩ (.s .n (.s (.l ⟨[(1,1),(4,8),(12,20)],[.dat (.s 1) i6, .tr (.s 9) 0 3 true, .nat (.s 10)],[],[]⟩ FUEL .n) .n))) .n)))) [.tmp 6, .tmp 7, .tmp 8] (gc dE (gc xI aH)) func260 ntmps260 (fun a _=>aI (Zk a.1 a.2.1 a.2.2)) (fun _=>by kernel_rfl)
def Hl:SU:=⟨[.st 69, .st 29],[i6, .bool],false,false,fun(a:D.aAH×D.aAG)=>gd (a.2.sz≤34359738368) (some (bW a.1 a.2))⟩
theorem Hm:OK 196 Hl:=mkS (.s .n (.s (.r none (od 10 [3,4])) (.s .n (.s (.s (.rj 3 ⟨[(27,25)],[.dat (.s 51) .bool],[],[]⟩ (.r none (od 27 [24]))) .n) .n)))) [.tmp 4, .tmp 5] (gc qX (gc aIj (gc zC (gc dG aH)))) func196 ntmps196 (fun a _=>aI (Gu a.1 a.2)) (fun _=>by kernel_rfl)
def C9:SU:=⟨[.sl 5, .sl 5],[.bool],false,false,fun(a:(List Int)×(List Int))=>gd (bF a.1∧bF a.2) (some ((a.1==a.2)))⟩
theorem D5:OK 216 C9:=mkS .n [.tmp 4] aH func216 ntmps216 (fun a _=>aI (Zm a.1 a.2)) (fun _=>by kernel_rfl)
def Qb:SU:=⟨[.sl 5],[.st 72, .bool],true,false,fun(a:(List Int))=>gd (bF a) (some (Qv a))⟩
theorem Qc:OK 261 Qb:=mkS (.s .n (.s .n (.s (.s (.rj 3 ⟨[(21,4)],[.dat (.s 24) .bool],[],[]⟩ .n) .n) (.s .n (.s (.jx ⟨[(3,1),(1,1),(2,5),(14,40)],[.nt (.c 1 0) 235 true],[],[]⟩ (.s .n (.s (.l ⟨[(3,1),(1,1),(2,5),(14,40)],[.dat (.s 5) i6, .nat (.s 8), .nt (.c 1 0) 235 true],[],[]⟩ FUEL .n) .n))) (.s (.s (.rj 4 ⟨[(70,7)],[.dat (.s 76) .bool],[],[]⟩ .n) .n) .n)))))) [.cell 2 72, .tmp 3] (gc xI (gc zC (gc jD (gc uC (gc D5 aH))))) func261 ntmps261 (fun(a:(List Int)) _=>aI (Pm a)) (fun _=>by kernel_rfl)
def D6:SU:=⟨[i6, .st 106],[.st 72, .bool],true,false,fun(a:Int×D.aAC)=>gd (a.2.Data.length≤34359738200) (some (iO a.1 a.2))⟩
theorem D7:OK 197 D6:=mkS (.s .n (.s (.s (.rj 8 ⟨[(13,8)],[.dat (.s 20) .bool],[],[]⟩ (.r none (od 15 [5,12]))) .n) (.s (.r (some 12) [(0,true),(1,true),(2,true),(3,true),(4,true),(6,true),(7,true),(5,false),(8,false),(9,false),(10,true),(11,true),(12,false),(13,false)]) .n))) [.cell 4 72, .tmp 5] (gc Gf (gc Ca (gc Ro (gc Ml (gc Qc aH))))) func197 ntmps197 (fun a _=>aI (Zn a.1 a.2)) (fun _=>by kernel_rfl)
def Qd:SU:=⟨[.st 72, .st 72],[.st 72, .bool],true,false,fun(a:D.aAE×D.aAE)=>gd (a.1.sz≤34359738368∧a.2.sz≤34359738368) (some (iB a.1 a.2))⟩
theorem Qe:OK 198 Qd:=mkS (.s .n (.s (.s (.rj 4 ⟨[(13,5)],[.dat (.s 17) .bool],[],[]⟩ .n) .n) (.s .n (.s (.j ⟨[(7,3),(12,49)],[.tr (.c 4 0) 3 235 true],[],[]⟩ (.s .n (.s (.l ⟨[(7,3),(12,49)],[.nat (.s 7), .tr (.c 4 0) 3 235 true],[],[]⟩ FUEL (.s .n (.s (.j ⟨[(8,2),(19,42)],[.tr (.c 4 0) 3 235 true],[],[]⟩ (.s (.s .n (.s .n (.s (.rj 3 ⟨[(42,26)],[.dat (.s 67) .bool],[],[]⟩ (.r none (od 28 []))) .n))) .n)) .n))) .n))) .n)))) [.cell 4 72, .tmp 5] (gc jD (gc lW (gc mI (gc zL aH)))) func198 ntmps198 (fun a _=>aI (Pg a.1 a.2)) (fun _=>by kernel_rfl)
def D8:SU:=⟨[.st 74, .sl 154, .st 29, .st 106],[.st 74,i6],true,false,fun(a:D.Device×(List D.aAA)×D.aAG×D.aAC)=>gd (a.1.sz≤34359738368∧a.2.1.length≤34359738368∧a.2.2.1.sz≤34359738368∧a.2.2.2.Data.length≤34359738200) (some (cK a.1 a.2.1 a.2.2.1 a.2.2.2))⟩
theorem D9:OK 112 D8:=mkS (.s .n (.s .n (.s .n (.s (.s (.rj 4 ⟨[(25,7)],[.dat (.s 31) .bool],[],[]⟩ .n) .n) (.s (.s (.r none [(0,true),(2,true),(3,true),(1,false),(4,false),(5,false),(6,true)]) .n) (.s .n (.s (.s (.rj 5 ⟨[(52,4)],[.dat (.s 55) .bool],[],[]⟩ .n) .n) (.s (.s (.rj 5 ⟨[(61,21)],[.dat (.s 81) .bool],[],[]⟩ .n) .n) (.s .n (.s .n (.s (.s (.rj 3 ⟨[(98,4)],[.dat (.s 101) .bool],[],[]⟩ .n) .n) (.s (.r (some 11) [(0,true),(1,true),(2,true),(4,true),(5,true),(6,true),(7,true),(8,true),(9,true),(3,false),(10,true),(11,false),(12,false)]) .n)))))))))))) [.cell 8 74, .tmp 9] (gc lX (gc kH (gc gL (gc pJ (gc kG (gc iG (gc rE (gc Hm (gc D7 (gc Qe (gc iQ aH))))))))))) func112 ntmps112 (fun a _=>aI (Zo a.1 a.2.1 a.2.2.1 a.2.2.2)) (fun _=>by kernel_rfl)
def aIk:SU:=⟨[.st 74, .st 32,i6],[.st 74,i6],true,false,fun(a:D.Device×D.aAB×Int)=>gd (a.1.sz≤34359738100∧a.2.1.sz≤34359738100) (some (cK a.1 a.2.1.Log a.2.1.Boxes (fG a.2.1 a.2.2).1))⟩
theorem Mo:OK 46 aIk:=mkS .n [.cell 6 74, .tmp 7] (gc Vj (gc D9 aH)) func46 ntmps46 (fun a _=>aI (aHm a.1 a.2.1 a.2.2)) (fun _=>by kernel_rfl)
def aOg:SU:=⟨[i6],[i6],false,false,fun(a:Int)=>some (kN a 1019)⟩
theorem aOh:OK 263 aOg:=mkS .n [.tmp 2] (gc wX aH) func263 ntmps263 (fun a _=>(aOc a).trans) (fun _=>by kernel_rfl)
def aJ6:SU:=⟨[i6, .sl 3,i6],[i6],false,false,fun(a:Int×(List Int)×Int)=>gd (0≤a.2.2∧a.2.2≤1000∧a.2.1.length≤34359738368) (some (Yf a.1 a.2.1 a.2.2))⟩
theorem aJ7:OK 199 aJ6:=mkS bIs [.tmp 6] (gc aOh aH) func199 ntmps199 (fun a _=>aI (aJt a.1 a.2.1 a.2.2)) (fun _=>by kernel_rfl)
def Vl:SU:=⟨[i6, .sl 3,i6],[.sl 76],true,false,fun(a:Int×(List Int)×Int)=>gd (a.2.1.length≤34359738368) (some (qV a.1 a.2.1 a.2.2))⟩
theorem Vm:OK 114 Vl:=mkS (.s .n (.s .n (.s (.s (.rj 4 ⟨[(13,6)],[.dat (.s 18) .bool],[],[]⟩ .n) .n) (.s (.j ⟨[(7,2),(11,14)],[.tr (.s 7) 0 76 true],[],[]⟩ (.s .n (.s (.l ⟨[(7,2),(11,14)],[.tr (.s 7) 0 76 true, .dat (.s 8) i6],[],[]⟩ FUEL .n) .n))) .n)))) [.tmp 6] (gc dE (gc aJ7 aH)) func114 ntmps114 (fun a _=>aI (Uk a.1 a.2.1 a.2.2)) (fun _=>by kernel_rfl)
def aOi:SU:=⟨[i6,i6],[i6],false,false,fun(a:Int×Int)=>pF a.1 a.2⟩
theorem E5:OK 265 aOi:=mkS bIn [.tmp 4] aH func265 ntmps265 (fun _ _=>id) (fun _=>by kernel_rfl)
def Ho:SU:=⟨[i6],[.bool],false,false,fun(a:Int)=>some (aXe a)⟩
theorem Hq:OK 264 Ho:=mkS bIv [.tmp 2] (gc dE (gc E5 aH)) func264 ntmps264 (fun a _=>(He a).trans) (fun _=>by kernel_rfl)
def aC5:SU:=⟨[i6,i6],[i6],false,false,fun(a:Int×Int)=>some (Sl a.1 a.2)⟩
theorem Gg:OK 200 aC5:=mkS .n [.tmp 4] (gc Hq (gc wX (gc E5 aH))) func200 ntmps200 (fun a _=>(aCs a.1 a.2).trans) (fun _=>by kernel_rfl)
def Vn:SU:=⟨[i6,i6],[i6],false,false,fun(a:Int×Int)=>some (aDy a.1 a.2)⟩
theorem Vo:OK 201 Vn:=mkS .n [.tmp 4] (gc dX (gc Gg aH)) func201 ntmps201 (fun a _=>(Uj a.1 a.2).trans) (fun _=>by kernel_rfl)
def Qf:SU:=⟨[i6,i6,i6],[i6],false,false,fun(a:Int×Int×Int)=>some (Oa a.1 a.2.1 a.2.2)⟩
theorem Qg:OK 117 Qf:=mkS .n [.tmp 6] (gc Vo (gc Gg aH)) func117 ntmps117 (fun a _=>(Pt a.1 a.2.1 a.2.2).trans) (fun _=>by kernel_rfl)
def Y8:SU:=⟨[i6,i6],[i6],false,false,fun(a:Int×Int)=>some (Dl a.1 a.2)⟩
theorem Y9:OK 116 Y8:=mkS .n [.tmp 4] (gc dX (gc Uo aH)) func116 ntmps116 (fun a _=>(V5 a.1 a.2).trans) (fun _=>by kernel_rfl)
def aIl:SU:=⟨[.st 78],[i6],false,false,fun(a:D.aAS)=>some (aE9 a)⟩
theorem aIm:OK 202 aIl:=mkS .n [.tmp 2] aH func202 ntmps202 (fun a _=>(aHg a).trans) (fun _=>by kernel_rfl)
def Z0:SU:=⟨[.st 78],[.st 81],true,false,fun(a:D.aAS)=>some (xW a)⟩
theorem Z4:OK 118 Z0:=mkS (.s .n (.s (.r (some 4) (od 5 [2,4])) .n)) [.cell 2 81] (gc aIm aH) func118 ntmps118 (fun a _=>(V6 a).trans) (fun _=>by kernel_rfl)
def E8:SU:=⟨[i6,i6],[i6],false,false,fun(a:Int×Int)=>some (aDz a.1 a.2)⟩
theorem E9:OK 119 E8:=mkS .n [.tmp 4] (gc dX aH) func119 ntmps119 (fun a _=>(o5 a.1 a.2).trans) (fun _=>by kernel_rfl)
def aIn:SU:=⟨[i6,i6],[i6],false,false,fun(a:Int×Int)=>some (aQj a.1 a.2)⟩
theorem aIo:OK 120 aIn:=mkS .n [.tmp 4] (gc dE (gc eY aH)) func120 ntmps120 (fun a _=>(aHq a.1 a.2).trans) (fun _=>by kernel_rfl)
def Z5:SU:=⟨[i6,i6,i6,i6, .sl 3,i6,i6],[.st 35, .sl 81, .bool],true,false,fun(a:Int×Int×Int×Int×(List Int)×Int×Int)=>gd (a.2.2.2.2.1.length≤34359738368) (some (Dm a.1 a.2.1 a.2.2.1 a.2.2.2.1 a.2.2.2.2.1 a.2.2.2.2.2.1 a.2.2.2.2.2.2))⟩
theorem Z6:OK 48 Z5:=mkS (.s .n (.s .n (.s (.s (.rj 4 ⟨[(28,25)],[.dat (.s 52) .bool],[],[]⟩ .n) .n) (.s .n (.s .n (.s (.j ⟨[(19,2),(41,16)],[.tr (.s 19) 2 81 true],[],[]⟩ (.s .n (.s (.l ⟨[(19,2),(41,16)],[.tr (.s 19) 2 81 true, .nat (.s 20)],[],[]⟩ FUEL .n) .n))) .n)))))) [.cell 14 35, .tmp 15, .tmp 16] (gc Vm (gc dE (gc dG (gc wX (gc Qg (gc Y9 (gc Z4 (gc E9 (gc aIo aH))))))))) func48 ntmps48 (fun a _=>aI (V7 a.1 a.2.1 a.2.2.1 a.2.2.2.1 a.2.2.2.2.1 a.2.2.2.2.2.1 a.2.2.2.2.2.2)) (fun _=>by kernel_rfl)
def aC6:SU:=⟨[i6,i6,i6,i6,i6],[.st 41],false,false,fun(a:Int×Int×Int×Int×Int)=>some (aZ a.1 a.2.1 a.2.2.1 a.2.2.2.1 a.2.2.2.2)⟩
theorem aC7:OK 7 aC6:=mkS (.s .n (.s (.s (.rj 4 ⟨[(30,21)],[.dat (.s 50) .bool],[],[]⟩ .n) .n) (.s .n (.s .n (.s (.j ⟨[(12,3),(41,33)],[.tr (.s 12) 2 154 true, .nt (.c 1 2) 74 true, .nt (.c 1 3) 4 true],[],[]⟩ (.s .n (.s (.l ⟨[(12,3),(41,33)],[.tr (.s 12) 2 154 true, .nat (.s 13), .nt (.c 1 2) 74 true, .nt (.c 1 3) 4 true],[],[]⟩ FUEL (.s .n (.s (.s (.s .n (.s .n (.s .n (.r none [(0,true),(1,true),(2,true),(4,true),(5,true),(6,true),(7,true),(8,true),(3,false),(9,false),(10,true),(11,true),(12,true),(13,true)])))) .n) .n))) .n))) (.s .n (.s .n (.s .n (.s (.il 3 (.s .n (.s .n (.s (.j ⟨[(5,5),(1,40)],[.tr (.s 5) 10 65 false],[],[]⟩ (.s .n (.s (.l ⟨[(5,5),(1,40)],[.tr (.s 5) 10 65 false, .nat (.s 6)],[],[]⟩ FUEL (.s .n (.s (.j ⟨[(5,1),(1,3),(5,36)],[.tr (.s 5) 10 65 false],[],[]⟩ (.s (.s .n (.s (.j ⟨[(9,1),(16,21)],[.dat (.c 12 0) (.str), .dat (.c 12 1) (.sl 59), .dat (.c 12 2) i6, .dat (.c 12 3) i6, .dat (.c 12 4) (.sl 254), .dat (.c 12 5) (.sl 3)],[],[]⟩ (.s .n (.s (.l ⟨[(9,1),(16,21)],[.nat (.s 9), .dat (.c 12 0) (.str), .dat (.c 12 1) (.sl 59), .dat (.c 12 2) i6, .dat (.c 12 3) i6, .dat (.c 12 4) (.sl 254), .dat (.c 12 5) (.sl 3)],[],[]⟩ FUEL (.s .n (.s (.s (.y false none (some 15) [(0,true),(1,true),(2,true),(3,true),(4,true),(5,true),(6,true),(7,true),(9,true),(8,false),(10,false),(11,false),(12,true),(13,true),(14,true),(15,false)]) .n) .n))) .n))) .n)) .n)) .n))) .n))) .n))) .n) (.s (.j ⟨[(18,1),(90,20)],[.tr (.c 1 2) 3 74 true],[],[]⟩ (.s .n (.s (.l ⟨[(18,1),(90,20)],[.nat (.s 18), .tr (.c 1 2) 3 74 true],[],[]⟩ FUEL bFa) .n))) (.s (.j ⟨[(19,2),(108,23)],[.tr (.c 1 2) 3 74 true],[],[]⟩ (.s .n (.s (.l ⟨[(19,2),(108,23)],[.nat (.s 19), .tr (.c 1 2) 3 74 true],[],[]⟩ FUEL (.s .n (.s (.j ⟨[(20,1),(112,19)],[.tr (.c 1 2) 3 74 true],[],[]⟩ (.s (.s .n (.s (.l ⟨[(20,1),(112,19)],[.nat (.s 20), .tr (.c 1 2) 3 74 true],[],[]⟩ FUEL (.s .n (.s (.s (.y false none (some 14) [(0,true),(1,true),(2,true),(3,true),(4,true),(5,true),(6,true),(8,true),(7,false),(9,false),(10,true),(11,true),(12,true),(13,true),(14,false)]) .n) .n))) .n)) .n)) .n))) .n))) (.s .n (.s .n (.s .n (.s (.j ⟨[(24,1),(148,20)],[.tr (.c 1 2) 3 74 true],[],[]⟩ (.s .n (.s (.l ⟨[(24,1),(148,20)],[.dat (.s 24) i6, .tr (.c 1 2) 3 74 true],[],[]⟩ FUEL bFa) .n))) (.s .n (.s (.j ⟨[(25,2),(167,12)],[.tr (.s 25) 19 3 true],[],[]⟩ (.s .n (.s (.l ⟨[(25,2),(167,12)],[.tr (.s 25) 19 3 true, .dat (.s 26) i6],[],[]⟩ FUEL .n) .n))) .n))))))))))))))))) [.cell 10 41] (gc dE (gc dG (gc p9 (gc X4 (gc iG (gc wZ (gc Gb (gc qK (gc aCx (gc (sIl 40) (gc zB (gc sN (gc uB (gc xE (gc uD (gc Mo (gc eY (gc Z6 (gcp Mh (gc Uy (gc y7 (gcp Ve aH)))))))))))))))))))))) func7 ntmps7 (fun a _=>(aCu a.1 a.2.1 a.2.2.1 a.2.2.2.1 a.2.2.2.2).trans) (fun _=>by kernel_rfl)
def aIp:SU:=⟨[i6,i6,i6],[.bool],false,false,fun(a:Int×Int×Int)=>some (bR a.1 a.2.1 a.2.2)⟩
theorem gD:OK 121 aIp:=mkS bE8 [.tmp 6] aH func121 ntmps121 (fun a _=>(aGs a.1 a.2.1 a.2.2).trans) (fun _=>by kernel_rfl)
def aJ8:SU:=⟨[.str],[.bool],false,false,fun(a:ByteArray)=>some (fQ a)⟩
theorem rF:OK 266 aJ8:=mkS (.s .n (.s .n (.s (.jx ⟨[(2,1),(1,3),(3,57)],[],[],[]⟩ (.s .n (.s (.l ⟨[(2,1),(1,3),(6,54)],[.nat (.s 13)],[],[]⟩ FUEL (.s .n (.s .n (.s (.jx ⟨[(2,1),(1,3),(8,51)],[],[],[]⟩ (.s (.s .n (.s (.s (.rj 4 ⟨[(20,18)],[.dat (.s 37) .bool],[],[]⟩ .n) .n) (.s .n (.s (.l ⟨[(2,1),(2,2),(31,28)],[.nat (.s 5)],[],[]⟩ FUEL (.s .n (.s (.s (.s .n (.s (.rj 3 ⟨[(49,17)],[.dat (.s 65) .bool],[],[]⟩ .n) .n)) .n) .n))) .n)))) .n)) .n)))) .n))) .n))) [.tmp 2] (gc Et aH) func266 ntmps266 (fun a _=>(aJr a).trans) (fun _=>by kernel_rfl)
def Vp:SU:=⟨[.str],[.str],false,false,fun(a:ByteArray)=>some (aW4 a)⟩
theorem Vq:OK 267 Vp:=mkS .n [.tmp 2] (gc rF (gc Et (gc aGl aH))) func267 ntmps267 (fun a _=>(Tj a).trans) (fun _=>by kernel_rfl)
def aJ9:SU:=⟨[.str],[.bool],false,false,fun(a:ByteArray)=>gd (a.size≤9223372036854775807) (some (Nu a))⟩
theorem aKa:OK 268 aJ9:=mkS (.s .n (.s (.jx ⟨[(2,12)],[],[],[]⟩ (.s .n (.s (.l ⟨[(2,12)],[.nat (.s 3)],[],[]⟩ FUEL .n) .n))) .n)) [.tmp 2] aH func268 ntmps268 (fun(a:ByteArray) _=>aI (aJs a)) (fun _=>by kernel_rfl)
def F3:SU:=⟨[i6],[.bool],false,false,fun(a:Int)=>some (bE a)⟩
theorem jO:OK 126 F3:=mkS .n [.tmp 2] (gc gD aH) func126 ntmps126 (fun a _=>(Za a).trans) (fun _=>by kernel_rfl)
def Vr:SU:=⟨[.str,i6],[.bool],false,false,fun(a:ByteArray×Int)=>gd (a.1.size≤9223372036854775807) (some (iU a.1 a.2))⟩
theorem Vs:OK 203 Vr:=mkS (.s .n (.s (.rj 3 ⟨[(4,1),(2,13)],[.dat (.s 4) .bool],[],[]⟩ .n) .n)) [.tmp 4] (gc rF (gc Vq (gc aKa (gc jO aH)))) func203 ntmps203 (fun a _=>aI (Tn a.1 a.2)) (fun _=>by kernel_rfl)
def Vt:SU:=⟨[.st 63],[.bool],false,false,fun(a:D.aAD)=>gd (a.sz≤34359738368) (some (dV a))⟩
theorem nO:OK 204 Vt:=mkS (.s .n (.s (.s (.rj 5 ⟨[(9,6)],[.dat (.s 14) .bool],[],[]⟩ .n) .n) (.s (.jx ⟨[(2,3),(10,44)],[],[],[]⟩ (.s .n (.s (.l ⟨[(2,3),(13,41)],[.nat (.s 18)],[],[]⟩ FUEL (.s .n (.s .n (.s (.s (.s .n (.s (.rj 8 ⟨[(30,28)],[.dat (.s 57) .bool],[],[]⟩ (.r none (od 35 [5,26,32]))) .n)) .n) .n)))) .n))) .n))) [.tmp 2] (gc gD aH) func204 ntmps204 (fun(a:D.aAD) _=>aI (Ti a)) (fun _=>by kernel_rfl)
def aOj:SU:=⟨[i6,i6,i6],[i6],false,false,fun(a:Int×Int×Int)=>uS a.1 a.2.1 a.2.2⟩
theorem aOk:OK 311 aOj:=mkS (.s .n (.s .n (.s .n (.s (.j ⟨[(0,2),(5,1),(5,17)],[.dat (.s 7) i6],[],[]⟩ (.s (.l ⟨[(0,2),(5,1),(5,17)],[.dat (.s 0) i6, .dat (.s 1) i6, .dat (.s 7) i6],[],[]⟩ FUEL (.s .n (.s (.s (.j ⟨[(7,1),(7,8)],[.dat (.s 7) i6],[],[]⟩ .n) .n) .n))) .n)) .n)))) [.tmp 6] aH func311 ntmps311 (fun _ _=>id) (fun _=>by kernel_rfl)
def F4:SU:=⟨[i6],[i6],false,false,fun(a:Int)=>some (fF a)⟩
theorem zD:OK 269 F4:=mkS .n [.tmp 2] (gc jO (gc aOk aH)) func269 ntmps269 (fun a _=>(Zg a).trans) (fun _=>by kernel_rfl)
def Hr:SU:=⟨[.st 59],[.bool],false,false,fun(a:D.aAF)=>gd (a.sz≤34359738368) (some (aU a))⟩
theorem lC:OK 205 Hr:=mkS (.s .n (.s (.s (.rj 5 ⟨[(11,12)],[.dat (.s 22) .bool],[],[]⟩ .n) .n) (.s (.jx ⟨[(2,3),(1,1),(16,56)],[],[],[]⟩ (.s .n (.s (.l ⟨[(2,3),(1,1),(19,53)],[.nat (.s 26)],[],[]⟩ FUEL (.s .n (.s .n (.s (.jx ⟨[(2,3),(1,1),(21,50)],[],[],[]⟩ (.s (.s .n (.s (.s (.rj 5 ⟨[(35,28)],[.dat (.s 62) .bool],[],[]⟩ (.r none (od 32 [2,23,29]))) .n) (.s .n (.s (.l ⟨[(2,1),(3,1),(61,10)],[.nat (.s 68)],[],[]⟩ FUEL .n) .n)))) .n)) .n)))) .n))) .n))) [.tmp 2] (gc gD (gc zD aH)) func205 ntmps205 (fun(a:D.aAF) _=>aI (Gt a)) (fun _=>by kernel_rfl)
def Vu:SU:=⟨[.st 65],[.bool],false,false,fun(a:D.Site)=>gd (a.sz≤34359738368) (some (bL a))⟩
theorem nP:OK 122 Vu:=mkS (.s .n (.s (.s (.rj 8 ⟨[(12,12)],[.dat (.s 23) .bool],[],[]⟩ .n) .n) (.s (.jx ⟨[(2,3),(19,28)],[],[],[]⟩ (.s .n (.s (.l ⟨[(2,3),(22,25)],[.nat (.s 27)],[],[]⟩ FUEL (.s .n (.s .n (.s (.s (.s .n (.s (.rj 4 ⟨[(35,16)],[.dat (.s 50) .bool],[],[]⟩ (.r none (od 19 [1]))) .n)) .n) .n)))) .n))) .n))) [.tmp 2] (gc Vs (gc nO (gc lC aH))) func122 ntmps122 (fun(a:D.Site) _=>aI (Tt a)) (fun _=>by kernel_rfl)
def aC8:SU:=⟨[i6],[.str],false,false,fun(a:Int)=>some (aA a)⟩
theorem sO:OK 123 aC8:=mkS .n [.tmp 2] aH func123 ntmps123 (fun a _=>(aCi a).trans) (fun _=>by kernel_rfl)
def Ht:SU:=⟨[.st 39],[.bool],false,false,fun(a:D.aAN)=>gd (a.sz≤34359738368) (some (dP a))⟩
theorem qL:OK 124 Ht:=mkS (.s .n (.s .n (.s (.jx ⟨[(2,3),(4,41)],[],[],[]⟩ (.s .n (.s (.l ⟨[(2,3),(7,38)],[.nat (.s 12)],[],[]⟩ FUEL (.s .n bE4)) .n))) .n))) [.tmp 2] (gc gD aH) func124 ntmps124 (fun(a:D.aAN) _=>aI (Gr a)) (fun _=>by kernel_rfl)
def aTz:SU:=⟨[.sl 3,i6],[.bool],false,false,fun(a:(List Int)×Int)=>gd (a.1.length≤1099511627776) (some (gP a.1 a.2))⟩
theorem aIq:OK 167 aTz:=mkS (.s .n (.s (.jx ⟨[(4,1),(1,11)],[],[],[]⟩ (.s .n (.s (.l ⟨[(4,1),(1,1),(2,8)],[.nat (.s 9)],[],[]⟩ FUEL .n) .n))) .n)) [.tmp 4] aH func167 ntmps167 (fun a _=>aI (aTk a.1 a.2)) (fun _=>by kernel_rfl)
def Z7:SU:=⟨[.sl 154],[.sl 3],true,false,fun(a:(List D.aAA))=>gd (a.length≤34359738368) (some (aB a))⟩
theorem Z8:OK 168 Z7:=mkS (.s .n (.s .n (.s (.j ⟨[(3,1),(1,2),(1,1),(1,40)],[.tr (.s 3) 0 3 true],[],[]⟩ (.s .n (.s (.l ⟨[(3,1),(1,2),(1,1),(3,38)],[.tr (.s 3) 0 3 true, .nat (.s 12)],[],[]⟩ FUEL (.s .n (.s .n (.s (.j ⟨[(3,1),(1,2),(1,1),(5,35)],[.tr (.s 3) 0 3 true],[],[]⟩ (.s (.s .n (.s .n (.s (.s .n (.s .n (.s .n (.s (.s .n (.s (.j ⟨[(6,1),(1,1),(24,15)],[.tr (.s 6) 2 3 true],[],[]⟩ (.s .n (.s (.l ⟨[(6,1),(1,1),(26,13)],[.tr (.s 6) 2 3 true, .nat (.s 35)],[],[]⟩ FUEL (.s .n (.s .n (.s (.j ⟨[(6,1),(1,1),(28,10)],[.tr (.s 6) 2 3 true],[],[]⟩ .n) .n)))) .n))) .n)) .n)))) .n))) .n)) .n)))) .n))) .n))) [.tmp 2] (gc aIq aH) func168 ntmps168 (fun(a:(List D.aAA)) _=>aI (R4 a)) (fun _=>by kernel_rfl)
def aT0:SU:=⟨[i6,i6],[i6],false,false,fun(a:Int×Int)=>some (kN a.1 a.2)⟩
theorem aT1:OK 277 aT0:=mkS (.s .n (.s (.s (.rj 3 ⟨[(8,4)],[.dat (.s 11) .bool],[],[]⟩ .n) .n) (.s .n (.s (.j ⟨[(5,1),(9,5)],[.dat (.s 5) i6],[],[]⟩ .n) .n)))) [.tmp 4] aH func277 ntmps277 (fun a _=>(aTi a.1 a.2).trans) (fun _=>by kernel_rfl)
def aRo:SU:=⟨[.sl 3],[i6],false,false,fun(a:(List Int))=>gd (a.length≤1099511627776) (some (sW a))⟩
theorem aBq:OK 223 aRo:=mkS (.s .n (.s .n (.s (.j ⟨[(3,1),(1,15)],[.dat (.s 3) i6],[],[]⟩ (.s .n (.s (.l ⟨[(3,1),(1,1),(2,12)],[.dat (.s 3) i6, .nat (.s 8)],[],[]⟩ FUEL .n) .n))) .n))) [.tmp 2] (gc aT1 aH) func223 ntmps223 (fun(a:(List Int)) _=>aI (aRc a)) (fun _=>by kernel_rfl)
def Z9:SU:=⟨[.st 154],[i6],false,false,fun(a:D.aAA)=>some (bN a)⟩
theorem Cb:OK 208 Z9:=mkS .n [.tmp 2] (gc aBq aH) func208 ntmps208 (fun a _=>(U1 a).trans) (fun _=>by kernel_rfl)
def aIr:SU:=⟨[.sl 154],[i6],false,false,fun(a:(List D.aAA))=>gd (a.length≤34359738368) (some (fH a))⟩
theorem aIs:OK 206 aIr:=mkS .n [.tmp 2] (gc Cb aH) func206 ntmps206 (fun(a:(List D.aAA)) _=>aI (aHb a)) (fun _=>by kernel_rfl)
def F5:SU:=⟨[.sl 154,i6],[.bool],false,false,fun(a:(List D.aAA)×Int)=>gd (a.1.length≤34359738368) (some (dM a.1 a.2))⟩
theorem F6:OK 74 F5:=mkS (.s .n (.s (.jx ⟨[(4,1),(1,17)],[],[],[]⟩ (.s .n (.s (.l ⟨[(4,1),(1,1),(2,14)],[.nat (.s 9)],[],[]⟩ FUEL (.s .n (.s .n (.s (.s (.s .n (.s (.rj 4 ⟨[(16,6)],[.dat (.s 21) .bool],[],[]⟩ .n) .n)) .n) .n)))) .n))) .n)) [.tmp 4] aH func74 ntmps74 (fun a _=>aI (Zh a.1 a.2)) (fun _=>by kernel_rfl)
def aKb:SU:=⟨[.sl 3, .sl 53],[.sl 3],true,false,fun(a:(List Int)×(List (List Int)))=>gd (tH a.1 a.2) (some (oL a.1 a.2))⟩
theorem kW:OK 144 aKb:=mkS (.s .n (.s .n (.s (.j ⟨[(5,1),(1,1),(3,10)],[.tr (.s 5) 0 3 true],[],[]⟩ (.s .n (.s (.l ⟨[(5,1),(1,1),(5,8)],[.tr (.s 5) 0 3 true, .nat (.s 13)],[],[]⟩ FUEL .n) .n))) .n))) [.tmp 4] aH func144 ntmps144 (fun a _=>aI (aJl a.1 a.2)) (fun _=>by kernel_rfl)
def aAa:SU:=⟨[i6, .sl 3],[i6],false,false,fun(a:Int×(List Int))=>gd (a.2.length≤34359738368) (some (bH a.1 a.2))⟩
theorem mJ:OK 143 aAa:=mkS .n [.tmp 4] (gc kW (gc aBq aH)) func143 ntmps143 (fun a _=>aI (Q5 a.1 a.2)) (fun _=>by kernel_rfl)
def Vv:SU:=⟨[i6, .sl 3],[i6],false,false,fun(a:Int×(List Int))=>gd (a.2.length≤34359738300) (some (oN a.1 a.2))⟩
theorem xJ:OK 270 Vv:=mkS .n [.tmp 4] (gc jO (gc kW (gc mJ aH))) func270 ntmps270 (fun a _=>aI (Tf a.1 a.2)) (fun _=>by kernel_rfl)
def Ei:SU:=⟨[i6, .sl 3,i6],[.bool],false,false,fun(a:Int×(List Int)×Int)=>gd (a.2.1.length≤34359738300) (some (fA a.1 a.2.1 a.2.2))⟩
theorem pK:OK 207 Ei:=mkS bE7 [.tmp 6] (gc zD (gc xJ aH)) func207 ntmps207 (fun a _=>aI (Ee a.1 a.2.1 a.2.2)) (fun _=>by kernel_rfl)
def aAb:SU:=⟨[.sl 154],[.bool],false,false,fun(a:(List D.aAA))=>gd (a.length≤34359738368) (some (aT a))⟩
theorem aAc:OK 125 aAb:=mkS (.s .n (.s (.s (.rj 4 ⟨[(10,5)],[.dat (.s 14) .bool],[],[]⟩ .n) .n) (.s (.jx ⟨[(2,5),(8,83)],[],[],[]⟩ (.s .n (.s (.l ⟨[(2,5),(10,81)],[.nat (.s 17)],[],[]⟩ FUEL (.s .n (.s .n (.s (.jx ⟨[(2,5),(12,78)],[],[],[]⟩ (.s (.s .n (.s .n (.s .n (.s (.s (.rj 5 ⟨[(31,26)],[.dat (.s 56) .bool],[],[]⟩ (.r none (od 30 [8,15]))) .n) (.s (.jx ⟨[(2,1),(54,31)],[],[],[]⟩ (.s .n (.s (.s .n (.s (.s (.rj 5 ⟨[(65,11)],[.dat (.s 75) .bool],[],[]⟩ .n) .n) (.s .n (.s (.s (.rj 6 ⟨[(83,5)],[.dat (.s 87) .bool],[],[]⟩ .n) .n) .n)))) .n))) (.s (.r none [(0,true),(1,true),(2,true),(5,true),(6,true),(3,false),(4,false),(7,false),(8,true)]) .n)))))) .n)) .n)))) .n))) .n))) [.tmp 2] (gc Z8 (gc aIs (gc aIq (gc F6 (gc Cb (gc pK aH)))))) func125 ntmps125 (fun(a:(List D.aAA)) _=>aI (U3 a)) (fun _=>by kernel_rfl)
def Qh:SU:=⟨[.st 41],[.bool],false,false,fun(a:D.World)=>gd (a.sz≤34359738368) (some (bK a))⟩
theorem mU:OK 49 Qh:=mkS (.s .n (.s (.s (.rj 5 ⟨[(9,22)],[.dat (.s 30) .bool],[],[]⟩ .n) .n) (.s (.jx ⟨[(2,3),(26,19)],[],[],[]⟩ (.s .n (.s (.l ⟨[(2,3),(29,16)],[.nat (.s 34)],[],[]⟩ FUEL (.s .n (.s .n (.s (.s (.s .n (.s (.rj 4 ⟨[(42,7)],[.dat (.s 48) .bool],[],[]⟩ (.r none (od 10 [1,7]))) .n)) .n) .n)))) .n))) (.s (.rj 4 ⟨[(2,1),(50,11)],[.dat (.s 2) .bool],[],[]⟩ .n) .n)))) [.tmp 2] (gc gD (gc nP (gc sO (gc qL (gc aAc (gc jO aH)))))) func49 ntmps49 (fun(a:D.World) _=>aI (Pi a)) (fun _=>by kernel_rfl)
def aIt:SU:=⟨[.sl 154],[.sl 154],true,false,fun(a:(List D.aAA))=>gd (a.length≤34359738368) (some (a))⟩
theorem Mq:OK 217 aIt:=mkS .n [.tmp 2] aH func217 ntmps217 (fun(a:(List D.aAA)) _=>aI (aGy a)) (fun _=>by kernel_rfl)
def aAd:SU:=⟨[.sl 5],[.sl 5],true,false,fun(a:(List Int))=>gd (a.length≤34359738368) (some (a))⟩
theorem Cc:OK 276 aAd:=mkS .n [.tmp 2] aH func276 ntmps276 (fun(a:(List Int)) _=>aI (R7 a)) (fun _=>by kernel_rfl)
def aAe:SU:=⟨[.sl 224],[.sl 224],true,false,fun(a:(List D.Box))=>gd (szL D.Box.sz a≤34359738368) (some (a))⟩
theorem aAf:OK 275 aAe:=mkS (.s .n (.s .n (.s (.j ⟨[(3,1),(1,1),(1,15)],[.tr (.s 3) 0 224 true],[],[]⟩ (.s .n (.s (.l ⟨[(3,1),(1,1),(3,13)],[.tr (.s 3) 0 224 true, .nat (.s 9)],[],[]⟩ FUEL .n) .n))) .n))) [.tmp 2] (gc Cc aH) func275 ntmps275 (fun(a:(List D.Box)) _=>aI (R8 a)) (fun _=>by kernel_rfl)
def Hu:SU:=⟨[.st 29],[.st 29],true,false,fun(a:D.aAG)=>gd (a.sz≤34359738368) (some (a))⟩
theorem Hw:OK 218 Hu:=mkS (.s .n (.s (.r (some 6) (od 7 [4,6])) .n)) [.cell 2 29] (gc aAf aH) func218 ntmps218 (fun(a:D.aAG) _=>aI (Gp a)) (fun _=>by kernel_rfl)
def F7:SU:=⟨[.st 106],[.st 106],true,false,fun(a:D.aAC)=>gd (a.sz≤34359738368) (some (a))⟩
theorem F8:OK 219 F7:=mkS .n [.cell 2 106] (gc Cc aH) func219 ntmps219 (fun(a:D.aAC) _=>aI (Zd a)) (fun _=>by kernel_rfl)
def aAg:SU:=⟨[.st 32],[.st 32],true,false,fun(a:D.aAB)=>gd (a.sz≤34359738368) (some (a))⟩
theorem aAh:OK 136 aAg:=mkS (.s .n (.s bE3 (.s (.j ⟨[(5,1),(7,15)],[.nt (.c 4 3) 106 true],[],[]⟩ (.s .n (.s (.l ⟨[(5,1),(10,12)],[.nat (.s 16), .nt (.c 4 3) 106 true],[],[]⟩ FUEL bEj) .n))) .n))) [.cell 2 32] (gc Mq (gc Hw (gc F8 aH))) func136 ntmps136 (fun(a:D.aAB) _=>aI (R9 a)) (fun _=>by kernel_rfl)
def aC9:SU:=⟨[.st 81],[.st 81],true,false,fun(a:D.aAI)=>gd (a.sz≤34359738368) (some (a))⟩
theorem aDa:OK 141 aC9:=mkS .n [.cell 2 81] aH func141 ntmps141 (fun(a:D.aAI) _=>aI (aCe a)) (fun _=>by kernel_rfl)
def aAi:SU:=⟨[.sl 81],[.sl 81],true,false,fun(a:(List D.aAI))=>gd (szL D.aAI.sz a≤34359738368) (some (a))⟩
theorem aAj:OK 137 aAi:=mkS (.s .n (.s .n (.s (.j ⟨[(3,1),(1,1),(1,12)],[.tr (.s 3) 0 81 true],[],[]⟩ (.s .n (.s (.l ⟨[(3,1),(1,1),(3,10)],[.tr (.s 3) 0 81 true, .nat (.s 9)],[],[]⟩ FUEL .n) .n))) .n))) [.tmp 2] (gc aDa aH) func137 ntmps137 (fun(a:(List D.aAI)) _=>aI (S9 a)) (fun _=>by kernel_rfl)
def aDb:SU:=⟨[.st 39],[.st 39],true,false,fun(a:D.aAN)=>gd (a.sz≤34359738368) (some (a))⟩
theorem Gh:OK 138 aDb:=mkS .n [.cell 2 39] aH func138 ntmps138 (fun(a:D.aAN) _=>aI (aCg a)) (fun _=>by kernel_rfl)
def F9:SU:=⟨[.st 72],[.st 72],true,false,fun(a:D.aAE)=>gd (a.sz≤34359738368) (some (a))⟩
theorem G5:OK 220 F9:=mkS .n [.cell 2 72] aH func220 ntmps220 (fun(a:D.aAE) _=>aI (Zb a)) (fun _=>by kernel_rfl)
def G6:SU:=⟨[.st 74],[.st 74],true,false,fun(a:D.Device)=>gd (a.sz≤34359738368) (some (a))⟩
theorem G7:OK 139 G6:=mkS .n [.cell 2 74] (gc Mq (gc G5 aH)) func139 ntmps139 (fun(a:D.Device) _=>aI (Zc a)) (fun _=>by kernel_rfl)
def aDc:SU:=⟨[.st 63],[.st 63],true,false,fun(a:D.aAD)=>gd (a.sz≤34359738368) (some (a))⟩
theorem sP:OK 221 aDc:=mkS bE1 [.cell 2 63] aH func221 ntmps221 (fun(a:D.aAD) _=>aI (aCc a)) (fun _=>by kernel_rfl)
def Vw:SU:=⟨[.st 59],[.st 59],true,false,fun(a:D.aAF)=>gd (a.sz≤34359738368) (some (a))⟩
theorem xK:OK 222 Vw:=mkS bE1 [.cell 2 59] aH func222 ntmps222 (fun(a:D.aAF) _=>aI (Td a)) (fun _=>by kernel_rfl)
def aDd:SU:=⟨[.st 65],[.st 65],true,false,fun(a:D.Site)=>gd (a.sz≤34359738368) (some (a))⟩
theorem sQ:OK 140 aDd:=mkS (.s .n (.s (.y false (some 9) (some 10) [(0,true),(1,true),(2,true),(3,true),(5,true),(6,true),(4,false),(7,false),(8,true),(9,false),(10,false)]) (.s (.j ⟨[(5,1),(9,15)],[.nt (.c 4 1) 59 true],[],[]⟩ (.s .n (.s (.l ⟨[(5,1),(12,12)],[.nat (.s 18), .nt (.c 4 1) 59 true],[],[]⟩ FUEL bEj) .n))) .n))) [.cell 2 65] (gc sP (gc kW (gc xK aH))) func140 ntmps140 (fun(a:D.Site) _=>aI (aCd a)) (fun _=>by kernel_rfl)
def aAk:SU:=⟨[.st 41],[.st 41],true,false,fun(a:D.World)=>gd (a.sz≤34359738368) (some (a))⟩
theorem mK:OK 57 aAk:=mkS (.s .n (.s (.y true (some 22) (some 23) [(0,true),(1,true),(2,true),(3,true),(5,true),(6,true),(8,true),(9,true),(11,true),(12,true),(13,true),(14,true),(16,true),(17,true),(18,true),(19,true),(4,false),(7,false),(10,false),(15,false),(20,false),(21,false),(22,false),(23,false)]) (.s (.j ⟨[(5,1),(24,15)],[.nt (.c 8 2) 74 true],[],[]⟩ (.s .n (.s (.l ⟨[(5,1),(27,12)],[.nat (.s 33), .nt (.c 8 2) 74 true],[],[]⟩ FUEL bEj) .n))) (.s (.j ⟨[(7,1),(37,15)],[.nt (.c 8 8) 65 true],[],[]⟩ (.s .n (.s (.l ⟨[(7,1),(40,12)],[.nat (.s 48), .nt (.c 8 8) 65 true],[],[]⟩ FUEL bEj) .n))) .n)))) [.cell 2 41] (gc aAh (gc aAj (gc Gh (gc G7 (gc sQ aH))))) func57 ntmps57 (fun(a:D.World) _=>aI (T9 a)) (fun _=>by kernel_rfl)
def aOl:SU:=⟨[i6],[i6],false,false,fun(a:Int)=>some (iH a)⟩
theorem G8:OK 142 aOl:=mkS .n [.tmp 2] aH func142 ntmps142 (fun a _=>(aN9 a).trans) (fun _=>by kernel_rfl)
def aAl:SU:=⟨[i6, .sl 3],[i6],false,false,fun(a:Int×(List Int))=>gd (a.2.length≤34359738300) (some (bA a.1 a.2))⟩
theorem aAm:OK 59 aAl:=mkS .n [.tmp 4] (gc kW (gc mJ (gc G8 aH))) func59 ntmps59 (fun a _=>aI (Q7 a.1 a.2)) (fun _=>by kernel_rfl)
def G9:SU:=⟨[.st 39,i6,i6,i6],[.st 39, .bool],true,false,fun(a:D.aAN×Int×Int×Int)=>gd (a.1.sz≤34359738300) (some (xV a.1 a.2.1 a.2.2.1 a.2.2.2))⟩
theorem H5:OK 149 G9:=mkS (.s .n (.s .n (.s .n (.s .n (.s (.j ⟨[(11,3),(16,29)],[.tr (.c 3 0) 2 193 true],[],[]⟩ (.s .n (.s (.s .n (.s (.j ⟨[(11,3),(20,12)],[.dat (.s 11) i6],[],[]⟩ (.s .n (.s (.l ⟨[(11,3),(23,9)],[.dat (.s 11) i6, .nat (.s 37)],[],[]⟩ FUEL .n) .n))) bIq)) .n))) .n))))) [.cell 8 39, .tmp 9] (gc qL (gc Gh aH)) func149 ntmps149 (fun a _=>aI (Zv a.1 a.2.1 a.2.2.1 a.2.2.2)) (fun _=>by kernel_rfl)
def aIu:SU:=⟨[.st 81],[.st 81],true,false,fun(a:D.aAI)=>gd (a.sz≤34359738368) (some (a))⟩
theorem aIv:OK 235 aIu:=mkS .n [.cell 2 81] aH func235 ntmps235 (fun(a:D.aAI) _=>aI (aG6 a)) (fun _=>by kernel_rfl)
def aDe:SU:=⟨[.sl 81],[.sl 81],true,false,fun(a:(List D.aAI))=>gd (szL D.aAI.sz a≤34359738368) (some (a))⟩
theorem aDf:OK 153 aDe:=mkS (.s .n (.s .n (.s (.j ⟨[(3,2),(1,14)],[.tr (.s 3) 0 81 true],[],[]⟩ (.s .n (.s (.l ⟨[(3,2),(1,14)],[.tr (.s 3) 0 81 true, .nat (.s 4)],[],[]⟩ FUEL .n) .n))) .n))) [.tmp 2] (gc aIv aH) func153 ntmps153 (fun(a:(List D.aAI)) _=>aI (aCf a)) (fun _=>by kernel_rfl)
def aIw:SU:=⟨[.st 39],[.st 39],true,false,fun(a:D.aAN)=>gd (a.sz≤34359738368) (some (a))⟩
theorem Mr:OK 154 aIw:=mkS .n [.cell 2 39] aH func154 ntmps154 (fun(a:D.aAN) _=>aI (aG7 a)) (fun _=>by kernel_rfl)
def aIx:SU:=⟨[.st 41],[.st 41],true,false,fun(a:D.World)=>gd (a.sz≤34359738368) (some (a))⟩
theorem Mt:OK 65 aIx:=mkS (.s .n (.s .n (.s .n (.s (.j ⟨[(4,1),(4,18)],[.tr (.c 2 2) 3 74 true],[],[]⟩ (.s .n (.s (.l ⟨[(4,1),(4,18)],[.nat (.s 4), .tr (.c 2 2) 3 74 true],[],[]⟩ FUEL aVx) .n))) (.s .n (.s .n (.s .n (.s (.j ⟨[(5,1),(32,18)],[.tr (.c 2 8) 8 65 true],[],[]⟩ (.s .n (.s (.l ⟨[(5,1),(32,18)],[.nat (.s 5), .tr (.c 2 8) 8 65 true],[],[]⟩ FUEL aVx) .n))) .n)))))))) [.cell 2 41] (gc lX (gc xH (gc xC (gc aDf (gc Mr aH))))) func65 ntmps65 (fun(a:D.World) _=>aI (aG8 a)) (fun _=>by kernel_rfl)
def Hy:SU:=⟨[.st 39],[.bool],false,false,fun(a:D.aAN)=>gd (a.sz≤34359738368) (some (dP a))⟩
theorem qM:OK 84 Hy:=mkS (.s .n (.s (.jx ⟨[(2,47)],[],[],[]⟩ (.s .n (.s (.l ⟨[(2,47)],[.nat (.s 3)],[],[]⟩ FUEL bE4) .n))) .n)) [.tmp 2] (gc dE aH) func84 ntmps84 (fun(a:D.aAN) _=>aI (Gq a)) (fun _=>by kernel_rfl)
def Qi:SU:=⟨[.st 41],[.bool],false,false,fun(a:D.World)=>gd (a.sz≤34359738368) (some (bK a))⟩
theorem uE:OK 30 Qi:=mkS (.s .n (.s (.jx ⟨[(2,27)],[],[],[]⟩ (.s .n (.s (.l ⟨[(2,27)],[.nat (.s 3)],[],[]⟩ FUEL (.s .n (.s (.s (.s (.rj 8 ⟨[(18,11)],[.dat (.s 28) .bool],[],[]⟩ (.r none (od 18 [5,15]))) .n) .n) .n))) .n))) (.s (.rj 4 ⟨[(2,1),(29,37)],[.dat (.s 2) .bool],[],[]⟩ .n) .n))) [.tmp 2] (gc nN (gc sN (gc dE (gc qM (gc gL (gc dG aH)))))) func30 ntmps30 (fun(a:D.World) _=>aI (Ph a)) (fun _=>by kernel_rfl)
def H6:SU:=⟨[.st 39,i6,i6,i6],[.st 39, .bool],true,false,fun(a:D.aAN×Int×Int×Int)=>gd (a.1.sz≤34359738300) (some (xV a.1 a.2.1 a.2.2.1 a.2.2.2))⟩
theorem H7:OK 158 H6:=mkS (.s .n (.s .n (.s .n (.s (.j ⟨[(10,3),(12,26)],[.tr (.s 10) 2 193 true],[],[]⟩ (.s .n (.s (.s .n (.s (.j ⟨[(11,2),(15,13)],[.dat (.s 11) i6],[],[]⟩ (.s .n (.s (.l ⟨[(11,2),(18,10)],[.dat (.s 11) i6, .dat (.s 12) i6],[],[]⟩ FUEL (.s .n (.s (.j ⟨[(11,1),(23,6)],[.dat (.s 11) i6],[],[]⟩ .n) .n))) .n))) (.y true none (some 9) [(1,true),(2,true),(3,true),(5,true),(6,true),(7,true),(8,true),(0,false),(4,false),(9,false),(10,true)]))) .n))) (.s .n (.s (.s (.rj 4 ⟨[(56,5)],[.dat (.s 60) .bool],[],[]⟩ .n) .n) .n)))))) [.cell 8 39, .tmp 9] (gc qM (gc Mr aH)) func158 ntmps158 (fun a _=>aI (Zw a.1 a.2.1 a.2.2.1 a.2.2.2)) (fun _=>by kernel_rfl)
def aAn:SU:=⟨[.st 41,i6],[.bool],false,false,fun(a:D.World×Int)=>some (aQ a.1 a.2)⟩
theorem qZ:OK 73 aAn:=mkS bE9 [.tmp 4] aH func73 ntmps73 (fun a _=>(R5 a.1 a.2).trans) (fun _=>by kernel_rfl)
def Vx:SU:=⟨[.st 41,i6],[.st 41, .bool],true,false,fun(a:D.World×Int)=>gd (a.1.sz≤34359738368) (some (gU a.1 a.2))⟩
theorem Vy:OK 26 Vx:=mkS (.s .n (.s .n (.s (.s (.rj 4 ⟨[(12,13)],[.dat (.s 24) .bool],[],[]⟩ .n) .n) .n))) [.cell 4 41, .tmp 5] (gc mK (gc mU (gc qZ aH))) func26 ntmps26 (fun a _=>aI (Um a.1 a.2)) (fun _=>by kernel_rfl)
def aIy:SU:=⟨[.st 41,i6],[.bool],false,false,fun(a:D.World×Int)=>some (iE a.1 a.2)⟩
theorem Mv:OK 171 aIy:=mkS bE9 [.tmp 4] aH func171 ntmps171 (fun a _=>(aGu a.1 a.2).trans) (fun _=>by kernel_rfl)
def aKc:SU:=⟨[.st 41,i6,i6, .bool],[.bool],false,false,fun(a:D.World×Int×Int×Bool)=>gd (a.1.sz≤34359738368) (some (bU a.1 a.2.1 a.2.2.1&&bM a.1 a.2.1==a.2.2.2))⟩
theorem Rp:OK 80 aKc:=mkS (.s .n (.s (.rj 3 ⟨[(8,1),(2,19)],[.dat (.s 8) .bool],[],[]⟩ .n) .n)) [.tmp 8] (gc mU (gc qZ (gc Mv aH))) func80 ntmps80 (fun a _=>aI (aJy a.1 a.2.1 a.2.2.1 a.2.2.2)) (fun _=>by kernel_rfl)
def aRp:SU:=⟨[i6],[.st 88],false,false,fun(a:Int)=>some (nU a)⟩
theorem aBr:OK 81 aRp:=mkS .n [.cell 2 88] (gc sO aH) func81 ntmps81 (fun a _=>(aRi a).trans) (fun _=>by kernel_rfl)
def Vz:SU:=⟨[.st 65,i6],[i6],false,false,fun(a:D.Site×Int)=>gd (a.1.Accounts.length≤34359738368) (some (aC a.1 a.2))⟩
theorem xL:OK 77 Vz:=mkS bG3 [.tmp 4] aH func77 ntmps77 (fun a _=>aI (Ue a.1 a.2)) (fun _=>by kernel_rfl)
def Hz:SU:=⟨[.st 63,i6,i6],[.st 63, .st 254, .bool],true,false,fun(a:D.aAD×Int×Int)=>gd (a.1.sz≤34359738368) (some (dO a.1 a.2.1 a.2.2))⟩
theorem Ia:OK 246 Hz:=mkS (.s .n (.s .n (.s (.s (.rj 4 ⟨[(16,15)],[.dat (.s 30) .bool],[],[]⟩ .n) .n) (.s (.j ⟨[(33,10)],[.tr (.c 4 2) 3 254 true],[],[]⟩ .n) bFb)))) [.cell 6 63, .cell 7 254, .tmp 8] (gc sP (gc nO (gc gD aH))) func246 ntmps246 (fun a _=>aI (Gz a.1 a.2.1 a.2.2)) (fun _=>by kernel_rfl)
def Ib:SU:=⟨[.st 63,i6],[i6],false,false,fun(a:D.aAD×Int)=>some (dH a.1 a.2)⟩
theorem qN:OK 247 Ib:=mkS .n [.tmp 4] (gc mJ aH) func247 ntmps247 (fun a _=>(Gy a.1 a.2).trans) (fun _=>by kernel_rfl)
def H8:SU:=⟨[.st 65,i6,i6],[.st 65,i6,i6, .bool],true,false,fun(a:D.Site×Int×Int)=>gd (a.1.sz≤34359738368) (some (gT a.1 a.2.1 a.2.2))⟩
theorem H9:OK 172 H8:=mkS (.s .n (.s .n (.s (.s (.rj 4 ⟨[(19,6)],[.dat (.s 24) .bool],[],[]⟩ .n) .n) (.s .n (.s .n (.s .n (.s (.u [1] [] (od 11 [6,7,8,9,10])) .n))))))) [.cell 6 65, .tmp 7, .tmp 8, .tmp 9] (gc sQ (gc nP (gc xL (gc Ia (gc qN aH))))) func172 ntmps172 (fun a _=>aI (Zy a.1 a.2.1 a.2.2)) (fun _=>by kernel_rfl)
def aDg:SU:=⟨[.st 88],[.bool],false,false,fun(a:D.aAK)=>some (nV a)⟩
theorem sS:OK 295 aDg:=mkS (.s .n (.s (.rj 4 ⟨[(2,1),(3,5)],[.dat (.s 2) .bool],[],[]⟩ .n) .n)) [.tmp 2] (gc rF (gc gD aH)) func295 ntmps295 (fun a _=>(aCq a).trans) (fun _=>by kernel_rfl)
def aDh:SU:=⟨[.str, .str],[i6],false,false,fun(a:ByteArray×ByteArray)=>Fw a.1 a.2⟩
theorem aDi:OK 319 aDh:=mkS .n [.tmp 4] (gc tK aH) func319 ntmps319 (fun _ _=>id) (fun _=>by kernel_rfl)
def Wd:SU:=⟨[.str, .str],[.bool],false,false,fun(a:ByteArray×ByteArray)=>wP a.1 a.2⟩
theorem We:OK 296 Wd:=mkS .n [.tmp 4] (gc aDi aH) func296 ntmps296 (fun _ _=>id) (fun _=>by kernel_rfl)
def Ce:SU:=⟨[.str, .str],[.bool],false,false,fun(a:ByteArray×ByteArray)=>oC a.1 a.2⟩
theorem Cf:OK 320 Ce:=mkS (.s .n (.s (.rj 6 ⟨[(4,1),(5,11)],[.dat (.s 4) .bool],[],[]⟩ .n) .n)) [.tmp 4] aH func320 ntmps320 (fun _ _=>id) (fun _=>by kernel_rfl)
def Qj:SU:=⟨[.str, .str],[.bool],false,false,fun(a:ByteArray×ByteArray)=>tY a.1 a.2⟩
theorem Qk:OK 297 Qj:=mkS .n [.tmp 4] (gc Cf aH) func297 ntmps297 (fun _ _=>id) (fun _=>by kernel_rfl)
def aKd:SU:=⟨[.st 88, .str],[.bool],false,false,fun(a:D.aAK×ByteArray)=>gd (Ep a.1 a.2) (some (iI a.1 a.2))⟩
theorem Rq:OK 248 aKd:=mkS (.s .n (.s (.rj 3 ⟨[(4,1),(2,25)],[.dat (.s 4) .bool],[],[]⟩ .n) .n)) [.tmp 4] (gc sS (gc rF (gc We (gc Qk aH)))) func248 ntmps248 (fun a _=>aI (aJx a.1 a.2)) (fun _=>by kernel_rfl)
def Ql:SU:=⟨[.st 88],[.str],false,false,fun(a:D.aAK)=>gd (kT a) (some (oP a))⟩
theorem uF:OK 249 Ql:=mkS (.s .n (.s .n (.s .n (.s .n (.s (.j ⟨[(3,2),(3,2)],[.dat (.s 3) (.str), .dat (.s 4) i6],[],[]⟩ .n) (.s .n (.s (.r none (od 10 [7])) .n))))))) [.tmp 2] (gc sS (gc P9 aH)) func249 ntmps249 (fun(a:D.aAK) _=>aI (Ps a)) (fun _=>by kernel_rfl)
def Wh:SU:=⟨[.sl 5],[.sl 3],true,false,fun(a:(List Int))=>gd (a.length≤34359738360) (some (Di a))⟩
theorem Wi:OK 318 Wh:=mkS (.s .n (.s .n (.s (.j ⟨[(3,1),(1,1),(3,12)],[.tr (.s 3) 0 3 true],[],[]⟩ (.s .n (.s (.l ⟨[(3,1),(1,1),(5,10)],[.tr (.s 3) 0 3 true, .nat (.s 11)],[],[]⟩ FUEL .n) .n))) .n))) [.tmp 2] aH func318 ntmps318 (fun(a:(List Int)) _=>aI (Tv a)) (fun _=>by kernel_rfl)
def Cg:SU:=⟨[i6, .str],[i6],false,false,fun(a:Int×ByteArray)=>gd (a.2.size≤34359738300) (some (lK a.1 a.2))⟩
theorem oI:OK 302 Cg:=mkS .n [.tmp 4] (gc Wi (gc mJ (gc G8 (gc (bE0 1000022) aH)))) func302 ntmps302 (fun a _=>aI (Bq a.1 a.2)) (fun _=>by kernel_rfl)
def aDj:SU:=⟨[.str],[i6],false,false,fun(a:ByteArray)=>gd (a.size≤34359738300) (some (bB a))⟩
theorem Gi:OK 301 aDj:=mkS .n [.tmp 2] (gc oI aH) func301 ntmps301 (fun(a:ByteArray) _=>aI (aCl a)) (fun _=>by kernel_rfl)
def aT2:SU:=⟨[.bool],[i6],false,false,fun(a:Bool)=>Tc a⟩
theorem aT3:OK 303 aT2:=mkS .n [.tmp 2] aH func303 ntmps303 (fun _ _=>id) (fun _=>by kernel_rfl)
def Ch:SU:=⟨[.st 147],[.sl 3],true,false,fun(a:D.aAL)=>gd (a.Site.size≤34359738300∧a.aAK.size≤34359738300) (some (aY a))⟩
theorem oJ:OK 251 Ch:=mkS (.s .n (.s (.r none [(0,true),(1,true),(3,true),(4,true),(6,true),(7,true),(8,true),(9,true),(10,true),(11,true),(2,false),(5,false),(12,false),(13,false),(14,true)]) .n)) [.tmp 2] (gc Gi (gc oI (gc aT3 aH))) func251 ntmps251 (fun(a:D.aAL) _=>aI (Bt a)) (fun _=>by kernel_rfl)
def Qm:SU:=⟨[.st 69],[.bool],false,false,fun(a:D.aAH)=>some (jM a)⟩
theorem Qn:OK 299 Qm:=mkS (.s .n (.s (.rj 4 ⟨[(2,1),(3,15)],[.dat (.s 2) .bool],[],[]⟩ .n) .n)) [.tmp 2] (gc gD (gc jO aH)) func299 ntmps299 (fun a _=>(Pp a).trans) (fun _=>by kernel_rfl)
def Wj:SU:=⟨[.st 69, .str,i6],[i6],false,false,fun(a:D.aAH×ByteArray×Int)=>gd (a.2.1.size≤34359738300) (some (bS a.1 a.2.1 a.2.2))⟩
theorem Wl:OK 300 Wj:=mkS bE5 [.tmp 6] (gc Gi (gc aAm aH)) func300 ntmps300 (fun a _=>aI (Ub a.1 a.2.1 a.2.2)) (fun _=>by kernel_rfl)
def Mw:SU:=⟨[.st 69, .str,i6, .sl 3],[.st 69,i6, .bool],false,false,fun(a:D.aAH×ByteArray×Int×(List Int))=>gd (a.2.1.size≤34359738300∧a.2.2.2.length≤34359738200) (some (fC a.1 a.2.1 a.2.2.1 a.2.2.2))⟩
theorem Mx:OK 250 Mw:=mkS (.s .n (.s (.s (.rj 4 ⟨[(14,5)],[.dat (.s 18) .bool],[],[]⟩ .n) .n) (.s .n (.s (.u [1] [4] [(0,true),(1,true),(2,true),(3,true),(5,true),(6,true),(7,true),(8,false),(9,false),(4,false),(10,false),(11,false),(12,false),(13,false),(14,false)]) .n)))) [.cell 8 69, .tmp 9, .tmp 10] (gc Qn (gc Wl (gc kW (gc xJ aH)))) func250 ntmps250 (fun a _=>aI (Lt a.1 a.2.1 a.2.2.1 a.2.2.2)) (fun _=>by kernel_rfl)
def Na:SU:=⟨[.st 69, .st 88, .str,i6,i6, .bool],[.st 69, .st 147, .bool],false,false,fun(a:D.aAH×D.aAK×ByteArray×Int×Int×Bool)=>gd (Ep a.2.1 a.2.2.1) (some (fZ a.1 a.2.1 a.2.2.1 a.2.2.2.1 a.2.2.2.2.1 a.2.2.2.2.2))⟩
theorem Nb:OK 173 Na:=mkS (.s .n (.s .n (.s .n (.s (.y false (some 10) (some 11) (od 14 [4,5,10,11])) (.s .n (.s .n (.s .n (.s (.u [2,3] [] (od 5 [2,3,4])) .n)))))))) [.cell 12 69, .cell 13 147, .tmp 14] (gc Rq (gc uF (gc oJ (gc Mx aH)))) func173 ntmps173 (fun a _=>aI (Lu a.1 a.2.1 a.2.2.1 a.2.2.2.1 a.2.2.2.2.1 a.2.2.2.2.2)) (fun _=>by kernel_rfl)
def Nc:SU:=⟨[.st 63,i6],[i6],false,false,fun(a:D.aAD×Int)=>gd (a.1.Open.length≤34359738368) (some (dC a.1 a.2))⟩
theorem Nf:OK 322 Nc:=mkS bG3 [.tmp 4] aH func322 ntmps322 (fun a _=>aI (Lr a.1 a.2)) (fun _=>by kernel_rfl)
def Ng:SU:=⟨[.st 63,i6,i6,i6],[.st 63, .bool],true,false,fun(a:D.aAD×Int×Int×Int)=>gd (a.1.sz≤34359738368) (some (kS a.1 a.2.1 a.2.2.1 a.2.2.2))⟩
theorem Nh:OK 304 Ng:=mkS (.s .n (.s .n (.s .n (.s (.s (.rj 4 ⟨[(21,4)],[.dat (.s 24) .bool],[],[]⟩ .n) .n) (.s .n (.s bIq (.s (.u [1] [] (od 13 [11,12])) .n))))))) [.cell 8 63, .tmp 9] (gc sP (gc Nf (gc nO aH))) func304 ntmps304 (fun a _=>aI (Ls a.1 a.2.1 a.2.2.1 a.2.2.2)) (fun _=>by kernel_rfl)
def Qo:SU:=⟨[.st 59,i6],[.bool],false,false,fun(a:D.aAF×Int)=>gd (a.1.sz≤34359738368) (some (mF a.1 a.2))⟩
theorem Qp:OK 305 Qo:=mkS (.s .n (.s (.s (.rj 4 ⟨[(10,11)],[.dat (.s 20) .bool],[],[]⟩ .n) .n) (.s .n (.s (.jx ⟨[(4,1),(1,1),(16,11)],[],[],[]⟩ (.s .n (.s (.l ⟨[(4,1),(1,1),(19,8)],[.nat (.s 26)],[],[]⟩ FUEL .n) .n))) .n)))) [.tmp 4] (gc lC (gc gD aH)) func305 ntmps305 (fun a _=>aI (Pq a.1 a.2)) (fun _=>by kernel_rfl)
def Ic:SU:=⟨[.st 59,i6],[i6],false,false,fun(a:D.aAF×Int)=>gd (a.1.Credentials.length≤34359738368) (some (aM a.1 a.2))⟩
theorem Ie:OK 323 Ic:=mkS bG3 [.tmp 4] aH func323 ntmps323 (fun a _=>aI (Gx a.1 a.2)) (fun _=>by kernel_rfl)
def Ci:SU:=⟨[.str, .str],[.bool],false,false,fun(a:ByteArray×ByteArray)=>oG a.1 a.2⟩
theorem Cj:OK 385 Ci:=mkS (.s .n (.s (.rj 6 ⟨[(4,1),(5,8)],[.dat (.s 4) .bool],[],[]⟩ .n) .n)) [.tmp 4] aH func385 ntmps385 (fun _ _=>id) (fun _=>by kernel_rfl)
def Ck:SU:=⟨[.str, .str],[.str, .bool],false,false,fun(a:ByteArray×ByteArray)=>oH a.1 a.2⟩
theorem Cm:OK 375 Ck:=mkS .n [.tmp 4, .tmp 5] (gc Cj aH) func375 ntmps375 (fun _ _=>id) (fun _=>by kernel_rfl)
def Qq:SU:=⟨[.str, .str],[.str, .bool],false,false,fun(a:ByteArray×ByteArray)=>mR a.1 a.2⟩
theorem Qr:OK 356 Qq:=mkS .n [.tmp 4, .tmp 5] (gc Cm aH) func356 ntmps356 (fun _ _=>id) (fun _=>by kernel_rfl)
def I1:SU:=⟨[.str, .str],[.str, .str, .bool],false,false,fun(a:ByteArray×ByteArray)=>yU a.1 a.2⟩
theorem I4:OK 376 I1:=mkS (.s .n (.s (.s .n (.s .n (.s (.s (.r none (od 12 [])) .n) .n))) .n)) [.tmp 4, .tmp 5, .tmp 6] (gc tK aH) func376 ntmps376 (fun _ _=>id) (fun _=>by kernel_rfl)
def aKe:SU:=⟨[.str, .str],[.str, .str, .bool],false,false,fun(a:ByteArray×ByteArray)=>Rj a.1 a.2⟩
theorem aKf:OK 357 aKe:=mkS .n [.tmp 4, .tmp 5, .tmp 6] (gc I4 aH) func357 ntmps357 (fun _ _=>id) (fun _=>by kernel_rfl)
def Wm:SU:=⟨[.str],[.st 88, .bool],false,false,fun(a:ByteArray)=>gd (aXc a) (some (uY a))⟩
theorem Wn:OK 337 Wm:=mkS (.s .n (.s .n (.s .n (.s (.j ⟨[(5,2),(11,8)],[.dat (.s 5) (.str), .dat (.s 6) .bool, .dat (.c 1 0) .bool, .dat (.c 1 1) (.str), .dat (.c 1 2) i6],[],[]⟩ .n) (.s .n (.s .n (.s .n (.s (.jx ⟨[(3,1),(6,2),(25,11)],[.dat (.c 1 2) i6],[],[]⟩ .n) (.s (.s (.rj 4 ⟨[(51,6)],[.dat (.s 56) .bool],[],[]⟩ .n) .n) .n))))))))) [.cell 2 88, .tmp 3] (gc Qr (gc aKf (gc aCa (gc sS (gc uF aH))))) func337 ntmps337 (fun(a:ByteArray) _=>aI (Ug a)) (fun _=>by kernel_rfl)
def Ig:SU:=⟨[i6, .st 147, .str,i6,i6],[i6],false,false,fun(a:Int×D.aAL×ByteArray×Int×Int)=>gd (AsP a.2.1 a.2.2.1) (some (dQ a.1 a.2.1 a.2.2.1 a.2.2.2.1 a.2.2.2.2))⟩
theorem Ih:OK 324 Ig:=mkS (.s .n (.s .n (.s (.s (.s (.rj 5 ⟨[(19,1),(4,10)],[.dat (.s 19) .bool],[],[]⟩ .n) (.s .n (.s .n (.s .n (.s .n (.s .n (.s (.u [] [2] [(0,true),(1,true),(3,true),(4,true),(8,true),(9,true),(5,false),(6,false),(2,false),(7,false),(10,false),(11,false),(12,false)]) .n))))))) .n) .n))) [.tmp 10] (gc Wn (gc Rq (gcp oJ (gc kW (gc pK aH))))) func324 ntmps324 (fun a _=>aI (Ha a.1 a.2.1 a.2.2.1 a.2.2.2.1 a.2.2.2.2)) (fun _=>by kernel_rfl)
def Ni:SU:=⟨[.st 59, .st 147, .str,i6],[.st 59,i6],true,false,fun(a:D.aAF×D.aAL×ByteArray×Int)=>gd (AsP a.2.1 a.2.2.1∧a.1.sz≤34359738368) (some (eQ a.1 a.2.1 a.2.2.1 a.2.2.2))⟩
theorem Nj:OK 306 Ni:=mkS (.s .n (.s .n (.s .n (.s (.s (.rj 4 ⟨[(22,12)],[.dat (.s 33) .bool],[],[]⟩ .n) .n) (.s (.r none (od 17 [15])) (.s (.j ⟨[(51,9)],[.ti 3 67 true],[],[]⟩ .n) (.s (.j ⟨[(60,7)],[.ti 3 67 true],[],[]⟩ .n) .n))))))) [.cell 8 59, .tmp 9] (gc xK (gc Ie (gc lC (gc Ih aH)))) func306 ntmps306 (fun a _=>aI (Lv a.1 a.2.1 a.2.2.1 a.2.2.2)) (fun _=>by kernel_rfl)
def Wp:SU:=⟨[.st 65,i6,i6,i6, .st 147],[.st 65,i6,i6],true,false,fun(a:D.Site×Int×Int×Int×D.aAL)=>gd (AsP a.2.2.2.2 a.1.Name∧a.1.sz≤34359738300) (some (jN a.1 a.2.1 a.2.2.1 a.2.2.2.1 a.2.2.2.2))⟩
theorem Wq:OK 252 Wp:=mkS (.s .n (.s .n (.s .n (.s (.s (.rj 4 ⟨[(27,4)],[.dat (.s 30) .bool],[],[]⟩ .n) .n) (.s .n (.s .n (.s .n (.s .n (.s (.y false (some 16) (some 17) (od 19 [11,12,16,17])) .n))))))))) [.cell 10 65, .tmp 11, .tmp 12] (gc sQ (gc xL (gc nP (gc Nh (gc Qp (gc qN (gc Nj aH))))))) func252 ntmps252 (fun a _=>aI (Uh a.1 a.2.1 a.2.2.1 a.2.2.2.1 a.2.2.2.2)) (fun _=>by kernel_rfl)
def aOm:SU:=⟨[.st 41,i6,i6, .st 88],[.st 41, .st 147,i6],true,false,fun(a:D.World×Int×Int×D.aAK)=>gd (kT a.2.2.2∧a.1.sz≤34359738200) (some (dY a.1 a.2.1 a.2.2.1 a.2.2.2))⟩
theorem aOn:OK 82 aOm:=mkS (.s .n (.s .n (.s (.s (.rj 4 ⟨[(26,12)],[.dat (.s 37) .bool],[],[]⟩ .n) .n) (.s (.y false (some 13) (some 14) (od 18 [7,13,14])) (.s .n (.s .n (.s (.u [] [16,17] [(0,true),(1,true),(2,true),(3,true),(4,true),(5,true),(6,true),(7,true),(9,true),(10,true),(8,false),(11,false),(12,true),(13,true),(14,true),(15,true),(16,false),(17,false),(18,false),(19,false),(20,false)]) (.s .n (.s (.il 4 (.s .n (.s (.y false (some 14) (some 15) (od 18 [9,14,15])) (.s .n (.s .n (.s (.il 1 .n .n) .n))))) .n) (.s (.u [2,3] [] (od 6 [3,4,5])) .n)))))))))) [.cell 8 41, .cell 9 147, .tmp 10] (gc mK (gc mU (gc qZ (gc Mv (gc H9 (gc sO (gc Nb (gc (sIl 174) (gc Wq (gc (sIl 62) (gc H5 aH))))))))))) func82 ntmps82 (fun a _=>aI (aOe a.1 a.2.1 a.2.2.1 a.2.2.2)) (fun _=>by kernel_rfl)
def aDk:SU:=⟨[.st 41,i6,i6, .st 88],[.st 41,i6],true,false,fun(a:D.World×Int×Int×D.aAK)=>gd (kT a.2.2.2∧a.1.sz≤34359738200) (some (nD a.1 a.2.1 a.2.2.1 a.2.2.2))⟩
theorem sU:OK 29 aDk:=mkS .n [.cell 8 41, .tmp 9] (gc aOn aH) func29 ntmps29 (fun a _=>aI (aCr a.1 a.2.1 a.2.2.1 a.2.2.2)) (fun _=>by kernel_rfl)
def I5:SU:=⟨[.st 41,i6,i6],[.st 41,i6],true,false,fun(a:D.World×Int×Int)=>gd (a.1.sz≤34359738200) (some (nK a.1 a.2.1 a.2.2))⟩
theorem I6:OK 27 I5:=mkS (.s .n (.s .n (.s bE2 .n))) [.cell 6 41, .tmp 7] (gc Rp (gc mK (gc aBr (gc sU aH)))) func27 ntmps27 (fun a _=>aI (o8 a.1 a.2.1 a.2.2)) (fun _=>by kernel_rfl)
def Ws:SU:=⟨[.st 41,i6,i6],[.st 41,i6],true,false,fun(a:D.World×Int×Int)=>gd (a.1.sz≤34359738200) (some (uR a.1 a.2.1 a.2.2))⟩
theorem Wt:OK 28 Ws:=mkS (.s .n (.s .n (.s bE2 .n))) [.cell 6 41, .tmp 7] (gc Rp (gc mK (gc aBr (gc sU aH)))) func28 ntmps28 (fun a _=>aI (Ui a.1 a.2.1 a.2.2)) (fun _=>by kernel_rfl)
def aDl:SU:=⟨[.st 41,i6],[.bool],false,false,fun(a:D.World×Int)=>gd (a.1.sz≤34359738368) (some (bK a.1&&aQ a.1 a.2))⟩
theorem aDm:OK 150 aDl:=mkS (.s .n (.s (.rj 3 ⟨[(4,1),(2,8)],[.dat (.s 4) .bool],[],[]⟩ .n) .n)) [.tmp 4] (gc uE (gc dE aH)) func150 ntmps150 (fun a _=>aI (aCn a.1 a.2)) (fun _=>by kernel_rfl)
def aIz:SU:=⟨[.st 41,i6,i6],[.st 41,i6],true,false,fun(a:D.World×Int×Int)=>gd (a.1.sz≤34359738100) (some (aV a.1 a.2.1 a.2.2))⟩
theorem aI0:OK 63 aIz:=mkS (.s .n (.s .n (.s .n (.s (.y false (some 12) (some 13) (od 15 [8,12,13])) .n)))) [.cell 6 41, .tmp 7] (gc Mt (gc aDm (gc Mo aH))) func63 ntmps63 (fun a _=>aI (aHn a.1 a.2.1 a.2.2)) (fun _=>by kernel_rfl)
def aKg:SU:=⟨[.st 41,i6],[.bool],false,false,fun(a:D.World×Int)=>gd (WOk a.1) (some (cB a.1 a.2))⟩
theorem aKh:OK 64 aKg:=mkS (.s .n (.s (.rj 7 ⟨[(4,1),(6,14)],[.dat (.s 4) .bool],[],[]⟩ (.r none [(0,true),(1,true),(2,true),(3,true),(4,true),(5,false),(6,true),(7,true),(8,true),(9,true),(11,true),(12,true),(13,true),(14,true),(15,true),(16,true),(10,false),(17,false),(18,false),(19,true),(20,true)])) .n)) [.tmp 4] (gc dE (gc kG (gc iG (gc rE aH)))) func64 ntmps64 (fun a _=>aI (aJn a.1 a.2)) (fun _=>by kernel_rfl)
def aAo:SU:=⟨[.st 32, .sl 154, .st 29],[.st 32, .bool],true,false,fun(a:D.aAB×(List D.aAA)×D.aAG)=>gd (a.1.sz≤34359738368∧a.2.1.length≤34359738368∧a.2.2.sz≤34359738368) (some (iP a.1 a.2.1 a.2.2))⟩
theorem aAp:OK 155 aAo:=mkS (.s .n (.s .n (.s (.s (.rj 4 ⟨[(14,13)],[.dat (.s 26) .bool],[],[]⟩ .n) .n) .n))) [.cell 6 32, .tmp 7] (gc xH (gc gL (gc pJ (gc Bu (gc iQ (gc xA aH)))))) func155 ntmps155 (fun a _=>aI (V3 a.1 a.2.1 a.2.2)) (fun _=>by kernel_rfl)
def Ii:SU:=⟨[.st 59,i6],[i6],false,false,fun(a:D.aAF×Int)=>gd (a.1.Credentials.length≤34359738368) (some (aM a.1 a.2))⟩
theorem Ij:OK 20 Ii:=mkS bE6 [.tmp 4] aH func20 ntmps20 (fun a _=>aI (Gw a.1 a.2)) (fun _=>by kernel_rfl)
def Nk:SU:=⟨[.st 59,i6],[.st 59, .bool],true,false,fun(a:D.aAF×Int)=>gd (a.1.sz≤34359738368) (some (kR a.1 a.2))⟩
theorem Nl:OK 68 Nk:=mkS (.s .n (.s .n (.s .n (.s (.s (.rj 4 ⟨[(16,12)],[.dat (.s 27) .bool],[],[]⟩ .n) .n) .n)))) [.cell 4 59, .tmp 5] (gc xB (gc Ij (gc kZ aH))) func68 ntmps68 (fun a _=>aI (Lp a.1 a.2)) (fun _=>by kernel_rfl)
def I7:SU:=⟨[.st 74,i6, .bool],[.st 74],true,false,fun(a:D.Device×Int×Bool)=>gd (a.1.sz≤34359738300) (some (jZ a.1 a.2.1 a.2.2))⟩
theorem I8:OK 69 I7:=mkS (.s .n (.s (.j ⟨[(7,17)],[.dat (.c 0 0) i6, .dat (.c 0 1) i6, .dat (.c 0 2) i6, .dat (.c 0 3) i6, .nt (.c 0 4) 154 true, .dat (.c 0 5) i6, .dat (.c 0 6) i6, .dat (.c 0 7) i6, .nt (.c 0 8) 235 true],[],[]⟩ (.s .n (.s (.s bIo (.l ⟨[(7,17)],[.dat (.s 7) i6, .dat (.c 0 0) i6, .dat (.c 0 1) i6, .dat (.c 0 2) i6, .dat (.c 0 3) i6, .tr (.c 0 4) 2 154 true, .dat (.c 0 5) i6, .dat (.c 0 6) i6, .dat (.c 0 7) i6, .tr (.c 0 8) 3 235 true],[],[]⟩ FUEL bIo)) .n))) .n)) [.cell 6 74] (gc sN (gc uB aH)) func69 ntmps69 (fun a _=>aI (Zu a.1 a.2.1 a.2.2)) (fun _=>by kernel_rfl)
def aAq:SU:=⟨[.st 41,i6,i6],[.st 41, .bool],true,false,fun(a:D.World×Int×Int)=>gd (a.1.sz≤100000000) (some (dJ a.1 a.2.1 a.2.2))⟩
theorem aAr:OK 18 aAq:=mkS (.s .n (.s .n (.s (.s (.rj 3 ⟨[(22,18)],[.dat (.s 39) .bool],[],[]⟩ .n) .n) (.s (.s (.il 8 (.s .n (.s (.r none (od 21 [15])) (.s (.j ⟨[(4,1),(33,16)],[.dat (.s 4) i6],[],[]⟩ .n) (.s .n (.s (.y false (some 10) (some 11) (od 13 [6,10,11])) (.s (.s (.rj 3 ⟨[(76,8)],[.dat (.s 83) .bool],[],[]⟩ .n) .n) (.s .n (.s (.s .n (.s (.s .n bFc) .n)) .n)))))))) .n) .n) (.s (.j ⟨[(10,4),(40,35)],[.ti 7 65 true],[],[]⟩ (.s .n (.s (.l ⟨[(10,4),(40,35)],[.nat (.s 10), .ti 7 65 true],[],[]⟩ FUEL (.s .n (.s (.j ⟨[(11,3),(44,31)],[.ti 7 65 true],[],[]⟩ (.s (.s .n (.s .n (.s (.s .n (.r (some 9) (od 10 [9]))) .n))) .n)) .n))) .n))) (.s (.r (some 11) (od 12 [9,11])) (.s (.s (.il 1 (.s .n (.s .n (.s (.y false (some 9) (some 10) (od 12 [5,9,10])) (.s (.s (.rj 3 ⟨[(33,4)],[.dat (.s 36) .bool],[],[]⟩ .n) .n) bFc)))) .n) .n) bIu))))))) [.cell 6 41, .tmp 7] (gc aI0 (gc aKh (gc Mt (gc iG (gc (sIl 66) (gc xD (gc Nl (gc I8 (gc (sIl 70) (gc (sIl 71) (gc wZ (gc eY (gc kH (gc Gb (gc qK (gc aAp (gc zB (gc xE (gc uD (gc H7 aH)))))))))))))))))))) func18 ntmps18 (fun a _=>aI (V4 a.1 a.2.1 a.2.2)) (fun _=>by kernel_rfl)
def Cn:SU:=⟨[.sl 5],[.bool],false,false,fun(a:(List Int))=>gd (aFw a) (some true)⟩
theorem aAs:OK 5 Cn:=mkS (.s .n (.s .n (.s .n (.s .n (.s .n (.s .n (.s (.y false (some 9) (some 10) (od 12 [3,5,9,10])) (.s .n (.s .n (.s .n (.s (.y false (some 9) (some 10) (od 12 [3,5,9,10])) (.s (.y false (some 8) (some 9) (od 11 [2,4,8,9])) (.s (.y false (some 10) (some 11) [(0,true),(1,true),(2,true),(5,true),(3,false),(4,true),(6,false),(7,true),(8,true),(9,true),(10,false),(11,false),(12,true)]) (.s (.rj 2 ⟨[(2,1),(97,35)],[.dat (.s 2) .bool],[],[]⟩ .n) .n)))))))))))))) [.tmp 2] (gc aTw (gc aYl (gc aC7 (gc Vy (gc I6 (gc Wt (gc aAr (gc sU (gc uE aH))))))))) func5 ntmps5 (fun(a:(List Int)) _=>aI (V8 a)) (fun _=>by kernel_rfl)
end
end Go.VK
