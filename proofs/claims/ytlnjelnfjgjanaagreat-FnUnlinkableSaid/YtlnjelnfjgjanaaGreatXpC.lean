import Derived.Test.YtlnjelnfjgjanaaGreatXpL
import Derived.Test.YtlnjelnfjgjanaaGreatXpM
import Derived.Test.YtlnjelnfjgjanaaGreatXpPzd
/- Printed by wip/tools: models, walks, proofs. -/
set_option linter.unusedVariables false
set_option linter.unusedSimpArgs false
set_option maxRecDepth 100000
set_option maxHeartbeats 4000000
namespace Go.VK
open Go.RowKit Go.Proofs Tryz
noncomputable section
def i6:EV.Kd:= .int .i64
def bIq:EV.An:=(.s .n (.s .n (.s .n (.s (.j ⟨[(9,1),(2,17)],[.dat (.s 9) i6],[],[]⟩ (.s (.l ⟨[(9,1),(2,17)],[.dat (.s 9) i6],[],[]⟩ FUEL (.s (.s (.rj 6 ⟨[(17,10)],[.dat (.s 26) .bool],[],[]⟩ .n) .n) .n)) .n)) (.s (.y true (some 9) (some 17) [(1,true),(2,true),(3,true),(4,true),(6,true),(7,true),(8,true),(11,true),(12,true),(13,true),(14,true),(0,false),(5,false),(9,false),(10,false),(15,false),(16,false),(17,false)]) (.s (.s (.rj 4 ⟨[(49,5)],[.dat (.s 53) .bool],[],[]⟩ .n) .n) .n))))))
def bIr:EV.An:=(.s .n (.s (.r none (od 21 [15])) (.s (.j ⟨[(4,1),(33,16)],[.dat (.s 4) i6],[],[]⟩ .n) (.s .n (.s (.y false (some 10) (some 11) (od 13 [6,10,11])) (.s (.s (.rj 3 ⟨[(76,8)],[.dat (.s 83) .bool],[],[]⟩ .n) .n) (.s .n (.s (.s .n (.s (.s .n (.s (.r (some 7) (od 8 [7])) .n)) .n)) .n))))))))
def bIs:EV.An:=(.s .n (.s .n (.s (.j ⟨[(0,2),(3,16)],[.dat (.s 5) i6],[],[]⟩ (.s (.l ⟨[(0,2),(3,16)],[.dat (.s 0) i6, .dat (.s 1) i6, .dat (.s 5) i6],[],[]⟩ FUEL (.s .n (.s (.s (.j ⟨[(5,1),(2,7)],[.dat (.s 5) i6],[],[]⟩ .n) .n) .n))) .n)) .n)))
def bHc:EV.An:=(.s .n (.s (.jx ⟨[(4,18)],[],[],[]⟩ (.s .n (.s (.l ⟨[(4,18)],[.nat (.s 5)],[],[]⟩ FUEL .n) .n))) .n))
def bIt:EV.An:=(.s .n (.s (.s (.s (.y false (some 9) (some 10) [(0,true),(1,true),(3,true),(4,true),(2,false),(5,false),(6,true),(7,true),(8,true),(9,false),(10,false),(11,true)]) .n) .n) .n))
def bIu:EV.An:=(.s .n (.s (.y false (some 5) (some 9) [(0,true),(1,true),(2,true),(3,true),(4,true),(6,true),(7,true),(8,false),(5,false),(9,false),(10,false),(11,true)]) .n))
def bEp:EV.An:=(.s .n (.s (.s (.r (some 9) (od 12 [7,8,9,10,11])) .n) .n))
def bIv:EV.An:=(.s .n (.s .n (.s (.y false (some 9) (some 10) (od 12 [5,9,10])) (.s (.s (.rj 3 ⟨[(33,4)],[.dat (.s 36) .bool],[],[]⟩ .n) .n) (.s (.r (some 7) (od 8 [7])) .n)))))
def bHd:EV.An:=(.s (.il 0 (.s (.y false (some 13) (some 14) (od 16 [9,13,14])) .n) .n) .n)
def bEq:EV.An:=(.s .n (.s (.s (.s (.r none (od 9 [])) .n) .n) .n))
def bFb:EV.An:=(.s .n (.s (.jx ⟨[(4,14)],[],[],[]⟩ (.s .n (.s (.l ⟨[(4,14)],[.nat (.s 5)],[],[]⟩ FUEL .n) .n))) .n))
def bFc:EV.An:=(.s .n (.s (.rj 4 ⟨[(6,1),(3,5)],[.dat (.s 6) .bool],[],[]⟩ .n) .n))
def bB1:EV.An:=(.s (.u [2,3] [] (od 5 [2,3,4])) .n)
def bFd:EV.An:=(.s .n (.s (.rj 3 ⟨[(4,1),(2,7)],[.dat (.s 4) .bool],[],[]⟩ .n) .n))
def bFe:EV.An:=(.s .n (.s .n (.s .n (.s .n (.s (.u [1,2] [] (od 5 [2,3,4])) .n)))))
def bFf:EV.An:=(.s .n (.s (.s (.y false none (some 15) (od 16 [10,15])) .n) .n))
def bFg:EV.An:=(.s (.y false (some 12) (some 13) (od 15 [8,12,13])) .n)
def aTn:SU:=⟨[.sl 5],[.bool],false,false,fun(a:(List Int))=>some (bAx a)⟩
theorem aTo:OK 4 aTn:=mkS .n [.tmp 2] aD func4 ntmps4 (fun a _=>(aTl a).trans) (fun _=>by kernel_rfl)
def aJy:SU:=⟨[.st 100],[.st 100,i6],true,true,fun(a:D.aAR)=>gd (bP a) (some (iX a))⟩
theorem aJz:OK 96 aJy:=mkP (.s .n (.s .n (.s (.r none (od 13 [])) (.s (.j ⟨[(3,1),(21,32)],[.dat (.s 3) i6, .dat (.c 0 1) i6],[],[]⟩ (.s (.r none (od 10 [])) (.s (.s (.r none (od 15 [])) .n) .n))) .n)))) [.tmp 2] aD func96 ntmps96 (fun(a:D.aAR) _=>aF (aJt a)) (fun _=>by kernel_rfl)
def aHo:SU:=⟨[.st 100,i6],[.st 100,i6],true,true,fun(a:D.aAR×Int)=>gd (bP a.1) (some (cB a.1 a.2))⟩
theorem oP:OK 40 aHo:=mkP .n [.tmp 4] (gc aJz aD) func40 ntmps40 (fun a _=>aF (aHm a.1 a.2)) (fun _=>by kernel_rfl)
def aRa:SU:=⟨[i6,i6,i6],[.bool],false,false,fun(a:Int×Int×Int)=>some (bF a.1 a.2.1 a.2.2)⟩
theorem aV:OK 19 aRa:=mkS bFc [.tmp 6] aD func19 ntmps19 (fun a _=>(aQx a.1 a.2.1 a.2.2).trans) (fun _=>by kernel_rfl)
def o8:SU:=⟨[i6],[.bool],false,false,fun(a:Int)=>some (bM a)⟩
theorem bN:OK 20 o8:=mkS .n [.tmp 2] (gc aV aD) func20 ntmps20 (fun a _=>(Yu a).trans) (fun _=>by kernel_rfl)
def aTp:SU:=⟨[i6,i6],[i6],false,false,fun(a:Int×Int)=>some (dI a.1 a.2)⟩
theorem jT:OK 86 aTp:=mkS .n [.tmp 4] (gc aV aD) func86 ntmps86 (fun a _=>(aS7 a.1 a.2).trans) (fun _=>by kernel_rfl)
def aRb:SU:=⟨[.sl 3],[i6],false,false,fun(a:(List Int))=>gd (a.length≤1099511627776) (some (vF a))⟩
theorem aBy:OK 120 aRb:=mkS (.s .n (.s .n (.s (.j ⟨[(3,18)],[.dat (.s 3) i6],[],[]⟩ (.s .n (.s (.l ⟨[(3,18)],[.dat (.s 3) i6, .nat (.s 4)],[],[]⟩ FUEL .n) .n))) .n))) [.tmp 2] (gc jT aD) func120 ntmps120 (fun(a:(List Int)) _=>aF (aQy a)) (fun _=>by kernel_rfl)
def X5:SU:=⟨[i6, .sl 3],[i6],false,false,fun(a:Int×(List Int))=>gd (a.2.length≤34359738368) (some (bI a.1 a.2))⟩
theorem dK:OK 84 X5:=mkS .n [.tmp 4] (gc aBy aD) func84 ntmps84 (fun a _=>aF (Q4 a.1 a.2)) (fun _=>by kernel_rfl)
def aTq:SU:=⟨[i6,i6],[i6],false,false,fun(a:Int×Int)=>some (aNq a.1 a.2)⟩
theorem Vd:OK 83 aTq:=mkS .n [.tmp 4] aD func83 ntmps83 (fun a _=>(aS9 a.1 a.2).trans) (fun _=>by kernel_rfl)
def X6:SU:=⟨[i6, .sl 3],[i6],false,false,fun(a:Int×(List Int))=>gd (a.2.length≤34359738300) (some (aU a.1 a.2))⟩
theorem bZ:OK 35 X6:=mkS .n [.tmp 4] (gc dK (gc Vd aD)) func35 ntmps35 (fun a _=>aF (Q6 a.1 a.2)) (fun _=>by kernel_rfl)
def o9:SU:=⟨[i6,i6],[.st 67],false,false,fun(a:Int×Int)=>some (aJ a.1 a.2)⟩
theorem zD:OK 22 o9:=mkS .n [.cell 4 67] (gc bZ aD) func22 ntmps22 (fun a _=>(Zl a.1 a.2).trans) (fun _=>by kernel_rfl)
def X7:SU:=⟨[.st 67],[.st 72],true,false,fun(a:D.aAI)=>some (bJ a)⟩
theorem Cq:OK 21 X7:=mkS .n [.cell 2 72] aD func21 ntmps21 (fun a _=>(U4 a).trans) (fun _=>by kernel_rfl)
def X8:SU:=⟨[.st 67],[i6],false,false,fun(a:D.aAI)=>some (iA a)⟩
theorem qY:OK 64 X8:=mkS .n [.tmp 2] (gc bZ aD) func64 ntmps64 (fun a _=>(R3 a).trans) (fun _=>by kernel_rfl)
def X9:SU:=⟨[i6],[i6],false,false,fun(a:Int)=>some (eF a)⟩
theorem lN:OK 63 X9:=mkS .n [.tmp 2] (gc bN aD) func63 ntmps63 (fun a _=>(Q8 a).trans) (fun _=>by kernel_rfl)
def Pv:SU:=⟨[.st 67],[i6],false,false,fun(a:D.aAI)=>some (aX a)⟩
theorem fH:OK 24 Pv:=mkS .n [.tmp 2] (gc qY (gc lN aD)) func24 ntmps24 (fun a _=>(Ox a).trans) (fun _=>by kernel_rfl)
def Y1:SU:=⟨[.st 128],[i6],false,false,fun(a:D.aAC)=>some (dY a)⟩
theorem qZ:OK 60 Y1:=mkS .n [.tmp 2] (gc aBy aD) func60 ntmps60 (fun a _=>(R9 a).trans) (fun _=>by kernel_rfl)
def aHp:SU:=⟨[.sl 128],[i6],false,false,fun(a:(List D.aAC))=>gd (a.length≤34359738368) (some (mI a))⟩
theorem Lp:OK 58 aHp:=mkS .n [.tmp 2] (gc qZ aD) func58 ntmps58 (fun(a:(List D.aAC)) _=>aF (aG2 a)) (fun _=>by kernel_rfl)
def Ve:SU:=⟨[i6, .sl 3],[i6],false,false,fun(a:Int×(List Int))=>gd (a.2.length≤34359738300) (some (Ri a.1 a.2))⟩
theorem nG:OK 119 Ve:=mkS .n [.tmp 4] (gc bN (gc dK aD)) func119 ntmps119 (fun a _=>aF (Uc a.1 a.2)) (fun _=>by kernel_rfl)
def Pw:SU:=⟨[.st 67, .sl 3],[i6],false,false,fun(a:D.aAI×(List Int))=>gd (a.2.length≤34359738300) (some (oG a.1 a.2))⟩
theorem Px:OK 59 Pw:=mkS .n [.tmp 4] (gc qY (gc nG aD)) func59 ntmps59 (fun a _=>aF (Pj a.1 a.2)) (fun _=>by kernel_rfl)
def aHq:SU:=⟨[.sl 128],[.sl 128],true,false,fun(a:(List D.aAC))=>gd (a.length≤34359738368) (some (a))⟩
theorem gV:OK 61 aHq:=mkS .n [.tmp 2] aD func61 ntmps61 (fun(a:(List D.aAC)) _=>aF (aGq a)) (fun _=>by kernel_rfl)
def aJ0:SU:=⟨[.sl 3,i6],[.bool],false,false,fun(a:(List Int)×Int)=>gd (a.1.length≤1099511627776) (some (iZ a.1 a.2))⟩
theorem rP:OK 38 aJ0:=mkS bFb [.tmp 4] aD func38 ntmps38 (fun a _=>aF (aJg a.1 a.2)) (fun _=>by kernel_rfl)
def Y2:SU:=⟨[.sl 128],[.sl 3],true,false,fun(a:(List D.aAC))=>gd (a.length≤34359738368) (some (aH a))⟩
theorem jJ:OK 39 Y2:=mkS (.s .n (.s .n (.s (.j ⟨[(3,5),(1,56)],[.tr (.s 3) 0 3 true],[],[]⟩ (.s .n (.s (.l ⟨[(3,5),(1,56)],[.tr (.s 3) 0 3 true, .nat (.s 4)],[],[]⟩ FUEL (.s .n (.s (.j ⟨[(3,1),(1,3),(7,50)],[.tr (.s 3) 0 3 true],[],[]⟩ (.s (.s .n (.s (.s (.rj 7 ⟨[(20,1),(6,6)],[.dat (.s 20) .bool],[],[]⟩ .n) (.s .n (.s .n (.s (.s .n (.s (.j ⟨[(6,2),(37,19)],[.tr (.s 6) 1 3 true],[],[]⟩ (.s .n (.s (.l ⟨[(6,2),(37,19)],[.tr (.s 6) 1 3 true, .nat (.s 7)],[],[]⟩ FUEL (.s .n (.s (.j ⟨[(6,1),(44,13)],[.tr (.s 6) 1 3 true],[],[]⟩ .n) .n))) .n))) .n)) .n)))) .n)) .n)) .n))) .n))) .n))) [.tmp 2] (gc rP aD) func39 ntmps39 (fun(a:(List D.aAC)) _=>aF (R4 a)) (fun _=>by kernel_rfl)
def aHr:SU:=⟨[i6,i6],[i6],false,false,fun(a:Int×Int)=>oL a.1 a.2⟩
theorem aHs:OK 180 aHr:=mkS bIs [.tmp 4] aD func180 ntmps180 (fun _ _=>id) (fun _=>by kernel_rfl)
def p8:SU:=⟨[i6],[i6],false,false,fun(a:Int)=>some (gG a)⟩
theorem oQ:OK 158 p8:=mkS .n [.tmp 2] (gc aV (gc aHs (gc lN aD))) func158 ntmps158 (fun a _=>(Yw a).trans) (fun _=>by kernel_rfl)
def Em:SU:=⟨[i6, .sl 3,i6],[.bool],false,false,fun(a:Int×(List Int)×Int)=>gd (a.2.1.length≤34359738300) (some (lI a.1 a.2.1 a.2.2))⟩
theorem oU:OK 157 Em:=mkS (.s .n (.s .n (.s (.rj 3 ⟨[(6,1),(5,7)],[.dat (.s 6) .bool],[],[]⟩ .n) .n))) [.tmp 6] (gc oQ (gc nG aD)) func157 ntmps157 (fun a _=>aF (Eh a.1 a.2.1 a.2.2)) (fun _=>by kernel_rfl)
def aHt:SU:=⟨[.sl 128, .st 128],[.bool],false,false,fun(a:(List D.aAC)×D.aAC)=>gd (a.1.length≤34359738368) (some (nW a.1 a.2))⟩
theorem aHu:OK 121 aHt:=mkS (.s .n (.s .n (.s (.rj 5 ⟨[(6,1),(7,12)],[.dat (.s 6) .bool],[],[]⟩ .n) (.s (.s (.rj 6 ⟨[(31,22)],[.dat (.s 52) .bool],[],[]⟩ (.r none [(0,true),(1,true),(2,true),(3,true),(4,true),(5,true),(6,true),(7,true),(8,true),(9,false),(10,true),(11,true),(12,true),(13,true),(14,true),(15,true),(16,true),(17,true),(18,true),(19,true),(22,true),(23,true),(20,false),(21,false),(24,false),(25,true),(26,true)])) .n) (.s (.s .n (.s (.s (.rj 5 ⟨[(4,1),(55,5)],[.dat (.s 4) .bool],[],[]⟩ .n) .n) .n)) (.s (.jx ⟨[(4,1),(2,1),(57,22)],[],[],[]⟩ (.s .n (.s (.l ⟨[(4,1),(2,1),(57,22)],[.nat (.s 7)],[],[]⟩ FUEL (.s .n (.s (.s (.s (.rj 7 ⟨[(77,10)],[.dat (.s 86) .bool],[],[]⟩ (.r none (od 16 []))) .n) .n) .n))) .n))) (.s (.rj 4 ⟨[(4,1),(85,12)],[.dat (.s 4) .bool],[],[]⟩ .n) .n))))))) [.tmp 4] (gc jJ (gc rP (gc Lp (gc qZ (gc oU aD))))) func121 ntmps121 (fun a _=>aF (aG5 a.1 a.2)) (fun _=>by kernel_rfl)
def Y3:SU:=⟨[.sl 128],[.bool],false,false,fun(a:(List D.aAC))=>gd (a.length≤34359738368) (some (bE a))⟩
theorem fZ:OK 62 Y3:=mkS (.s .n (.s (.jx ⟨[(2,17)],[],[],[]⟩ (.s .n (.s (.l ⟨[(2,17)],[.nat (.s 3)],[],[]⟩ FUEL (.s .n (.s (.s (.s (.r none (od 9 [7])) .n) .n) .n))) .n))) .n)) [.tmp 2] (gc aHu (gc aV aD)) func62 ntmps62 (fun(a:(List D.aAC)) _=>aF (S9 a)) (fun _=>by kernel_rfl)
def Vf:SU:=⟨[.sl 128,i6,i6, .st 67],[.sl 128, .bool],true,false,fun(a:(List D.aAC)×Int×Int×D.aAI)=>gd (a.1.length≤34359738300) (some (gK a.1 a.2.1 a.2.2.1 a.2.2.2))⟩
theorem nH:OK 23 Vf:=mkS (.s .n (.s .n (.s (.r (some 6) (od 7 [2,3,4,6])) (.s (.y false (some 3) (some 4) [(0,true),(2,true),(1,false),(3,false),(4,false),(5,true)]) (.s (.s (.rj 4 ⟨[(35,10)],[.dat (.s 44) .bool],[],[]⟩ .n) .n) .n))))) [.tmp 8, .tmp 9] (gc fH (gc Lp (gc qZ (gc Px (gc gV (gc fZ aD)))))) func23 ntmps23 (fun a _=>aF (Ul a.1 a.2.1 a.2.2.1 a.2.2.2)) (fun _=>by kernel_rfl)
def aCv:SU:=⟨[i6,i6],[i6],false,false,fun(a:Int×Int)=>some (fG a.1 a.2)⟩
theorem tC:OK 25 aCv:=mkS .n [.tmp 4] (gc bZ aD) func25 ntmps25 (fun a _=>(aCl a.1 a.2).trans) (fun _=>by kernel_rfl)
def aHv:SU:=⟨[.sl 128],[i6],false,false,fun(a:(List D.aAC))=>gd (a.length≤34359738368) (some (aQ a))⟩
theorem gW:OK 65 aHv:=mkS (.s .n (.s .n (.s (.j ⟨[(3,16)],[.dat (.s 3) i6],[],[]⟩ (.s .n (.s (.l ⟨[(3,16)],[.dat (.s 3) i6, .nat (.s 4)],[],[]⟩ FUEL (.s .n (.s (.j ⟨[(3,1),(7,8)],[.dat (.s 3) i6],[],[]⟩ .n) .n))) .n))) .n))) [.tmp 2] aD func65 ntmps65 (fun(a:(List D.aAC)) _=>aF (aG7 a)) (fun _=>by kernel_rfl)
def Lr:SU:=⟨[.sl 5,i6],[.sl 5],true,false,fun(a:(List Int)×Int)=>gd (a.1.length≤34359738300) (some (Iu a.1 a.2))⟩
theorem Ls:OK 123 Lr:=mkS (.s .n (.s .n (.s .n (.s (.j ⟨[(1,1),(3,1),(7,11)],[.dat (.s 1) i6, .tr (.s 5) 0 5 true],[],[]⟩ (.s (.l ⟨[(1,1),(3,1),(7,11)],[.dat (.s 1) i6, .tr (.s 5) 0 5 true],[],[]⟩ FUEL .n) .n)) .n)))) [.tmp 4] (gc aV aD) func123 ntmps123 (fun a _=>aF (Kv a.1 a.2)) (fun _=>by kernel_rfl)
def p9:SU:=⟨[.sl 3],[.sl 5],true,false,fun(a:(List Int))=>gd (a.length≤5000000000) (some (jX a))⟩
theorem zF:OK 67 p9:=mkS (.s .n (.s .n (.s (.j ⟨[(3,2),(1,12)],[.tr (.s 3) 0 5 true],[],[]⟩ (.s .n (.s (.l ⟨[(3,2),(1,12)],[.tr (.s 3) 0 5 true, .nat (.s 4)],[],[]⟩ FUEL .n) .n))) .n))) [.tmp 2] (gc Ls aD) func67 ntmps67 (fun(a:(List Int)) _=>aF (Zd a)) (fun _=>by kernel_rfl)
def aJ1:SU:=⟨[i6,i6],[i6],false,false,fun(a:Int×Int)=>some (jB a.1 a.2)⟩
theorem Sl:OK 159 aJ1:=mkS .n [.tmp 4] (gc bZ aD) func159 ntmps159 (fun a _=>(aJn a.1 a.2).trans) (fun _=>by kernel_rfl)
def aHw:SU:=⟨[i6, .sl 5],[.sl 5],true,false,fun(a:Int×(List Int))=>gd (bB a.2) (some (xS a.1 a.2))⟩
theorem Lt:OK 134 aHw:=mkS (.s .n (.s .n (.s (.j ⟨[(5,2),(1,22)],[.tr (.s 5) 0 5 true],[],[]⟩ (.s .n (.s (.l ⟨[(5,2),(1,22)],[.tr (.s 5) 0 5 true, .nat (.s 6)],[],[]⟩ FUEL (.s .n (.s (.s (.r (some 15) (od 17 [8,9,14,15,16])) .n) .n))) .n))) .n))) [.tmp 4] (gc dK aD) func134 ntmps134 (fun a _=>aF (aHf a.1 a.2)) (fun _=>by kernel_rfl)
def Vg:SU:=⟨[.sl 5],[.sl 3],true,false,fun(a:(List Int))=>gd (a.length≤34359738360) (some (Tq a))⟩
theorem nI:OK 163 Vg:=mkS (.s .n (.s .n (.s (.j ⟨[(3,2),(3,14)],[.tr (.s 3) 0 3 true],[],[]⟩ (.s .n (.s (.l ⟨[(3,2),(3,14)],[.tr (.s 3) 0 3 true, .nat (.s 4)],[],[]⟩ FUEL .n) .n))) .n))) [.tmp 2] aD func163 ntmps163 (fun(a:(List Int)) _=>aF (Uf a)) (fun _=>by kernel_rfl)
def aJ2:SU:=⟨[i6, .st 187],[i6],false,false,fun(a:Int×D.Box)=>gd (a.2.Data.length≤34359738200) (some (aI8 a.1 a.2))⟩
theorem Sm:OK 160 aJ2:=mkS bIu [.tmp 4] (gc nI (gc dK aD)) func160 ntmps160 (fun a _=>aF (aJo a.1 a.2)) (fun _=>by kernel_rfl)
def aHx:SU:=⟨[i6,i6, .sl 5],[.st 187, .bool],true,false,fun(a:Int×Int×(List Int))=>gd (bB a.2.2) (some (fA a.1 a.2.1 a.2.2))⟩
theorem aHy:OK 122 aHx:=mkS (.s .n (.s .n (.s (.s (.rj 3 ⟨[(15,10)],[.dat (.s 24) .bool],[],[]⟩ .n) .n) .n))) [.cell 6 187, .tmp 7] (gc oQ (gc bN (gc Sl (gc Lt (gc Sm aD))))) func122 ntmps122 (fun a _=>aF (aHg a.1 a.2.1 a.2.2)) (fun _=>by kernel_rfl)
def Y4:SU:=⟨[.sl 3,i6, .sl 5],[.sl 187, .bool],true,false,fun(a:(List Int)×Int×(List Int))=>gd (a.1.length≤34359738300∧bB a.2.2) (some (eU a.2.1 a.2.2 0 a.1))⟩
theorem Y5:OK 66 Y4:=mkS (.s .n (.s .n (.s (.jx ⟨[(6,6),(1,25)],[.tr (.s 8) 0 187 true],[],[]⟩ (.s .n (.s (.l ⟨[(6,6),(1,25)],[.tr (.s 8) 0 187 true, .nat (.s 9)],[],[]⟩ FUEL .n) .n))) .n))) [.tmp 6, .tmp 7] (gc aHy aD) func66 ntmps66 (fun a _=>aF (U5 a.1 a.2.1 a.2.2)) (fun _=>by kernel_rfl)
def Gt:SU:=⟨[.sl 128,i6,i6],[.st 29, .bool],true,false,fun(a:(List D.aAC)×Int×Int)=>gd (a.1.length≤34359738300) (some (bG a.1 a.2.1 a.2.2))⟩
theorem kI:OK 26 Gt:=mkS (.s .n (.s .n (.s .n (.s (.s (.rj 4 ⟨[(27,9)],[.dat (.s 35) .bool],[],[]⟩ .n) .n) .n)))) [.cell 6 29, .tmp 7] (gc gW (gc jJ (gc zF (gc Y5 (gc fZ (gc bN aD)))))) func26 ntmps26 (fun a _=>aF (Gl a.1 a.2.1 a.2.2)) (fun _=>by kernel_rfl)
def q8:SU:=⟨[.st 29,i6],[i6],false,false,fun(a:D.aAH×Int)=>gd (a.1.Boxes.length≤34359738368) (some (oH a.1 a.2))⟩
theorem q9:OK 124 q8:=mkS (.s .n (.s .n (.s (.j ⟨[(5,19)],[.dat (.s 5) i6],[],[]⟩ (.s .n (.s (.l ⟨[(5,19)],[.dat (.s 5) i6, .nat (.s 6)],[],[]⟩ FUEL (.s .n (.s (.j ⟨[(5,1),(8,10)],[.dat (.s 5) i6],[],[]⟩ .n) .n))) .n))) .n))) [.tmp 4] aD func124 ntmps124 (fun a _=>aF (Zn a.1 a.2)) (fun _=>by kernel_rfl)
def Y6:SU:=⟨[.st 29, .sl 128],[.bool],false,false,fun(a:D.aAH×(List D.aAC))=>gd (a.1.Boxes.length≤34359738368∧a.2.length≤34359738368) (some (gL a.1 a.2))⟩
theorem Cr:OK 68 Y6:=mkS (.s .n (.s .n (.s (.jx ⟨[(4,1),(1,1),(2,13)],[],[],[]⟩ (.s .n (.s (.l ⟨[(4,1),(1,1),(2,13)],[.nat (.s 6)],[],[]⟩ FUEL (.s .n (.s (.s (.s (.r none (od 7 [5])) .n) .n) .n))) .n))) (.s (.rj 6 ⟨[(4,1),(22,8)],[.dat (.s 4) .bool],[],[]⟩ (.r none (od 14 [3]))) .n)))) [.tmp 4] (gc jJ (gc q9 (gc gW aD))) func68 ntmps68 (fun a _=>aF (U6 a.1 a.2)) (fun _=>by kernel_rfl)
def aHz:SU:=⟨[.st 29],[.st 29],true,false,fun(a:D.aAH)=>gd (a.sz≤34359738368) (some (a))⟩
theorem wU:OK 69 aHz:=mkS (.s .n (.s .n (.s (.j ⟨[(4,2),(3,27)],[.nt (.c 2 1) 187 true],[],[]⟩ (.s .n (.s (.l ⟨[(4,2),(3,27)],[.nat (.s 4), .nt (.c 2 1) 187 true],[],[]⟩ FUEL .n) .n))) .n))) [.cell 2 29] aD func69 ntmps69 (fun(a:D.aAH) _=>aF (aGs a)) (fun _=>by kernel_rfl)
def aCw:SU:=⟨[.sl 128, .st 29],[.st 32, .bool],true,false,fun(a:(List D.aAC)×D.aAH)=>gd (a.1.length≤34359738368∧a.2.sz≤34359738368) (some (dW a.1 a.2))⟩
theorem aCx:OK 27 aCw:=mkS (.s .n (.s (.s (.rj 4 ⟨[(9,6)],[.dat (.s 14) .bool],[],[]⟩ .n) .n) (.s (.r (some 5) [(0,true),(2,true),(1,false),(3,false),(4,true),(5,false),(6,false)]) .n))) [.cell 4 32, .tmp 5] (gc fZ (gc Cr (gc gV (gc wU aD)))) func27 ntmps27 (fun a _=>aF (aCq a.1 a.2)) (fun _=>by kernel_rfl)
def aCy:SU:=⟨[i6],[.str],false,false,fun(a:Int)=>some (aA a)⟩
theorem fJ:OK 31 aCy:=mkS .n [.tmp 2] aD func31 ntmps31 (fun a _=>(aCf a).trans) (fun _=>by kernel_rfl)
def aCz:SU:=⟨[.str],[.sl 9],true,false,fun(a:ByteArray)=>gd (a.size≤34359738368) (some (dR a))⟩
theorem tF:OK 126 aCz:=mkS (.s .n (.s .n (.s .n (.s (.j ⟨[(3,3),(1,25)],[.tr (.s 3) 0 9 true],[],[]⟩ (.s .n (.s (.l ⟨[(3,3),(1,25)],[.tr (.s 3) 0 9 true, .dat (.s 4) i6, .dat (.s 5) i6],[],[]⟩ FUEL (.s .n (.s (.j ⟨[(3,2),(8,19)],[.tr (.s 3) 0 9 true, .dat (.s 4) i6],[],[]⟩ (.s (.s (.rj 5 ⟨[(17,6)],[.dat (.s 22) .bool],[],[]⟩ .n) .n) .n)) .n))) .n))) .n)))) [.tmp 2] aD func126 ntmps126 (fun(a:ByteArray) _=>aF (aCg a)) (fun _=>by kernel_rfl)
def aH0:SU:=⟨[.str],[.bool],false,false,fun(a:ByteArray)=>gd (a.size≤34359738368) (some (Ak a))⟩
theorem aH1:OK 161 aH0:=mkS (.s .n (.s (.jx ⟨[(2,39)],[],[],[]⟩ (.s .n (.s (.l ⟨[(2,39)],[.nat (.s 3)],[],[]⟩ FUEL (.s .n (.s (.s (.s (.rj 5 ⟨[(4,1),(10,24)],[.dat (.s 4) .bool],[],[]⟩ .n) .n) .n) .n))) .n))) (.s (.rj 4 ⟨[(2,1),(41,13)],[.dat (.s 2) .bool],[],[]⟩ .n) .n))) [.tmp 2] (gc aV aD) func161 ntmps161 (fun(a:ByteArray) _=>aF (aG3 a)) (fun _=>by kernel_rfl)
def aJ3:SU:=⟨[.str],[.bool],false,false,fun(a:ByteArray)=>gd (a.size≤34359738368) (some (jC a))⟩
theorem zW:OK 125 aJ3:=mkS (.s .n (.s .n (.s (.jx ⟨[(2,1),(1,1),(2,12)],[],[],[]⟩ (.s .n (.s (.l ⟨[(2,1),(1,1),(2,12)],[.nat (.s 4)],[],[]⟩ FUEL .n) .n))) .n))) [.tmp 2] (gc tF (gc aH1 aD)) func125 ntmps125 (fun(a:ByteArray) _=>aF (aJl a)) (fun _=>by kernel_rfl)
def aH2:SU:=⟨[.str,i6],[.st 110],true,false,fun(a:ByteArray×Int)=>gd (a.1.size≤34359738368) (some (eY a.1 a.2))⟩
theorem Lu:OK 71 aH2:=mkS (.s .n (.s (.s (.rj 4 ⟨[(8,11)],[.dat (.s 18) .bool],[],[]⟩ .n) .n) .n)) [.cell 4 110] (gc zW (gc tF (gc bN aD))) func71 ntmps71 (fun a _=>aF (aG4 a.1 a.2)) (fun _=>by kernel_rfl)
def aH3:SU:=⟨[.st 123],[.st 123],true,false,fun(a:D.aAF)=>gd (a.sz≤34359738368) (some (a))⟩
theorem oV:OK 99 aH3:=mkS .n [.cell 2 123] aD func99 ntmps99 (fun(a:D.aAF) _=>aF (aGv a)) (fun _=>by kernel_rfl)
def aH4:SU:=⟨[.st 108],[.st 108],true,false,fun(a:D.aAB)=>gd (a.sz≤34359738368) (some (a))⟩
theorem oW:OK 100 aH4:=mkS .n [.cell 2 108] aD func100 ntmps100 (fun(a:D.aAB) _=>aF (aGw a)) (fun _=>by kernel_rfl)
def aH5:SU:=⟨[.st 110],[.st 110],true,false,fun(a:D.Site)=>gd (a.sz≤34359738368) (some (a))⟩
theorem kY:OK 44 aH5:=mkS (.s .n (.s .n (.s .n (.s (.j ⟨[(4,1),(3,18)],[.tr (.c 2 1) 3 123 true],[],[]⟩ (.s .n (.s (.l ⟨[(4,1),(3,18)],[.nat (.s 4), .tr (.c 2 1) 3 123 true],[],[]⟩ FUEL bEp) .n))) .n)))) [.cell 2 110] (gc oV (gc oW aD)) func44 ntmps44 (fun(a:D.Site) _=>aF (aGx a)) (fun _=>by kernel_rfl)
def Gu:SU:=⟨[.st 123],[.bool],false,false,fun(a:D.aAF)=>gd (a.sz≤34359738368) (some (aY a))⟩
theorem fT:OK 147 Gu:=mkS (.s .n (.s (.jx ⟨[(2,62)],[],[],[]⟩ (.s .n (.s (.l ⟨[(2,62)],[.nat (.s 3)],[],[]⟩ FUEL (.s .n (.s (.jx ⟨[(2,1),(1,2),(7,51)],[],[],[]⟩ (.s (.s .n (.s (.s (.rj 5 ⟨[(22,28)],[.dat (.s 49) .bool],[],[]⟩ (.r none (od 32 [2,23,29]))) .n) (.s .n (.s (.l ⟨[(2,1),(2,1),(44,14)],[.nat (.s 5)],[],[]⟩ FUEL bEq) .n)))) .n)) .n))) .n))) (.s (.rj 4 ⟨[(2,1),(64,11)],[.dat (.s 2) .bool],[],[]⟩ .n) .n))) [.tmp 2] (gc aV (gc oQ aD)) func147 ntmps147 (fun(a:D.aAF) _=>aF (Gi a)) (fun _=>by kernel_rfl)
def Vh:SU:=⟨[.st 108],[.bool],false,false,fun(a:D.aAB)=>gd (a.sz≤34359738368) (some (eG a))⟩
theorem jU:OK 148 Vh:=mkS (.s .n (.s (.jx ⟨[(2,50)],[],[],[]⟩ (.s .n (.s (.l ⟨[(2,50)],[.nat (.s 3)],[],[]⟩ FUEL (.s .n (.s (.s (.s .n (.s (.rj 8 ⟨[(24,28)],[.dat (.s 51) .bool],[],[]⟩ (.r none (od 35 [5,26,32]))) .n)) .n) .n))) .n))) (.s (.rj 4 ⟨[(2,1),(52,6)],[.dat (.s 2) .bool],[],[]⟩ .n) .n))) [.tmp 2] (gc aV aD) func148 ntmps148 (fun(a:D.aAB) _=>aF (Ud a)) (fun _=>by kernel_rfl)
def Vi:SU:=⟨[.st 110],[.bool],false,false,fun(a:D.Site)=>gd (a.sz≤34359738368) (some (cZ a))⟩
theorem gX:OK 102 Vi:=mkS (.s .n (.s (.jx ⟨[(2,36)],[],[],[]⟩ (.s .n (.s (.l ⟨[(2,36)],[.nat (.s 3)],[],[]⟩ FUEL (.s .n (.s (.s (.s (.rj 8 ⟨[(18,20)],[.dat (.s 37) .bool],[],[]⟩ (.r none (od 27 [5]))) .n) .n) .n))) .n))) (.s (.rj 9 ⟨[(2,1),(43,11)],[.dat (.s 2) .bool],[],[]⟩ .n) .n))) [.tmp 2] (gc fT (gc Lu (gc jU aD))) func102 ntmps102 (fun(a:D.Site) _=>aF (Ue a)) (fun _=>by kernel_rfl)
def Vj:SU:=⟨[.st 110,i6,i6],[.st 110, .bool],false,false,fun(a:D.Site×Int×Int)=>gd (a.1.sz≤34359738300) (some (kW a.1 a.2.1 a.2.2))⟩
theorem Vk:OK 70 Vj:=mkS bIq [.cell 6 110, .tmp 7] (gcp kY (gc gX aD)) func70 ntmps70 (fun a _=>aF (Uy a.1 a.2.1 a.2.2)) (fun _=>by kernel_rfl)
def Cs:SU:=⟨[i6, .str],[i6],false,false,fun(a:Int×ByteArray)=>gd (a.2.size≤34359738300) (some (vO a.1 a.2))⟩
theorem nR:OK 132 Cs:=mkS .n [.tmp 4] (gc nI (gc dK (gc Vd (gc (bBj 1000022) aD)))) func132 ntmps132 (fun a _=>aF (Cm a.1 a.2)) (fun _=>by kernel_rfl)
def aC0:SU:=⟨[.str],[i6],false,false,fun(a:ByteArray)=>gd (a.size≤34359738300) (some (bU a))⟩
theorem tH:OK 76 aC0:=mkS .n [.tmp 2] (gc nR aD) func76 ntmps76 (fun(a:ByteArray) _=>aF (aCh a)) (fun _=>by kernel_rfl)
def Vl:SU:=⟨[.st 67, .str,i6],[i6],false,false,fun(a:D.aAI×ByteArray×Int)=>gd (a.2.1.size≤34359738300) (some (eO a.1 a.2.1 a.2.2))⟩
theorem wV:OK 128 Vl:=mkS (.s .n (.s (.r none [(0,true),(1,true),(2,true),(4,true),(3,false),(5,false),(6,false),(7,true)]) .n)) [.tmp 6] (gc tH (gc bZ aD)) func128 ntmps128 (fun a _=>aF (Uk a.1 a.2.1 a.2.2)) (fun _=>by kernel_rfl)
def r9:SU:=⟨[.st 67, .str,i6],[i6],false,false,fun(a:D.aAI×ByteArray×Int)=>gd (a.2.1.size≤34359738300) (some (dO a.1 a.2.1 a.2.2))⟩
theorem zG:OK 73 r9:=mkS .n [.tmp 6] (gc wV (gc lN aD)) func73 ntmps73 (fun a _=>aF (Zm a.1 a.2.1 a.2.2)) (fun _=>by kernel_rfl)
def Vm:SU:=⟨[.st 110,i6],[i6],false,false,fun(a:D.Site×Int)=>gd (a.1.Accounts.length≤34359738368) (some (aC a.1 a.2))⟩
theorem jV:OK 112 Vm:=mkS bHc [.tmp 4] aD func112 ntmps112 (fun a _=>aF (Um a.1 a.2)) (fun _=>by kernel_rfl)
def Lv:SU:=⟨[.st 123,i6,i6],[.st 123, .bool],true,false,fun(a:D.aAF×Int×Int)=>gd (a.1.sz≤34359738300) (some (gJ a.1 a.2.1 a.2.2))⟩
theorem Lx:OK 127 Lv:=mkS bIq [.cell 6 123, .tmp 7] (gc oV (gc fT aD)) func127 ntmps127 (fun a _=>aF (Kw a.1 a.2.1 a.2.2)) (fun _=>by kernel_rfl)
def Vn:SU:=⟨[.st 110,i6,i6,i6],[.st 110, .bool],true,false,fun(a:D.Site×Int×Int×Int)=>gd (a.1.sz≤34359738300) (some (eP a.1 a.2.1 a.2.2.1 a.2.2.2))⟩
theorem wW:OK 72 Vn:=mkS (.s .n (.s .n (.s .n (.s (.s (.rj 4 ⟨[(22,4)],[.dat (.s 25) .bool],[],[]⟩ .n) .n) .n)))) [.cell 8 110, .tmp 9] (gc kY (gc jV (gc gX (gc Lx aD)))) func72 ntmps72 (fun a _=>aF (Uo a.1 a.2.1 a.2.2.1 a.2.2.2)) (fun _=>by kernel_rfl)
def aH6:SU:=⟨[.st 70],[.st 70],true,false,fun(a:D.aAG)=>gd (a.sz≤34359738368) (some (a))⟩
theorem kZ:OK 98 aH6:=mkS .n [.cell 2 70] aD func98 ntmps98 (fun(a:D.aAG) _=>aF (aGp a)) (fun _=>by kernel_rfl)
def aH7:SU:=⟨[.st 72],[.st 72],true,false,fun(a:D.Device)=>gd (a.sz≤34359738368) (some (a))⟩
theorem lC:OK 42 aH7:=mkS .n [.cell 2 72] (gc gV (gc kZ aD)) func42 ntmps42 (fun(a:D.Device) _=>aF (aGr a)) (fun _=>by kernel_rfl)
def w9:SU:=⟨[.sl 128, .sl 128],[.bool],false,false,fun(a:(List D.aAC)×(List D.aAC))=>gd (a.1.length≤34359738368) (some (dX a.1 a.2))⟩
theorem oZ:OK 74 w9:=mkS (.s .n (.s .n (.s (.jx ⟨[(4,2),(5,15)],[],[],[]⟩ (.s .n (.s (.l ⟨[(4,2),(5,15)],[.nat (.s 5)],[],[]⟩ FUEL bEq) .n))) .n))) [.tmp 4] aD func74 ntmps74 (fun a _=>aF (Za a.1 a.2)) (fun _=>by kernel_rfl)
def x8:SU:=⟨[.st 72, .sl 128,i6],[.st 72, .bool],true,false,fun(a:D.Device×(List D.aAC)×Int)=>gd (a.1.sz≤34359738368∧a.2.1.length≤34359738368) (some (nC a.1 a.2.1 a.2.2))⟩
theorem pE:OK 29 x8:=mkS (.s .n (.s .n (.s (.s (.rj 4 ⟨[(14,19)],[.dat (.s 32) .bool],[],[]⟩ (.r none [(0,true),(1,false),(2,true),(3,true),(4,true),(5,true),(6,true),(7,false),(8,true),(9,true),(10,true),(11,true),(13,true),(14,true),(12,false),(15,true),(16,true),(17,true),(18,true),(19,false),(20,true),(21,true)])) .n) .n))) [.cell 6 72, .tmp 7] (gc lC (gc fZ (gc oZ (gc gW (gc bN (gc gV aD)))))) func29 ntmps29 (fun a _=>aF (Zq a.1 a.2.1 a.2.2)) (fun _=>by kernel_rfl)
def Y7:SU:=⟨[.st 70,i6,i6],[i6],false,false,fun(a:D.aAG×Int×Int)=>gd (a.1.sz≤34359738368) (some (aL a.1 a.2.1 a.2.2))⟩
theorem lQ:OK 129 Y7:=mkS (.s .n (.s (.jx ⟨[(6,28)],[],[],[]⟩ (.s .n (.s (.l ⟨[(6,28)],[.nat (.s 7)],[],[]⟩ FUEL (.s .n (.s (.s (.s (.rj 9 ⟨[(23,10)],[.dat (.s 32) .bool],[],[]⟩ .n) .n) .n) .n))) .n))) .n)) [.tmp 6] aD func129 ntmps129 (fun a _=>aF (R8 a.1 a.2.1 a.2.2)) (fun _=>by kernel_rfl)
def aH8:SU:=⟨[.st 197,i6,i6],[.bool],false,false,fun(a:D.Entry×Int×Int)=>some (rV a.1 a.2.1 a.2.2)⟩
theorem Ma:OK 162 aH8:=mkS (.s .n (.s (.rj 5 ⟨[(6,1),(4,12)],[.dat (.s 6) .bool],[],[]⟩ .n) .n)) [.tmp 6] aD func162 ntmps162 (fun a _=>(aGo a.1 a.2.1 a.2.2).trans) (fun _=>by kernel_rfl)
def aJ4:SU:=⟨[.st 70, .st 197],[.st 70],true,false,fun(a:D.aAG×D.Entry)=>gd (a.1.sz≤34359738360) (some (Ec a.1 a.2))⟩
theorem zX:OK 130 aJ4:=mkS (.s .n (.s .n (.s .n (.s .n (.s (.j ⟨[(7,1),(16,19)],[.dat (.s 7) i6],[],[]⟩ (.s (.l ⟨[(7,1),(16,19)],[.dat (.s 7) i6],[],[]⟩ FUEL (.s (.s (.rj 6 ⟨[(29,12)],[.dat (.s 40) .bool],[],[]⟩ (.r none (od 17 [15]))) .n) .n)) .n)) (.s (.y true (some 7) (some 15) [(1,true),(2,true),(3,true),(4,true),(6,true),(9,true),(10,true),(11,true),(12,true),(0,false),(5,false),(7,false),(8,false),(13,false),(14,false),(15,false)]) .n)))))) [.cell 4 70] (gc kZ (gc lQ (gc Ma aD))) func130 ntmps130 (fun a _=>aF (aJk a.1 a.2)) (fun _=>by kernel_rfl)
def aC1:SU:=⟨[.st 70],[.bool],false,false,fun(a:D.aAG)=>gd (a.sz≤34359738368) (some (aT a))⟩
theorem iG:OK 131 aC1:=mkS (.s .n (.s (.jx ⟨[(2,49)],[],[],[]⟩ (.s .n (.s (.l ⟨[(2,49)],[.nat (.s 3)],[],[]⟩ FUEL (.s .n (.s (.s (.s .n (.s (.rj 5 ⟨[(21,30)],[.dat (.s 50) .bool],[],[]⟩ (.r none (od 34 [2,7,13,30]))) .n)) .n) .n))) .n))) .n)) [.tmp 2] (gc aV (gc Ma aD)) func131 ntmps131 (fun(a:D.aAG) _=>aF (aCd a)) (fun _=>by kernel_rfl)
def aC2:SU:=⟨[.st 70,i6,i6],[.st 70, .bool],true,false,fun(a:D.aAG×Int×Int)=>gd (a.1.sz≤34359738360) (some (aP2 a.1 a.2.1 a.2.2))⟩
theorem aC3:OK 75 aC2:=mkS (.s .n (.s .n (.s (.jx ⟨[(7,1),(1,1),(4,23)],[.dat (.c 2 2) i6],[],[]⟩ .n) (.s .n (.s (.s (.rj 4 ⟨[(43,5)],[.dat (.s 47) .bool],[],[]⟩ .n) .n) .n))))) [.cell 6 70, .tmp 7] (gc lQ (gc kZ (gc zX (gc iG aD)))) func75 ntmps75 (fun a _=>aF (aCi a.1 a.2.1 a.2.2)) (fun _=>by kernel_rfl)
def Vo:SU:=⟨[.st 70,i6,i6],[.st 70, .bool],true,false,fun(a:D.aAG×Int×Int)=>gd (a.1.sz≤34359738360) (some (aP3 a.1 a.2.1 a.2.2))⟩
theorem Vp:OK 77 Vo:=mkS (.s .n (.s .n (.s (.s (.rj 4 ⟨[(16,21)],[.dat (.s 36) .bool],[],[]⟩ .n) .n) (.s (.r (some 12) (od 14 [11,12,13])) .n)))) [.cell 6 70, .tmp 7] (gc lQ (gc iG (gc kZ (gc zX aD)))) func77 ntmps77 (fun a _=>aF (Ug a.1 a.2.1 a.2.2)) (fun _=>by kernel_rfl)
def Py:SU:=⟨[.st 72, .str,i6, .bool],[.st 72, .bool],true,false,fun(a:D.Device×ByteArray×Int×Bool)=>gd (a.1.sz≤34359738360∧a.2.1.size≤34359738300) (some (bX a.1 a.2.1 a.2.2.1 a.2.2.2))⟩
theorem mF:OK 30 Py:=mkS (.s .n (.s .n (.s (.y false (some 9) (some 10) [(0,true),(1,true),(2,true),(4,true),(3,false),(5,false),(6,true),(7,true),(8,true),(9,false),(10,false),(11,true)]) (.s (.j ⟨[(12,1),(11,10)],[.dat (.s 12) .bool, .tr (.c 6 0) 5 197 true],[],[]⟩ (.s .n (.s (.y false none (some 9) [(0,true),(1,true),(2,true),(4,true),(3,false),(5,false),(6,true),(7,true),(8,true),(9,false),(10,true)]) .n))) (.s (.j ⟨[(34,3)],[.nt (.c 4 8) 197 true],[],[3,5]⟩ .n) .n))))) [.cell 8 72, .tmp 9] (gc lC (gc tH (gc aC3 (gc Vp aD)))) func30 ntmps30 (fun a _=>aF (Pf a.1 a.2.1 a.2.2.1 a.2.2.2)) (fun _=>by kernel_rfl)
def aC4:SU:=⟨[i6,i6,i6],[.bool],false,false,fun(a:Int×Int×Int)=>some (bM a.1&&(bF a.2.1 0 1000000&&bF a.2.2 0 1000000))⟩
theorem Gb:OK 133 aC4:=mkS (.s .n (.s (.rj 3 ⟨[(6,1),(2,8)],[.dat (.s 6) .bool],[],[]⟩ .n) .n)) [.tmp 6] (gc bN (gc aV aD)) func133 ntmps133 (fun a _=>(aCk a.1 a.2.1 a.2.2).trans) (fun _=>by kernel_rfl)
def aJ5:SU:=⟨[i6,i6,i6],[i6],false,false,fun(a:Int×Int×Int)=>some (oF a.1 a.2.1 a.2.2)⟩
theorem Sq:OK 135 aJ5:=mkS .n [.tmp 6] (gc bZ aD) func135 ntmps135 (fun a _=>(aJp a.1 a.2.1 a.2.2).trans) (fun _=>by kernel_rfl)
def Pz:SU:=⟨[.st 70],[.sl 5],true,false,fun(a:D.aAG)=>gd (a.sz≤34359738368) (some (xR a))⟩
theorem uK:OK 136 Pz:=mkS (.s .n (.s .n (.s .n (.s (.j ⟨[(3,3),(8,35)],[.tr (.s 3) 1 3 true],[],[]⟩ (.s .n (.s (.l ⟨[(3,3),(8,35)],[.tr (.s 3) 1 3 true, .nat (.s 4)],[],[]⟩ FUEL (.s .n (.s (.j ⟨[(3,1),(1,1),(15,28)],[.tr (.s 3) 1 3 true],[],[]⟩ (.s (.s .n (.s (.j ⟨[(5,1),(15,6)],[.dat (.s 5) i6],[],[]⟩ .n) (.r (some 21) (od 23 [20,21,22])))) .n)) .n))) .n))) .n)))) [.tmp 2] (gc iG (gc zF aD)) func136 ntmps136 (fun(a:D.aAG) _=>aF (Pg a)) (fun _=>by kernel_rfl)
def Y8:SU:=⟨[i6, .st 89],[i6],false,false,fun(a:Int×D.aAD)=>gd (a.2.Data.length≤34359738200) (some (oD a.1 a.2))⟩
theorem Ct:OK 137 Y8:=mkS bIu [.tmp 4] (gc nI (gc dK aD)) func137 ntmps137 (fun a _=>aF (U2 a.1 a.2)) (fun _=>by kernel_rfl)
def x9:SU:=⟨[i6,i6,i6, .st 70],[.st 89, .bool],true,false,fun(a:Int×Int×Int×D.aAG)=>gd (a.2.2.2.sz≤34359738368) (some (Au a.1 a.2.1 a.2.2.1 a.2.2.2))⟩
theorem y7:OK 78 x9:=mkS (.s .n (.s (.s (.rj 6 ⟨[(16,5)],[.dat (.s 20) .bool],[],[]⟩ .n) .n) (.s (.y false (some 10) (some 11) [(0,true),(1,true),(2,true),(3,true),(4,true),(6,true),(5,false),(7,false),(8,false),(9,true),(10,false),(11,false)]) .n))) [.cell 8 89, .tmp 9] (gc Gb (gc iG (gc Sq (gc uK (gc Lt (gc Ct aD)))))) func78 ntmps78 (fun a _=>aF (Zj a.1 a.2.1 a.2.2.1 a.2.2.2)) (fun _=>by kernel_rfl)
def Vq:SU:=⟨[.st 72],[.st 72, .st 89, .bool],true,false,fun(a:D.Device)=>gd (a.sz≤34359738368) (some (bW a))⟩
theorem nJ:OK 32 Vq:=mkS (.s .n bFe) [.cell 2 72, .cell 3 89, .tmp 4] (gc lC (gc y7 aD)) func32 ntmps32 (fun(a:D.Device) _=>aF (Uj a)) (fun _=>by kernel_rfl)
def aH9:SU:=⟨[.st 89],[.st 89],true,false,fun(a:D.aAD)=>gd (a.sz≤34359738368) (some (a))⟩
theorem wX:OK 80 aH9:=mkS .n [.cell 2 89] aD func80 ntmps80 (fun(a:D.aAD) _=>aF (aGt a)) (fun _=>by kernel_rfl)
def aIa:SU:=⟨[.st 32],[.st 32],true,false,fun(a:D.aAE)=>gd (a.sz≤34359738368) (some (a))⟩
theorem wY:OK 43 aIa:=mkS (.s .n (.s (.y false (some 7) (some 8) [(0,true),(1,true),(3,true),(4,true),(2,false),(5,false),(6,true),(7,false),(8,false)]) (.s (.j ⟨[(4,1),(7,18)],[.nt (.c 4 3) 89 true],[],[]⟩ (.s .n (.s (.l ⟨[(4,1),(7,18)],[.nat (.s 4), .nt (.c 4 3) 89 true],[],[]⟩ FUEL bEp) .n))) .n))) [.cell 2 32] (gc gV (gc wU (gc wX aD))) func43 ntmps43 (fun(a:D.aAE) _=>aF (aGu a)) (fun _=>by kernel_rfl)
def Y9:SU:=⟨[.st 89, .st 89],[.bool],false,false,fun(a:D.aAD×D.aAD)=>some (Iw a.1 a.2)⟩
theorem Z0:OK 79 Y9:=mkS (.s .n (.s (.rj 6 ⟨[(4,1),(5,14)],[.dat (.s 4) .bool],[],[]⟩ .n) .n)) [.tmp 4] aD func79 ntmps79 (fun a _=>(U3 a.1 a.2).trans) (fun _=>by kernel_rfl)
def Qa:SU:=⟨[.st 32, .st 89],[.st 32, .bool],true,false,fun(a:D.aAE×D.aAD)=>gd (a.1.sz≤34359738300∧a.2.sz≤34359738300) (some (dF a.1 a.2))⟩
theorem mG:OK 33 Qa:=mkS (.s .n (.s .n (.s .n (.s (.s (.rj 7 ⟨[(19,19)],[.dat (.s 37) .bool],[],[]⟩ (.r none (od 25 [4,17]))) .n) (.s (.r (some 5) (od 8 [3,4,5,6,7])) .n))))) [.cell 4 32, .tmp 5] (gc wY (gc gW (gc Z0 (gc wX aD)))) func33 ntmps33 (fun a _=>aF (Pi a.1 a.2)) (fun _=>by kernel_rfl)
def Vr:SU:=⟨[.st 32,i6],[.st 89, .bool],true,false,fun(a:D.aAE×Int)=>gd (a.1.sz≤34359738368) (some (gH a.1 a.2))⟩
theorem Vs:OK 81 Vr:=mkS .n [.cell 4 89, .tmp 5] (gc aV (gc wX aD)) func81 ntmps81 (fun a _=>aF (Uh a.1 a.2)) (fun _=>by kernel_rfl)
def aIb:SU:=⟨[i6, .sl 5],[.sl 5],true,false,fun(a:Int×(List Int))=>gd (a.2.length≤34359738368) (some (aNr a.1 a.2))⟩
theorem Mc:OK 167 aIb:=mkS (.s .n (.s .n (.s (.j ⟨[(5,2),(1,22)],[.tr (.s 5) 0 5 true],[],[]⟩ (.s .n (.s (.l ⟨[(5,2),(1,22)],[.tr (.s 5) 0 5 true, .nat (.s 6)],[],[]⟩ FUEL (.s .n (.s (.s (.r (some 15) (od 17 [8,9,12,14,15,16])) .n) .n))) .n))) .n))) [.tmp 4] (gc dK (gc jT aD)) func167 ntmps167 (fun a _=>aF (aG8 a.1 a.2)) (fun _=>by kernel_rfl)
def aIc:SU:=⟨[i6, .st 187],[.sl 5, .bool],true,false,fun(a:Int×D.Box)=>some (jH a.1 a.2)⟩
theorem aId:OK 181 aIc:=mkS (.s .n (.s (.s (.rj 4 ⟨[(10,19)],[.dat (.s 28) .bool],[],[]⟩ (.r none (od 22 [1,7,13]))) .n) (.s .n (.s (.s (.r none (od 6 [4])) .n) .n)))) [.tmp 4, .tmp 5] (gc bN (gc lN (gc Sl (gc Sm (gc Mc aD))))) func181 ntmps181 (fun a _=>(aG9 a.1 a.2).trans) (fun _=>by kernel_rfl)
def aIe:SU:=⟨[.sl 187,i6],[.sl 5, .bool],true,false,fun(a:(List D.Box)×Int)=>gd (a.1.length≤34359738368) (some (jW a.1 a.2))⟩
theorem aIf:OK 164 aIe:=mkS (.s .n (.s (.jx ⟨[(4,22)],[],[],[]⟩ (.s .n (.s (.l ⟨[(4,22)],[.nat (.s 6)],[],[]⟩ FUEL .n) .n))) .n)) [.tmp 4, .tmp 5] (gc aId aD) func164 ntmps164 (fun a _=>aF (aHa a.1 a.2)) (fun _=>by kernel_rfl)
def Vt:SU:=⟨[.sl 5,i6],[i6,i6, .bool],false,false,fun(a:(List Int)×Int)=>gd (bB a.1) (some (Ea a.1 a.2))⟩
theorem wZ:OK 182 Vt:=mkS (.s .n (.s .n (.s (.jx ⟨[(4,51)],[],[],[]⟩ (.s .n (.s (.l ⟨[(4,51)],[.dat (.s 7) i6, .nat (.s 8)],[],[]⟩ FUEL (.s .n (.s (.s (.s (.s (.rj 3 ⟨[(16,8)],[.dat (.s 23) .bool],[],[]⟩ .n) .n) (.s .n (.s .n (.s .n (.s (.s (.s (.rj 3 ⟨[(42,8)],[.dat (.s 49) .bool],[],[]⟩ .n) .n) .n) .n))))) .n) .n))) .n))) .n))) [.tmp 4, .tmp 5, .tmp 6] aD func182 ntmps182 (fun a _=>aF (Ui a.1 a.2)) (fun _=>by kernel_rfl)
def y9:SU:=⟨[.sl 5,i6,i6],[.sl 3,i6, .bool],true,false,fun(a:(List Int)×Int×Int)=>gd (bB a.1) (some (mV a.1 a.2.1 a.2.2))⟩
theorem zH:OK 165 y9:=mkS (.s .n (.s .n (.s (.s (.rj 4 ⟨[(18,7)],[.dat (.s 24) .bool],[],[]⟩ .n) .n) (.s (.jx ⟨[(1,1),(4,8),(12,20)],[.dat (.s 1) i6, .tr (.s 9) 0 3 true],[],[]⟩ (.s .n (.s (.l ⟨[(1,1),(4,8),(12,20)],[.dat (.s 1) i6, .tr (.s 9) 0 3 true, .nat (.s 10)],[],[]⟩ FUEL .n) .n))) .n)))) [.tmp 6, .tmp 7, .tmp 8] (gc aV (gc wZ aD)) func165 ntmps165 (fun a _=>aF (Zc a.1 a.2.1 a.2.2)) (fun _=>by kernel_rfl)
def Gv:SU:=⟨[.st 67, .st 29],[i6, .bool],false,false,fun(a:D.aAI×D.aAH)=>gd (a.2.sz≤34359738368) (some (cO a.1 a.2))⟩
theorem Gw:OK 138 Gv:=mkS (.s .n (.s (.r none (od 10 [3,4])) (.s .n (.s (.s (.rj 3 ⟨[(27,25)],[.dat (.s 51) .bool],[],[]⟩ (.r none (od 27 [24]))) .n) .n)))) [.tmp 4, .tmp 5] (gc qY (gc aIf (gc zH (gc bN aD)))) func138 ntmps138 (fun a _=>aF (Gj a.1 a.2)) (fun _=>by kernel_rfl)
def A7:SU:=⟨[.sl 5, .sl 5],[.bool],false,false,fun(a:(List Int)×(List Int))=>gd (bB a.1∧bB a.2) (some ((a.1==a.2)))⟩
theorem A8:OK 183 A7:=mkS .n [.tmp 4] aD func183 ntmps183 (fun a _=>aF (Ze a.1 a.2)) (fun _=>by kernel_rfl)
def Qb:SU:=⟨[.sl 5],[.st 70, .bool],true,false,fun(a:(List Int))=>gd (bB a) (some (aFo a))⟩
theorem Qc:OK 166 Qb:=mkS (.s .n (.s .n (.s (.s (.rj 3 ⟨[(21,4)],[.dat (.s 24) .bool],[],[]⟩ .n) .n) (.s .n (.s (.jx ⟨[(3,1),(1,1),(2,5),(14,40)],[.nt (.c 1 0) 197 true],[],[]⟩ (.s .n (.s (.l ⟨[(3,1),(1,1),(2,5),(14,40)],[.dat (.s 5) i6, .nat (.s 8), .nt (.c 1 0) 197 true],[],[]⟩ FUEL .n) .n))) (.s (.s (.rj 4 ⟨[(70,7)],[.dat (.s 76) .bool],[],[]⟩ .n) .n) .n)))))) [.cell 2 70, .tmp 3] (gc wZ (gc zH (gc iG (gc uK (gc A8 aD))))) func166 ntmps166 (fun(a:(List Int)) _=>aF (Ph a)) (fun _=>by kernel_rfl)
def A9:SU:=⟨[i6, .st 89],[.st 70, .bool],true,false,fun(a:Int×D.aAD)=>gd (a.2.Data.length≤34359738200) (some (lW a.1 a.2))⟩
theorem C8:OK 139 A9:=mkS (.s .n (.s (.s (.rj 8 ⟨[(13,8)],[.dat (.s 20) .bool],[],[]⟩ (.r none (od 15 [5,12]))) .n) (.s (.r (some 12) [(0,true),(1,true),(2,true),(3,true),(4,true),(6,true),(7,true),(5,false),(8,false),(9,false),(10,true),(11,true),(12,false),(13,false)]) .n))) [.cell 4 70, .tmp 5] (gc Gb (gc Ct (gc Sq (gc Mc (gc Qc aD))))) func139 ntmps139 (fun a _=>aF (Zg a.1 a.2)) (fun _=>by kernel_rfl)
def Qd:SU:=⟨[.st 70, .st 70],[.st 70, .bool],true,false,fun(a:D.aAG×D.aAG)=>gd (a.1.sz≤34359738368∧a.2.sz≤34359738368) (some (nZ a.1 a.2))⟩
theorem Qe:OK 140 Qd:=mkS (.s .n (.s (.s (.rj 4 ⟨[(13,5)],[.dat (.s 17) .bool],[],[]⟩ .n) .n) (.s .n (.s (.j ⟨[(7,3),(12,49)],[.tr (.c 4 0) 3 197 true],[],[]⟩ (.s .n (.s (.l ⟨[(7,3),(12,49)],[.nat (.s 7), .tr (.c 4 0) 3 197 true],[],[]⟩ FUEL (.s .n (.s (.j ⟨[(8,2),(19,42)],[.tr (.c 4 0) 3 197 true],[],[]⟩ (.s (.s .n (.s .n (.s (.rj 3 ⟨[(42,26)],[.dat (.s 67) .bool],[],[]⟩ (.r none (od 28 []))) .n))) .n)) .n))) .n))) .n)))) [.cell 4 70, .tmp 5] (gc iG (gc kZ (gc lQ (gc zX aD)))) func140 ntmps140 (fun a _=>aF (Oz a.1 a.2)) (fun _=>by kernel_rfl)
def C9:SU:=⟨[.st 72, .sl 128, .st 29, .st 89],[.st 72,i6],true,false,fun(a:D.Device×(List D.aAC)×D.aAH×D.aAD)=>gd (a.1.sz≤34359738368∧a.2.1.length≤34359738368∧a.2.2.1.sz≤34359738368∧a.2.2.2.Data.length≤34359738200) (some (dJ a.1 a.2.1 a.2.2.1 a.2.2.2))⟩
theorem D5:OK 82 C9:=mkS (.s .n (.s .n (.s .n (.s (.s (.rj 4 ⟨[(25,7)],[.dat (.s 31) .bool],[],[]⟩ .n) .n) (.s (.s (.r none [(0,true),(2,true),(3,true),(1,false),(4,false),(5,false),(6,true)]) .n) (.s .n (.s (.s (.rj 5 ⟨[(52,4)],[.dat (.s 55) .bool],[],[]⟩ .n) .n) (.s (.s (.rj 5 ⟨[(61,21)],[.dat (.s 81) .bool],[],[]⟩ .n) .n) (.s .n (.s .n (.s (.s (.rj 3 ⟨[(98,4)],[.dat (.s 101) .bool],[],[]⟩ .n) .n) (.s (.r (some 11) [(0,true),(1,true),(2,true),(4,true),(5,true),(6,true),(7,true),(8,true),(9,true),(3,false),(10,true),(11,false),(12,false)]) .n)))))))))))) [.cell 8 72, .tmp 9] (gc lC (gc gW (gc fZ (gc oZ (gc jJ (gc fH (gc rP (gc Gw (gc C8 (gc Qe (gc gV aD))))))))))) func82 ntmps82 (fun a _=>aF (Zh a.1 a.2.1 a.2.2.1 a.2.2.2)) (fun _=>by kernel_rfl)
def aIg:SU:=⟨[.st 72, .st 32,i6],[.st 72,i6],true,false,fun(a:D.Device×D.aAE×Int)=>gd (a.1.sz≤34359738100∧a.2.1.sz≤34359738100) (some (dJ a.1 a.2.1.Log a.2.1.Boxes (gH a.2.1 a.2.2).1))⟩
theorem Md:OK 34 aIg:=mkS .n [.cell 6 72, .tmp 7] (gc Vs (gc D5 aD)) func34 ntmps34 (fun a _=>aF (aHc a.1 a.2.1 a.2.2)) (fun _=>by kernel_rfl)
def aOc:SU:=⟨[i6],[i6],false,false,fun(a:Int)=>some (dI a 1019)⟩
theorem D6:OK 168 aOc:=mkS .n [.tmp 2] (gc jT aD) func168 ntmps168 (fun a _=>(aN9 a).trans) (fun _=>by kernel_rfl)
def aJ6:SU:=⟨[i6, .sl 3,i6],[i6],false,false,fun(a:Int×(List Int)×Int)=>gd (0≤a.2.2∧a.2.2≤1000∧a.2.1.length≤34359738368) (some (Ir a.1 a.2.1 a.2.2))⟩
theorem Sr:OK 141 aJ6:=mkS (.s .n (.s .n (.s (.j ⟨[(7,19)],[.dat (.s 7) i6],[],[]⟩ (.s .n (.s (.l ⟨[(7,2),(3,14)],[.dat (.s 7) i6, .dat (.s 8) i6],[],[]⟩ FUEL .n) .n))) .n))) [.tmp 6] (gc D6 aD) func141 ntmps141 (fun a _=>aF (aJm a.1 a.2.1 a.2.2)) (fun _=>by kernel_rfl)
def Vu:SU:=⟨[i6, .sl 3,i6],[.sl 158],true,false,fun(a:Int×(List Int)×Int)=>gd (a.2.1.length≤34359738368) (some (vR a.1 a.2.1 a.2.2))⟩
theorem Vv:OK 85 Vu:=mkS (.s .n (.s .n (.s (.s (.rj 4 ⟨[(13,6)],[.dat (.s 18) .bool],[],[]⟩ .n) .n) (.s (.j ⟨[(7,2),(11,14)],[.tr (.s 7) 0 158 true],[],[]⟩ (.s .n (.s (.l ⟨[(7,2),(11,14)],[.tr (.s 7) 0 158 true, .dat (.s 8) i6],[],[]⟩ FUEL .n) .n))) .n)))) [.tmp 6] (gc aV (gc Sr aD)) func85 ntmps85 (fun a _=>aF (Ux a.1 a.2.1 a.2.2)) (fun _=>by kernel_rfl)
def aOd:SU:=⟨[i6,i6],[i6],false,false,fun(a:Int×Int)=>oN a.1 a.2⟩
theorem D7:OK 170 aOd:=mkS bIs [.tmp 4] aD func170 ntmps170 (fun _ _=>id) (fun _=>by kernel_rfl)
def Gx:SU:=⟨[i6],[.bool],false,false,fun(a:Int)=>some (zS a)⟩
theorem fU:OK 169 Gx:=mkS (.s .n (.s (.rj 3 ⟨[(2,1),(2,5)],[.dat (.s 2) .bool],[],[]⟩ .n) .n)) [.tmp 2] (gc aV (gc D7 aD)) func169 ntmps169 (fun a _=>(Gr a).trans) (fun _=>by kernel_rfl)
def aC5:SU:=⟨[i6,i6],[i6],false,false,fun(a:Int×Int)=>some (mE a.1 a.2)⟩
theorem iH:OK 142 aC5:=mkS .n [.tmp 4] (gc fU (gc jT (gc D7 aD))) func142 ntmps142 (fun a _=>(aCp a.1 a.2).trans) (fun _=>by kernel_rfl)
def Vw:SU:=⟨[i6,i6],[i6],false,false,fun(a:Int×Int)=>some (Ny a.1 a.2)⟩
theorem xA:OK 143 Vw:=mkS .n [.tmp 4] (gc dK (gc iH aD)) func143 ntmps143 (fun a _=>(Uw a.1 a.2).trans) (fun _=>by kernel_rfl)
def Qf:SU:=⟨[i6,i6,i6],[i6],false,false,fun(a:Int×Int×Int)=>some (Oa a.1 a.2.1 a.2.2)⟩
theorem Qg:OK 88 Qf:=mkS .n [.tmp 6] (gc xA (gc iH aD)) func88 ntmps88 (fun a _=>(Pp a.1 a.2.1 a.2.2).trans) (fun _=>by kernel_rfl)
def Z4:SU:=⟨[i6,i6],[i6],false,false,fun(a:Int×Int)=>some (uT a.1 a.2)⟩
theorem Cu:OK 87 Z4:=mkS .n [.tmp 4] (gc dK (gc Vd aD)) func87 ntmps87 (fun a _=>(V5 a.1 a.2).trans) (fun _=>by kernel_rfl)
def aIh:SU:=⟨[.st 160],[i6],false,false,fun(a:D.aAT)=>some (pR a)⟩
theorem xB:OK 144 aIh:=mkS .n [.tmp 2] aD func144 ntmps144 (fun a _=>(aG6 a).trans) (fun _=>by kernel_rfl)
def Z5:SU:=⟨[.st 160],[.st 163],true,false,fun(a:D.aAT)=>some (Yh a)⟩
theorem Z6:OK 89 Z5:=mkS (.s .n (.s (.r (some 4) (od 5 [2,4])) .n)) [.cell 2 163] (gc xB aD) func89 ntmps89 (fun a _=>(V6 a).trans) (fun _=>by kernel_rfl)
def D8:SU:=⟨[i6,i6],[i6],false,false,fun(a:Int×Int)=>some (Ed a.1 a.2)⟩
theorem zI:OK 90 D8:=mkS .n [.tmp 4] (gc dK aD) func90 ntmps90 (fun a _=>(Zu a.1 a.2).trans) (fun _=>by kernel_rfl)
def aIi:SU:=⟨[i6,i6],[i6],false,false,fun(a:Int×Int)=>some (aFx a.1 a.2)⟩
theorem Me:OK 91 aIi:=mkS .n [.tmp 4] (gc aV (gc bZ aD)) func91 ntmps91 (fun a _=>(aHi a.1 a.2).trans) (fun _=>by kernel_rfl)
def Z7:SU:=⟨[i6,i6,i6,i6, .sl 3,i6,i6],[.st 35, .sl 163, .bool],true,false,fun(a:Int×Int×Int×Int×(List Int)×Int×Int)=>gd (a.2.2.2.2.1.length≤34359738368) (some (Jb a.1 a.2.1 a.2.2.1 a.2.2.2.1 a.2.2.2.2.1 a.2.2.2.2.2.1 a.2.2.2.2.2.2))⟩
theorem Z8:OK 36 Z7:=mkS (.s .n (.s .n (.s (.s (.rj 4 ⟨[(28,25)],[.dat (.s 52) .bool],[],[]⟩ .n) .n) (.s .n (.s .n (.s (.j ⟨[(19,2),(41,16)],[.tr (.s 19) 2 163 true],[],[]⟩ (.s .n (.s (.l ⟨[(19,2),(41,16)],[.tr (.s 19) 2 163 true, .nat (.s 20)],[],[]⟩ FUEL .n) .n))) .n)))))) [.cell 14 35, .tmp 15, .tmp 16] (gc Vv (gc aV (gc bN (gc jT (gc Qg (gc Cu (gc Z6 (gc zI (gc Me aD))))))))) func36 ntmps36 (fun a _=>aF (V7 a.1 a.2.1 a.2.2.1 a.2.2.2.1 a.2.2.2.2.1 a.2.2.2.2.2.1 a.2.2.2.2.2.2)) (fun _=>by kernel_rfl)
def aC6:SU:=⟨[i6,i6,i6,i6,i6],[.st 41],false,false,fun(a:Int×Int×Int×Int×Int)=>some (dH a.1 a.2.1 a.2.2.1 a.2.2.2.1 a.2.2.2.2)⟩
theorem Gc:OK 9 aC6:=mkS (.s .n (.s (.s (.rj 4 ⟨[(30,21)],[.dat (.s 50) .bool],[],[]⟩ .n) .n) (.s .n (.s .n (.s (.j ⟨[(12,3),(41,33)],[.tr (.s 12) 2 128 true, .nt (.c 1 2) 72 true, .nt (.c 1 3) 4 true],[],[]⟩ (.s .n (.s (.l ⟨[(12,3),(41,33)],[.tr (.s 12) 2 128 true, .nat (.s 13), .nt (.c 1 2) 72 true, .nt (.c 1 3) 4 true],[],[]⟩ FUEL (.s .n (.s (.s (.s .n (.s .n (.s .n (.r none [(0,true),(1,true),(2,true),(4,true),(5,true),(6,true),(7,true),(8,true),(3,false),(9,false),(10,true),(11,true),(12,true),(13,true)])))) .n) .n))) .n))) (.s .n (.s .n (.s .n (.s (.il 3 (.s .n (.s .n (.s (.j ⟨[(5,5),(1,40)],[.tr (.s 5) 10 110 false],[],[]⟩ (.s .n (.s (.l ⟨[(5,5),(1,40)],[.tr (.s 5) 10 110 false, .nat (.s 6)],[],[]⟩ FUEL (.s .n (.s (.j ⟨[(5,1),(1,3),(5,36)],[.tr (.s 5) 10 110 false],[],[]⟩ (.s (.s .n (.s (.j ⟨[(9,1),(16,21)],[.dat (.c 12 0) (.str), .dat (.c 12 1) (.sl 123), .dat (.c 12 2) i6, .dat (.c 12 3) i6, .dat (.c 12 4) (.sl 217), .dat (.c 12 5) (.sl 3)],[],[]⟩ (.s .n (.s (.l ⟨[(9,1),(16,21)],[.nat (.s 9), .dat (.c 12 0) (.str), .dat (.c 12 1) (.sl 123), .dat (.c 12 2) i6, .dat (.c 12 3) i6, .dat (.c 12 4) (.sl 217), .dat (.c 12 5) (.sl 3)],[],[]⟩ FUEL (.s .n (.s (.s (.y false none (some 15) [(0,true),(1,true),(2,true),(3,true),(4,true),(5,true),(6,true),(7,true),(9,true),(8,false),(10,false),(11,false),(12,true),(13,true),(14,true),(15,false)]) .n) .n))) .n))) .n)) .n)) .n))) .n))) .n))) .n) (.s (.j ⟨[(18,1),(90,20)],[.tr (.c 1 2) 3 72 true],[],[]⟩ (.s .n (.s (.l ⟨[(18,1),(90,20)],[.nat (.s 18), .tr (.c 1 2) 3 72 true],[],[]⟩ FUEL bFf) .n))) (.s (.j ⟨[(19,2),(108,23)],[.tr (.c 1 2) 3 72 true],[],[]⟩ (.s .n (.s (.l ⟨[(19,2),(108,23)],[.nat (.s 19), .tr (.c 1 2) 3 72 true],[],[]⟩ FUEL (.s .n (.s (.j ⟨[(20,1),(112,19)],[.tr (.c 1 2) 3 72 true],[],[]⟩ (.s (.s .n (.s (.l ⟨[(20,1),(112,19)],[.nat (.s 20), .tr (.c 1 2) 3 72 true],[],[]⟩ FUEL (.s .n (.s (.s (.y false none (some 14) [(0,true),(1,true),(2,true),(3,true),(4,true),(5,true),(6,true),(8,true),(7,false),(9,false),(10,true),(11,true),(12,true),(13,true),(14,false)]) .n) .n))) .n)) .n)) .n))) .n))) (.s .n (.s .n (.s .n (.s (.j ⟨[(24,1),(148,20)],[.tr (.c 1 2) 3 72 true],[],[]⟩ (.s .n (.s (.l ⟨[(24,1),(148,20)],[.dat (.s 24) i6, .tr (.c 1 2) 3 72 true],[],[]⟩ FUEL bFf) .n))) (.s .n (.s (.j ⟨[(25,2),(167,12)],[.tr (.s 25) 19 3 true],[],[]⟩ (.s .n (.s (.l ⟨[(25,2),(167,12)],[.tr (.s 25) 19 3 true, .dat (.s 26) i6],[],[]⟩ FUEL .n) .n))) .n))))))))))))))))) [.cell 10 41] (gc aV (gc bN (gc zD (gc Cq (gc fH (gc nH (gc tC (gc kI (gc aCx (gc (sIl 28) (gc pE (gc fJ (gc mF (gc nJ (gc mG (gc Md (gc bZ (gc Z8 (gcp Lu (gc Vk (gc zG (gcp wW aD)))))))))))))))))))))) func9 ntmps9 (fun a _=>(aCr a.1 a.2.1 a.2.2.1 a.2.2.2.1 a.2.2.2.2).trans) (fun _=>by kernel_rfl)
def aJ7:SU:=⟨[.st 100],[.st 100, .st 41],true,true,fun(a:D.aAR)=>gd (bP a) (some (kX a))⟩
theorem aJ8:OK 13 aJ7:=mkP .n [.cell 2 41] (gc oP (gc Gc aD)) func13 ntmps13 (fun(a:D.aAR) _=>aF (aJw a)) (fun _=>by kernel_rfl)
def aJ9:SU:=⟨[.sl 5,i6],[i6],false,false,fun(a:(List Int)×Int)=>some (xY a.1 a.2)⟩
theorem aKa:OK 15 aJ9:=mkS .n [.tmp 4] aD func15 ntmps15 (fun a _=>(aJv a.1 a.2).trans) (fun _=>by kernel_rfl)
def aKb:SU:=⟨[.st 100,i6],[.st 100, .bool],true,true,fun(a:D.aAR×Int)=>gd (bP a.1) (some (Ex a.1 a.2))⟩
theorem aKc:OK 97 aKb:=mkP .n [.tmp 4] (gc oP aD) func97 ntmps97 (fun a _=>aF (aJu a.1 a.2)) (fun _=>by kernel_rfl)
def aC7:SU:=⟨[.st 100],[.st 100, .st 62],true,true,fun(a:D.aAR)=>gd (bP a) (some (Ef a))⟩
theorem aC8:OK 41 aC7:=mkP (.s .n (.s .n (.s (.j ⟨[(16,13)],[.dat (.c 0 0) (.sl 5), .dat (.c 0 1) i6, .dat (.c 0 2) i6, .dat (.c 2 0) i6, .dat (.c 2 3) i6],[],[]⟩ (.s .n (.s (.s .n (.s .n (.s (.j ⟨[(23,3)],[.dat (.s 23) .bool],[],[]⟩ .n) .n))) .n))) .n))) [.cell 2 62] (gc oP (gc aKc aD)) func41 ntmps41 (fun(a:D.aAR) _=>aF (aCt a)) (fun _=>by kernel_rfl)
def Z9:SU:=⟨[.st 100,i6],[.st 100, .sl 62],true,true,fun(a:D.aAR×Int)=>gd (bP a.1∧a.2≤256) (some (Oc a.1 a.2))⟩
theorem aAa:OK 14 Z9:=mkP (.s .n (.s .n (.s (.j ⟨[(5,2),(1,12)],[.tr (.s 5) 1 62 true, .dat (.c 0 0) (.sl 5), .dat (.c 0 1) i6, .dat (.c 0 2) i6],[],[]⟩ (.s .n (.s (.l ⟨[(5,2),(4,9)],[.tr (.s 5) 1 62 true, .dat (.s 6) i6, .dat (.c 0 0) (.sl 5), .dat (.c 0 1) i6, .dat (.c 0 2) i6],[],[]⟩ FUEL .n) .n))) .n))) [.tmp 4] (gc oP (gc aC8 aD)) func14 ntmps14 (fun a _=>aF (X3 a.1 a.2)) (fun _=>by kernel_rfl)
def Vx:SU:=⟨[.sl 5],[.st 41, .sl 62],false,false,fun(a:(List Int))=>gd (a.length≤1048576) (some (aBq a))⟩
theorem Vy:OK 5 Vx:=mkS (.s .n (.s (.il 1 (.s .n (.s .n (.s (.j ⟨[(3,2),(3,20)],[.dat (.s 3) i6],[],[]⟩ (.s .n (.s (.l ⟨[(3,2),(3,20)],[.dat (.s 3) i6, .dat (.s 4) i6],[],[]⟩ FUEL (.s (.s (.rj 5 ⟨[(12,4)],[.dat (.s 15) .bool],[],[]⟩ .n) .n) .n)) .n))) .n))) .n) (.s .n (.s (.u [0,1] [] (od 8 [3,4,5,6,7])) .n)))) [.cell 2 41, .tmp 3] (gc (sIl 12) (gc aJ8 (gc aKa (gc aAa aD)))) func5 ntmps5 (fun(a:(List Int)) _=>aF (Va a)) (fun _=>by kernel_rfl)
def aIj:SU:=⟨[.st 163],[.st 163],true,false,fun(a:D.aAA)=>gd (a.sz≤34359738368) (some (a))⟩
theorem pF:OK 101 aIj:=mkS .n [.cell 2 163] aD func101 ntmps101 (fun(a:D.aAA) _=>aF (aGy a)) (fun _=>by kernel_rfl)
def aC9:SU:=⟨[.sl 163],[.sl 163],true,false,fun(a:(List D.aAA))=>gd (Nv D.aAA.sz a≤34359738368) (some (a))⟩
theorem mZ:OK 45 aC9:=mkS (.s .n (.s .n (.s (.j ⟨[(3,2),(1,14)],[.tr (.s 3) 0 163 true],[],[]⟩ (.s .n (.s (.l ⟨[(3,2),(1,14)],[.tr (.s 3) 0 163 true, .nat (.s 4)],[],[]⟩ FUEL .n) .n))) .n))) [.tmp 2] (gc pF aD) func45 ntmps45 (fun(a:(List D.aAA)) _=>aF (aCe a)) (fun _=>by kernel_rfl)
def aIk:SU:=⟨[.st 39],[.st 39],true,false,fun(a:D.aAP)=>gd (a.sz≤34359738368) (some (a))⟩
theorem Mf:OK 46 aIk:=mkS .n [.cell 2 39] aD func46 ntmps46 (fun(a:D.aAP) _=>aF (aGz a)) (fun _=>by kernel_rfl)
def aIl:SU:=⟨[.st 41],[.st 41],true,false,fun(a:D.World)=>gd (a.sz≤34359738368) (some (a))⟩
theorem bL:OK 16 aIl:=mkS (.s .n (.s .n (.s .n (.s (.j ⟨[(4,1),(4,18)],[.tr (.c 2 2) 3 72 true],[],[]⟩ (.s .n (.s (.l ⟨[(4,1),(4,18)],[.nat (.s 4), .tr (.c 2 2) 3 72 true],[],[]⟩ FUEL bEp) .n))) (.s .n (.s .n (.s .n (.s (.j ⟨[(5,1),(32,18)],[.tr (.c 2 8) 8 110 true],[],[]⟩ (.s .n (.s (.l ⟨[(5,1),(32,18)],[.nat (.s 5), .tr (.c 2 8) 8 110 true],[],[]⟩ FUEL bEp) .n))) .n)))))))) [.cell 2 41] (gc lC (gc wY (gc kY (gc mZ (gc Mf aD))))) func16 ntmps16 (fun(a:D.World) _=>aF (aG0 a)) (fun _=>by kernel_rfl)
def Gy:SU:=⟨[.st 39],[.bool],false,false,fun(a:D.aAP)=>gd (a.sz≤34359738368) (some (fO a))⟩
theorem qE:OK 103 Gy:=mkS (.s .n (.s (.jx ⟨[(2,47)],[],[],[]⟩ (.s .n (.s (.l ⟨[(2,47)],[.nat (.s 3)],[],[]⟩ FUEL (.s .n (.s (.s (.s .n (.s (.rj 5 ⟨[(21,28)],[.dat (.s 48) .bool],[],[]⟩ (.r none (od 32 [2,7,13]))) .n)) .n) .n))) .n))) .n)) [.tmp 2] (gc aV aD) func103 ntmps103 (fun(a:D.aAP) _=>aF (Gh a)) (fun _=>by kernel_rfl)
def Qh:SU:=⟨[.st 41],[.bool],false,false,fun(a:D.World)=>gd (a.sz≤34359738368) (some (aN a))⟩
theorem dZ:OK 47 Qh:=mkS (.s .n (.s (.jx ⟨[(2,27)],[],[],[]⟩ (.s .n (.s (.l ⟨[(2,27)],[.nat (.s 3)],[],[]⟩ FUEL (.s .n (.s (.s (.s (.rj 8 ⟨[(18,11)],[.dat (.s 28) .bool],[],[]⟩ (.r none (od 18 [5,15]))) .n) .n) .n))) .n))) (.s (.rj 4 ⟨[(2,1),(29,37)],[.dat (.s 2) .bool],[],[]⟩ .n) .n))) [.tmp 2] (gc gX (gc fJ (gc aV (gc qE (gc fZ (gc bN aD)))))) func47 ntmps47 (fun(a:D.World) _=>aF (Pb a)) (fun _=>by kernel_rfl)
def Cw:SU:=⟨[.st 108,i6],[.st 108],true,false,fun(a:D.aAB×Int)=>gd (a.1.sz≤34359738368) (some (kM a.1 a.2))⟩
theorem Cx:OK 104 Cw:=mkS (.s .n (.s .n (.s .n (.s .n (.s (.j ⟨[(6,1),(8,25)],[.tr (.c 2 2) 3 217 true],[],[]⟩ (.s .n (.s (.l ⟨[(6,1),(8,25)],[.nat (.s 6), .tr (.c 2 2) 3 217 true],[],[]⟩ FUEL (.s .n (.s (.j ⟨[(22,18)],[.tr (.c 2 2) 3 217 true],[],[]⟩ (.s (.s .n (.s (.r (some 8) (od 11 [7,8,9,10])) .n)) .n)) .n))) .n))) .n))))) [.cell 4 108] (gc jU (gc oW aD)) func104 ntmps104 (fun a _=>aF (Co a.1 a.2)) (fun _=>by kernel_rfl)
def aIm:SU:=⟨[.st 41],[.st 41, .bool],true,false,fun(a:D.World)=>gd (a.sz≤34359738368) (some (Av a))⟩
theorem aIn:OK 48 aIm:=mkS (.s .n (.s .n (.s .n (.s .n (.s (.j ⟨[(5,1),(11,21)],[.ti 7 110 true],[],[]⟩ (.s .n (.s (.l ⟨[(5,1),(11,21)],[.nat (.s 5), .ti 7 110 true],[],[]⟩ FUEL (.s .n (.s (.s (.r (some 14) (od 15 [11,14])) .n) .n))) .n))) .n))))) [.cell 2 41, .tmp 3] (gc bL (gc dZ (gc Cx aD))) func48 ntmps48 (fun(a:D.World) _=>aF (aHn a)) (fun _=>by kernel_rfl)
def aDa:SU:=⟨[.st 41,i6,i6],[.bool],false,false,fun(a:D.World×Int×Int)=>gd (a.1.sz≤34359738368) (some (dU a.1 a.2.1 a.2.2))⟩
theorem kC:OK 108 aDa:=mkS (.s .n (.s (.rj 3 ⟨[(6,1),(2,12)],[.dat (.s 6) .bool],[],[]⟩ .n) .n)) [.tmp 6] (gc dZ (gc aV aD)) func108 ntmps108 (fun a _=>aF (aCn a.1 a.2.1 a.2.2)) (fun _=>by kernel_rfl)
def aAb:SU:=⟨[.str],[.st 220],false,false,fun(a:ByteArray)=>some ((D.aAK.mk true a 443))⟩
theorem rA:OK 150 aAb:=mkS .n [.cell 2 220] aD func150 ntmps150 (fun a _=>(V4 a).trans) (fun _=>by kernel_rfl)
def Gz:SU:=⟨[.st 108,i6,i6],[.st 108, .st 217, .bool],false,false,fun(a:D.aAB×Int×Int)=>gd (a.1.sz≤34359738368) (some (iF a.1 a.2.1 a.2.2))⟩
theorem Ha:OK 198 Gz:=mkS (.s .n (.s .n (.s (.s (.rj 4 ⟨[(16,15)],[.dat (.s 30) .bool],[],[]⟩ .n) .n) bFe))) [.cell 6 108, .cell 7 217, .tmp 8] (gc oW (gc jU (gc aV (gc (bBj 2000000) aD)))) func198 ntmps198 (fun a _=>aF (Gp a.1 a.2.1 a.2.2)) (fun _=>by kernel_rfl)
def He:SU:=⟨[.st 108,i6],[i6],false,false,fun(a:D.aAB×Int)=>some (iN a.1 a.2)⟩
theorem qF:OK 199 He:=mkS .n [.tmp 4] (gc dK aD) func199 ntmps199 (fun a _=>(Gn a.1 a.2).trans) (fun _=>by kernel_rfl)
def D9:SU:=⟨[.st 110,i6,i6],[.st 110,i6,i6, .bool],false,false,fun(a:D.Site×Int×Int)=>gd (a.1.sz≤34359738368) (some (qR a.1 a.2.1 a.2.2))⟩
theorem E5:OK 186 D9:=mkS (.s .n (.s .n (.s .n (.s (.s (.rj 4 ⟨[(28,10)],[.dat (.s 37) .bool],[],[]⟩ .n) .n) (.s .n (.s (.u [1] [] (od 11 [6,7,8,9,10])) .n)))))) [.cell 6 110, .tmp 7, .tmp 8, .tmp 9] (gc kY (gc Ha (gc gX (gc jV (gc qF aD))))) func186 ntmps186 (fun a _=>aF (Zr a.1 a.2.1 a.2.2)) (fun _=>by kernel_rfl)
def aDb:SU:=⟨[.st 220],[.bool],false,false,fun(a:D.aAK)=>gd (a.Host.size≤34359738368) (some (nM a))⟩
theorem tJ:OK 211 aDb:=mkS (.s .n (.s (.rj 4 ⟨[(2,1),(3,5)],[.dat (.s 2) .bool],[],[]⟩ .n) .n)) [.tmp 2] (gc zW (gc aV aD)) func211 ntmps211 (fun(a:D.aAK) _=>aF (aCm a)) (fun _=>by kernel_rfl)
def Qi:SU:=⟨[.st 220],[.str],false,false,fun(a:D.aAK)=>gd (jY a) (some (mM a))⟩
theorem uL:OK 200 Qi:=mkS (.s .n (.s .n (.s .n (.s .n (.s (.j ⟨[(3,2),(3,2)],[.dat (.s 3) (.str), .dat (.s 4) i6],[],[]⟩ .n) (.s .n (.s (.r none (od 10 [7])) .n))))))) [.tmp 2] (gc tJ (gc P8 aD)) func200 ntmps200 (fun(a:D.aAK) _=>aF (Po a)) (fun _=>by kernel_rfl)
def Cy:SU:=⟨[.st 243],[.sl 3],true,false,fun(a:D.aAL)=>gd (a.Site.size≤34359738300∧a.aAK.size≤34359738300) (some (bO a))⟩
theorem nS:OK 202 Cy:=mkS (.s .n (.s .n (.s (.j ⟨[(3,3)],[.dat (.s 3) i6],[],[]⟩ .n) (.s (.r none [(0,true),(1,true),(3,true),(4,true),(6,true),(7,true),(8,true),(9,true),(10,true),(2,false),(5,false),(11,false),(12,true)]) .n)))) [.tmp 2] (gc tH (gc nR aD)) func202 ntmps202 (fun(a:D.aAL) _=>aF (Cn a)) (fun _=>by kernel_rfl)
def Qj:SU:=⟨[.st 67],[.bool],false,false,fun(a:D.aAI)=>some (rY a)⟩
theorem Qk:OK 213 Qj:=mkS (.s .n (.s (.rj 4 ⟨[(2,1),(3,15)],[.dat (.s 2) .bool],[],[]⟩ .n) .n)) [.tmp 2] (gc aV (gc bN aD)) func213 ntmps213 (fun a _=>(Pm a).trans) (fun _=>by kernel_rfl)
def Mg:SU:=⟨[.st 67, .str,i6, .sl 3],[.st 67,i6, .bool],false,false,fun(a:D.aAI×ByteArray×Int×(List Int))=>gd (a.2.1.size≤34359738300∧a.2.2.2.length≤34359738200) (some (fC a.1 a.2.1 a.2.2.1 a.2.2.2))⟩
theorem Mh:OK 201 Mg:=mkS (.s .n (.s (.s (.rj 4 ⟨[(15,5)],[.dat (.s 19) .bool],[],[]⟩ .n) .n) (.s .n (.s .n (.s (.u [1] [4,10] [(0,true),(1,true),(2,true),(3,true),(6,true),(8,true),(9,true),(5,false),(4,false),(7,false),(10,false),(11,false),(12,false),(13,false),(14,false),(15,false)]) .n))))) [.cell 8 67, .tmp 9, .tmp 10] (gc Qk (gc wV (gc nG aD))) func201 ntmps201 (fun a _=>aF (Ld a.1 a.2.1 a.2.2.1 a.2.2.2)) (fun _=>by kernel_rfl)
def aKd:SU:=⟨[.st 220, .str],[.bool],false,false,fun(a:D.aAK×ByteArray)=>gd (Eu a.1 a.2) (some (rJ a.1 a.2))⟩
theorem Su:OK 203 aKd:=mkS (.s .n (.s (.s (.rj 4 ⟨[(9,16)],[.dat (.s 24) .bool],[],[]⟩ .n) .n) (.s .n (.s (.rj 5 ⟨[(4,1),(30,20)],[.dat (.s 4) .bool],[],[]⟩ .n) .n)))) [.tmp 4] (gc tJ (gc zW (gc tF aD))) func203 ntmps203 (fun a _=>aF (aJq a.1 a.2)) (fun _=>by kernel_rfl)
def Mi:SU:=⟨[.st 67, .st 220, .str,i6,i6, .bool],[.st 67, .st 243, .bool],false,false,fun(a:D.aAI×D.aAK×ByteArray×Int×Int×Bool)=>gd (Eu a.2.1 a.2.2.1) (some (iO a.1 a.2.1 a.2.2.1 a.2.2.2.1 a.2.2.2.2.1 a.2.2.2.2.2))⟩
theorem Mj:OK 187 Mi:=mkS (.s .n (.s .n (.s (.y false (some 10) (some 11) (od 14 [4,5,10,11])) (.s (.s (.rj 5 ⟨[(40,4)],[.dat (.s 43) .bool],[],[]⟩ .n) .n) (.s .n (.s .n bB1)))))) [.cell 12 67, .cell 13 243, .tmp 14] (gc uL (gc nS (gc Mh (gc Su aD)))) func187 ntmps187 (fun a _=>aF (Lg a.1 a.2.1 a.2.2.1 a.2.2.2.1 a.2.2.2.2.1 a.2.2.2.2.2)) (fun _=>by kernel_rfl)
def Mk:SU:=⟨[.st 108,i6],[i6],false,false,fun(a:D.aAB×Int)=>gd (a.1.Open.length≤34359738368) (some (dG a.1 a.2))⟩
theorem Ml:OK 214 Mk:=mkS bHc [.tmp 4] aD func214 ntmps214 (fun a _=>aF (Lb a.1 a.2)) (fun _=>by kernel_rfl)
def Mo:SU:=⟨[.st 108,i6,i6,i6],[.st 108, .bool],true,false,fun(a:D.aAB×Int×Int×Int)=>gd (a.1.sz≤34359738368) (some (rX a.1 a.2.1 a.2.2.1 a.2.2.2))⟩
theorem Mq:OK 204 Mo:=mkS (.s .n (.s .n (.s (.s (.rj 4 ⟨[(18,4)],[.dat (.s 21) .bool],[],[]⟩ .n) .n) (.s .n (.s (.y true none (some 13) [(1,true),(2,true),(3,true),(4,true),(6,true),(7,true),(8,true),(9,true),(10,true),(0,false),(5,false),(11,false),(12,false),(13,false)]) (.s (.u [1] [] (od 21 [19,20])) .n)))))) [.cell 8 108, .tmp 9] (gc Ml (gc jU (gc oW aD))) func204 ntmps204 (fun a _=>aF (Lc a.1 a.2.1 a.2.2.1 a.2.2.2)) (fun _=>by kernel_rfl)
def Ql:SU:=⟨[.st 123,i6],[.bool],false,false,fun(a:D.aAF×Int)=>gd (a.1.sz≤34359738368) (some (xV a.1 a.2))⟩
theorem Qm:OK 205 Ql:=mkS (.s .n (.s (.s (.rj 4 ⟨[(9,7)],[.dat (.s 15) .bool],[],[]⟩ .n) .n) (.s (.jx ⟨[(4,2),(10,14)],[],[],[]⟩ (.s .n (.s (.l ⟨[(4,2),(10,14)],[.nat (.s 5)],[],[]⟩ FUEL .n) .n))) .n))) [.tmp 4] (gc fT (gc aV aD)) func205 ntmps205 (fun a _=>aF (Pn a.1 a.2)) (fun _=>by kernel_rfl)
def Hf:SU:=⟨[.st 123,i6],[i6],false,false,fun(a:D.aAF×Int)=>gd (a.1.Credentials.length≤34359738368) (some (aR a.1 a.2))⟩
theorem qG:OK 153 Hf:=mkS bHc [.tmp 4] aD func153 ntmps153 (fun a _=>aF (Gm a.1 a.2)) (fun _=>by kernel_rfl)
def Vz:SU:=⟨[.str],[.st 220, .bool],false,false,fun(a:ByteArray)=>gd (aWu a) (some (vB a))⟩
theorem Wd:OK 217 Vz:=mkS (.s .n (.s .n (.s .n (.s (.j ⟨[(5,1),(4,24)],[.dat (.s 5) (.str), .dat (.c 1 0) .bool, .dat (.c 1 1) (.str), .dat (.c 1 2) i6],[],[]⟩ (.s (.s (.rj 4 ⟨[(10,1),(3,5)],[.dat (.s 10) .bool],[],[]⟩ .n) (.s .n (.s (.rj 4 ⟨[(22,1),(3,5)],[.dat (.s 22) .bool],[],[]⟩ .n) .n))) .n)) (.s .n (.s (.jx ⟨[(3,1),(2,3),(27,27)],[.dat (.c 1 1) (.str), .dat (.c 1 2) i6],[],[]⟩ (.s .n (.s (.l ⟨[(3,1),(2,3),(27,27)],[.nat (.s 6)],[],[]⟩ FUEL .n) .n))) (.s (.s (.rj 4 ⟨[(66,6)],[.dat (.s 71) .bool],[],[]⟩ .n) .n) .n))))))) [.cell 2 220, .tmp 3] (gc aCc (gc tJ (gc uL aD))) func217 ntmps217 (fun(a:ByteArray) _=>aF (Ut a)) (fun _=>by kernel_rfl)
def Hg:SU:=⟨[i6, .st 243, .str,i6,i6],[i6],false,false,fun(a:Int×D.aAL×ByteArray×Int×Int)=>gd (AsP a.2.1 a.2.2.1) (some (jZ a.1 a.2.1 a.2.2.1 a.2.2.2.1 a.2.2.2.2))⟩
theorem Hl:OK 215 Hg:=mkS (.s .n (.s .n (.s (.s (.s (.rj 5 ⟨[(19,1),(4,10)],[.dat (.s 19) .bool],[],[]⟩ .n) (.s .n (.s .n (.s .n (.s .n (.s .n (.s (.y true (some 5) none [(0,true),(1,true),(3,true),(4,true),(7,true),(8,true),(2,false),(5,false),(6,false),(9,false),(10,false),(11,true)]) .n))))))) .n) .n))) [.tmp 10] (gc Wd (gc Su (gc nS (gc oU aD)))) func215 ntmps215 (fun a _=>aF (Gq a.1 a.2.1 a.2.2.1 a.2.2.2.1 a.2.2.2.2)) (fun _=>by kernel_rfl)
def Mr:SU:=⟨[.st 123, .st 243, .str,i6],[.st 123,i6],true,false,fun(a:D.aAF×D.aAL×ByteArray×Int)=>gd (AsP a.2.1 a.2.2.1∧a.1.sz≤34359738368) (some (lY a.1 a.2.1 a.2.2.1 a.2.2.2))⟩
theorem Mt:OK 206 Mr:=mkS (.s .n (.s .n (.s .n (.s (.s (.rj 4 ⟨[(22,12)],[.dat (.s 33) .bool],[],[]⟩ .n) .n) (.s (.r none (od 17 [15])) (.s (.j ⟨[(51,17)],[.ti 3 125 true],[],[]⟩ .n) .n)))))) [.cell 8 123, .tmp 9] (gc oV (gc qG (gc fT (gc Hl aD)))) func206 ntmps206 (fun a _=>aF (Lh a.1 a.2.1 a.2.2.1 a.2.2.2)) (fun _=>by kernel_rfl)
def We:SU:=⟨[.st 110,i6,i6,i6, .st 243],[.st 110,i6,i6],true,false,fun(a:D.Site×Int×Int×Int×D.aAL)=>gd (AsP a.2.2.2.2 a.1.Name∧a.1.sz≤34359738300) (some (rM a.1 a.2.1 a.2.2.1 a.2.2.2.1 a.2.2.2.2))⟩
theorem Wh:OK 188 We:=mkS (.s .n (.s .n (.s .n (.s (.s (.rj 4 ⟨[(27,4)],[.dat (.s 30) .bool],[],[]⟩ .n) .n) (.s .n (.s .n (.s .n (.s .n (.s (.y false (some 16) (some 17) (od 19 [11,12,16,17])) .n))))))))) [.cell 10 110, .tmp 11, .tmp 12] (gc kY (gc jV (gc gX (gc Mq (gc Qm (gc qF (gc Mt aD))))))) func188 ntmps188 (fun a _=>aF (Uu a.1 a.2.1 a.2.2.1 a.2.2.2.1 a.2.2.2.2)) (fun _=>by kernel_rfl)
def E8:SU:=⟨[.st 39,i6,i6,i6],[.st 39, .bool],true,false,fun(a:D.aAP×Int×Int×Int)=>gd (a.1.sz≤34359738300) (some (xU a.1 a.2.1 a.2.2.1 a.2.2.2))⟩
theorem kN:OK 152 E8:=mkS (.s .n (.s .n (.s .n (.s (.j ⟨[(10,3),(12,26)],[.tr (.s 10) 2 215 true],[],[]⟩ (.s .n (.s (.s .n (.s (.j ⟨[(11,2),(15,13)],[.dat (.s 11) i6],[],[]⟩ (.s .n (.s (.l ⟨[(11,2),(18,10)],[.dat (.s 11) i6, .dat (.s 12) i6],[],[]⟩ FUEL (.s .n (.s (.j ⟨[(11,1),(23,6)],[.dat (.s 11) i6],[],[]⟩ .n) .n))) .n))) (.y true none (some 9) [(1,true),(2,true),(3,true),(5,true),(6,true),(7,true),(8,true),(0,false),(4,false),(9,false),(10,true)]))) .n))) (.s .n (.s (.s (.rj 4 ⟨[(56,5)],[.dat (.s 60) .bool],[],[]⟩ .n) .n) .n)))))) [.cell 8 39, .tmp 9] (gc qE (gc Mf aD)) func152 ntmps152 (fun a _=>aF (Zp a.1 a.2.1 a.2.2.1 a.2.2.2)) (fun _=>by kernel_rfl)
def aKe:SU:=⟨[.st 41,i6,i6, .st 220],[.st 41, .st 243,i6],true,false,fun(a:D.World×Int×Int×D.aAK)=>gd (jY a.2.2.2∧a.1.sz≤34359738200) (some (mD a.1 a.2.1 a.2.2.1 a.2.2.2))⟩
theorem aKf:OK 175 aKe:=mkS (.s .n (.s .n (.s .n (.s (.y false (some 13) (some 14) (od 18 [7,13,14])) (.s .n (.s (.u [] [16,17] [(0,true),(1,true),(2,true),(3,true),(4,true),(5,true),(6,true),(7,true),(9,true),(10,true),(8,false),(11,false),(12,true),(13,true),(14,true),(15,true),(16,false),(17,false),(18,false),(19,false),(20,false)]) (.s .n (.s .n (.s .n (.s (.s .n (.s bB1 .n)) (.s .n (.s .n bB1)))))))))))) [.cell 8 41, .cell 9 243, .tmp 10] (gc bL (gc kC (gc E5 (gc fJ (gc Mj (gc Wh (gc kN aD))))))) func175 ntmps175 (fun a _=>aF (aJr a.1 a.2.1 a.2.2.1 a.2.2.2)) (fun _=>by kernel_rfl)
def aDc:SU:=⟨[.st 41,i6,i6, .st 220],[.st 41,i6],true,false,fun(a:D.World×Int×Int×D.aAK)=>gd (jY a.2.2.2∧a.1.sz≤34359738200) (some (oJ a.1 a.2.1 a.2.2.1 a.2.2.2))⟩
theorem tK:OK 149 aDc:=mkS .n [.cell 8 41, .tmp 9] (gc aKf aD) func149 ntmps149 (fun a _=>aF (aCo a.1 a.2.1 a.2.2.1 a.2.2.2)) (fun _=>by kernel_rfl)
def Wi:SU:=⟨[.st 41,i6,i6],[.st 41,i6],true,false,fun(a:D.World×Int×Int)=>gd (a.1.sz≤34359738200) (some (xW a.1 a.2.1 a.2.2))⟩
theorem Wj:OK 105 Wi:=mkS (.s .n (.s (.s (.rj 6 ⟨[(13,7)],[.dat (.s 19) .bool],[],[]⟩ .n) .n) (.s (.r (some 10) (od 12 [4,6,7,10,11])) .n))) [.cell 6 41, .tmp 7] (gc kC (gc bL (gc fJ (gc rA (gc tK aD))))) func105 ntmps105 (fun a _=>aF (Uv a.1 a.2.1 a.2.2)) (fun _=>by kernel_rfl)
def E9:SU:=⟨[.st 41,i6,i6, .str],[.st 41,i6],true,false,fun(a:D.World×Int×Int×ByteArray)=>gd (O8 a.1 a.2.1 a.2.2.1 a.2.2.2∧a.1.sz≤34359738200) (some (aDz a.1 a.2.1 a.2.2.1 a.2.2.2))⟩
theorem F3:OK 106 E9:=mkS (.s .n (.s (.s (.rj 6 ⟨[(15,7)],[.dat (.s 21) .bool],[],[]⟩ .n) .n) (.s (.r (some 8) (od 10 [4,5,8,9])) .n))) [.cell 8 41, .tmp 9] (gc kC (gc bL (gc rA (gc tK aD)))) func106 ntmps106 (fun a _=>aF (o5 a.1 a.2.1 a.2.2.1 a.2.2.2)) (fun _=>by kernel_rfl)
def F4:SU:=⟨[.st 41,i6,i6],[.st 41,i6],true,false,fun(a:D.World×Int×Int)=>gd (a.1.sz≤34359738200) (some (Je a.1 a.2.1 a.2.2))⟩
theorem F5:OK 107 F4:=mkS (.s .n (.s (.s (.rj 6 ⟨[(13,8)],[.dat (.s 20) .bool],[],[]⟩ .n) .n) (.s (.r (some 10) (od 12 [4,6,7,10,11])) .n))) [.cell 6 41, .tmp 7] (gc kC (gc bL (gc fJ (gc rA (gc tK aD))))) func107 ntmps107 (fun a _=>aF (o6 a.1 a.2.1 a.2.2)) (fun _=>by kernel_rfl)
def aKg:SU:=⟨[.st 41, .st 62],[.st 41, .bool],true,false,fun(a:D.World×D.Event)=>gd (a.1.sz≤34359738200) (some (Ty a.1 a.2))⟩
theorem aKh:OK 49 aKg:=mkS (.s .n (.s .n (.s .n (.s (.j ⟨[(7,1),(1,38)],[.dat (.s 7) i6, .dat (.c 3 0) i6, .dat (.c 3 1) i6, .nt (.c 3 2) 72 true, .nt (.c 3 3) 4 true, .nt (.c 3 4) 128 true, .dat (.c 3 5) i6, .nt (.c 3 6) 187 true, .nt (.c 3 7) 89 true, .nt (.c 3 8) 110 true, .dat (.c 3 9) i6, .dat (.c 3 10) i6, .dat (.c 3 11) i6, .dat (.c 3 12) i6, .nt (.c 3 13) 163 true, .dat (.c 3 14) i6, .nt (.c 3 15) 215 true],[],[]⟩ (.s .n (.s (.s .n (.s .n (.s .n (.s (.y false none (some 14) (od 16 [7,10,14])) .n)))) .n))) .n)))) [.cell 4 41, .tmp 5] (gc Wj (gc fJ (gc F3 (gc F5 aD)))) func49 ntmps49 (fun a _=>aF (aJx a.1 a.2)) (fun _=>by kernel_rfl)
def Wl:SU:=⟨[.st 41,i6],[.st 41, .bool],true,false,fun(a:D.World×Int)=>gd (a.1.sz≤34359738368) (some (qU a.1 a.2))⟩
theorem Wm:OK 50 Wl:=mkS (.s .n (.s .n (.s (.s (.rj 5 ⟨[(13,7)],[.dat (.s 19) .bool],[],[]⟩ .n) .n) .n))) [.cell 4 41, .tmp 5] (gc bL (gc kC aD)) func50 ntmps50 (fun a _=>aF (Uz a.1 a.2)) (fun _=>by kernel_rfl)
def aDd:SU:=⟨[.st 41,i6],[.bool],false,false,fun(a:D.World×Int)=>gd (a.1.sz≤34359738368) (some (aN a.1&&aK a.1 a.2))⟩
theorem Gd:OK 115 aDd:=mkS (.s .n (.s (.rj 3 ⟨[(4,1),(2,8)],[.dat (.s 4) .bool],[],[]⟩ .n) .n)) [.tmp 4] (gc dZ (gc aV aD)) func115 ntmps115 (fun a _=>aF (aCj a.1 a.2)) (fun _=>by kernel_rfl)
def aIo:SU:=⟨[.st 41,i6,i6],[.st 41,i6],true,false,fun(a:D.World×Int×Int)=>gd (a.1.sz≤34359738100) (some (aI a.1 a.2.1 a.2.2))⟩
theorem pG:OK 55 aIo:=mkS (.s .n (.s .n (.s .n bFg))) [.cell 6 41, .tmp 7] (gc bL (gc Gd (gc Md aD))) func55 ntmps55 (fun a _=>aF (aHe a.1 a.2.1 a.2.2)) (fun _=>by kernel_rfl)
def aAc:SU:=⟨[.st 32, .sl 128, .st 29],[.st 32, .bool],true,false,fun(a:D.aAE×(List D.aAC)×D.aAH)=>gd (a.1.sz≤34359738368∧a.2.1.length≤34359738368∧a.2.2.sz≤34359738368) (some (kF a.1 a.2.1 a.2.2))⟩
theorem Cz:OK 151 aAc:=mkS (.s .n (.s .n (.s (.s (.rj 4 ⟨[(14,13)],[.dat (.s 26) .bool],[],[]⟩ .n) .n) .n))) [.cell 6 32, .tmp 7] (gc wY (gc fZ (gc oZ (gc Cr (gc gV (gc wU aD)))))) func151 ntmps151 (fun a _=>aF (U7 a.1 a.2.1 a.2.2)) (fun _=>by kernel_rfl)
def F6:SU:=⟨[.st 72,i6, .bool],[.st 72],true,false,fun(a:D.Device×Int×Bool)=>gd (a.1.sz≤34359738300) (some (lL a.1 a.2.1 a.2.2))⟩
theorem zJ:OK 110 F6:=mkS (.s .n (.s (.j ⟨[(7,17)],[.dat (.c 0 0) i6, .dat (.c 0 1) i6, .dat (.c 0 2) i6, .dat (.c 0 3) i6, .nt (.c 0 4) 128 true, .dat (.c 0 5) i6, .dat (.c 0 6) i6, .dat (.c 0 7) i6, .nt (.c 0 8) 197 true],[],[]⟩ (.s .n (.s (.s bIt (.l ⟨[(7,17)],[.dat (.s 7) i6, .dat (.c 0 0) i6, .dat (.c 0 1) i6, .dat (.c 0 2) i6, .dat (.c 0 3) i6, .tr (.c 0 4) 2 128 true, .dat (.c 0 5) i6, .dat (.c 0 6) i6, .dat (.c 0 7) i6, .tr (.c 0 8) 3 197 true],[],[]⟩ FUEL bIt)) .n))) .n)) [.cell 6 72] (gc fJ (gc mF aD)) func110 ntmps110 (fun a _=>aF (Zo a.1 a.2.1 a.2.2)) (fun _=>by kernel_rfl)
def F7:SU:=⟨[.st 41,i6],[.st 41, .bool],true,false,fun(a:D.World×Int)=>gd (a.1.sz≤10000000000) (some (fQ a.1 a.2))⟩
theorem zK:OK 54 F7:=mkS (.s .n (.s .n (.s (.s (.il 4 bIv .n) .n) .n))) [.cell 4 41, .tmp 5] (gc pG (gc (sIl 114) (gc bL (gc nJ (gc mG aD))))) func54 ntmps54 (fun a _=>aF (Zk a.1 a.2)) (fun _=>by kernel_rfl)
def Qn:SU:=⟨[.st 41,i6],[.st 41, .bool],true,false,fun(a:D.World×Int)=>gd (a.1.sz≤100000000) (some (jE a.1 a.2))⟩
theorem Qo:OK 51 Qn:=mkS (.s .n (.s .n (.s .n (.s (.s (.rj 3 ⟨[(28,11)],[.dat (.s 38) .bool],[],[]⟩ .n) .n) (.s .n (.s (.s (.il 9 bIr (.r (some 9) [(0,true),(1,true),(3,true),(4,true),(5,true),(6,true),(7,true),(8,true),(2,false),(9,false),(10,false)])) .n) (.s (.jx ⟨[(5,1),(4,3),(45,28)],[.ti 7 110 true],[],[]⟩ (.s .n (.s (.l ⟨[(5,1),(4,3),(45,28)],[.nat (.s 10), .ti 7 110 true],[],[]⟩ FUEL (.s .n (.s (.s (.s (.y false (some 15) (some 16) [(0,true),(1,true),(2,true),(3,true),(4,true),(5,true),(6,true),(7,true),(9,true),(8,false),(10,false),(11,false),(12,true),(13,true),(14,true),(15,false),(16,false),(17,true)]) .n) .n) .n))) .n))) (.s (.r (some 11) (od 12 [9,11])) (.s (.r (some 5) (od 8 [3,4,5,6,7])) (.s .n (.s .n (.s .n (.s (.s (.rj 3 ⟨[(123,4)],[.dat (.s 126) .bool],[],[]⟩ .n) .n) bHd))))))))))))) [.cell 4 41, .tmp 5] (gc pG (gc bL (gc zD (gc fH (gc (sIl 109) (gc fJ (gc zG (gc wW (gc zJ (gc Cq (gc zK (gc (sIl 111) (gc nH (gc bZ (gc gW (gc tC (gc kI (gc Cz (gc pE (gc kN aD)))))))))))))))))))) func51 ntmps51 (fun a _=>aF (Pk a.1 a.2)) (fun _=>by kernel_rfl)
def aKi:SU:=⟨[.st 41,i6],[.bool],false,false,fun(a:D.World×Int)=>gd (WOk a.1) (some (gF a.1 a.2))⟩
theorem Sw:OK 11 aKi:=mkS (.s .n (.s (.rj 7 ⟨[(4,1),(6,14)],[.dat (.s 4) .bool],[],[]⟩ (.r none [(0,true),(1,true),(2,true),(3,true),(4,true),(5,false),(6,true),(7,true),(8,true),(9,true),(11,true),(12,true),(13,true),(14,true),(15,true),(16,true),(10,false),(17,false),(18,false),(19,true),(20,true)])) .n)) [.tmp 4] (gc aV (gc jJ (gc fH (gc rP aD)))) func11 ntmps11 (fun a _=>aF (aJh a.1 a.2)) (fun _=>by kernel_rfl)
def Mv:SU:=⟨[.st 123,i6],[.st 123, .bool],true,false,fun(a:D.aAF×Int)=>gd (a.1.sz≤34359738368) (some (mK a.1 a.2))⟩
theorem Mw:OK 113 Mv:=mkS (.s .n (.s .n (.s .n (.s (.s (.rj 4 ⟨[(16,12)],[.dat (.s 27) .bool],[],[]⟩ .n) .n) .n)))) [.cell 4 123, .tmp 5] (gc oV (gc qG (gc fT aD))) func113 ntmps113 (fun a _=>aF (La a.1 a.2)) (fun _=>by kernel_rfl)
def aAd:SU:=⟨[.st 41,i6,i6],[.st 41, .bool],true,false,fun(a:D.World×Int×Int)=>gd (a.1.sz≤100000000) (some (jG a.1 a.2.1 a.2.2))⟩
theorem aAe:OK 52 aAd:=mkS (.s .n (.s .n (.s (.s (.rj 3 ⟨[(22,18)],[.dat (.s 39) .bool],[],[]⟩ .n) .n) (.s (.s (.il 8 bIr .n) .n) (.s (.j ⟨[(10,4),(40,35)],[.ti 7 110 true],[],[]⟩ (.s .n (.s (.l ⟨[(10,4),(40,35)],[.nat (.s 10), .ti 7 110 true],[],[]⟩ FUEL (.s .n (.s (.j ⟨[(11,3),(44,31)],[.ti 7 110 true],[],[]⟩ (.s (.s .n (.s .n (.s (.s .n (.r (some 9) (od 10 [9]))) .n))) .n)) .n))) .n))) (.s (.r (some 11) (od 12 [9,11])) (.s (.s (.il 1 bIv .n) .n) bHd))))))) [.cell 6 41, .tmp 7] (gc pG (gc Sw (gc bL (gc fH (gc (sIl 109) (gc jV (gc Mw (gc zJ (gc (sIl 114) (gc (sIl 111) (gc nH (gc bZ (gc gW (gc tC (gc kI (gc Cz (gc pE (gc nJ (gc mG (gc kN aD)))))))))))))))))))) func52 ntmps52 (fun a _=>aF (V3 a.1 a.2.1 a.2.2)) (fun _=>by kernel_rfl)
def F8:SU:=⟨[.st 41,i6, .str,i6, .bool],[.st 41, .bool],true,false,fun(a:D.World×Int×ByteArray×Int×Bool)=>gd (a.1.sz≤34359738300∧a.2.2.1.size≤34359738300) (some (xP a.1 a.2.1 a.2.2.1 a.2.2.2.1 a.2.2.2.2))⟩
theorem F9:OK 53 F8:=mkS .n [.cell 10 41, .tmp 11] (gc bL (gc Gd (gc mF aD))) func53 ntmps53 (fun a _=>aF (Yz a.1 a.2.1 a.2.2.1 a.2.2.2.1 a.2.2.2.2)) (fun _=>by kernel_rfl)
def aAf:SU:=⟨[.sl 163, .sl 3],[.bool],false,false,fun(a:(List D.aAA)×(List Int))=>gd (a.1.length≤34359738368∧a.2.length≤34359738368) (some (jQ a.1 a.2))⟩
theorem aAg:OK 189 aAf:=mkS (.s .n (.s (.jx ⟨[(4,32)],[],[],[]⟩ (.s .n (.s (.l ⟨[(4,32)],[.nat (.s 5)],[],[]⟩ FUEL (.s .n (.s (.jx ⟨[(4,1),(1,1),(6,23)],[],[],[]⟩ (.s (.s .n (.s .n (.s (.l ⟨[(4,1),(1,1),(15,14)],[.nat (.s 6)],[],[]⟩ FUEL bEq) .n))) .n)) .n))) .n))) .n)) [.tmp 4] (gc aV aD) func189 ntmps189 (fun a _=>aF (W9 a.1 a.2)) (fun _=>by kernel_rfl)
def G5:SU:=⟨[i6,i6,i6],[i6],false,false,fun(a:Int×Int×Int)=>some (vT a.1 a.2.1 a.2.2)⟩
theorem G6:OK 191 G5:=mkS .n [.tmp 6] (gc jT (gc xA (gc iH aD))) func191 ntmps191 (fun a _=>(Zx a.1 a.2.1 a.2.2).trans) (fun _=>by kernel_rfl)
def aAh:SU:=⟨[.sl 158],[.bool],false,false,fun(a:(List D.aAQ))=>gd (a.length≤34359738368) (some (Oo a))⟩
theorem rC:OK 195 aAh:=mkS (.s .n (.s (.jx ⟨[(2,41)],[],[],[]⟩ (.s .n (.s (.l ⟨[(2,41)],[.nat (.s 3)],[],[]⟩ FUEL (.s .n (.s (.jx ⟨[(2,1),(1,1),(6,32)],[],[],[]⟩ (.s (.s (.s (.rj 8 ⟨[(18,9)],[.dat (.s 26) .bool],[],[]⟩ .n) .n) (.s .n (.s (.l ⟨[(2,1),(1,1),(22,16)],[.nat (.s 4)],[],[]⟩ FUEL (.s .n (.s (.s (.s (.r none (od 11 [])) .n) .n) .n))) .n))) .n)) .n))) .n))) .n)) [.tmp 2] (gc aV aD) func195 ntmps195 (fun(a:(List D.aAQ)) _=>aF (T9 a)) (fun _=>by kernel_rfl)
def Mx:SU:=⟨[.st 160],[.bool],false,false,fun(a:D.aAT)=>some (lJ a)⟩
theorem sS:OK 196 Mx:=mkS (.s .n (.s (.rj 5 ⟨[(2,1),(4,17)],[.dat (.s 2) .bool],[],[]⟩ .n) .n)) [.tmp 2] (gc rC (gc aV aD)) func196 ntmps196 (fun a _=>(Ku a).trans) (fun _=>by kernel_rfl)
def Na:SU:=⟨[.st 158,i6],[i6],false,false,fun(a:D.aAQ×Int)=>some (Yl a.1 a.2)⟩
theorem Nb:OK 218 Na:=mkS (.s .n (.s (.s (.rj 4 ⟨[(8,10)],[.dat (.s 17) .bool],[],[]⟩ .n) .n) .n)) [.tmp 4] (gc fU (gc aV (gc iH aD))) func218 ntmps218 (fun a _=>(Lm a.1 a.2).trans) (fun _=>by kernel_rfl)
def aAi:SU:=⟨[.st 160,i6],[.st 160,i6, .bool],false,false,fun(a:D.aAT×Int)=>some (lT a.1 a.2)⟩
theorem aAj:OK 216 aAi:=mkS (.s .n (.s (.s (.rj 4 ⟨[(11,16)],[.dat (.s 26) .bool],[],[]⟩ .n) .n) (.s .n (.s .n (.s (.r (some 5) (od 8 [4,5,6,7])) .n))))) [.cell 4 160, .tmp 5, .tmp 6] (gc sS (gc fU (gc Nb aD))) func216 ntmps216 (fun a _=>(V8 a.1 a.2).trans) (fun _=>by kernel_rfl)
def aKj:SU:=⟨[.sl 163, .sl 3,i6],[.sl 163, .sl 3, .sl 3],false,false,fun(a:(List D.aAA)×(List Int)×Int)=>gd ((Nv D.aAA.sz a.1≤34000000000∧a.2.1.length≤100000000)∧jQ a.1 a.2.1=true) (some (mY a.1 a.2.1 a.2.2))⟩
theorem aKk:OK 190 aKj:=mkS (.s .n (.s .n (.s .n (.s .n (.s (.j ⟨[(10,6),(4,38)],[.tr (.s 10) 1 3 true, .tr (.s 11) 2 3 true, .ti 0 163 false],[],[]⟩ (.s .n (.s (.l ⟨[(10,6),(4,38)],[.tr (.s 10) 1 3 true, .tr (.s 11) 2 3 true, .nat (.s 12), .ti 0 163 false],[],[]⟩ FUEL (.s .n (.s (.j ⟨[(10,2),(1,3),(10,32)],[.tr (.s 10) 1 3 true, .tr (.s 11) 2 3 true, .ti 0 163 false],[],[]⟩ (.s (.s (.il 8 (.s .n (.s .n (.s (.s (.rj 7 ⟨[(25,4)],[.dat (.s 28) .bool],[],[]⟩ (.r none [(0,true),(1,true),(3,true),(4,true),(2,false),(5,true),(6,true),(7,true),(8,true),(9,true)])) .n) (.s (.u [] [7,12] [(0,true),(2,true),(3,true),(5,true),(6,true),(9,true),(1,false),(4,false),(7,false),(8,false),(10,false),(11,false),(12,false),(13,false)]) .n)))) .n) (.s (.r (some 7) (od 8 [7])) .n)) .n)) .n))) .n))) .n))))) [.tmp 6, .tmp 7, .tmp 8] (gc mZ (gc (sIl 207) (gc aAj (gc xB (gc pF (gc (bBj 2000000) aD)))))) func190 ntmps190 (fun a _=>aF (aJs a.1 a.2.1 a.2.2)) (fun _=>by kernel_rfl)
def En:SU:=⟨[i6],[i6],false,false,fun(a:Int)=>some (Ew a)⟩
theorem pI:OK 210 En:=mkS (.s .n (.s .n (.s (.jx ⟨[(2,1),(1,1),(2,10)],[],[],[]⟩ (.s .n (.s (.l ⟨[(2,1),(1,1),(2,10)],[.dat (.s 4) i6],[],[]⟩ FUEL .n) .n))) .n))) [.tmp 2] (gc jT aD) func210 ntmps210 (fun a _=>(Ej a).trans) (fun _=>by kernel_rfl)
def Hm:SU:=⟨[.sl 3,i6,i6],[i6],false,false,fun(a:(List Int)×Int×Int)=>gd (a.1.length≤34359738368) (some (aW1 a.1 a.2.1 a.2.2))⟩
theorem Ho:OK 209 Hm:=mkS (.s .n (.s .n (.s .n (.s (.jx ⟨[(6,6),(6,54)],[.dat (.s 7) i6],[],[]⟩ (.s .n (.s (.l ⟨[(6,6),(6,54)],[.dat (.s 7) i6, .nat (.s 8)],[],[]⟩ FUEL (.s .n (.s (.jx ⟨[(6,2),(1,3),(12,48)],[.dat (.s 7) i6],[],[]⟩ (.s (.s (.jx ⟨[(6,1),(2,1),(14,16)],[],[],[]⟩ (.s .n (.s (.l ⟨[(6,1),(2,1),(14,16)],[.nat (.s 9)],[],[]⟩ FUEL (.s .n (.s (.s (.s (.r none [(0,true),(1,true),(2,true),(3,true),(5,true),(6,true),(7,true),(8,true),(4,false),(9,false),(10,true)]) .n) .n) .n))) .n))) (.s .n (.s (.s (.r none [(0,true),(2,true),(3,true),(4,true),(5,true),(1,false),(6,false),(7,true),(8,false),(9,true)]) (.s (.r none [(0,true),(1,true),(2,true),(3,true),(5,true),(6,true),(7,true),(8,true),(4,false),(9,false),(10,true),(11,false),(12,true)]) .n)) .n))) .n)) .n))) .n))) .n)))) [.tmp 6] (gc aV (gc D6 (gc pI aD))) func209 ntmps209 (fun a _=>aF (Gs a.1 a.2.1 a.2.2)) (fun _=>by kernel_rfl)
def aDe:SU:=⟨[i6,i6],[i6],false,false,fun(a:Int×Int)=>some (O6 a.1 a.2)⟩
theorem aDf:OK 208 aDe:=mkS (.s .n (.s (.s (.rj 4 ⟨[(8,5)],[.dat (.s 12) .bool],[],[]⟩ .n) .n) .n)) [.tmp 4] (gc fU aD) func208 ntmps208 (fun a _=>(aCs a.1 a.2).trans) (fun _=>by kernel_rfl)
def xG:SU:=⟨[.sl 3, .sl 3],[i6, .bool],false,false,fun(a:(List Int)×(List Int))=>gd (a.1.length≤34359738368∧a.2.length≤34359738368) (some (aBp a.1 a.2))⟩
theorem xH:OK 192 xG:=mkS (.s .n (.s (.s (.rj 6 ⟨[(15,5)],[.dat (.s 19) .bool],[],[]⟩ .n) .n) (.s (.jx ⟨[(4,4),(12,34)],[],[],[]⟩ (.s .n (.s (.l ⟨[(4,4),(12,34)],[.nat (.s 6)],[],[]⟩ FUEL (.s .n (.s (.jx ⟨[(4,2),(1,1),(18,28)],[],[],[]⟩ (.s (.s (.s (.rj 7 ⟨[(32,8)],[.dat (.s 39) .bool],[],[]⟩ .n) .n) (.s .n (.s (.l ⟨[(4,2),(1,1),(32,14)],[.nat (.s 7)],[],[]⟩ FUEL bEq) .n))) .n)) .n))) .n))) (.s .n (.s (.j ⟨[(8,2),(44,16)],[.dat (.s 8) i6],[],[]⟩ (.s .n (.s (.l ⟨[(8,2),(44,16)],[.dat (.s 8) i6, .nat (.s 9)],[],[]⟩ FUEL (.s .n (.s (.s (.r none (od 11 [7,8,9])) .n) .n))) .n))) .n))))) [.tmp 4, .tmp 5] (gc aV (gc fU (gc Ho (gc iH (gc aDf aD))))) func192 ntmps192 (fun a _=>aF (xE a.1 a.2)) (fun _=>by kernel_rfl)
def Qp:SU:=⟨[i6,i6],[i6],false,false,fun(a:Int×Int)=>some (aQi a.1 a.2)⟩
theorem Qq:OK 194 Qp:=mkS .n [.tmp 4] (gc jT (gc pI (gc iH aD))) func194 ntmps194 (fun a _=>(Pq a.1 a.2).trans) (fun _=>by kernel_rfl)
def aAk:SU:=⟨[.st 35,i6],[i6, .bool],false,false,fun(a:D.aAO×Int)=>some (aF3 a.1 a.2)⟩
theorem aAl:OK 193 aAk:=mkS (.s .n (.s (.s (.r none [(0,true),(1,true),(2,true),(4,true),(5,true),(3,false),(6,true)]) .n) .n)) [.tmp 4, .tmp 5] (gc zI (gc Me aD)) func193 ntmps193 (fun a _=>(V9 a.1 a.2).trans) (fun _=>by kernel_rfl)
def G7:SU:=⟨[.st 35, .sl 163, .sl 3,i6,i6],[.sl 163,i6, .bool],false,false,fun(a:D.aAO×(List D.aAA)×(List Int)×Int×Int)=>gd (Nv D.aAA.sz a.2.1≤34000000000∧a.2.2.1.length≤100000000) (some (Jd a.1 a.2.1 a.2.2.1 a.2.2.2.1 a.2.2.2.2))⟩
theorem G8:OK 176 G7:=mkS (.s .n (.s (.s (.rj 5 ⟨[(24,10)],[.dat (.s 33) .bool],[],[]⟩ .n) .n) (.s .n (.s .n (.s (.s (.rj 6 ⟨[(59,11)],[.dat (.s 69) .bool],[],[]⟩ .n) .n) (.s (.r none [(0,true),(1,true),(2,true),(4,true),(5,true),(3,false),(6,false),(7,false),(8,true),(9,true),(10,true),(11,true),(12,true)]) .n)))))) [.tmp 10, .tmp 11, .tmp 12] (gc aAg (gc jT (gc aV (gc mZ (gc G6 (gc aKk (gc xH (gc Qq (gc Cu (gc aAl aD)))))))))) func176 ntmps176 (fun a _=>aF (Zy a.1 a.2.1 a.2.2.1 a.2.2.2.1 a.2.2.2.2)) (fun _=>by kernel_rfl)
def Qr:SU:=⟨[.st 41, .sl 3,i6],[.st 41,i6, .bool],false,false,fun(a:D.World×(List Int)×Int)=>gd (a.1.sz≤34000000000∧a.2.1.length≤100000000) (some (fV a.1 a.2.1 a.2.2))⟩
theorem Qs:OK 154 Qr:=mkS (.s .n (.s .n (.s .n (.s .n (.s .n (.s .n bHd)))))) [.cell 6 41, .tmp 7, .tmp 8] (gc bL (gc dZ (gc bZ (gc G8 (gc (sIl 111) (gc kN aD)))))) func154 ntmps154 (fun a _=>aF (Ps a.1 a.2.1 a.2.2)) (fun _=>by kernel_rfl)
def G9:SU:=⟨[.st 41,i6],[.st 41, .bool],false,false,fun(a:D.World×Int)=>gd (a.1.sz≤33000000) (some (uV a.1 a.2))⟩
theorem H5:OK 116 G9:=mkS (.s .n (.s .n (.s (.j ⟨[(6,2),(4,18)],[.tr (.s 6) 2 3 true],[],[]⟩ (.s .n (.s (.l ⟨[(6,2),(4,18)],[.tr (.s 6) 2 3 true, .dat (.s 7) i6],[],[]⟩ FUEL (.s (.s (.rj 6 ⟨[(17,7)],[.dat (.s 23) .bool],[],[]⟩ .n) .n) .n)) .n))) .n))) [.cell 4 41, .tmp 5] (gc Qs aD) func116 ntmps116 (fun a _=>aF (Zz a.1 a.2)) (fun _=>by kernel_rfl)
def aAm:SU:=⟨[.sl 163],[.sl 158],true,false,fun(a:(List D.aAA))=>gd (a.length≤34359738368) (some (a.map fun h=>h.State.aAQ))⟩
theorem aAn:OK 178 aAm:=mkS (.s .n (.s .n (.s (.j ⟨[(3,2),(1,15)],[.tr (.s 3) 0 158 true],[],[]⟩ (.s .n (.s (.l ⟨[(3,2),(1,15)],[.tr (.s 3) 0 158 true, .nat (.s 4)],[],[]⟩ FUEL .n) .n))) .n))) [.tmp 2] aD func178 ntmps178 (fun(a:(List D.aAA)) _=>aF (U0 a)) (fun _=>by kernel_rfl)
def Nc:SU:=⟨[.sl 158, .sl 3],[.sl 158],true,false,fun(a:(List D.aAQ)×(List Int))=>gd (a.1.length≤34359738368∧a.2.length≤34359738368) (some (jI a.1 a.2))⟩
theorem Nf:OK 177 Nc:=mkS (.s .n (.s .n (.s .n (.s (.j ⟨[(5,2),(5,29)],[.tr (.s 5) 0 158 true],[],[]⟩ (.s .n (.s (.l ⟨[(5,2),(5,29)],[.tr (.s 5) 0 158 true, .nat (.s 6)],[],[]⟩ FUEL (.s .n (.s (.s (.r (some 22) (od 24 [17,21,22,23])) .n) .n))) .n))) .n)))) [.tmp 4] (gc rC (gc Sr aD)) func177 ntmps177 (fun a _=>aF (Kt a.1 a.2)) (fun _=>by kernel_rfl)
def Qt:SU:=⟨[.st 163, .st 158],[.st 163, .bool],true,false,fun(a:D.aAA×D.aAQ)=>gd (a.1.sz≤34359738368) (some (aFi a.1 a.2))⟩
theorem Qu:OK 179 Qt:=mkS (.s .n (.s .n (.s (.s (.rj 5 ⟨[(13,29)],[.dat (.s 41) .bool],[],[]⟩ (.r none [(0,true),(1,true),(2,false),(3,true),(4,true),(5,true),(6,true),(8,true),(9,true),(7,false),(10,true),(11,true),(12,true),(13,true),(14,true),(15,true),(16,true),(17,true),(18,true),(19,true),(20,true),(21,true),(22,true),(23,true),(24,true),(25,true),(26,true),(27,true),(28,true),(29,false),(30,false),(31,true),(32,true)])) .n) .n))) [.cell 4 163, .tmp 5] (gc pF (gc sS (gc xB (gc rC aD)))) func179 ntmps179 (fun a _=>aF (Pe a.1 a.2)) (fun _=>by kernel_rfl)
def H6:SU:=⟨[.sl 163, .sl 3],[.sl 163, .bool],true,false,fun(a:(List D.aAA)×(List Int))=>gd (Nv D.aAA.sz a.1≤34359738368∧a.2.length≤34359738368) (some (eQ a.1 a.2))⟩
theorem H7:OK 155 H6:=mkS (.s .n (.s .n (.s .n (.s .n (.s (.jx ⟨[(4,2),(1,4),(10,26)],[.tr (.s 7) 2 163 true],[],[]⟩ (.s .n (.s (.l ⟨[(4,2),(1,4),(10,26)],[.tr (.s 7) 2 163 true, .nat (.s 8)],[],[]⟩ FUEL (.s .n (.s (.s bFg .n) .n))) .n))) .n))))) [.tmp 4, .tmp 5] (gc aAn (gc Nf (gc mZ (gc Qu aD)))) func155 ntmps155 (fun a _=>aF (Yx a.1 a.2)) (fun _=>by kernel_rfl)
def H8:SU:=⟨[.st 41],[.st 41, .bool],true,false,fun(a:D.World)=>gd (a.sz≤34359738368) (some (eH a))⟩
theorem H9:OK 117 H8:=mkS (.s .n (.s .n (.s .n (.s (.j ⟨[(5,2),(5,21)],[.tr (.s 5) 11 3 true],[],[]⟩ (.s .n (.s (.l ⟨[(5,2),(5,21)],[.tr (.s 5) 11 3 true, .dat (.s 6) i6],[],[]⟩ FUEL (.s (.s (.rj 6 ⟨[(17,4)],[.dat (.s 20) .bool],[],[]⟩ .n) .n) .n)) .n))) (.s .n (.s (.s (.rj 4 ⟨[(43,4)],[.dat (.s 46) .bool],[],[]⟩ .n) .n) .n)))))) [.cell 2 41, .tmp 3] (gc bL (gc bZ (gc H7 (gc dZ aD)))) func117 ntmps117 (fun(a:D.World) _=>aF (Yy a)) (fun _=>by kernel_rfl)
def Qv:SU:=⟨[.st 163,i6],[.st 163, .bool],true,false,fun(a:D.aAA×Int)=>gd (a.1.sz≤34359738368) (some (fF a.1 a.2))⟩
theorem Qw:OK 156 Qv:=mkS .n [.cell 4 163, .tmp 5] (gc pF (gc aV aD)) func156 ntmps156 (fun a _=>aF (Pd a.1 a.2)) (fun _=>by kernel_rfl)
def Ng:SU:=⟨[.st 41,i6,i6],[.st 41, .bool],true,false,fun(a:D.World×Int×Int)=>gd (a.1.sz≤34359738368) (some (eZ a.1 a.2.1 a.2.2))⟩
theorem Nh:OK 118 Ng:=mkS (.s .n (.s .n (.s (.s (.rj 4 ⟨[(16,9)],[.dat (.s 24) .bool],[],[]⟩ .n) .n) .n))) [.cell 6 41, .tmp 7] (gc bL (gc dZ (gc aV (gc Qw aD)))) func118 ntmps118 (fun a _=>aF (Kr a.1 a.2.1 a.2.2)) (fun _=>by kernel_rfl)
def Wn:SU:=⟨[.st 41, .st 62],[.st 41, .bool],false,false,fun(a:D.World×D.Event)=>gd (a.1.sz≤33000000) (some (aF8 a.1 a.2))⟩
theorem Wp:OK 56 Wn:=mkS .n [.cell 4 41, .tmp 5] (gc H5 (gc H9 (gc Nh (gc bL aD)))) func56 ntmps56 (fun a _=>aF (Vb a.1 a.2)) (fun _=>by kernel_rfl)
def I1:SU:=⟨[.st 41, .st 62],[.st 41, .bool],false,false,fun(a:D.World×D.Event)=>gd (a.1.sz≤33000000) (some (evF a.1 a.2))⟩
theorem I4:OK 17 I1:=mkS (.s .n (.s .n (.s (.jx ⟨[(5,3),(5,77)],[],[],[]⟩ (.s .n (.s (.s .n (.s .n (.s (.j ⟨[(21,4)],[.dat (.s 21) .bool],[],[]⟩ .n) .n))) .n))) .n))) [.cell 4 41, .tmp 5] (gc dZ (gc bL (gc aIn (gc aKh (gc Wm (gc Qo (gc aAe (gc F9 (gc zK (gc pG (gc Wp aD))))))))))) func17 ntmps17 (fun a _=>aF (o7 a.1 a.2)) (fun _=>by kernel_rfl)
def aAo:SU:=⟨[.st 41, .sl 62],[.st 41],false,false,fun(a:D.World×(List D.Event))=>gd (aQl a.1 a.2) (some (aSt a.1 a.2))⟩
theorem aAp:OK 6 aAo:=mkS (.s .n (.s .n (.s (.j ⟨[(6,3),(2,20)],[.dat (.c 2 0) i6, .dat (.c 2 1) i6, .dat (.c 2 2) (.sl 72), .dat (.c 2 3) (.sl 4), .dat (.c 2 4) (.sl 128), .dat (.c 2 5) i6, .dat (.c 2 6) (.sl 187), .dat (.c 2 7) (.sl 89), .dat (.c 2 8) (.sl 110), .dat (.c 2 9) i6, .dat (.c 2 10) i6, .dat (.c 2 11) i6, .dat (.c 2 12) i6, .dat (.c 2 13) (.sl 163), .dat (.c 2 14) i6, .dat (.c 2 15) (.sl 215)],[],[]⟩ (.s .n (.s (.l ⟨[(6,3),(2,20)],[.dat (.s 6) i6, .dat (.c 2 0) i6, .dat (.c 2 1) i6, .dat (.c 2 2) (.sl 72), .dat (.c 2 3) (.sl 4), .dat (.c 2 4) (.sl 128), .dat (.c 2 5) i6, .dat (.c 2 6) (.sl 187), .dat (.c 2 7) (.sl 89), .dat (.c 2 8) (.sl 110), .dat (.c 2 9) i6, .dat (.c 2 10) i6, .dat (.c 2 11) i6, .dat (.c 2 12) i6, .dat (.c 2 13) (.sl 163), .dat (.c 2 14) i6, .dat (.c 2 15) (.sl 215)],[],[]⟩ FUEL (.s (.s (.rj 5 ⟨[(15,4)],[.dat (.s 18) .bool],[],[]⟩ .n) .n) (.s (.s (.s (.y false (some 9) (some 10) (od 12 [5,9,10])) .n) .n) .n))) .n))) .n))) [.cell 4 41] (gcp bL (gc I4 aD)) func6 ntmps6 (fun a _=>aF (X4 a.1 a.2)) (fun _=>by kernel_rfl)
def aIp:SU:=⟨[.st 41,i6],[.bool],false,false,fun(a:D.World×Int)=>some (gI a.1 a.2)⟩
theorem aIq:OK 57 aIp:=mkS bFd [.tmp 4] aD func57 ntmps57 (fun a _=>(aGn a.1 a.2).trans) (fun _=>by kernel_rfl)
def aKl:SU:=⟨[.st 41,i6],[.sl 3],true,false,fun(a:D.World×Int)=>gd (a.1.sz≤34359738368) (some (jK a.1 a.2))⟩
theorem aKm:OK 18 aKl:=mkS (.s .n (.s .n (.s (.j ⟨[(5,1),(1,1),(1,1),(1,28)],[.tr (.s 5) 1 3 true],[],[]⟩ (.s .n (.s (.s .n (.s (.l ⟨[(5,1),(1,1),(1,1),(11,18)],[.tr (.s 5) 1 3 true, .nat (.s 21)],[],[]⟩ FUEL (.s .n (.s .n (.s (.j ⟨[(5,1),(1,1),(1,1),(13,15)],[.tr (.s 5) 1 3 true],[],[]⟩ (.s (.s .n (.s .n (.s (.l ⟨[(5,1),(3,1),(18,10)],[.tr (.s 5) 1 3 true, .nat (.s 28)],[],[]⟩ FUEL .n) .n))) .n)) .n)))) .n)) .n))) .n))) [.tmp 4] (gc aIq aD) func18 ntmps18 (fun a _=>aF (aJj a.1 a.2)) (fun _=>by kernel_rfl)
def aAq:SU:=⟨[.st 41],[.sl 3, .sl 3],true,false,fun(a:D.World)=>gd (a.sz≤34359738368) (some ((jK a 0,jK a 1)))⟩
theorem aAr:OK 7 aAq:=mkS (.s .n (.s (.r none [(0,true),(2,true),(1,false),(3,false),(4,true),(5,true)]) .n)) [.tmp 2, .tmp 3] (gc aKm aD) func7 ntmps7 (fun(a:D.World) _=>aF (R7 a)) (fun _=>by kernel_rfl)
def aDg:SU:=⟨[.sl 3,i6],[.bool],false,false,fun(a:(List Int)×Int)=>gd (a.1.length≤1099511627776) (some (iZ a.1 a.2))⟩
theorem aDh:OK 8 aDg:=mkS bFb [.tmp 4] aD func8 ntmps8 (fun a _=>aF (aCu a.1 a.2)) (fun _=>by kernel_rfl)
def aAs:SU:=⟨[.st 41,i6],[.bool],false,false,fun(a:D.World×Int)=>some (aK a.1 a.2)⟩
theorem aAt:OK 92 aAs:=mkS bFd [.tmp 4] aD func92 ntmps92 (fun a _=>(R6 a.1 a.2).trans) (fun _=>by kernel_rfl)
def aTr:SU:=⟨[.sl 3,i6],[.bool],false,false,fun(a:(List Int)×Int)=>gd (a.1.length≤1099511627776) (some (iZ a.1 a.2))⟩
theorem aIr:OK 93 aTr:=mkS (.s .n (.s (.jx ⟨[(4,1),(1,11)],[],[],[]⟩ (.s .n (.s (.l ⟨[(4,1),(1,1),(2,8)],[.nat (.s 9)],[],[]⟩ FUEL .n) .n))) .n)) [.tmp 4] aD func93 ntmps93 (fun a _=>aF (aTa a.1 a.2)) (fun _=>by kernel_rfl)
def aAu:SU:=⟨[.sl 128],[.sl 3],true,false,fun(a:(List D.aAC))=>gd (a.length≤34359738368) (some (aH a))⟩
theorem aAv:OK 94 aAu:=mkS (.s .n (.s .n (.s (.j ⟨[(3,1),(1,2),(1,1),(1,40)],[.tr (.s 3) 0 3 true],[],[]⟩ (.s .n (.s (.l ⟨[(3,1),(1,2),(1,1),(3,38)],[.tr (.s 3) 0 3 true, .nat (.s 12)],[],[]⟩ FUEL (.s .n (.s .n (.s (.j ⟨[(3,1),(1,2),(1,1),(5,35)],[.tr (.s 3) 0 3 true],[],[]⟩ (.s (.s .n (.s .n (.s (.s .n (.s .n (.s .n (.s (.s .n (.s (.j ⟨[(6,1),(1,1),(24,15)],[.tr (.s 6) 2 3 true],[],[]⟩ (.s .n (.s (.l ⟨[(6,1),(1,1),(26,13)],[.tr (.s 6) 2 3 true, .nat (.s 35)],[],[]⟩ FUEL (.s .n (.s .n (.s (.j ⟨[(6,1),(1,1),(28,10)],[.tr (.s 6) 2 3 true],[],[]⟩ .n) .n)))) .n))) .n)) .n)))) .n))) .n)) .n)))) .n))) .n))) [.tmp 2] (gc aIr aD) func94 ntmps94 (fun(a:(List D.aAC)) _=>aF (R5 a)) (fun _=>by kernel_rfl)
def aKn:SU:=⟨[.sl 3, .sl 46],[.sl 3],true,false,fun(a:(List Int)×(List (List Int)))=>gd (aL2 a.1 a.2) (some (aBf a.1 a.2))⟩
theorem Sy:OK 174 aKn:=mkS (.s .n (.s .n (.s (.j ⟨[(5,1),(1,1),(3,10)],[.tr (.s 5) 0 3 true],[],[]⟩ (.s .n (.s (.l ⟨[(5,1),(1,1),(5,8)],[.tr (.s 5) 0 3 true, .nat (.s 13)],[],[]⟩ FUEL .n) .n))) .n))) [.tmp 4] aD func174 ntmps174 (fun a _=>aF (aJf a.1 a.2)) (fun _=>by kernel_rfl)
def aTs:SU:=⟨[i6,i6],[i6],false,false,fun(a:Int×Int)=>some (dI a.1 a.2)⟩
theorem aTt:OK 197 aTs:=mkS (.s .n (.s (.s (.rj 3 ⟨[(8,4)],[.dat (.s 11) .bool],[],[]⟩ .n) .n) (.s .n (.s (.j ⟨[(5,1),(9,5)],[.dat (.s 5) i6],[],[]⟩ .n) .n)))) [.tmp 4] aD func197 ntmps197 (fun a _=>(aS8 a.1 a.2).trans) (fun _=>by kernel_rfl)
def aRc:SU:=⟨[.sl 3],[i6],false,false,fun(a:(List Int))=>gd (a.length≤1099511627776) (some (vF a))⟩
theorem aRd:OK 185 aRc:=mkS (.s .n (.s .n (.s (.j ⟨[(3,1),(1,15)],[.dat (.s 3) i6],[],[]⟩ (.s .n (.s (.l ⟨[(3,1),(1,1),(2,12)],[.dat (.s 3) i6, .nat (.s 8)],[],[]⟩ FUEL .n) .n))) .n))) [.tmp 2] (gc aTt aD) func185 ntmps185 (fun(a:(List Int)) _=>aF (aQz a)) (fun _=>by kernel_rfl)
def aAw:SU:=⟨[i6, .sl 3],[i6],false,false,fun(a:Int×(List Int))=>gd (a.2.length≤34359738368) (some (bI a.1 a.2))⟩
theorem aAx:OK 173 aAw:=mkS .n [.tmp 4] (gc Sy (gc aRd aD)) func173 ntmps173 (fun a _=>aF (Q5 a.1 a.2)) (fun _=>by kernel_rfl)
def aOe:SU:=⟨[i6],[i6],false,false,fun(a:Int)=>some (gQ a)⟩
theorem aOf:OK 172 aOe:=mkS .n [.tmp 2] aD func172 ntmps172 (fun a _=>(aN6 a).trans) (fun _=>by kernel_rfl)
def aAy:SU:=⟨[i6, .sl 3],[i6],false,false,fun(a:Int×(List Int))=>gd (a.2.length≤34359738300) (some (aU a.1 a.2))⟩
theorem aAz:OK 146 aAy:=mkS .n [.tmp 4] (gc Sy (gc aAx (gc aOf aD))) func146 ntmps146 (fun a _=>aF (Q7 a.1 a.2)) (fun _=>by kernel_rfl)
def aIs:SU:=⟨[i6,i6,i6],[.bool],false,false,fun(a:Int×Int×Int)=>some (bF a.1 a.2.1 a.2.2)⟩
theorem aIt:OK 184 aIs:=mkS bFc [.tmp 6] aD func184 ntmps184 (fun a _=>(aGm a.1 a.2.1 a.2.2).trans) (fun _=>by kernel_rfl)
def I5:SU:=⟨[i6],[.bool],false,false,fun(a:Int)=>some (bM a)⟩
theorem I6:OK 171 I5:=mkS .n [.tmp 2] (gc aIt aD) func171 ntmps171 (fun a _=>(Yv a).trans) (fun _=>by kernel_rfl)
def aA0:SU:=⟨[i6],[i6],false,false,fun(a:Int)=>some (eF a)⟩
theorem aA1:OK 145 aA0:=mkS .n [.tmp 2] (gc I6 aD) func145 ntmps145 (fun a _=>(Q9 a).trans) (fun _=>by kernel_rfl)
def Qx:SU:=⟨[.st 67],[i6],false,false,fun(a:D.aAI)=>some (aX a)⟩
theorem Qy:OK 95 Qx:=mkS .n [.tmp 2] (gc aAz (gc aA1 aD)) func95 ntmps95 (fun a _=>(Oy a).trans) (fun _=>by kernel_rfl)
def aKo:SU:=⟨[.st 41,i6],[.bool],false,false,fun(a:D.World×Int)=>gd (WOk a.1) (some (gF a.1 a.2))⟩
theorem aKp:OK 37 aKo:=mkS (.s .n (.s (.rj 4 ⟨[(4,1),(3,14)],[.dat (.s 4) .bool],[],[]⟩ (.r none [(0,true),(1,true),(2,false),(3,true),(4,true),(5,true),(6,true),(8,true),(9,true),(10,true),(11,true),(12,true),(13,true),(7,false),(14,false),(15,false),(16,true),(17,true)])) .n)) [.tmp 4] (gc aAt (gc aAv (gc Qy (gc aIr aD)))) func37 ntmps37 (fun a _=>aF (aJi a.1 a.2)) (fun _=>by kernel_rfl)
def Da:SU:=⟨[.st 41],[.sl 3],true,false,fun(a:D.World)=>gd (WOk a) (some (Dz a))⟩
theorem Db:OK 10 Da:=mkS (.s .n (.s .n (.s (.j ⟨[(3,2),(1,29)],[.tr (.s 3) 1 3 true],[],[]⟩ (.s .n (.s (.l ⟨[(3,2),(4,26)],[.tr (.s 3) 1 3 true, .nat (.s 9)],[],[]⟩ FUEL (.s .n (.s .n (.s (.j ⟨[(3,2),(6,23)],[.tr (.s 3) 1 3 true],[],[]⟩ (.s (.s .n (.s (.rj 4 ⟨[(15,15)],[.dat (.s 29) .bool],[],[]⟩ .n) .n)) .n)) .n)))) .n))) .n))) [.tmp 2] (gc aKp aD) func10 ntmps10 (fun(a:D.World) _=>aF (Ck a)) (fun _=>by kernel_rfl)
def uM:SU:=⟨[.sl 5],[.bool],false,false,fun(a:(List Int))=>gd (aN2 a) (some true)⟩
theorem Qz:OK 3 uM:=mkS (.s .n (.s .n (.s .n (.s .n (.s .n (.s (.jx ⟨[(2,1),(5,1),(22,12)],[],[],[]⟩ (.s .n (.s (.l ⟨[(2,1),(5,1),(22,12)],[.nat (.s 8)],[],[]⟩ FUEL .n) .n))) (.s .n (.s .n (.s .n (.s .n (.s (.jx ⟨[(2,1),(12,1),(47,23)],[],[],[]⟩ (.s .n (.s (.l ⟨[(2,1),(12,1),(47,23)],[.nat (.s 15)],[],[]⟩ FUEL (.s .n (.s (.s (.s (.rj 9 ⟨[(77,9)],[.dat (.s 85) .bool],[],[]⟩ (.r none (od 17 [14]))) .n) .n) .n))) .n))) (.s (.rj 6 ⟨[(2,1),(88,15)],[.dat (.s 2) .bool],[],[]⟩ .n) .n)))))))))))) [.tmp 2] (gc aTo (gc Vy (gc aAp (gc aAr (gc aDh (gc Gc (gc Db (gc Sw aD)))))))) func3 ntmps3 (fun(a:(List Int)) _=>aF (Pt a)) (fun _=>by kernel_rfl)
end
end Go.VK
