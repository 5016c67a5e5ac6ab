import Derived.Test.YtajiimgjfnnjlaaGreatDoorXkL
import Derived.Test.YtajiimgjfnnjlaaGreatDoorXkQ
import Derived.Test.YtajiimgjfnnjlaaGreatDoorXkPw
/- Printed by wip/tools: models, walks, proofs. -/
set_option linter.unusedVariables false
set_option linter.unusedSimpArgs false
set_option maxRecDepth 100000
set_option maxHeartbeats 4000000
namespace Go.VK
open Go.RowKit Go.Proofs Tryz
noncomputable section
def i6:EV.Kd:= .int .i64
def U6:EV.An:=(.s .n (.s .n (.s (.jx ⟨[(4,2),(5,16)],[],[],[]⟩ (.s .n (.s (.l ⟨[(4,2),(5,16)],[.nat (.s 5)],[],[]⟩ FUEL (.s .n (.s (.s (.s (.r none (od 10 [8])) .n) .n) .n))) .n))) .n)))
def aQi:EV.An:=(.s .n (.s .n (.s .n (.s (.jx ⟨[(1,1),(2,2),(6,14)],[.dat (.s 1) i6],[],[]⟩ (.s .n (.s (.l ⟨[(1,1),(2,2),(6,14)],[.dat (.s 1) i6, .nat (.s 5)],[],[]⟩ FUEL .n) .n))) .n))))
def aVv:EV.An:=(.y true none (some 13) [(1,true),(2,true),(3,true),(4,true),(6,true),(7,true),(8,true),(9,true),(10,true),(0,false),(5,false),(11,false),(12,false),(13,false)])
def aVw:EV.An:=(.s .n (.s .n (.s (.jx ⟨[(4,2),(5,15)],[],[],[]⟩ (.s .n (.s (.l ⟨[(4,2),(5,15)],[.nat (.s 5)],[],[]⟩ FUEL (.s .n (.s (.s (.s (.r none (od 9 [])) .n) .n) .n))) .n))) .n)))
def aVx:EV.An:=(.s .n (.s (.jx ⟨[(4,17)],[],[],[]⟩ (.s .n (.s (.l ⟨[(4,3),(3,11)],[.nat (.s 10)],[],[]⟩ FUEL .n) .n))) .n))
def aWz:EV.An:=(.s .n (.s .n (.s (.j ⟨[(5,19)],[.dat (.s 5) i6],[],[]⟩ (.s .n (.s (.l ⟨[(5,19)],[.dat (.s 5) i6, .nat (.s 6)],[],[]⟩ FUEL (.s .n (.s (.j ⟨[(5,1),(1,2),(4,11)],[.dat (.s 5) i6],[],[]⟩ .n) .n))) .n))) .n)))
def aTo:EV.An:=(.s .n (.s .n (.s (.s (.s .n (.r (some 5) (od 8 [3,4,5,6,7]))) .n) .n)))
def aVy:EV.An:=(.s .n (.s (.jx ⟨[(4,18)],[],[],[]⟩ (.s .n (.s (.l ⟨[(4,18)],[.nat (.s 5)],[],[]⟩ FUEL .n) .n))) .n))
def aW0:EV.An:=(.s .n (.s .n (.s .n (.s (.s (.rj 4 ⟨[(27,4)],[.dat (.s 30) .bool],[],[]⟩ .n) .n) (.s .n (.s .n (.s .n (.s .n (.s (.y false (some 16) (some 17) (od 19 [11,12,16,17])) .n)))))))))
def aTp:EV.An:=(.s .n (.s (.s (.r (some 9) (od 12 [7,8,9,10,11])) .n) .n))
def aT6:EV.An:=(.s .n (.s (.y true none (some 9) [(0,true),(1,true),(2,true),(3,true),(5,true),(6,true),(4,false),(7,false),(8,false),(9,false)]) .n))
def aT7:EV.An:=(.s .n (.s .n (.s .n (.s .n (.s (.j ⟨[(3,2),(3,2)],[.dat (.s 3) (.str), .dat (.s 4) i6],[],[]⟩ .n) (.s .n (.s (.r none (od 10 [7])) .n)))))))
def aT8:EV.An:=(.y false (some 7) (some 8) [(0,true),(1,true),(3,true),(4,true),(2,false),(5,false),(6,true),(7,false),(8,false)])
def aT9:EV.An:=(.s .n (.s (.s (.s .n (.s (.rj 5 ⟨[(21,28)],[.dat (.s 48) .bool],[],[]⟩ (.r none (od 32 [2,7,13]))) .n)) .n) .n))
def aUa:EV.An:=(.s .n (.s (.r none [(0,true),(1,true),(2,true),(4,true),(3,false),(5,false),(6,false),(7,true)]) .n))
def aO3:EV.An:=(.s (.w [2,3] (od 5 [2,3,4])) .n)
def aUb:EV.An:=(.s .n (.s .n (.s (.rj 3 ⟨[(6,1),(5,7)],[.dat (.s 6) .bool],[],[]⟩ .n) .n)))
def aUc:EV.An:=(.s .n (.s (.rj 4 ⟨[(2,1),(3,15)],[.dat (.s 2) .bool],[],[]⟩ .n) .n))
def aUd:EV.An:=(.s .n (.s (.rj 4 ⟨[(6,1),(3,5)],[.dat (.s 6) .bool],[],[]⟩ .n) .n))
def aUe:EV.An:=(.s .n (.s (.rj 4 ⟨[(2,1),(3,5)],[.dat (.s 2) .bool],[],[]⟩ .n) .n))
def aUf:EV.An:=(.s .n (.s (.rj 3 ⟨[(4,1),(2,7)],[.dat (.s 4) .bool],[],[]⟩ .n) .n))
def aUg:EV.An:=(.s (.rj 4 ⟨[(16,15)],[.dat (.s 30) .bool],[],[]⟩ .n) .n)
def aUh:EV.An:=(.rj 5 ⟨[(19,1),(4,10)],[.dat (.s 19) .bool],[],[]⟩ .n)
def aUi:EV.An:=(.s (.rj 4 ⟨[(22,12)],[.dat (.s 33) .bool],[],[]⟩ .n) .n)
def aUj:EV.An:=(.s .n (.s .n (.s .n (.s (.w [1,2] (od 5 [2,3,4])) .n))))
def Qf:SU:=⟨[.sl 178,i6],[i6],false,false,fun(a:(List D.aAE)×Int)=>gd (cO (eG (fun _:D.aAE=>True)) a.1 a.2) (some (bP (a.1.length) a.2))⟩
theorem rJ:OK 32 Qf:=mkS .n [.tmp 4] aB func32 ntmps32 (fun a _=>aA (Pb a.1 a.2)) (fun _=>by kernel_rfl)
def U7:SU:=⟨[.sl 274,i6],[i6],false,false,fun(a:(List D.Entry)×Int)=>gd (cO (eG (fun _:D.Entry=>True)) a.1 a.2) (some (bP (a.1.length) a.2))⟩
theorem U8:OK 108 U7:=mkS .n [.tmp 4] aB func108 ntmps108 (fun a _=>aA (P5 a.1 a.2)) (fun _=>by kernel_rfl)
def U9:SU:=⟨[.st 88,i6],[i6],false,false,fun(a:D.aAN×Int)=>gd (cO D.aAN.ok a.1 a.2) (some (bP (a.1.sz) a.2))⟩
theorem V3:OK 61 U9:=mkS .n [.tmp 4] (gc U8 aB) func61 ntmps61 (fun a _=>aA (P6 a.1 a.2)) (fun _=>by kernel_rfl)
def V4:SU:=⟨[.st 90,i6],[i6],false,false,fun(a:D.Device×Int)=>gd (cO D.Device.ok a.1 a.2) (some (bP (a.1.sz) a.2))⟩
theorem V5:OK 31 V4:=mkS .n [.tmp 4] (gc rJ (gc V3 aB)) func31 ntmps31 (fun a _=>aA (P7 a.1 a.2)) (fun _=>by kernel_rfl)
def Zt:SU:=⟨[.sl 90,i6],[i6],false,false,fun(a:(List D.Device)×Int)=>gd (cO (eG D.Device.ok) a.1 a.2) (some (bP (a.1.length+(a.1.map D.Device.sz).sum) a.2))⟩
theorem Zu:OK 9 Zt:=mkS aQi [.tmp 4] (gc V5 aB) func9 ntmps9 (fun a _=>aA (Yi a.1 a.2)) (fun _=>by kernel_rfl)
def aDo:SU:=⟨[.sl 4,i6],[i6],false,false,fun(a:(List Bool)×Int)=>gd (cO (eG (fun _:Bool=>True)) a.1 a.2) (some (bP (a.1.length) a.2))⟩
theorem aDp:OK 10 aDo:=mkS .n [.tmp 4] aB func10 ntmps10 (fun a _=>aA (aCe a.1 a.2)) (fun _=>by kernel_rfl)
def aDq:SU:=⟨[.sl 5,i6],[i6],false,false,fun(a:(List Int)×Int)=>gd (cO (eG (fun _:Int=>True)) a.1 a.2) (some (bP (a.1.length) a.2))⟩
theorem Gp:OK 110 aDq:=mkS .n [.tmp 4] aB func110 ntmps110 (fun a _=>aA (aCf a.1 a.2)) (fun _=>by kernel_rfl)
def aJ8:SU:=⟨[.st 206,i6],[i6],false,false,fun(a:D.Box×Int)=>gd (cO D.Box.ok a.1 a.2) (some (bP (a.1.sz) a.2))⟩
theorem aJ9:OK 109 aJ8:=mkS .n [.tmp 4] (gc Gp aB) func109 ntmps109 (fun a _=>aA (aJ1 a.1 a.2)) (fun _=>by kernel_rfl)
def aGo:SU:=⟨[.sl 206,i6],[i6],false,false,fun(a:(List D.Box)×Int)=>gd (cO (eG D.Box.ok) a.1 a.2) (some (bP (a.1.length+(a.1.map D.Box.sz).sum) a.2))⟩
theorem aGp:OK 62 aGo:=mkS aQi [.tmp 4] (gc aJ9 aB) func62 ntmps62 (fun a _=>aA (aF5 a.1 a.2)) (fun _=>by kernel_rfl)
def Km:SU:=⟨[.st 27,i6],[i6],false,false,fun(a:D.aAF×Int)=>gd (cO D.aAF.ok a.1 a.2) (some (bP (a.1.sz) a.2))⟩
theorem Kn:OK 33 Km:=mkS .n [.tmp 4] (gc aGp aB) func33 ntmps33 (fun a _=>aA (Jo a.1 a.2)) (fun _=>by kernel_rfl)
def Bf:SU:=⟨[.st 157,i6],[i6],false,false,fun(a:D.aAB×Int)=>gd (cO D.aAB.ok a.1 a.2) (some (bP (a.1.sz) a.2))⟩
theorem Bg:OK 63 Bf:=mkS .n [.tmp 4] (gc Gp aB) func63 ntmps63 (fun a _=>aA (Ak a.1 a.2)) (fun _=>by kernel_rfl)
def xZ:SU:=⟨[.sl 157,i6],[i6],false,false,fun(a:(List D.aAB)×Int)=>gd (cO (eG D.aAB.ok) a.1 a.2) (some (bP (a.1.length+(a.1.map D.aAB.sz).sum) a.2))⟩
theorem yA:OK 34 xZ:=mkS aQi [.tmp 4] (gc Bg aB) func34 ntmps34 (fun a _=>aA (xQ a.1 a.2)) (fun _=>by kernel_rfl)
def aDr:SU:=⟨[.st 30,i6],[i6],false,false,fun(a:D.aAO×Int)=>gd (cO D.aAO.ok a.1 a.2) (some (bP (a.1.sz) a.2))⟩
theorem aDs:OK 11 aDr:=mkS .n [.tmp 4] (gc rJ (gc Kn (gc yA aB))) func11 ntmps11 (fun a _=>aA (aCg a.1 a.2)) (fun _=>by kernel_rfl)
def Gq:SU:=⟨[.sl 306,i6],[i6],false,false,fun(a:(List D.aAH)×Int)=>gd (cO (eG (fun _:D.aAH=>True)) a.1 a.2) (some (bP (a.1.length) a.2))⟩
theorem Gr:OK 156 Gq:=mkS .n [.tmp 4] aB func156 ntmps156 (fun a _=>aA (Fu a.1 a.2)) (fun _=>by kernel_rfl)
def Zv:SU:=⟨[.st 211,i6],[i6],false,false,fun(a:D.aAD×Int)=>gd (cO D.aAD.ok a.1 a.2) (some (bP (a.1.sz) a.2))⟩
theorem Zw:OK 111 Zv:=mkS .n [.tmp 4] (gc Gr aB) func111 ntmps111 (fun a _=>aA (Yj a.1 a.2)) (fun _=>by kernel_rfl)
def Vg:SU:=⟨[.sl 211,i6],[i6],false,false,fun(a:(List D.aAD)×Int)=>gd (cO (eG D.aAD.ok) a.1 a.2) (some (bP (a.1.length+(a.1.map D.aAD.sz).sum) a.2))⟩
theorem Vh:OK 64 Vg:=mkS aQi [.tmp 4] (gc Zw aB) func64 ntmps64 (fun a _=>aA (Uj a.1 a.2)) (fun _=>by kernel_rfl)
def Ko:SU:=⟨[.sl 277,i6],[i6],false,false,fun(a:(List D.aAG)×Int)=>gd (cO (eG (fun _:D.aAG=>True)) a.1 a.2) (some (bP (a.1.length) a.2))⟩
theorem Kq:OK 112 Ko:=mkS .n [.tmp 4] aB func112 ntmps112 (fun a _=>aA (Jp a.1 a.2)) (fun _=>by kernel_rfl)
def yB:SU:=⟨[.st 98,i6],[i6],false,false,fun(a:D.aAA×Int)=>gd (cO D.aAA.ok a.1 a.2) (some (bP (a.1.sz) a.2))⟩
theorem yC:OK 65 yB:=mkS .n [.tmp 4] (gc Kq aB) func65 ntmps65 (fun a _=>aA (xR a.1 a.2)) (fun _=>by kernel_rfl)
def aGq:SU:=⟨[.sl 3,i6],[i6],false,false,fun(a:(List Int)×Int)=>gd (cO (eG (fun _:Int=>True)) a.1 a.2) (some (bP (a.1.length) a.2))⟩
theorem aGr:OK 66 aGq:=mkS .n [.tmp 4] aB func66 ntmps66 (fun a _=>aA (aF6 a.1 a.2)) (fun _=>by kernel_rfl)
def aGs:SU:=⟨[.st 101,i6],[i6],false,false,fun(a:D.Site×Int)=>gd (cO D.Site.ok a.1 a.2) (some (bP (a.1.sz) a.2))⟩
theorem aGt:OK 35 aGs:=mkS .n [.tmp 4] (gc Vh (gc yC (gc aGr aB))) func35 ntmps35 (fun a _=>aA (aF7 a.1 a.2)) (fun _=>by kernel_rfl)
def aDt:SU:=⟨[.sl 101,i6],[i6],false,false,fun(a:(List D.Site)×Int)=>gd (cO (eG D.Site.ok) a.1 a.2) (some (bP (a.1.length+(a.1.map D.Site.sz).sum) a.2))⟩
theorem aDu:OK 12 aDt:=mkS aQi [.tmp 4] (gc aGt aB) func12 ntmps12 (fun a _=>aA (aCh a.1 a.2)) (fun _=>by kernel_rfl)
def Zx:SU:=⟨[.sl 106,i6],[i6],false,false,fun(a:(List D.aAQ)×Int)=>gd (cO (eG (fun _:D.aAQ=>True)) a.1 a.2) (some (bP (a.1.length) a.2))⟩
theorem Zy:OK 67 Zx:=mkS .n [.tmp 4] aB func67 ntmps67 (fun a _=>aA (Yk a.1 a.2)) (fun _=>by kernel_rfl)
def Kr:SU:=⟨[.st 109,i6],[i6],false,false,fun(a:D.aAC×Int)=>gd (cO D.aAC.ok a.1 a.2) (some (bP (a.1.sz) a.2))⟩
theorem Kt:OK 36 Kr:=mkS .n [.tmp 4] (gc Zy aB) func36 ntmps36 (fun a _=>aA (Jq a.1 a.2)) (fun _=>by kernel_rfl)
def Gs:SU:=⟨[.sl 109,i6],[i6],false,false,fun(a:(List D.aAC)×Int)=>gd (cO (eG D.aAC.ok) a.1 a.2) (some (bP (a.1.length+(a.1.map D.aAC.sz).sum) a.2))⟩
theorem Gt:OK 13 Gs:=mkS aQi [.tmp 4] (gc Kt aB) func13 ntmps13 (fun a _=>aA (Fv a.1 a.2)) (fun _=>by kernel_rfl)
def Zz:SU:=⟨[.sl 190,i6],[i6],false,false,fun(a:(List D.aAM)×Int)=>gd (cO (eG (fun _:D.aAM=>True)) a.1 a.2) (some (bP (a.1.length) a.2))⟩
theorem d9:OK 37 Zz:=mkS .n [.tmp 4] aB func37 ntmps37 (fun a _=>aA (Yl a.1 a.2)) (fun _=>by kernel_rfl)
def o5:SU:=⟨[.st 37,i6],[i6],false,false,fun(a:D.aAI×Int)=>gd (cO D.aAI.ok a.1 a.2) (some (bP (a.1.sz) a.2))⟩
theorem o6:OK 14 o5:=mkS .n [.tmp 4] (gc d9 aB) func14 ntmps14 (fun a _=>aA (Ym a.1 a.2)) (fun _=>by kernel_rfl)
def aDv:SU:=⟨[.st 39,i6],[i6],false,false,fun(a:D.World×Int)=>gd (cO D.World.ok a.1 a.2) (some (bP (a.1.sz) a.2))⟩
theorem aDw:OK 4 aDv:=mkS .n [.tmp 4] (gc Zu (gc aDp (gc aDs (gc aDu (gc Gt (gc o6 aB)))))) func4 ntmps4 (fun a _=>aA (aCi a.1 a.2)) (fun _=>by kernel_rfl)
def Vi:SU:=⟨[.st 85],[.st 118],false,false,fun(a:D.aAL)=>some (a)⟩
theorem Vj:OK 76 Vi:=mkS .n [.cell 2 118] aB func76 ntmps76 (fun a _=>(Uk a).trans) (fun _=>by kernel_rfl)
def Vk:SU:=⟨[.st 178],[.st 176],false,false,fun(a:D.aAE)=>some (a)⟩
theorem Vl:OK 78 Vk:=mkS .n [.cell 2 176] aB func78 ntmps78 (fun a _=>(Ul a).trans) (fun _=>by kernel_rfl)
def Qg:SU:=⟨[.sl 178],[.sl 176],true,false,fun(a:(List D.aAE))=>gd (a.length≤1048576) (some (a))⟩
theorem rM:OK 44 Qg:=mkS (.s .n (.s .n (.s (.j ⟨[(4,1),(3,14)],[.ti 0 176 true],[],[]⟩ (.s .n (.s (.l ⟨[(4,1),(3,14)],[.nat (.s 4), .ti 0 176 true],[],[]⟩ FUEL .n) .n))) .n))) [.tmp 2] (gc Vl aB) func44 ntmps44 (fun(a:(List D.aAE)) _=>aA (Pd a)) (fun _=>by kernel_rfl)
def aDx:SU:=⟨[.st 274],[.st 272],false,false,fun(a:D.Entry)=>some (a)⟩
theorem aDy:OK 171 aDx:=mkS .n [.cell 2 272] aB func171 ntmps171 (fun a _=>(aCj a).trans) (fun _=>by kernel_rfl)
def V6:SU:=⟨[.sl 274],[.sl 272],true,false,fun(a:(List D.Entry))=>gd (a.length≤1048576) (some (a))⟩
theorem V7:OK 128 V6:=mkS (.s .n (.s .n (.s (.j ⟨[(4,1),(3,14)],[.ti 0 272 true],[],[]⟩ (.s .n (.s (.l ⟨[(4,1),(3,14)],[.nat (.s 4), .ti 0 272 true],[],[]⟩ FUEL .n) .n))) .n))) [.tmp 2] (gc aDy aB) func128 ntmps128 (fun(a:(List D.Entry)) _=>aA (P8 a)) (fun _=>by kernel_rfl)
def V8:SU:=⟨[.st 88],[.st 121],true,false,fun(a:D.aAN)=>gd (a.sz≤1048576) (some (a))⟩
theorem V9:OK 77 V8:=mkS .n [.cell 2 121] (gc V7 aB) func77 ntmps77 (fun(a:D.aAN) _=>aA (P9 a)) (fun _=>by kernel_rfl)
def W9:SU:=⟨[.st 90],[.st 123],true,false,fun(a:D.Device)=>gd (a.sz≤1048576) (some (a))⟩
theorem X3:OK 43 W9:=mkS .n [.cell 2 123] (gc Vj (gc rM (gc V9 aB))) func43 ntmps43 (fun(a:D.Device) _=>aA (Q0 a)) (fun _=>by kernel_rfl)
def o7:SU:=⟨[.sl 90],[.sl 123],true,false,fun(a:(List D.Device))=>gd (a.length+(a.map D.Device.sz).sum≤1048576) (some (a))⟩
theorem o8:OK 16 o7:=mkS (.s .n (.s .n (.s (.j ⟨[(4,1),(3,14)],[.ti 0 123 true],[],[]⟩ (.s .n (.s (.l ⟨[(4,1),(3,14)],[.nat (.s 4), .ti 0 123 true],[],[]⟩ FUEL .n) .n))) .n))) [.tmp 2] (gc X3 aB) func16 ntmps16 (fun(a:(List D.Device)) _=>aA (Yo a)) (fun _=>by kernel_rfl)
def aDz:SU:=⟨[.sl 4],[.sl 4],true,false,fun(a:(List Bool))=>gd (a.length≤1048576) (some (a))⟩
theorem aD0:OK 17 aDz:=mkS (.s .n (.s .n (.s (.j ⟨[(4,1),(3,13)],[.ti 0 4 true],[],[]⟩ (.s .n (.s (.l ⟨[(4,1),(3,13)],[.nat (.s 4), .ti 0 4 true],[],[]⟩ FUEL .n) .n))) .n))) [.tmp 2] aB func17 ntmps17 (fun(a:(List Bool)) _=>aA (aCk a)) (fun _=>by kernel_rfl)
def aD1:SU:=⟨[.sl 5],[.sl 5],true,false,fun(a:(List Int))=>gd (a.length≤1048576) (some (a))⟩
theorem Gu:OK 130 aD1:=mkS (.s .n (.s .n (.s (.j ⟨[(4,1),(3,13)],[.ti 0 5 true],[],[]⟩ (.s .n (.s (.l ⟨[(4,1),(3,13)],[.nat (.s 4), .ti 0 5 true],[],[]⟩ FUEL .n) .n))) .n))) [.tmp 2] aB func130 ntmps130 (fun(a:(List Int)) _=>aA (aCl a)) (fun _=>by kernel_rfl)
def aKa:SU:=⟨[.st 206],[.st 236],true,false,fun(a:D.Box)=>gd (a.sz≤1048576) (some (a))⟩
theorem aKb:OK 129 aKa:=mkS .n [.cell 2 236] (gc Gu aB) func129 ntmps129 (fun(a:D.Box) _=>aA (aJ2 a)) (fun _=>by kernel_rfl)
def aGu:SU:=⟨[.sl 206],[.sl 236],true,false,fun(a:(List D.Box))=>gd (a.length+(a.map D.Box.sz).sum≤1048576) (some (a))⟩
theorem aGv:OK 79 aGu:=mkS (.s .n (.s .n (.s (.j ⟨[(4,1),(3,14)],[.ti 0 236 true],[],[]⟩ (.s .n (.s (.l ⟨[(4,1),(3,14)],[.nat (.s 4), .ti 0 236 true],[],[]⟩ FUEL .n) .n))) .n))) [.tmp 2] (gc aKb aB) func79 ntmps79 (fun(a:(List D.Box)) _=>aA (aF8 a)) (fun _=>by kernel_rfl)
def Ku:SU:=⟨[.st 27],[.st 46],true,false,fun(a:D.aAF)=>gd (a.sz≤1048576) (some (a))⟩
theorem Kv:OK 45 Ku:=mkS .n [.cell 2 46] (gc aGv aB) func45 ntmps45 (fun(a:D.aAF) _=>aA (Jr a)) (fun _=>by kernel_rfl)
def Bh:SU:=⟨[.st 157],[.st 180],true,false,fun(a:D.aAB)=>gd (a.sz≤1048576) (some (a))⟩
theorem Bi:OK 80 Bh:=mkS .n [.cell 2 180] (gc Gu aB) func80 ntmps80 (fun(a:D.aAB) _=>aA (Al a)) (fun _=>by kernel_rfl)
def yD:SU:=⟨[.sl 157],[.sl 180],true,false,fun(a:(List D.aAB))=>gd (a.length+(a.map D.aAB.sz).sum≤1048576) (some (a))⟩
theorem yE:OK 46 yD:=mkS (.s .n (.s .n (.s (.j ⟨[(4,1),(3,14)],[.ti 0 180 true],[],[]⟩ (.s .n (.s (.l ⟨[(4,1),(3,14)],[.nat (.s 4), .ti 0 180 true],[],[]⟩ FUEL .n) .n))) .n))) [.tmp 2] (gc Bi aB) func46 ntmps46 (fun(a:(List D.aAB)) _=>aA (xS a)) (fun _=>by kernel_rfl)
def aD2:SU:=⟨[.st 30],[.st 49],true,false,fun(a:D.aAO)=>gd (a.sz≤1048576) (some (a))⟩
theorem aD3:OK 18 aD2:=mkS .n [.cell 2 49] (gc rM (gc Kv (gc yE aB))) func18 ntmps18 (fun(a:D.aAO) _=>aA (aCm a)) (fun _=>by kernel_rfl)
def Kw:SU:=⟨[.st 306],[.st 292],false,false,fun(a:D.aAH)=>some (a)⟩
theorem Ky:OK 216 Kw:=mkS .n [.cell 2 292] aB func216 ntmps216 (fun a _=>(Js a).trans) (fun _=>by kernel_rfl)
def Gv:SU:=⟨[.sl 306],[.sl 292],true,false,fun(a:(List D.aAH))=>gd (a.length≤1048576) (some (a))⟩
theorem Gw:OK 172 Gv:=mkS (.s .n (.s .n (.s (.j ⟨[(4,1),(3,14)],[.ti 0 292 true],[],[]⟩ (.s .n (.s (.l ⟨[(4,1),(3,14)],[.nat (.s 4), .ti 0 292 true],[],[]⟩ FUEL .n) .n))) .n))) [.tmp 2] (gc Ky aB) func172 ntmps172 (fun(a:(List D.aAH)) _=>aA (Fw a)) (fun _=>by kernel_rfl)
def o9:SU:=⟨[.st 211],[.st 223],true,false,fun(a:D.aAD)=>gd (a.sz≤1048576) (some (a))⟩
theorem p8:OK 131 o9:=mkS .n [.cell 2 223] (gc Gw aB) func131 ntmps131 (fun(a:D.aAD) _=>aA (Yp a)) (fun _=>by kernel_rfl)
def Vm:SU:=⟨[.sl 211],[.sl 223],true,false,fun(a:(List D.aAD))=>gd (a.length+(a.map D.aAD.sz).sum≤1048576) (some (a))⟩
theorem Vn:OK 81 Vm:=mkS (.s .n (.s .n (.s (.j ⟨[(4,1),(3,14)],[.ti 0 223 true],[],[]⟩ (.s .n (.s (.l ⟨[(4,1),(3,14)],[.nat (.s 4), .ti 0 223 true],[],[]⟩ FUEL .n) .n))) .n))) [.tmp 2] (gc p8 aB) func81 ntmps81 (fun(a:(List D.aAD)) _=>aA (Um a)) (fun _=>by kernel_rfl)
def Qh:SU:=⟨[.st 277],[.st 256],false,false,fun(a:D.aAG)=>some (a)⟩
theorem Qi:OK 173 Qh:=mkS .n [.cell 2 256] aB func173 ntmps173 (fun a _=>(Pe a).trans) (fun _=>by kernel_rfl)
def La:SU:=⟨[.sl 277],[.sl 256],true,false,fun(a:(List D.aAG))=>gd (a.length≤1048576) (some (a))⟩
theorem Lb:OK 132 La:=mkS (.s .n (.s .n (.s (.j ⟨[(4,1),(3,14)],[.ti 0 256 true],[],[]⟩ (.s .n (.s (.l ⟨[(4,1),(3,14)],[.nat (.s 4), .ti 0 256 true],[],[]⟩ FUEL .n) .n))) .n))) [.tmp 2] (gc Qi aB) func132 ntmps132 (fun(a:(List D.aAG)) _=>aA (Jt a)) (fun _=>by kernel_rfl)
def yF:SU:=⟨[.st 98],[.st 131],true,false,fun(a:D.aAA)=>gd (a.sz≤1048576) (some (a))⟩
theorem yG:OK 82 yF:=mkS .n [.cell 2 131] (gc Lb aB) func82 ntmps82 (fun(a:D.aAA) _=>aA (xU a)) (fun _=>by kernel_rfl)
def aGw:SU:=⟨[.sl 3],[.sl 3],true,false,fun(a:(List Int))=>gd (a.length≤1048576) (some (a))⟩
theorem aGx:OK 83 aGw:=mkS (.s .n (.s .n (.s (.j ⟨[(4,1),(3,13)],[.ti 0 3 true],[],[]⟩ (.s .n (.s (.l ⟨[(4,1),(3,13)],[.nat (.s 4), .ti 0 3 true],[],[]⟩ FUEL .n) .n))) .n))) [.tmp 2] aB func83 ntmps83 (fun(a:(List Int)) _=>aA (aF9 a)) (fun _=>by kernel_rfl)
def aGy:SU:=⟨[.st 101],[.st 133],true,false,fun(a:D.Site)=>gd (a.sz≤1048576) (some (a))⟩
theorem aGz:OK 47 aGy:=mkS .n [.cell 2 133] (gc Vn (gc yG (gc aGx aB))) func47 ntmps47 (fun(a:D.Site) _=>aA (aGa a)) (fun _=>by kernel_rfl)
def aD4:SU:=⟨[.sl 101],[.sl 133],true,false,fun(a:(List D.Site))=>gd (a.length+(a.map D.Site.sz).sum≤1048576) (some (a))⟩
theorem aD5:OK 19 aD4:=mkS (.s .n (.s .n (.s (.j ⟨[(4,1),(3,14)],[.ti 0 133 true],[],[]⟩ (.s .n (.s (.l ⟨[(4,1),(3,14)],[.nat (.s 4), .ti 0 133 true],[],[]⟩ FUEL .n) .n))) .n))) [.tmp 2] (gc aGz aB) func19 ntmps19 (fun(a:(List D.Site)) _=>aA (aCn a)) (fun _=>by kernel_rfl)
def aD6:SU:=⟨[.st 33],[.st 51],false,false,fun(a:D.aAR)=>some (a)⟩
theorem aD7:OK 20 aD6:=mkS .n [.cell 2 51] aB func20 ntmps20 (fun a _=>(aCo a).trans) (fun _=>by kernel_rfl)
def aD8:SU:=⟨[.st 104],[.st 135],false,false,fun(a:D.aAT)=>some (a)⟩
theorem aD9:OK 133 aD8:=mkS .n [.cell 2 135] aB func133 ntmps133 (fun a _=>(aCp a).trans) (fun _=>by kernel_rfl)
def X4:SU:=⟨[.st 106],[.st 137],false,false,fun(a:D.aAQ)=>some (a)⟩
theorem Ab:OK 84 X4:=mkS .n [.cell 2 137] (gc aD9 aB) func84 ntmps84 (fun a _=>(Q3 a).trans) (fun _=>by kernel_rfl)
def p9:SU:=⟨[.sl 106],[.sl 137],true,false,fun(a:(List D.aAQ))=>gd (a.length≤1048576) (some (a))⟩
theorem q8:OK 85 p9:=mkS (.s .n (.s .n (.s (.j ⟨[(4,1),(3,14)],[.ti 0 137 true],[],[]⟩ (.s .n (.s (.l ⟨[(4,1),(3,14)],[.nat (.s 4), .ti 0 137 true],[],[]⟩ FUEL .n) .n))) .n))) [.tmp 2] (gc Ab aB) func85 ntmps85 (fun(a:(List D.aAQ)) _=>aA (Yq a)) (fun _=>by kernel_rfl)
def Lc:SU:=⟨[.st 109],[.st 140],true,false,fun(a:D.aAC)=>gd (a.sz≤1048576) (some (a))⟩
theorem Ld:OK 48 Lc:=mkS .n [.cell 2 140] (gc Ab (gc q8 aB)) func48 ntmps48 (fun(a:D.aAC) _=>aA (Ju a)) (fun _=>by kernel_rfl)
def Gx:SU:=⟨[.sl 109],[.sl 140],true,false,fun(a:(List D.aAC))=>gd (a.length+(a.map D.aAC.sz).sum≤1048576) (some (a))⟩
theorem Gy:OK 21 Gx:=mkS (.s .n (.s .n (.s (.j ⟨[(4,1),(3,14)],[.ti 0 140 true],[],[]⟩ (.s .n (.s (.l ⟨[(4,1),(3,14)],[.nat (.s 4), .ti 0 140 true],[],[]⟩ FUEL .n) .n))) .n))) [.tmp 2] (gc Ld aB) func21 ntmps21 (fun(a:(List D.aAC)) _=>aA (Fx a)) (fun _=>by kernel_rfl)
def X5:SU:=⟨[.st 190],[.st 188],false,false,fun(a:D.aAM)=>some (a)⟩
theorem X6:OK 86 X5:=mkS .n [.cell 2 188] aB func86 ntmps86 (fun a _=>(Q4 a).trans) (fun _=>by kernel_rfl)
def q9:SU:=⟨[.sl 190],[.sl 188],true,false,fun(a:(List D.aAM))=>gd (a.length≤1048576) (some (a))⟩
theorem r9:OK 49 q9:=mkS (.s .n (.s .n (.s (.j ⟨[(4,1),(3,14)],[.ti 0 188 true],[],[]⟩ (.s .n (.s (.l ⟨[(4,1),(3,14)],[.nat (.s 4), .ti 0 188 true],[],[]⟩ FUEL .n) .n))) .n))) [.tmp 2] (gc X6 aB) func49 ntmps49 (fun(a:(List D.aAM)) _=>aA (Yr a)) (fun _=>by kernel_rfl)
def w9:SU:=⟨[.st 37],[.st 55],true,false,fun(a:D.aAI)=>gd (a.sz≤1048576) (some (a))⟩
theorem x8:OK 22 w9:=mkS .n [.cell 2 55] (gc r9 aB) func22 ntmps22 (fun(a:D.aAI) _=>aA (Yt a)) (fun _=>by kernel_rfl)
def aEa:SU:=⟨[.st 39],[.st 57],true,false,fun(a:D.World)=>gd (a.sz≤1048576) (some (a))⟩
theorem aEb:OK 6 aEa:=mkS .n [.cell 2 57] (gc o8 (gc aD0 (gc aD3 (gc aD5 (gc aD7 (gc Gy (gc x8 aB))))))) func6 ntmps6 (fun(a:D.World) _=>aA (aCq a)) (fun _=>by kernel_rfl)
def aMb:SU:=⟨[i6,i6,i6],[.bool],false,false,fun(a:Int×Int×Int)=>some (bI a.1 a.2.1 a.2.2)⟩
theorem bQ:OK 69 aMb:=mkS aUd [.tmp 6] aB func69 ntmps69 (fun a _=>(aL3 a.1 a.2.1 a.2.2).trans) (fun _=>by kernel_rfl)
def aEc:SU:=⟨[i6,i6],[i6],false,false,fun(a:Int×Int)=>jV a.1 a.2⟩
theorem aEd:OK 238 aEc:=mkS (.s .n (.s .n (.s (.j ⟨[(0,2),(3,16)],[.dat (.s 5) i6],[],[]⟩ (.s (.l ⟨[(0,2),(3,16)],[.dat (.s 0) i6, .dat (.s 1) i6, .dat (.s 5) i6],[],[]⟩ FUEL (.s .n (.s (.s (.j ⟨[(5,1),(2,7)],[.dat (.s 5) i6],[],[]⟩ .n) .n) .n))) .n)) .n))) [.tmp 4] aB func238 ntmps238 (fun _ _=>id) (fun _=>by kernel_rfl)
def Vo:SU:=⟨[i6],[.bool],false,false,fun(a:Int)=>some (gY a)⟩
theorem dU:OK 116 Vo:=mkS .n [.tmp 2] (gc bQ aB) func116 ntmps116 (fun a _=>(Ut a).trans) (fun _=>by kernel_rfl)
def x9:SU:=⟨[i6],[i6],false,false,fun(a:Int)=>some (Je a)⟩
theorem y5:OK 239 x9:=mkS .n [.tmp 2] (gc dU aB) func239 ntmps239 (fun a _=>(Zd a).trans) (fun _=>by kernel_rfl)
def Vp:SU:=⟨[i6],[i6],false,false,fun(a:Int)=>some (gD a)⟩
theorem tZ:OK 197 Vp:=mkS .n [.tmp 2] (gc bQ (gc aEd (gc y5 aB))) func197 ntmps197 (fun a _=>(Uy a).trans) (fun _=>by kernel_rfl)
def Bj:SU:=⟨[.st 223],[.bool],false,false,fun(a:D.aAD)=>gd (a.sz≤34359738368) (some (aY a))⟩
theorem fM:OK 157 Bj:=mkS (.s .n (.s (.jx ⟨[(2,62)],[],[],[]⟩ (.s .n (.s (.l ⟨[(2,62)],[.nat (.s 3)],[],[]⟩ FUEL (.s .n (.s (.jx ⟨[(2,1),(1,2),(7,51)],[],[],[]⟩ (.s (.s .n (.s (.s (.rj 5 ⟨[(22,28)],[.dat (.s 49) .bool],[],[]⟩ (.r none (od 32 [2,23,29]))) .n) (.s .n (.s (.l ⟨[(2,1),(2,1),(44,14)],[.nat (.s 5)],[],[]⟩ FUEL (.s .n (.s (.s (.s (.r none (od 9 [])) .n) .n) .n))) .n)))) .n)) .n))) .n))) (.s (.rj 4 ⟨[(2,1),(64,11)],[.dat (.s 2) .bool],[],[]⟩ .n) .n))) [.tmp 2] (gc bQ (gc tZ aB)) func157 ntmps157 (fun(a:D.aAD) _=>aA (Au a)) (fun _=>by kernel_rfl)
def X7:SU:=⟨[.str],[.sl 9],true,false,fun(a:ByteArray)=>gd (a.size≤34359738368) (some (aL a))⟩
theorem mV:OK 199 X7:=mkS (.s .n (.s .n (.s .n (.s (.j ⟨[(3,3),(1,25)],[.tr (.s 3) 0 9 true],[],[]⟩ (.s .n (.s (.l ⟨[(3,3),(1,25)],[.tr (.s 3) 0 9 true, .dat (.s 4) i6, .dat (.s 5) i6],[],[]⟩ FUEL (.s .n (.s (.j ⟨[(3,2),(8,19)],[.tr (.s 3) 0 9 true, .dat (.s 4) i6],[],[]⟩ (.s (.s (.rj 5 ⟨[(17,6)],[.dat (.s 22) .bool],[],[]⟩ .n) .n) .n)) .n))) .n))) .n)))) [.tmp 2] aB func199 ntmps199 (fun(a:ByteArray) _=>aA (S9 a)) (fun _=>by kernel_rfl)
def aEe:SU:=⟨[.str],[.bool],false,false,fun(a:ByteArray)=>gd (a.size≤34359738368) (some (lU a))⟩
theorem aEf:OK 240 aEe:=mkS (.s .n (.s (.jx ⟨[(2,39)],[],[],[]⟩ (.s .n (.s (.l ⟨[(2,39)],[.nat (.s 3)],[],[]⟩ FUEL (.s .n (.s (.s (.s (.rj 5 ⟨[(4,1),(10,24)],[.dat (.s 4) .bool],[],[]⟩ .n) .n) .n) .n))) .n))) (.s (.rj 4 ⟨[(2,1),(41,13)],[.dat (.s 2) .bool],[],[]⟩ .n) .n))) [.tmp 2] (gc bQ aB) func240 ntmps240 (fun(a:ByteArray) _=>aA (aDj a)) (fun _=>by kernel_rfl)
def aG0:SU:=⟨[.str],[.bool],false,false,fun(a:ByteArray)=>gd (a.size≤34359738368) (some (bS a))⟩
theorem uD:OK 198 aG0:=mkS (.s .n (.s .n (.s (.jx ⟨[(2,1),(1,1),(2,12)],[],[],[]⟩ (.s .n (.s (.l ⟨[(2,1),(1,1),(2,12)],[.nat (.s 4)],[],[]⟩ FUEL .n) .n))) .n))) [.tmp 2] (gc mV (gc aEf aB)) func198 ntmps198 (fun(a:ByteArray) _=>aA (aGh a)) (fun _=>by kernel_rfl)
def aEg:SU:=⟨[.str,i6],[.st 133],true,false,fun(a:ByteArray×Int)=>gd (a.1.size≤34359738368) (some (qC a.1 a.2))⟩
theorem aEh:OK 158 aEg:=mkS (.s .n (.s (.s (.rj 4 ⟨[(8,11)],[.dat (.s 18) .bool],[],[]⟩ .n) .n) .n)) [.cell 4 133] (gc uD (gc mV (gc dU aB))) func158 ntmps158 (fun a _=>aA (aDk a.1 a.2)) (fun _=>by kernel_rfl)
def Qj:SU:=⟨[.st 131],[.bool],false,false,fun(a:D.aAA)=>gd (a.sz≤34359738368) (some (bW a))⟩
theorem iN:OK 159 Qj:=mkS (.s .n (.s (.jx ⟨[(2,50)],[],[],[]⟩ (.s .n (.s (.l ⟨[(2,50)],[.nat (.s 3)],[],[]⟩ FUEL (.s .n (.s (.s (.s .n (.s (.rj 8 ⟨[(24,28)],[.dat (.s 51) .bool],[],[]⟩ (.r none (od 35 [5,26,32]))) .n)) .n) .n))) .n))) (.s (.rj 4 ⟨[(2,1),(52,6)],[.dat (.s 2) .bool],[],[]⟩ .n) .n))) [.tmp 2] (gc bQ aB) func159 ntmps159 (fun(a:D.aAA) _=>aA (Pk a)) (fun _=>by kernel_rfl)
def Qk:SU:=⟨[.st 133],[.bool],false,false,fun(a:D.Site)=>gd (a.sz≤34359738368) (some (bX a))⟩
theorem iO:OK 113 Qk:=mkS (.s .n (.s (.jx ⟨[(2,36)],[],[],[]⟩ (.s .n (.s (.l ⟨[(2,36)],[.nat (.s 3)],[],[]⟩ FUEL (.s .n (.s (.s (.s (.rj 8 ⟨[(18,20)],[.dat (.s 37) .bool],[],[]⟩ (.r none (od 27 [5]))) .n) .n) .n))) .n))) (.s (.rj 9 ⟨[(2,1),(43,11)],[.dat (.s 2) .bool],[],[]⟩ .n) .n))) [.tmp 2] (gc fM (gc aEh (gc iN aB))) func113 ntmps113 (fun(a:D.Site) _=>aA (Pp a)) (fun _=>by kernel_rfl)
def X8:SU:=⟨[i6],[.str],false,false,fun(a:Int)=>some (aJ a)⟩
theorem mW:OK 42 X8:=mkS .n [.tmp 2] aB func42 ntmps42 (fun a _=>(R8 a).trans) (fun _=>by kernel_rfl)
def Bn:SU:=⟨[.st 55],[.bool],false,false,fun(a:D.aAI)=>gd (a.sz≤34359738368) (some (bR a))⟩
theorem kV:OK 114 Bn:=mkS (.s .n (.s (.jx ⟨[(2,47)],[],[],[]⟩ (.s .n (.s (.l ⟨[(2,47)],[.nat (.s 3)],[],[]⟩ FUEL aT9) .n))) .n)) [.tmp 2] (gc bQ aB) func114 ntmps114 (fun(a:D.aAI) _=>aA (Aq a)) (fun _=>by kernel_rfl)
def aG1:SU:=⟨[.sl 3,i6],[.bool],false,false,fun(a:(List Int)×Int)=>gd (a.1.length≤1099511627776) (some (gZ a.1 a.2))⟩
theorem Oc:OK 201 aG1:=mkS (.s .n (.s (.jx ⟨[(4,14)],[],[],[]⟩ (.s .n (.s (.l ⟨[(4,14)],[.nat (.s 5)],[],[]⟩ FUEL .n) .n))) .n)) [.tmp 4] aB func201 ntmps201 (fun a _=>aA (aGf a.1 a.2)) (fun _=>by kernel_rfl)
def y7:SU:=⟨[.sl 176],[.sl 3],true,false,fun(a:(List D.aAE))=>gd (a.length≤34359738368) (some (aN a))⟩
theorem y9:OK 200 y7:=mkS (.s .n (.s .n (.s (.j ⟨[(3,5),(1,56)],[.tr (.s 3) 0 3 true],[],[]⟩ (.s .n (.s (.l ⟨[(3,5),(1,56)],[.tr (.s 3) 0 3 true, .nat (.s 4)],[],[]⟩ FUEL (.s .n (.s (.j ⟨[(3,1),(1,3),(7,50)],[.tr (.s 3) 0 3 true],[],[]⟩ (.s (.s .n (.s (.s (.rj 7 ⟨[(20,1),(6,6)],[.dat (.s 20) .bool],[],[]⟩ .n) (.s .n (.s .n (.s (.s .n (.s (.j ⟨[(6,2),(37,19)],[.tr (.s 6) 1 3 true],[],[]⟩ (.s .n (.s (.l ⟨[(6,2),(37,19)],[.tr (.s 6) 1 3 true, .nat (.s 7)],[],[]⟩ FUEL (.s .n (.s (.j ⟨[(6,1),(44,13)],[.tr (.s 6) 1 3 true],[],[]⟩ .n) .n))) .n))) .n)) .n)))) .n)) .n)) .n))) .n))) .n))) [.tmp 2] (gc Oc aB) func200 ntmps200 (fun(a:(List D.aAE)) _=>aA (Ze a)) (fun _=>by kernel_rfl)
def aNt:SU:=⟨[i6,i6],[i6],false,false,fun(a:Int×Int)=>some (Ai a.1 a.2)⟩
theorem aNu:OK 259 aNt:=mkS .n [.tmp 4] (gc bQ aB) func259 ntmps259 (fun a _=>(aNl a.1 a.2).trans) (fun _=>by kernel_rfl)
def aMc:SU:=⟨[.sl 3],[i6],false,false,fun(a:(List Int))=>gd (a.length≤1099511627776) (some (uE a))⟩
theorem M3:OK 241 aMc:=mkS (.s .n (.s .n (.s (.j ⟨[(3,18)],[.dat (.s 3) i6],[],[]⟩ (.s .n (.s (.l ⟨[(3,18)],[.dat (.s 3) i6, .nat (.s 4)],[],[]⟩ FUEL .n) .n))) .n))) [.tmp 2] (gc aNu aB) func241 ntmps241 (fun(a:(List Int)) _=>aA (aL4 a)) (fun _=>by kernel_rfl)
def A7:SU:=⟨[.st 176],[i6],false,false,fun(a:D.aAE)=>some (bG a)⟩
theorem wE:OK 204 A7:=mkS .n [.tmp 2] (gc M3 aB) func204 ntmps204 (fun a _=>(Zn a).trans) (fun _=>by kernel_rfl)
def aEi:SU:=⟨[.sl 176],[i6],false,false,fun(a:(List D.aAE))=>gd (a.length≤34359738368) (some (dR a))⟩
theorem aEj:OK 202 aEi:=mkS .n [.tmp 2] (gc wE aB) func202 ntmps202 (fun(a:(List D.aAE)) _=>aA (aDg a)) (fun _=>by kernel_rfl)
def A8:SU:=⟨[i6, .sl 3],[i6],false,false,fun(a:Int×(List Int))=>gd (a.2.length≤34359738368) (some (eD a.1 a.2))⟩
theorem gU:OK 205 A8:=mkS .n [.tmp 4] (gc M3 aB) func205 ntmps205 (fun a _=>aA (Yz a.1 a.2)) (fun _=>by kernel_rfl)
def Ql:SU:=⟨[i6, .sl 3],[i6],false,false,fun(a:Int×(List Int))=>gd (a.2.length≤34359738300) (some (yR a.1 a.2))⟩
theorem rO:OK 209 Ql:=mkS .n [.tmp 4] (gc dU (gc gU aB)) func209 ntmps209 (fun a _=>aA (Pi a.1 a.2)) (fun _=>by kernel_rfl)
def yH:SU:=⟨[i6, .sl 3,i6],[.bool],false,false,fun(a:Int×(List Int)×Int)=>gd (a.2.1.length≤34359738300) (some (dC a.1 a.2.1 a.2.2))⟩
theorem kC:OK 203 yH:=mkS aUb [.tmp 6] (gc tZ (gc rO aB)) func203 ntmps203 (fun a _=>aA (xX a.1 a.2.1 a.2.2)) (fun _=>by kernel_rfl)
def aEk:SU:=⟨[.sl 176, .st 176],[.bool],false,false,fun(a:(List D.aAE)×D.aAE)=>gd (a.1.length≤34359738368) (some (lI a.1 a.2))⟩
theorem aEl:OK 160 aEk:=mkS (.s .n (.s .n (.s (.rj 5 ⟨[(6,1),(7,12)],[.dat (.s 6) .bool],[],[]⟩ .n) (.s (.s (.rj 6 ⟨[(31,22)],[.dat (.s 52) .bool],[],[]⟩ (.r none [(0,true),(1,true),(2,true),(3,true),(4,true),(5,true),(6,true),(7,true),(8,true),(9,false),(10,true),(11,true),(12,true),(13,true),(14,true),(15,true),(16,true),(17,true),(18,true),(19,true),(22,true),(23,true),(20,false),(21,false),(24,false),(25,true),(26,true)])) .n) (.s (.s .n (.s (.s (.rj 5 ⟨[(4,1),(55,5)],[.dat (.s 4) .bool],[],[]⟩ .n) .n) .n)) (.s (.jx ⟨[(4,1),(2,1),(57,22)],[],[],[]⟩ (.s .n (.s (.l ⟨[(4,1),(2,1),(57,22)],[.nat (.s 7)],[],[]⟩ FUEL (.s .n (.s (.s (.s (.rj 7 ⟨[(77,10)],[.dat (.s 86) .bool],[],[]⟩ (.r none (od 16 []))) .n) .n) .n))) .n))) (.s (.rj 4 ⟨[(4,1),(85,12)],[.dat (.s 4) .bool],[],[]⟩ .n) .n))))))) [.tmp 4] (gc y9 (gc Oc (gc aEj (gc wE (gc kC aB))))) func160 ntmps160 (fun a _=>aA (aDl a.1 a.2)) (fun _=>by kernel_rfl)
def A9:SU:=⟨[.sl 176],[.bool],false,false,fun(a:(List D.aAE))=>gd (a.length≤34359738368) (some (qB a))⟩
theorem C8:OK 115 A9:=mkS (.s .n (.s (.jx ⟨[(2,17)],[],[],[]⟩ (.s .n (.s (.l ⟨[(2,17)],[.nat (.s 3)],[],[]⟩ FUEL (.s .n (.s (.s (.s (.r none (od 9 [7])) .n) .n) .n))) .n))) .n)) [.tmp 2] (gc aEl (gc bQ aB)) func115 ntmps115 (fun(a:(List D.aAE)) _=>aA (Zp a)) (fun _=>by kernel_rfl)
def Lg:SU:=⟨[.st 57],[.bool],false,false,fun(a:D.World)=>gd (a.sz≤34359738368) (some (dI a))⟩
theorem Lh:OK 68 Lg:=mkS (.s .n (.s (.jx ⟨[(2,27)],[],[],[]⟩ (.s .n (.s (.l ⟨[(2,27)],[.nat (.s 3)],[],[]⟩ FUEL (.s .n (.s (.s (.s (.rj 8 ⟨[(18,11)],[.dat (.s 28) .bool],[],[]⟩ (.r none (od 18 [5,15]))) .n) .n) .n))) .n))) (.s (.rj 4 ⟨[(2,1),(29,37)],[.dat (.s 2) .bool],[],[]⟩ .n) .n))) [.tmp 2] (gc iO (gc mW (gc bQ (gc kV (gc C8 (gc dU aB)))))) func68 ntmps68 (fun(a:D.World) _=>aA (Ka a)) (fun _=>by kernel_rfl)
def X9:SU:=⟨[.st 57,i6,i6],[.bool],false,false,fun(a:D.World×Int×Int)=>gd (a.1.sz≤34359738368) (some (dB a.1 a.2.1 a.2.2))⟩
theorem Ac:OK 38 X9:=mkS (.s .n (.s (.rj 3 ⟨[(6,1),(2,12)],[.dat (.s 6) .bool],[],[]⟩ .n) .n)) [.tmp 6] (gc Lh (gc bQ aB)) func38 ntmps38 (fun a _=>aA (U3 a.1 a.2.1 a.2.2)) (fun _=>by kernel_rfl)
def aEm:SU:=⟨[.sl 176],[.sl 176],true,false,fun(a:(List D.aAE))=>gd (a.length≤34359738368) (some (a))⟩
theorem Gz:OK 117 aEm:=mkS .n [.tmp 2] aB func117 ntmps117 (fun(a:(List D.aAE)) _=>aA (aC3 a)) (fun _=>by kernel_rfl)
def aEn:SU:=⟨[.st 121],[.st 121],true,false,fun(a:D.aAN)=>gd (a.sz≤34359738368) (some (a))⟩
theorem aEo:OK 118 aEn:=mkS .n [.cell 2 121] aB func118 ntmps118 (fun(a:D.aAN) _=>aA (aC2 a)) (fun _=>by kernel_rfl)
def aEp:SU:=⟨[.st 123],[.st 123],true,false,fun(a:D.Device)=>gd (a.sz≤34359738368) (some (a))⟩
theorem aEq:OK 70 aEp:=mkS .n [.cell 2 123] (gc Gz (gc aEo aB)) func70 ntmps70 (fun(a:D.Device) _=>aA (aC5 a)) (fun _=>by kernel_rfl)
def aEr:SU:=⟨[.st 46],[.st 46],true,false,fun(a:D.aAF)=>gd (a.sz≤34359738368) (some (a))⟩
theorem aEs:OK 119 aEr:=mkS (.s .n (.s .n (.s (.j ⟨[(4,2),(3,27)],[.nt (.c 2 1) 236 true],[],[]⟩ (.s .n (.s (.l ⟨[(4,2),(3,27)],[.nat (.s 4), .nt (.c 2 1) 236 true],[],[]⟩ FUEL .n) .n))) .n))) [.cell 2 46] aB func119 ntmps119 (fun(a:D.aAF) _=>aA (aC6 a)) (fun _=>by kernel_rfl)
def aEt:SU:=⟨[.st 180],[.st 180],true,false,fun(a:D.aAB)=>gd (a.sz≤34359738368) (some (a))⟩
theorem aEu:OK 120 aEt:=mkS .n [.cell 2 180] aB func120 ntmps120 (fun(a:D.aAB) _=>aA (aC7 a)) (fun _=>by kernel_rfl)
def aEv:SU:=⟨[.st 49],[.st 49],true,false,fun(a:D.aAO)=>gd (a.sz≤34359738368) (some (a))⟩
theorem aEw:OK 71 aEv:=mkS (.s .n (.s aT8 (.s (.j ⟨[(4,1),(7,18)],[.nt (.c 4 3) 180 true],[],[]⟩ (.s .n (.s (.l ⟨[(4,1),(7,18)],[.nat (.s 4), .nt (.c 4 3) 180 true],[],[]⟩ FUEL aTp) .n))) .n))) [.cell 2 49] (gc Gz (gc aEs (gc aEu aB))) func71 ntmps71 (fun(a:D.aAO) _=>aA (aC8 a)) (fun _=>by kernel_rfl)
def aEx:SU:=⟨[.st 223],[.st 223],true,false,fun(a:D.aAD)=>gd (a.sz≤34359738368) (some (a))⟩
theorem Ha:OK 121 aEx:=mkS .n [.cell 2 223] aB func121 ntmps121 (fun(a:D.aAD) _=>aA (aC9 a)) (fun _=>by kernel_rfl)
def aEy:SU:=⟨[.st 131],[.st 131],true,false,fun(a:D.aAA)=>gd (a.sz≤34359738368) (some (a))⟩
theorem rP:OK 122 aEy:=mkS .n [.cell 2 131] aB func122 ntmps122 (fun(a:D.aAA) _=>aA (aDa a)) (fun _=>by kernel_rfl)
def aEz:SU:=⟨[.st 133],[.st 133],true,false,fun(a:D.Site)=>gd (a.sz≤34359738368) (some (a))⟩
theorem rQ:OK 72 aEz:=mkS (.s .n (.s .n (.s .n (.s (.j ⟨[(4,1),(3,18)],[.tr (.c 2 1) 3 223 true],[],[]⟩ (.s .n (.s (.l ⟨[(4,1),(3,18)],[.nat (.s 4), .tr (.c 2 1) 3 223 true],[],[]⟩ FUEL aTp) .n))) .n)))) [.cell 2 133] (gc Ha (gc rP aB)) func72 ntmps72 (fun(a:D.Site) _=>aA (aDb a)) (fun _=>by kernel_rfl)
def aE0:SU:=⟨[.st 140],[.st 140],true,false,fun(a:D.aAC)=>gd (a.sz≤34359738368) (some (a))⟩
theorem aE1:OK 123 aE0:=mkS .n [.cell 2 140] aB func123 ntmps123 (fun(a:D.aAC) _=>aA (aDc a)) (fun _=>by kernel_rfl)
def Y1:SU:=⟨[.sl 140],[.sl 140],true,false,fun(a:(List D.aAC))=>gd (szL D.aAC.sz a≤34359738368) (some (a))⟩
theorem Y2:OK 73 Y1:=mkS (.s .n (.s .n (.s (.j ⟨[(3,2),(1,14)],[.tr (.s 3) 0 140 true],[],[]⟩ (.s .n (.s (.l ⟨[(3,2),(1,14)],[.tr (.s 3) 0 140 true, .nat (.s 4)],[],[]⟩ FUEL .n) .n))) .n))) [.tmp 2] (gc aE1 aB) func73 ntmps73 (fun(a:(List D.aAC)) _=>aA (R6 a)) (fun _=>by kernel_rfl)
def aE2:SU:=⟨[.st 55],[.st 55],true,false,fun(a:D.aAI)=>gd (a.sz≤34359738368) (some (a))⟩
theorem He:OK 74 aE2:=mkS .n [.cell 2 55] aB func74 ntmps74 (fun(a:D.aAI) _=>aA (aDd a)) (fun _=>by kernel_rfl)
def aE3:SU:=⟨[.st 57],[.st 57],true,false,fun(a:D.World)=>gd (a.sz≤34359738368) (some (a))⟩
theorem Hf:OK 39 aE3:=mkS (.s .n (.s .n (.s .n (.s (.j ⟨[(4,1),(4,18)],[.tr (.c 2 2) 3 123 true],[],[]⟩ (.s .n (.s (.l ⟨[(4,1),(4,18)],[.nat (.s 4), .tr (.c 2 2) 3 123 true],[],[]⟩ FUEL aTp) .n))) (.s .n (.s .n (.s .n (.s (.j ⟨[(5,1),(32,18)],[.tr (.c 2 8) 8 133 true],[],[]⟩ (.s .n (.s (.l ⟨[(5,1),(32,18)],[.nat (.s 5), .tr (.c 2 8) 8 133 true],[],[]⟩ FUEL aTp) .n))) .n)))))))) [.cell 2 57] (gc aEq (gc aEw (gc rQ (gc Y2 (gc He aB))))) func39 ntmps39 (fun(a:D.World) _=>aA (aDe a)) (fun _=>by kernel_rfl)
def C9:SU:=⟨[.str],[.st 115],false,false,fun(a:ByteArray)=>some ((D.aAK.mk true a 443))⟩
theorem D5:OK 41 C9:=mkS .n [.cell 2 115] aB func41 ntmps41 (fun a _=>(Zr a).trans) (fun _=>by kernel_rfl)
def Bo:SU:=⟨[.st 131,i6,i6],[.st 131, .st 256, .bool],false,false,fun(a:D.aAA×Int×Int)=>gd (a.1.sz≤34359738368) (some (fI a.1 a.2.1 a.2.2))⟩
theorem Bp:OK 161 Bo:=mkS (.s .n (.s .n (.s aUg (.s .n aUj)))) [.cell 6 131, .cell 7 256, .tmp 8] (gc rP (gc iN (gc bQ (gc (aSe 2000000) aB)))) func161 ntmps161 (fun a _=>aA (Bb a.1 a.2.1 a.2.2)) (fun _=>by kernel_rfl)
def Qm:SU:=⟨[.st 133,i6],[i6],false,false,fun(a:D.Site×Int)=>gd (a.1.Accounts.length≤34359738368) (some (aH a.1 a.2))⟩
theorem rR:OK 162 Qm:=mkS aVy [.tmp 4] aB func162 ntmps162 (fun a _=>aA (Px a.1 a.2)) (fun _=>by kernel_rfl)
def Bq:SU:=⟨[.st 131,i6],[i6],false,false,fun(a:D.aAA×Int)=>some (dJ a.1 a.2)⟩
theorem kW:OK 163 Bq:=mkS .n [.tmp 4] (gc gU aB) func163 ntmps163 (fun a _=>(Az a.1 a.2).trans) (fun _=>by kernel_rfl)
def Vq:SU:=⟨[.st 133,i6,i6],[.st 133,i6,i6, .bool],false,false,fun(a:D.Site×Int×Int)=>gd (a.1.sz≤34359738368) (some (jN a.1 a.2.1 a.2.2))⟩
theorem Vr:OK 124 Vq:=mkS (.s .n (.s .n (.s .n (.s (.s (.rj 4 ⟨[(28,10)],[.dat (.s 37) .bool],[],[]⟩ .n) .n) (.s .n (.s (.v [1] (od 11 [6,7,8,9,10])) .n)))))) [.cell 6 133, .tmp 7, .tmp 8, .tmp 9] (gc rQ (gc Bp (gc iO (gc rR (gc kW aB))))) func124 ntmps124 (fun a _=>aA (Ve a.1 a.2.1 a.2.2)) (fun _=>by kernel_rfl)
def Y3:SU:=⟨[.st 115],[.bool],false,false,fun(a:D.aAK)=>gd (a.Host.size≤34359738368) (some (dA a))⟩
theorem mX:OK 206 Y3:=mkS aUe [.tmp 2] (gc uD (gc bQ aB)) func206 ntmps206 (fun(a:D.aAK) _=>aA (U1 a)) (fun _=>by kernel_rfl)
def Li:SU:=⟨[.st 115],[.str],false,false,fun(a:D.aAK)=>gd (yS a) (some (fD a))⟩
theorem oG:OK 164 Li:=mkS aT7 [.tmp 2] (gc mX (gc Yg aB)) func164 ntmps164 (fun(a:D.aAK) _=>aA (Ki a)) (fun _=>by kernel_rfl)
def Qn:SU:=⟨[.sl 5],[.sl 3],true,false,fun(a:(List Int))=>gd (a.length≤34359738360) (some (aB1 a))⟩
theorem Qo:OK 244 Qn:=mkS (.s .n (.s .n (.s (.j ⟨[(3,2),(3,14)],[.tr (.s 3) 0 3 true],[],[]⟩ (.s .n (.s (.l ⟨[(3,2),(3,14)],[.tr (.s 3) 0 3 true, .nat (.s 4)],[],[]⟩ FUEL .n) .n))) .n))) [.tmp 2] aB func244 ntmps244 (fun(a:(List Int)) _=>aA (Ps a)) (fun _=>by kernel_rfl)
def aNv:SU:=⟨[i6,i6],[i6],false,false,fun(a:Int×Int)=>some (aNh a.1 a.2)⟩
theorem aE4:OK 243 aNv:=mkS .n [.tmp 4] aB func243 ntmps243 (fun a _=>(aNn a.1 a.2).trans) (fun _=>by kernel_rfl)
def wF:SU:=⟨[i6, .str],[i6],false,false,fun(a:Int×ByteArray)=>gd (a.2.size≤34359738300) (some (fB a.1 a.2))⟩
theorem jE:OK 212 wF:=mkS .n [.tmp 4] (gc Qo (gc gU (gc aE4 (gc (aSe 1000155) aB)))) func212 ntmps212 (fun a _=>aA (vY a.1 a.2)) (fun _=>by kernel_rfl)
def Y4:SU:=⟨[.str],[i6],false,false,fun(a:ByteArray)=>gd (a.size≤34359738300) (some (fF a))⟩
theorem Ad:OK 211 Y4:=mkS .n [.tmp 2] (gc jE aB) func211 ntmps211 (fun(a:ByteArray) _=>aA (T9 a)) (fun _=>by kernel_rfl)
def wG:SU:=⟨[.st 170],[.sl 3],true,false,fun(a:D.aAJ)=>gd (a.Site.size≤34359738300∧a.aAK.size≤34359738300) (some (aI a))⟩
theorem jF:OK 166 wG:=mkS (.s .n (.s .n (.s (.j ⟨[(3,3)],[.dat (.s 3) i6],[],[]⟩ .n) (.s (.r none [(0,true),(1,true),(3,true),(4,true),(6,true),(7,true),(8,true),(9,true),(10,true),(2,false),(5,false),(11,false),(12,true)]) .n)))) [.tmp 2] (gc Ad (gc jE aB)) func166 ntmps166 (fun(a:D.aAJ) _=>aA (wB a)) (fun _=>by kernel_rfl)
def Lj:SU:=⟨[.st 118],[.bool],false,false,fun(a:D.aAL)=>some (gF a)⟩
theorem Ll:OK 208 Lj:=mkS aUc [.tmp 2] (gc bQ (gc dU aB)) func208 ntmps208 (fun a _=>(Kc a).trans) (fun _=>by kernel_rfl)
def D6:SU:=⟨[i6, .sl 3],[i6],false,false,fun(a:Int×(List Int))=>gd (a.2.length≤34359738300) (some (sN a.1 a.2))⟩
theorem D7:OK 242 D6:=mkS .n [.tmp 4] (gc gU (gc aE4 aB)) func242 ntmps242 (fun a _=>aA (Zb a.1 a.2)) (fun _=>by kernel_rfl)
def Qp:SU:=⟨[.st 118, .str,i6],[i6],false,false,fun(a:D.aAL×ByteArray×Int)=>gd (a.2.1.size≤34359738300) (some (dM a.1 a.2.1 a.2.2))⟩
theorem Qq:OK 210 Qp:=mkS aUa [.tmp 6] (gc Ad (gc D7 aB)) func210 ntmps210 (fun a _=>aA (Pv a.1 a.2.1 a.2.2)) (fun _=>by kernel_rfl)
def Hg:SU:=⟨[.st 118, .str,i6, .sl 3],[.st 118,i6, .bool],false,false,fun(a:D.aAL×ByteArray×Int×(List Int))=>gd (a.2.1.size≤34359738300∧a.2.2.2.length≤34359738200) (some (dS a.1 a.2.1 a.2.2.1 a.2.2.2))⟩
theorem Hl:OK 165 Hg:=mkS (.s .n (.s (.s (.rj 4 ⟨[(15,5)],[.dat (.s 19) .bool],[],[]⟩ .n) .n) (.s .n (.s .n (.s (.u [1] [4,10] [(0,true),(1,true),(2,true),(3,true),(6,true),(8,true),(9,true),(5,false),(4,false),(7,false),(10,false),(11,false),(12,false),(13,false),(14,false),(15,false)]) .n))))) [.cell 8 118, .tmp 9, .tmp 10] (gc Ll (gc Qq (gc rO aB))) func165 ntmps165 (fun a _=>aA (Gg a.1 a.2.1 a.2.2.1 a.2.2.2)) (fun _=>by kernel_rfl)
def aG2:SU:=⟨[.st 115, .str],[.bool],false,false,fun(a:D.aAK×ByteArray)=>gd (iW a.1 a.2) (some true)⟩
theorem Od:OK 167 aG2:=mkS (.s .n (.s (.s (.rj 4 ⟨[(9,16)],[.dat (.s 24) .bool],[],[]⟩ .n) .n) (.s .n (.s (.rj 5 ⟨[(4,1),(30,20)],[.dat (.s 4) .bool],[],[]⟩ .n) .n)))) [.tmp 4] (gc mX (gc uD (gc mV aB))) func167 ntmps167 (fun a _=>aA (aGk a.1 a.2)) (fun _=>by kernel_rfl)
def Hm:SU:=⟨[.st 118, .st 115, .str,i6,i6, .bool],[.st 118, .st 170, .bool],false,false,fun(a:D.aAL×D.aAK×ByteArray×Int×Int×Bool)=>gd (iW a.2.1 a.2.2.1) (some (gQ a.1 a.2.1 a.2.2.1 a.2.2.2.1 a.2.2.2.2.1 a.2.2.2.2.2))⟩
theorem Ho:OK 125 Hm:=mkS (.s .n (.s .n (.s (.y false (some 10) (some 11) (od 14 [4,5,10,11])) (.s (.s (.rj 5 ⟨[(40,4)],[.dat (.s 43) .bool],[],[]⟩ .n) .n) (.s .n (.s .n aO3)))))) [.cell 12 118, .cell 13 170, .tmp 14] (gc oG (gc jF (gc Hl (gc Od aB)))) func125 ntmps125 (fun a _=>aA (Gi a.1 a.2.1 a.2.2.1 a.2.2.2.1 a.2.2.2.2.1 a.2.2.2.2.2)) (fun _=>by kernel_rfl)
def Hq:SU:=⟨[.st 131,i6],[i6],false,false,fun(a:D.aAA×Int)=>gd (a.1.Open.length≤34359738368) (some (aS a.1 a.2))⟩
theorem Hr:OK 213 Hq:=mkS aVy [.tmp 4] aB func213 ntmps213 (fun a _=>aA (Gb a.1 a.2)) (fun _=>by kernel_rfl)
def Ht:SU:=⟨[.st 131,i6,i6,i6],[.st 131, .bool],true,false,fun(a:D.aAA×Int×Int×Int)=>gd (a.1.sz≤34359738368) (some (qD a.1 a.2.1 a.2.2.1 a.2.2.2))⟩
theorem Hu:OK 168 Ht:=mkS (.s .n (.s .n (.s (.s (.rj 4 ⟨[(18,4)],[.dat (.s 21) .bool],[],[]⟩ .n) .n) (.s .n (.s aVv (.s (.v [1] (od 21 [19,20])) .n)))))) [.cell 8 131, .tmp 9] (gc Hr (gc iN (gc rP aB))) func168 ntmps168 (fun a _=>aA (Gd a.1 a.2.1 a.2.2.1 a.2.2.2)) (fun _=>by kernel_rfl)
def Lm:SU:=⟨[.st 223,i6],[.bool],false,false,fun(a:D.aAD×Int)=>gd (a.1.sz≤34359738368) (some (jP a.1 a.2))⟩
theorem Lp:OK 169 Lm:=mkS (.s .n (.s (.s (.rj 4 ⟨[(9,7)],[.dat (.s 15) .bool],[],[]⟩ .n) .n) (.s (.jx ⟨[(4,2),(10,14)],[],[],[]⟩ (.s .n (.s (.l ⟨[(4,2),(10,14)],[.nat (.s 5)],[],[]⟩ FUEL .n) .n))) .n))) [.tmp 4] (gc fM (gc bQ aB)) func169 ntmps169 (fun a _=>aA (Kg a.1 a.2)) (fun _=>by kernel_rfl)
def Bt:SU:=⟨[.st 223,i6],[i6],false,false,fun(a:D.aAD×Int)=>gd (a.1.Credentials.length≤34359738368) (some (aR a.1 a.2))⟩
theorem Bu:OK 214 Bt:=mkS aVy [.tmp 4] aB func214 ntmps214 (fun a _=>aA (Aw a.1 a.2)) (fun _=>by kernel_rfl)
def Qr:SU:=⟨[.str],[.st 115, .bool],false,false,fun(a:ByteArray)=>gd (aB5 a) (some (gP a))⟩
theorem Qs:OK 245 Qr:=mkS (.s .n (.s .n (.s .n (.s (.j ⟨[(5,1),(4,24)],[.dat (.s 5) (.str), .dat (.c 1 0) .bool, .dat (.c 1 1) (.str), .dat (.c 1 2) i6],[],[]⟩ (.s (.s (.rj 4 ⟨[(10,1),(3,5)],[.dat (.s 10) .bool],[],[]⟩ .n) (.s .n (.s (.rj 4 ⟨[(22,1),(3,5)],[.dat (.s 22) .bool],[],[]⟩ .n) .n))) .n)) (.s .n (.s (.jx ⟨[(3,1),(2,3),(27,27)],[.dat (.c 1 1) (.str), .dat (.c 1 2) i6],[],[]⟩ (.s .n (.s (.l ⟨[(3,1),(2,3),(27,27)],[.nat (.s 6)],[],[]⟩ FUEL .n) .n))) (.s (.s (.rj 4 ⟨[(66,6)],[.dat (.s 71) .bool],[],[]⟩ .n) .n) .n))))))) [.cell 2 115, .tmp 3] (gc O9 (gc mX (gc oG aB))) func245 ntmps245 (fun(a:ByteArray) _=>aA (Pz a)) (fun _=>by kernel_rfl)
def Bv:SU:=⟨[i6, .st 170, .str,i6,i6],[i6],false,false,fun(a:Int×D.aAJ×ByteArray×Int×Int)=>gd (N9 a.2.1 a.2.2.1) (some (eH a.1 a.2.1 a.2.2.1 a.2.2.2.1 a.2.2.2.2))⟩
theorem Bw:OK 215 Bv:=mkS (.s .n (.s .n (.s (.s (.s aUh (.s .n (.s .n (.s .n (.s .n (.s .n (.s (.y true (some 5) none [(0,true),(1,true),(3,true),(4,true),(7,true),(8,true),(2,false),(5,false),(6,false),(9,false),(10,false),(11,true)]) .n))))))) .n) .n))) [.tmp 10] (gc Qs (gc Od (gc jF (gc kC aB)))) func215 ntmps215 (fun a _=>aA (Bd a.1 a.2.1 a.2.2.1 a.2.2.2.1 a.2.2.2.2)) (fun _=>by kernel_rfl)
def Hw:SU:=⟨[.st 223, .st 170, .str,i6],[.st 223,i6],true,false,fun(a:D.aAD×D.aAJ×ByteArray×Int)=>gd (N9 a.2.1 a.2.2.1∧a.1.sz≤34359738368) (some (jO a.1 a.2.1 a.2.2.1 a.2.2.2))⟩
theorem Hy:OK 170 Hw:=mkS (.s .n (.s .n (.s .n (.s aUi (.s (.r none (od 17 [15])) (.s (.j ⟨[(51,17)],[.ti 3 292 true],[],[]⟩ .n) .n)))))) [.cell 8 223, .tmp 9] (gc Ha (gc Bu (gc fM (gc Bw aB)))) func170 ntmps170 (fun a _=>aA (Gl a.1 a.2.1 a.2.2.1 a.2.2.2)) (fun _=>by kernel_rfl)
def Qt:SU:=⟨[.st 133,i6,i6,i6, .st 170],[.st 133,i6,i6],true,false,fun(a:D.Site×Int×Int×Int×D.aAJ)=>gd (N9 a.2.2.2.2 a.1.Name∧a.1.sz≤34359738300) (some (jQ a.1 a.2.1 a.2.2.1 a.2.2.2.1 a.2.2.2.2))⟩
theorem Qu:OK 126 Qt:=mkS aW0 [.cell 10 133, .tmp 11, .tmp 12] (gc rQ (gc rR (gc iO (gc Hu (gc Lp (gc kW (gc Hy aB))))))) func126 ntmps126 (fun a _=>aA (Qb a.1 a.2.1 a.2.2.1 a.2.2.2.1 a.2.2.2.2)) (fun _=>by kernel_rfl)
def Vs:SU:=⟨[.st 55,i6,i6,i6],[.st 55, .bool],true,false,fun(a:D.aAI×Int×Int×Int)=>gd (a.1.sz≤34359738300) (some (Ub a.1 a.2.1 a.2.2.1 a.2.2.2))⟩
theorem Vt:OK 127 Vs:=mkS (.s .n (.s .n (.s .n (.s (.j ⟨[(10,3),(12,26)],[.tr (.s 10) 2 188 true],[],[]⟩ (.s .n (.s (.s .n (.s (.j ⟨[(11,2),(15,13)],[.dat (.s 11) i6],[],[]⟩ (.s .n (.s (.l ⟨[(11,2),(18,10)],[.dat (.s 11) i6, .dat (.s 12) i6],[],[]⟩ FUEL (.s .n (.s (.j ⟨[(11,1),(23,6)],[.dat (.s 11) i6],[],[]⟩ .n) .n))) .n))) (.y true none (some 9) [(1,true),(2,true),(3,true),(5,true),(6,true),(7,true),(8,true),(0,false),(4,false),(9,false),(10,true)]))) .n))) (.s .n (.s (.s (.rj 4 ⟨[(56,5)],[.dat (.s 60) .bool],[],[]⟩ .n) .n) .n)))))) [.cell 8 55, .tmp 9] (gc kV (gc He aB)) func127 ntmps127 (fun a _=>aA (Vd a.1 a.2.1 a.2.2.1 a.2.2.2)) (fun _=>by kernel_rfl)
def aG3:SU:=⟨[.st 57,i6,i6, .st 115],[.st 57, .st 170,i6],true,false,fun(a:D.World×Int×Int×D.aAK)=>gd (qE a.2.2.2 a.2.2.1∧a.1.sz≤34359738200) (some (uC a.1 a.2.1 a.2.2.1 a.2.2.2))⟩
theorem aG4:OK 75 aG3:=mkS (.s .n (.s .n (.s .n (.s (.y false (some 13) (some 14) (od 18 [7,13,14])) (.s .n (.s (.u [] [16,17] [(0,true),(1,true),(2,true),(3,true),(4,true),(5,true),(6,true),(7,true),(9,true),(10,true),(8,false),(11,false),(12,true),(13,true),(14,true),(15,true),(16,false),(17,false),(18,false),(19,false),(20,false)]) (.s .n (.s .n (.s .n (.s (.s .n (.s aO3 .n)) (.s .n (.s .n aO3)))))))))))) [.cell 8 57, .cell 9 170, .tmp 10] (gc Hf (gc Ac (gc Vr (gc mW (gc Ho (gc Qu (gc Vt aB))))))) func75 ntmps75 (fun a _=>aA (aGn a.1 a.2.1 a.2.2.1 a.2.2.2)) (fun _=>by kernel_rfl)
def Y5:SU:=⟨[.st 57,i6,i6, .st 115],[.st 57,i6],true,false,fun(a:D.World×Int×Int×D.aAK)=>gd (qE a.2.2.2 a.2.2.1∧a.1.sz≤34359738200) (some (xP a.1 a.2.1 a.2.2.1 a.2.2.2))⟩
theorem Y6:OK 40 Y5:=mkS .n [.cell 8 57, .tmp 9] (gc aG4 aB) func40 ntmps40 (fun a _=>aA (U4 a.1 a.2.1 a.2.2.1 a.2.2.2)) (fun _=>by kernel_rfl)
def Qv:SU:=⟨[.st 57,i6,i6],[.st 57,i6],true,false,fun(a:D.World×Int×Int)=>gd (a.1.sz≤34359738200) (some (gT a.1 a.2.1 a.2.2))⟩
theorem Qw:OK 15 Qv:=mkS (.s .n (.s (.s (.rj 6 ⟨[(13,7)],[.dat (.s 19) .bool],[],[]⟩ .n) .n) (.s (.r (some 10) (od 12 [4,6,7,10,11])) .n))) [.cell 6 57, .tmp 7] (gc Ac (gc Hf (gc mW (gc D5 (gc Y6 aB))))) func15 ntmps15 (fun a _=>aA (Qd a.1 a.2.1 a.2.2)) (fun _=>by kernel_rfl)
def Lr:SU:=⟨[.st 57,i6],[i6],false,false,fun(a:D.World×Int)=>gd (a.1.sz≤34359738200) (some (sP a.1 a.2))⟩
theorem Ls:OK 5 Lr:=mkS aWz [.tmp 4] (gc Qw aB) func5 ntmps5 (fun a _=>aA (Kk a.1 a.2)) (fun _=>by kernel_rfl)
def aE5:SU:=⟨[i6,i6,i6],[.bool],false,false,fun(a:Int×Int×Int)=>some (bI a.1 a.2.1 a.2.2)⟩
theorem bY:OK 134 aE5:=mkS aUd [.tmp 6] aB func134 ntmps134 (fun a _=>(aCz a.1 a.2.1 a.2.2).trans) (fun _=>by kernel_rfl)
def aG5:SU:=⟨[.str],[.bool],false,false,fun(a:ByteArray)=>some (bS a)⟩
theorem lK:OK 217 aG5:=mkS (.s .n (.s .n (.s (.jx ⟨[(2,1),(1,3),(3,57)],[],[],[]⟩ (.s .n (.s (.l ⟨[(2,1),(1,3),(6,54)],[.nat (.s 13)],[],[]⟩ FUEL (.s .n (.s .n (.s (.jx ⟨[(2,1),(1,3),(8,51)],[],[],[]⟩ (.s (.s .n (.s (.s (.rj 4 ⟨[(20,18)],[.dat (.s 37) .bool],[],[]⟩ .n) .n) (.s .n (.s (.l ⟨[(2,1),(2,2),(31,28)],[.nat (.s 5)],[],[]⟩ FUEL (.s .n (.s (.s (.s .n (.s (.rj 3 ⟨[(49,17)],[.dat (.s 65) .bool],[],[]⟩ .n) .n)) .n) .n))) .n)))) .n)) .n)))) .n))) .n))) [.tmp 2] (gc yT aB) func217 ntmps217 (fun a _=>(aGi a).trans) (fun _=>by kernel_rfl)
def Qx:SU:=⟨[.str],[.str],false,false,fun(a:ByteArray)=>some (aQc a)⟩
theorem Qy:OK 218 Qx:=mkS .n [.tmp 2] (gc lK (gc yT (gc aB9 aB))) func218 ntmps218 (fun a _=>(Pn a).trans) (fun _=>by kernel_rfl)
def aG6:SU:=⟨[.str],[.bool],false,false,fun(a:ByteArray)=>gd (a.size≤9223372036854775807) (some (Jf a))⟩
theorem aG7:OK 219 aG6:=mkS (.s .n (.s (.jx ⟨[(2,12)],[],[],[]⟩ (.s .n (.s (.l ⟨[(2,12)],[.nat (.s 3)],[],[]⟩ FUEL .n) .n))) .n)) [.tmp 2] aB func219 ntmps219 (fun(a:ByteArray) _=>aA (aGj a)) (fun _=>by kernel_rfl)
def Vu:SU:=⟨[i6],[.bool],false,false,fun(a:Int)=>some (gY a)⟩
theorem dV:OK 138 Vu:=mkS .n [.tmp 2] (gc bY aB) func138 ntmps138 (fun a _=>(Uu a).trans) (fun _=>by kernel_rfl)
def Qz:SU:=⟨[.str,i6],[.bool],false,false,fun(a:ByteArray×Int)=>gd (a.1.size≤9223372036854775807) (some (gN a.1 a.2))⟩
theorem Ra:OK 174 Qz:=mkS (.s .n (.s (.rj 3 ⟨[(4,1),(2,13)],[.dat (.s 4) .bool],[],[]⟩ .n) .n)) [.tmp 4] (gc lK (gc Qy (gc aG7 (gc dV aB)))) func174 ntmps174 (fun a _=>aA (Po a.1 a.2)) (fun _=>by kernel_rfl)
def Rb:SU:=⟨[.st 131],[.bool],false,false,fun(a:D.aAA)=>gd (a.sz≤34359738368) (some (bW a))⟩
theorem iP:OK 175 Rb:=mkS (.s .n (.s (.s (.rj 5 ⟨[(9,6)],[.dat (.s 14) .bool],[],[]⟩ .n) .n) (.s (.jx ⟨[(2,3),(10,44)],[],[],[]⟩ (.s .n (.s (.l ⟨[(2,3),(13,41)],[.nat (.s 18)],[],[]⟩ FUEL (.s .n (.s .n (.s (.s (.s .n (.s (.rj 8 ⟨[(30,28)],[.dat (.s 57) .bool],[],[]⟩ (.r none (od 35 [5,26,32]))) .n)) .n) .n)))) .n))) .n))) [.tmp 2] (gc bY aB) func175 ntmps175 (fun(a:D.aAA) _=>aA (Pm a)) (fun _=>by kernel_rfl)
def aKc:SU:=⟨[i6,i6,i6],[i6],false,false,fun(a:Int×Int×Int)=>oU a.1 a.2.1 a.2.2⟩
theorem aKd:OK 248 aKc:=mkS (.s .n (.s .n (.s .n (.s (.j ⟨[(0,2),(5,1),(5,17)],[.dat (.s 7) i6],[],[]⟩ (.s (.l ⟨[(0,2),(5,1),(5,17)],[.dat (.s 0) i6, .dat (.s 1) i6, .dat (.s 7) i6],[],[]⟩ FUEL (.s .n (.s (.s (.j ⟨[(7,1),(7,8)],[.dat (.s 7) i6],[],[]⟩ .n) .n) .n))) .n)) .n)))) [.tmp 6] aB func248 ntmps248 (fun _ _=>id) (fun _=>by kernel_rfl)
def Vv:SU:=⟨[i6],[i6],false,false,fun(a:Int)=>some (gD a)⟩
theorem uA:OK 220 Vv:=mkS .n [.tmp 2] (gc dV (gc aKd aB)) func220 ntmps220 (fun a _=>(Uz a).trans) (fun _=>by kernel_rfl)
def Ca:SU:=⟨[.st 223],[.bool],false,false,fun(a:D.aAD)=>gd (a.sz≤34359738368) (some (aY a))⟩
theorem fO:OK 176 Ca:=mkS (.s .n (.s (.s (.rj 5 ⟨[(11,12)],[.dat (.s 22) .bool],[],[]⟩ .n) .n) (.s (.jx ⟨[(2,3),(1,1),(16,56)],[],[],[]⟩ (.s .n (.s (.l ⟨[(2,3),(1,1),(19,53)],[.nat (.s 26)],[],[]⟩ FUEL (.s .n (.s .n (.s (.jx ⟨[(2,3),(1,1),(21,50)],[],[],[]⟩ (.s (.s .n (.s (.s (.rj 5 ⟨[(35,28)],[.dat (.s 62) .bool],[],[]⟩ (.r none (od 32 [2,23,29]))) .n) (.s .n (.s (.l ⟨[(2,1),(3,1),(61,10)],[.nat (.s 68)],[],[]⟩ FUEL .n) .n)))) .n)) .n)))) .n))) .n))) [.tmp 2] (gc bY (gc uA aB)) func176 ntmps176 (fun(a:D.aAD) _=>aA (Av a)) (fun _=>by kernel_rfl)
def Rc:SU:=⟨[.st 133],[.bool],false,false,fun(a:D.Site)=>gd (a.sz≤34359738368) (some (bX a))⟩
theorem iQ:OK 135 Rc:=mkS (.s .n (.s (.s (.rj 8 ⟨[(12,12)],[.dat (.s 23) .bool],[],[]⟩ .n) .n) (.s (.jx ⟨[(2,3),(19,28)],[],[],[]⟩ (.s .n (.s (.l ⟨[(2,3),(22,25)],[.nat (.s 27)],[],[]⟩ FUEL (.s .n (.s .n (.s (.s (.s .n (.s (.rj 4 ⟨[(35,16)],[.dat (.s 50) .bool],[],[]⟩ (.r none (od 19 [1]))) .n)) .n) .n)))) .n))) .n))) [.tmp 2] (gc Ra (gc iP (gc fO aB))) func135 ntmps135 (fun(a:D.Site) _=>aA (Pq a)) (fun _=>by kernel_rfl)
def Y7:SU:=⟨[i6],[.str],false,false,fun(a:Int)=>some (aJ a)⟩
theorem mY:OK 96 Y7:=mkS .n [.tmp 2] aB func96 ntmps96 (fun a _=>(R9 a).trans) (fun _=>by kernel_rfl)
def Cb:SU:=⟨[.st 55],[.bool],false,false,fun(a:D.aAI)=>gd (a.sz≤34359738368) (some (bR a))⟩
theorem kX:OK 136 Cb:=mkS (.s .n (.s .n (.s (.jx ⟨[(2,3),(4,41)],[],[],[]⟩ (.s .n (.s (.l ⟨[(2,3),(7,38)],[.nat (.s 12)],[],[]⟩ FUEL (.s .n aT9)) .n))) .n))) [.tmp 2] (gc bY aB) func136 ntmps136 (fun(a:D.aAI) _=>aA (Ar a)) (fun _=>by kernel_rfl)
def aNw:SU:=⟨[.sl 3,i6],[.bool],false,false,fun(a:(List Int)×Int)=>gd (a.1.length≤1099511627776) (some (gZ a.1 a.2))⟩
theorem aE6:OK 179 aNw:=mkS (.s .n (.s (.jx ⟨[(4,1),(1,11)],[],[],[]⟩ (.s .n (.s (.l ⟨[(4,1),(1,1),(2,8)],[.nat (.s 9)],[],[]⟩ FUEL .n) .n))) .n)) [.tmp 4] aB func179 ntmps179 (fun a _=>aA (aNo a.1 a.2)) (fun _=>by kernel_rfl)
def D8:SU:=⟨[.sl 176],[.sl 3],true,false,fun(a:(List D.aAE))=>gd (a.length≤34359738368) (some (aN a))⟩
theorem D9:OK 177 D8:=mkS (.s .n (.s .n (.s (.j ⟨[(3,1),(1,2),(1,1),(1,40)],[.tr (.s 3) 0 3 true],[],[]⟩ (.s .n (.s (.l ⟨[(3,1),(1,2),(1,1),(3,38)],[.tr (.s 3) 0 3 true, .nat (.s 12)],[],[]⟩ FUEL (.s .n (.s .n (.s (.j ⟨[(3,1),(1,2),(1,1),(5,35)],[.tr (.s 3) 0 3 true],[],[]⟩ (.s (.s .n (.s .n (.s (.s .n (.s .n (.s .n (.s (.s .n (.s (.j ⟨[(6,1),(1,1),(24,15)],[.tr (.s 6) 2 3 true],[],[]⟩ (.s .n (.s (.l ⟨[(6,1),(1,1),(26,13)],[.tr (.s 6) 2 3 true, .nat (.s 35)],[],[]⟩ FUEL (.s .n (.s .n (.s (.j ⟨[(6,1),(1,1),(28,10)],[.tr (.s 6) 2 3 true],[],[]⟩ .n) .n)))) .n))) .n)) .n)))) .n))) .n)) .n)))) .n))) .n))) [.tmp 2] (gc aE6 aB) func177 ntmps177 (fun(a:(List D.aAE)) _=>aA (Zg a)) (fun _=>by kernel_rfl)
def aNx:SU:=⟨[i6,i6],[i6],false,false,fun(a:Int×Int)=>some (Ai a.1 a.2)⟩
theorem aNy:OK 249 aNx:=mkS (.s .n (.s (.s (.rj 3 ⟨[(8,4)],[.dat (.s 11) .bool],[],[]⟩ .n) .n) (.s .n (.s (.j ⟨[(5,1),(9,5)],[.dat (.s 5) i6],[],[]⟩ .n) .n)))) [.tmp 4] aB func249 ntmps249 (fun a _=>(aNm a.1 a.2).trans) (fun _=>by kernel_rfl)
def aMd:SU:=⟨[.sl 3],[i6],false,false,fun(a:(List Int))=>gd (a.length≤1099511627776) (some (uE a))⟩
theorem M4:OK 222 aMd:=mkS (.s .n (.s .n (.s (.j ⟨[(3,1),(1,15)],[.dat (.s 3) i6],[],[]⟩ (.s .n (.s (.l ⟨[(3,1),(1,1),(2,12)],[.dat (.s 3) i6, .nat (.s 8)],[],[]⟩ FUEL .n) .n))) .n))) [.tmp 2] (gc aNy aB) func222 ntmps222 (fun(a:(List Int)) _=>aA (aL5 a)) (fun _=>by kernel_rfl)
def E5:SU:=⟨[.st 176],[i6],false,false,fun(a:D.aAE)=>some (bG a)⟩
theorem wH:OK 182 E5:=mkS .n [.tmp 2] (gc M4 aB) func182 ntmps182 (fun a _=>(Zo a).trans) (fun _=>by kernel_rfl)
def aE7:SU:=⟨[.sl 176],[i6],false,false,fun(a:(List D.aAE))=>gd (a.length≤34359738368) (some (dR a))⟩
theorem aE8:OK 178 aE7:=mkS .n [.tmp 2] (gc wH aB) func178 ntmps178 (fun(a:(List D.aAE)) _=>aA (aDh a)) (fun _=>by kernel_rfl)
def Vw:SU:=⟨[.sl 176,i6],[.bool],false,false,fun(a:(List D.aAE)×Int)=>gd (a.1.length≤34359738368) (some (jL a.1 a.2))⟩
theorem Vx:OK 180 Vw:=mkS (.s .n (.s (.jx ⟨[(4,1),(1,17)],[],[],[]⟩ (.s .n (.s (.l ⟨[(4,1),(1,1),(2,14)],[.nat (.s 9)],[],[]⟩ FUEL (.s .n (.s .n (.s (.s (.s .n (.s (.rj 4 ⟨[(16,6)],[.dat (.s 21) .bool],[],[]⟩ .n) .n)) .n) .n)))) .n))) .n)) [.tmp 4] aB func180 ntmps180 (fun a _=>aA (Va a.1 a.2)) (fun _=>by kernel_rfl)
def aG8:SU:=⟨[.sl 3, .sl 99],[.sl 3],true,false,fun(a:(List Int)×(List (List Int)))=>gd (nH a.1 a.2) (some (jK a.1 a.2))⟩
theorem fG:OK 145 aG8:=mkS (.s .n (.s .n (.s (.j ⟨[(5,1),(1,1),(3,10)],[.tr (.s 5) 0 3 true],[],[]⟩ (.s .n (.s (.l ⟨[(5,1),(1,1),(5,8)],[.tr (.s 5) 0 3 true, .nat (.s 13)],[],[]⟩ FUEL .n) .n))) .n))) [.tmp 4] aB func145 ntmps145 (fun a _=>aA (aGe a.1 a.2)) (fun _=>by kernel_rfl)
def E8:SU:=⟨[i6, .sl 3],[i6],false,false,fun(a:Int×(List Int))=>gd (a.2.length≤34359738368) (some (eD a.1 a.2))⟩
theorem gV:OK 223 E8:=mkS .n [.tmp 4] (gc fG (gc M4 aB)) func223 ntmps223 (fun a _=>aA (Za a.1 a.2)) (fun _=>by kernel_rfl)
def Re:SU:=⟨[i6, .sl 3],[i6],false,false,fun(a:Int×(List Int))=>gd (a.2.length≤34359738300) (some (yR a.1 a.2))⟩
theorem rT:OK 221 Re:=mkS .n [.tmp 4] (gc dV (gc fG (gc gV aB))) func221 ntmps221 (fun a _=>aA (Pj a.1 a.2)) (fun _=>by kernel_rfl)
def yI:SU:=⟨[i6, .sl 3,i6],[.bool],false,false,fun(a:Int×(List Int)×Int)=>gd (a.2.1.length≤34359738300) (some (dC a.1 a.2.1 a.2.2))⟩
theorem kD:OK 181 yI:=mkS aUb [.tmp 6] (gc uA (gc rT aB)) func181 ntmps181 (fun a _=>aA (xY a.1 a.2.1 a.2.2)) (fun _=>by kernel_rfl)
def E9:SU:=⟨[.sl 176],[.bool],false,false,fun(a:(List D.aAE))=>gd (a.length≤34359738368) (some (qB a))⟩
theorem F3:OK 137 E9:=mkS (.s .n (.s (.s (.rj 4 ⟨[(10,5)],[.dat (.s 14) .bool],[],[]⟩ .n) .n) (.s (.jx ⟨[(2,5),(8,83)],[],[],[]⟩ (.s .n (.s (.l ⟨[(2,5),(10,81)],[.nat (.s 17)],[],[]⟩ FUEL (.s .n (.s .n (.s (.jx ⟨[(2,5),(12,78)],[],[],[]⟩ (.s (.s .n (.s .n (.s .n (.s (.s (.rj 5 ⟨[(31,26)],[.dat (.s 56) .bool],[],[]⟩ (.r none (od 30 [8,15]))) .n) (.s (.jx ⟨[(2,1),(54,31)],[],[],[]⟩ (.s .n (.s (.s .n (.s (.s (.rj 5 ⟨[(65,11)],[.dat (.s 75) .bool],[],[]⟩ .n) .n) (.s .n (.s (.s (.rj 6 ⟨[(83,5)],[.dat (.s 87) .bool],[],[]⟩ .n) .n) .n)))) .n))) (.s (.r none [(0,true),(1,true),(2,true),(5,true),(6,true),(3,false),(4,false),(7,false),(8,true)]) .n)))))) .n)) .n)))) .n))) .n))) [.tmp 2] (gc D9 (gc aE8 (gc aE6 (gc Vx (gc wH (gc kD aB)))))) func137 ntmps137 (fun(a:(List D.aAE)) _=>aA (Zq a)) (fun _=>by kernel_rfl)
def Lt:SU:=⟨[.st 57],[.bool],false,false,fun(a:D.World)=>gd (a.sz≤34359738368) (some (dI a))⟩
theorem oH:OK 87 Lt:=mkS (.s .n (.s (.s (.rj 5 ⟨[(9,22)],[.dat (.s 30) .bool],[],[]⟩ .n) .n) (.s (.jx ⟨[(2,3),(26,19)],[],[],[]⟩ (.s .n (.s (.l ⟨[(2,3),(29,16)],[.nat (.s 34)],[],[]⟩ FUEL (.s .n (.s .n (.s (.s (.s .n (.s (.rj 4 ⟨[(42,7)],[.dat (.s 48) .bool],[],[]⟩ (.r none (od 10 [1,7]))) .n)) .n) .n)))) .n))) (.s (.rj 4 ⟨[(2,1),(50,11)],[.dat (.s 2) .bool],[],[]⟩ .n) .n)))) [.tmp 2] (gc bY (gc iQ (gc mY (gc kX (gc F3 (gc dV aB)))))) func87 ntmps87 (fun(a:D.World) _=>aA (Kb a)) (fun _=>by kernel_rfl)
def F4:SU:=⟨[.st 57,i6],[.bool],false,false,fun(a:D.World×Int)=>some (fP a.1 a.2)⟩
theorem wI:OK 88 F4:=mkS aUf [.tmp 4] aB func88 ntmps88 (fun a _=>(Zh a.1 a.2).trans) (fun _=>by kernel_rfl)
def aE9:SU:=⟨[.st 57,i6],[.bool],false,false,fun(a:D.World×Int)=>some (fC a.1 a.2)⟩
theorem Hz:OK 89 aE9:=mkS aUf [.tmp 4] aB func89 ntmps89 (fun a _=>(aC1 a.1 a.2).trans) (fun _=>by kernel_rfl)
def aG9:SU:=⟨[.st 57,i6,i6, .bool],[.bool],false,false,fun(a:D.World×Int×Int×Bool)=>gd (a.1.sz≤34359738368) (some (dB a.1 a.2.1 a.2.2.1&&jM a.1 a.2.1==a.2.2.2))⟩
theorem aHa:OK 50 aG9:=mkS (.s .n (.s (.rj 3 ⟨[(8,1),(2,19)],[.dat (.s 8) .bool],[],[]⟩ .n) .n)) [.tmp 8] (gc oH (gc wI (gc Hz aB))) func50 ntmps50 (fun a _=>aA (aGm a.1 a.2.1 a.2.2.1 a.2.2.2)) (fun _=>by kernel_rfl)
def aFa:SU:=⟨[.sl 176],[.sl 176],true,false,fun(a:(List D.aAE))=>gd (a.length≤34359738368) (some (a))⟩
theorem Ia:OK 139 aFa:=mkS .n [.tmp 2] aB func139 ntmps139 (fun(a:(List D.aAE)) _=>aA (aC4 a)) (fun _=>by kernel_rfl)
def F5:SU:=⟨[.sl 5],[.sl 5],true,false,fun(a:(List Int))=>gd (a.length≤34359738368) (some (a))⟩
theorem wJ:OK 184 F5:=mkS .n [.tmp 2] aB func184 ntmps184 (fun(a:(List Int)) _=>aA (Zi a)) (fun _=>by kernel_rfl)
def F6:SU:=⟨[.sl 236],[.sl 236],true,false,fun(a:(List D.Box))=>gd (szL D.Box.sz a≤34359738368) (some (a))⟩
theorem F7:OK 183 F6:=mkS (.s .n (.s .n (.s (.j ⟨[(3,1),(1,1),(1,15)],[.tr (.s 3) 0 236 true],[],[]⟩ (.s .n (.s (.l ⟨[(3,1),(1,1),(3,13)],[.tr (.s 3) 0 236 true, .nat (.s 9)],[],[]⟩ FUEL .n) .n))) .n))) [.tmp 2] (gc wJ aB) func183 ntmps183 (fun(a:(List D.Box)) _=>aA (Zj a)) (fun _=>by kernel_rfl)
def Cc:SU:=⟨[.st 46],[.st 46],true,false,fun(a:D.aAF)=>gd (a.sz≤34359738368) (some (a))⟩
theorem Ce:OK 140 Cc:=mkS (.s .n (.s (.r (some 6) (od 7 [4,6])) .n)) [.cell 2 46] (gc F7 aB) func140 ntmps140 (fun(a:D.aAF) _=>aA (Ap a)) (fun _=>by kernel_rfl)
def Vy:SU:=⟨[.st 180],[.st 180],true,false,fun(a:D.aAB)=>gd (a.sz≤34359738368) (some (a))⟩
theorem Vz:OK 141 Vy:=mkS .n [.cell 2 180] (gc wJ aB) func141 ntmps141 (fun(a:D.aAB) _=>aA (Ux a)) (fun _=>by kernel_rfl)
def F8:SU:=⟨[.st 49],[.st 49],true,false,fun(a:D.aAO)=>gd (a.sz≤34359738368) (some (a))⟩
theorem F9:OK 90 F8:=mkS (.s .n (.s aT8 (.s (.j ⟨[(5,1),(7,15)],[.nt (.c 4 3) 180 true],[],[]⟩ (.s .n (.s (.l ⟨[(5,1),(10,12)],[.nat (.s 16), .nt (.c 4 3) 180 true],[],[]⟩ FUEL aTo) .n))) .n))) [.cell 2 49] (gc Ia (gc Ce (gc Vz aB))) func90 ntmps90 (fun(a:D.aAO) _=>aA (Zk a)) (fun _=>by kernel_rfl)
def Y8:SU:=⟨[.st 140],[.st 140],true,false,fun(a:D.aAC)=>gd (a.sz≤34359738368) (some (a))⟩
theorem Y9:OK 142 Y8:=mkS .n [.cell 2 140] aB func142 ntmps142 (fun(a:D.aAC) _=>aA (R5 a)) (fun _=>by kernel_rfl)
def G5:SU:=⟨[.sl 140],[.sl 140],true,false,fun(a:(List D.aAC))=>gd (szL D.aAC.sz a≤34359738368) (some (a))⟩
theorem G6:OK 91 G5:=mkS (.s .n (.s .n (.s (.j ⟨[(3,1),(1,1),(1,12)],[.tr (.s 3) 0 140 true],[],[]⟩ (.s .n (.s (.l ⟨[(3,1),(1,1),(3,10)],[.tr (.s 3) 0 140 true, .nat (.s 9)],[],[]⟩ FUEL .n) .n))) .n))) [.tmp 2] (gc Y9 aB) func91 ntmps91 (fun(a:(List D.aAC)) _=>aA (Zl a)) (fun _=>by kernel_rfl)
def Z0:SU:=⟨[.st 55],[.st 55],true,false,fun(a:D.aAI)=>gd (a.sz≤34359738368) (some (a))⟩
theorem Ae:OK 92 Z0:=mkS .n [.cell 2 55] aB func92 ntmps92 (fun(a:D.aAI) _=>aA (R7 a)) (fun _=>by kernel_rfl)
def Wd:SU:=⟨[.st 121],[.st 121],true,false,fun(a:D.aAN)=>gd (a.sz≤34359738368) (some (a))⟩
theorem We:OK 143 Wd:=mkS .n [.cell 2 121] aB func143 ntmps143 (fun(a:D.aAN) _=>aA (Uv a)) (fun _=>by kernel_rfl)
def Wh:SU:=⟨[.st 123],[.st 123],true,false,fun(a:D.Device)=>gd (a.sz≤34359738368) (some (a))⟩
theorem Wi:OK 93 Wh:=mkS .n [.cell 2 123] (gc Ia (gc We aB)) func93 ntmps93 (fun(a:D.Device) _=>aA (Uw a)) (fun _=>by kernel_rfl)
def Z4:SU:=⟨[.st 131],[.st 131],true,false,fun(a:D.aAA)=>gd (a.sz≤34359738368) (some (a))⟩
theorem mZ:OK 144 Z4:=mkS aT6 [.cell 2 131] aB func144 ntmps144 (fun(a:D.aAA) _=>aA (R3 a)) (fun _=>by kernel_rfl)
def Rf:SU:=⟨[.st 223],[.st 223],true,false,fun(a:D.aAD)=>gd (a.sz≤34359738368) (some (a))⟩
theorem rU:OK 146 Rf:=mkS aT6 [.cell 2 223] aB func146 ntmps146 (fun(a:D.aAD) _=>aA (Ph a)) (fun _=>by kernel_rfl)
def Z5:SU:=⟨[.st 133],[.st 133],true,false,fun(a:D.Site)=>gd (a.sz≤34359738368) (some (a))⟩
theorem nA:OK 94 Z5:=mkS (.s .n (.s (.y false (some 9) (some 10) [(0,true),(1,true),(2,true),(3,true),(5,true),(6,true),(4,false),(7,false),(8,true),(9,false),(10,false)]) (.s (.j ⟨[(5,1),(9,15)],[.nt (.c 4 1) 223 true],[],[]⟩ (.s .n (.s (.l ⟨[(5,1),(12,12)],[.nat (.s 18), .nt (.c 4 1) 223 true],[],[]⟩ FUEL aTo) .n))) .n))) [.cell 2 133] (gc mZ (gc fG (gc rU aB))) func94 ntmps94 (fun(a:D.Site) _=>aA (R4 a)) (fun _=>by kernel_rfl)
def G7:SU:=⟨[.st 57],[.st 57],true,false,fun(a:D.World)=>gd (a.sz≤34359738368) (some (a))⟩
theorem wK:OK 51 G7:=mkS (.s .n (.s (.y true (some 22) (some 23) [(0,true),(1,true),(2,true),(3,true),(5,true),(6,true),(8,true),(9,true),(11,true),(12,true),(13,true),(14,true),(16,true),(17,true),(18,true),(19,true),(4,false),(7,false),(10,false),(15,false),(20,false),(21,false),(22,false),(23,false)]) (.s (.j ⟨[(5,1),(24,15)],[.nt (.c 8 2) 123 true],[],[]⟩ (.s .n (.s (.l ⟨[(5,1),(27,12)],[.nat (.s 33), .nt (.c 8 2) 123 true],[],[]⟩ FUEL aTo) .n))) (.s (.j ⟨[(7,1),(37,15)],[.nt (.c 8 8) 133 true],[],[]⟩ (.s .n (.s (.l ⟨[(7,1),(40,12)],[.nat (.s 48), .nt (.c 8 8) 133 true],[],[]⟩ FUEL aTo) .n))) .n)))) [.cell 2 57] (gc F9 (gc G6 (gc Ae (gc Wi (gc nA aB))))) func51 ntmps51 (fun(a:D.World) _=>aA (Zm a)) (fun _=>by kernel_rfl)
def aMe:SU:=⟨[i6],[.st 115],false,false,fun(a:Int)=>some (bM a)⟩
theorem aMf:OK 53 aMe:=mkS .n [.cell 2 115] (gc mY aB) func53 ntmps53 (fun a _=>(aMa a).trans) (fun _=>by kernel_rfl)
def Rh:SU:=⟨[.st 133,i6],[i6],false,false,fun(a:D.Site×Int)=>gd (a.1.Accounts.length≤34359738368) (some (aH a.1 a.2))⟩
theorem rV:OK 185 Rh:=mkS aVx [.tmp 4] aB func185 ntmps185 (fun a _=>aA (Py a.1 a.2)) (fun _=>by kernel_rfl)
def Cf:SU:=⟨[.st 131,i6,i6],[.st 131, .st 256, .bool],true,false,fun(a:D.aAA×Int×Int)=>gd (a.1.sz≤34359738368) (some (fI a.1 a.2.1 a.2.2))⟩
theorem Cg:OK 186 Cf:=mkS (.s .n (.s .n (.s aUg (.s (.j ⟨[(33,10)],[.tr (.c 4 2) 3 256 true],[],[]⟩ .n) aUj)))) [.cell 6 131, .cell 7 256, .tmp 8] (gc mZ (gc iP (gc bY aB))) func186 ntmps186 (fun a _=>aA (Bc a.1 a.2.1 a.2.2)) (fun _=>by kernel_rfl)
def Ch:SU:=⟨[.st 131,i6],[i6],false,false,fun(a:D.aAA×Int)=>some (dJ a.1 a.2)⟩
theorem kY:OK 187 Ch:=mkS .n [.tmp 4] (gc gV aB) func187 ntmps187 (fun a _=>(Ba a.1 a.2).trans) (fun _=>by kernel_rfl)
def Wj:SU:=⟨[.st 133,i6,i6],[.st 133,i6,i6, .bool],true,false,fun(a:D.Site×Int×Int)=>gd (a.1.sz≤34359738368) (some (jN a.1 a.2.1 a.2.2))⟩
theorem Wl:OK 147 Wj:=mkS (.s .n (.s .n (.s (.s (.rj 4 ⟨[(19,6)],[.dat (.s 24) .bool],[],[]⟩ .n) .n) (.s .n (.s .n (.s .n (.s (.v [1] (od 11 [6,7,8,9,10])) .n))))))) [.cell 6 133, .tmp 7, .tmp 8, .tmp 9] (gc nA (gc iQ (gc rV (gc Cg (gc kY aB))))) func147 ntmps147 (fun a _=>aA (Vf a.1 a.2.1 a.2.2)) (fun _=>by kernel_rfl)
def Z6:SU:=⟨[.st 115],[.bool],false,false,fun(a:D.aAK)=>some (dA a)⟩
theorem nC:OK 224 Z6:=mkS aUe [.tmp 2] (gc lK (gc bY aB)) func224 ntmps224 (fun a _=>(U2 a).trans) (fun _=>by kernel_rfl)
def Z7:SU:=⟨[.str, .str],[i6],false,false,fun(a:ByteArray×ByteArray)=>zS a.1 a.2⟩
theorem Z8:OK 250 Z7:=mkS .n [.tmp 4] (gc nI aB) func250 ntmps250 (fun _ _=>id) (fun _=>by kernel_rfl)
def Ri:SU:=⟨[.str, .str],[.bool],false,false,fun(a:ByteArray×ByteArray)=>qZ a.1 a.2⟩
theorem Rj:OK 225 Ri:=mkS .n [.tmp 4] (gc Z8 aB) func225 ntmps225 (fun _ _=>id) (fun _=>by kernel_rfl)
def wL:SU:=⟨[.str, .str],[.bool],false,false,fun(a:ByteArray×ByteArray)=>iZ a.1 a.2⟩
theorem wM:OK 251 wL:=mkS (.s .n (.s (.rj 6 ⟨[(4,1),(5,11)],[.dat (.s 4) .bool],[],[]⟩ .n) .n)) [.tmp 4] aB func251 ntmps251 (fun _ _=>id) (fun _=>by kernel_rfl)
def Lu:SU:=⟨[.str, .str],[.bool],false,false,fun(a:ByteArray×ByteArray)=>nV a.1 a.2⟩
theorem Lv:OK 226 Lu:=mkS .n [.tmp 4] (gc wM aB) func226 ntmps226 (fun _ _=>id) (fun _=>by kernel_rfl)
def aHb:SU:=⟨[.st 115, .str],[.bool],false,false,fun(a:D.aAK×ByteArray)=>gd (iW a.1 a.2) (some true)⟩
theorem Oe:OK 188 aHb:=mkS (.s .n (.s (.rj 3 ⟨[(4,1),(2,25)],[.dat (.s 4) .bool],[],[]⟩ .n) .n)) [.tmp 4] (gc nC (gc lK (gc Rj (gc Lv aB)))) func188 ntmps188 (fun a _=>aA (aGl a.1 a.2)) (fun _=>by kernel_rfl)
def Lx:SU:=⟨[.st 115],[.str],false,false,fun(a:D.aAK)=>gd (yS a) (some (fD a))⟩
theorem oI:OK 189 Lx:=mkS aT7 [.tmp 2] (gc nC (gc Ye aB)) func189 ntmps189 (fun(a:D.aAK) _=>aA (Kj a)) (fun _=>by kernel_rfl)
def Rk:SU:=⟨[.sl 5],[.sl 3],true,false,fun(a:(List Int))=>gd (a.length≤34359738360) (some (aB1 a))⟩
theorem Rl:OK 255 Rk:=mkS (.s .n (.s .n (.s (.j ⟨[(3,1),(1,1),(3,12)],[.tr (.s 3) 0 3 true],[],[]⟩ (.s .n (.s (.l ⟨[(3,1),(1,1),(5,10)],[.tr (.s 3) 0 3 true, .nat (.s 11)],[],[]⟩ FUEL .n) .n))) .n))) [.tmp 2] aB func255 ntmps255 (fun(a:(List Int)) _=>aA (Pt a)) (fun _=>by kernel_rfl)
def aKe:SU:=⟨[i6],[i6],false,false,fun(a:Int)=>some (xM a)⟩
theorem Wm:OK 254 aKe:=mkS .n [.tmp 2] aB func254 ntmps254 (fun a _=>(aJ4 a).trans) (fun _=>by kernel_rfl)
def wN:SU:=⟨[i6, .str],[i6],false,false,fun(a:Int×ByteArray)=>gd (a.2.size≤34359738300) (some (fB a.1 a.2))⟩
theorem jG:OK 231 wN:=mkS .n [.tmp 4] (gc Rl (gc gV (gc Wm (gc (aSe 1000155) aB)))) func231 ntmps231 (fun a _=>aA (vZ a.1 a.2)) (fun _=>by kernel_rfl)
def Z9:SU:=⟨[.str],[i6],false,false,fun(a:ByteArray)=>gd (a.size≤34359738300) (some (fF a))⟩
theorem Af:OK 230 Z9:=mkS .n [.tmp 2] (gc jG aB) func230 ntmps230 (fun(a:ByteArray) _=>aA (U0 a)) (fun _=>by kernel_rfl)
def aNz:SU:=⟨[.bool],[i6],false,false,fun(a:Bool)=>Oz a⟩
theorem aN0:OK 232 aNz:=mkS .n [.tmp 2] aB func232 ntmps232 (fun _ _=>id) (fun _=>by kernel_rfl)
def wO:SU:=⟨[.st 170],[.sl 3],true,false,fun(a:D.aAJ)=>gd (a.Site.size≤34359738300∧a.aAK.size≤34359738300) (some (aI a))⟩
theorem jH:OK 191 wO:=mkS (.s .n (.s (.r none [(0,true),(1,true),(3,true),(4,true),(6,true),(7,true),(8,true),(9,true),(10,true),(11,true),(2,false),(5,false),(12,false),(13,false),(14,true)]) .n)) [.tmp 2] (gc Af (gc jG (gc aN0 aB))) func191 ntmps191 (fun(a:D.aAJ) _=>aA (wC a)) (fun _=>by kernel_rfl)
def Ma:SU:=⟨[.st 118],[.bool],false,false,fun(a:D.aAL)=>some (gF a)⟩
theorem Mc:OK 228 Ma:=mkS aUc [.tmp 2] (gc bY (gc dV aB)) func228 ntmps228 (fun a _=>(Ke a).trans) (fun _=>by kernel_rfl)
def G8:SU:=⟨[i6, .sl 3],[i6],false,false,fun(a:Int×(List Int))=>gd (a.2.length≤34359738300) (some (sN a.1 a.2))⟩
theorem G9:OK 253 G8:=mkS .n [.tmp 4] (gc fG (gc gV (gc Wm aB))) func253 ntmps253 (fun a _=>aA (Zc a.1 a.2)) (fun _=>by kernel_rfl)
def Rm:SU:=⟨[.st 118, .str,i6],[i6],false,false,fun(a:D.aAL×ByteArray×Int)=>gd (a.2.1.size≤34359738300) (some (dM a.1 a.2.1 a.2.2))⟩
theorem Rn:OK 229 Rm:=mkS aUa [.tmp 6] (gc Af (gc G9 aB)) func229 ntmps229 (fun a _=>aA (Pw a.1 a.2.1 a.2.2)) (fun _=>by kernel_rfl)
def Ib:SU:=⟨[.st 118, .str,i6, .sl 3],[.st 118,i6, .bool],false,false,fun(a:D.aAL×ByteArray×Int×(List Int))=>gd (a.2.1.size≤34359738300∧a.2.2.2.length≤34359738200) (some (dS a.1 a.2.1 a.2.2.1 a.2.2.2))⟩
theorem Ic:OK 190 Ib:=mkS (.s .n (.s (.s (.rj 4 ⟨[(14,5)],[.dat (.s 18) .bool],[],[]⟩ .n) .n) (.s .n (.s (.u [1] [4] [(0,true),(1,true),(2,true),(3,true),(5,true),(6,true),(7,true),(8,false),(9,false),(4,false),(10,false),(11,false),(12,false),(13,false),(14,false)]) .n)))) [.cell 8 118, .tmp 9, .tmp 10] (gc Mc (gc Rn (gc fG (gc rT aB)))) func190 ntmps190 (fun a _=>aA (Gh a.1 a.2.1 a.2.2.1 a.2.2.2)) (fun _=>by kernel_rfl)
def Ie:SU:=⟨[.st 118, .st 115, .str,i6,i6, .bool],[.st 118, .st 170, .bool],false,false,fun(a:D.aAL×D.aAK×ByteArray×Int×Int×Bool)=>gd (iW a.2.1 a.2.2.1) (some (gQ a.1 a.2.1 a.2.2.1 a.2.2.2.1 a.2.2.2.2.1 a.2.2.2.2.2))⟩
theorem Ig:OK 148 Ie:=mkS (.s .n (.s .n (.s .n (.s (.y false (some 10) (some 11) (od 14 [4,5,10,11])) (.s .n (.s .n (.s .n aO3))))))) [.cell 12 118, .cell 13 170, .tmp 14] (gc Oe (gc oI (gc jH (gc Ic aB)))) func148 ntmps148 (fun a _=>aA (Gj a.1 a.2.1 a.2.2.1 a.2.2.2.1 a.2.2.2.2.1 a.2.2.2.2.2)) (fun _=>by kernel_rfl)
def Ih:SU:=⟨[.st 131,i6],[i6],false,false,fun(a:D.aAA×Int)=>gd (a.1.Open.length≤34359738368) (some (aS a.1 a.2))⟩
theorem Ii:OK 256 Ih:=mkS aVx [.tmp 4] aB func256 ntmps256 (fun a _=>aA (Gc a.1 a.2)) (fun _=>by kernel_rfl)
def Ij:SU:=⟨[.st 131,i6,i6,i6],[.st 131, .bool],true,false,fun(a:D.aAA×Int×Int×Int)=>gd (a.1.sz≤34359738368) (some (qD a.1 a.2.1 a.2.2.1 a.2.2.2))⟩
theorem Ik:OK 233 Ij:=mkS (.s .n (.s .n (.s .n (.s (.s (.rj 4 ⟨[(21,4)],[.dat (.s 24) .bool],[],[]⟩ .n) .n) (.s .n (.s aVv (.s (.v [1] (od 13 [11,12])) .n))))))) [.cell 8 131, .tmp 9] (gc mZ (gc Ii (gc iP aB))) func233 ntmps233 (fun a _=>aA (Gf a.1 a.2.1 a.2.2.1 a.2.2.2)) (fun _=>by kernel_rfl)
def Md:SU:=⟨[.st 223,i6],[.bool],false,false,fun(a:D.aAD×Int)=>gd (a.1.sz≤34359738368) (some (jP a.1 a.2))⟩
theorem Me:OK 234 Md:=mkS (.s .n (.s (.s (.rj 4 ⟨[(10,11)],[.dat (.s 20) .bool],[],[]⟩ .n) .n) (.s .n (.s (.jx ⟨[(4,1),(1,1),(16,11)],[],[],[]⟩ (.s .n (.s (.l ⟨[(4,1),(1,1),(19,8)],[.nat (.s 26)],[],[]⟩ FUEL .n) .n))) .n)))) [.tmp 4] (gc fO (gc bY aB)) func234 ntmps234 (fun a _=>aA (Kh a.1 a.2)) (fun _=>by kernel_rfl)
def Ci:SU:=⟨[.st 223,i6],[i6],false,false,fun(a:D.aAD×Int)=>gd (a.1.Credentials.length≤34359738368) (some (aR a.1 a.2))⟩
theorem Cj:OK 257 Ci:=mkS aVx [.tmp 4] aB func257 ntmps257 (fun a _=>aA (Ay a.1 a.2)) (fun _=>by kernel_rfl)
def wP:SU:=⟨[.str, .str],[.bool],false,false,fun(a:ByteArray×ByteArray)=>jC a.1 a.2⟩
theorem wQ:OK 300 wP:=mkS (.s .n (.s (.rj 6 ⟨[(4,1),(5,8)],[.dat (.s 4) .bool],[],[]⟩ .n) .n)) [.tmp 4] aB func300 ntmps300 (fun _ _=>id) (fun _=>by kernel_rfl)
def wR:SU:=⟨[.str, .str],[.str, .bool],false,false,fun(a:ByteArray×ByteArray)=>jD a.1 a.2⟩
theorem wT:OK 291 wR:=mkS .n [.tmp 4, .tmp 5] (gc wQ aB) func291 ntmps291 (fun _ _=>id) (fun _=>by kernel_rfl)
def Mf:SU:=⟨[.str, .str],[.str, .bool],false,false,fun(a:ByteArray×ByteArray)=>iE a.1 a.2⟩
theorem Mg:OK 277 Mf:=mkS .n [.tmp 4, .tmp 5] (gc wT aB) func277 ntmps277 (fun _ _=>id) (fun _=>by kernel_rfl)
def Wn:SU:=⟨[.str, .str],[.str, .str, .bool],false,false,fun(a:ByteArray×ByteArray)=>tQ a.1 a.2⟩
theorem Wp:OK 292 Wn:=mkS (.s .n (.s (.s .n (.s .n (.s (.s (.r none (od 12 [])) .n) .n))) .n)) [.tmp 4, .tmp 5, .tmp 6] (gc nI aB) func292 ntmps292 (fun _ _=>id) (fun _=>by kernel_rfl)
def aHc:SU:=⟨[.str, .str],[.str, .str, .bool],false,false,fun(a:ByteArray×ByteArray)=>Nu a.1 a.2⟩
theorem aHd:OK 278 aHc:=mkS .n [.tmp 4, .tmp 5, .tmp 6] (gc Wp aB) func278 ntmps278 (fun _ _=>id) (fun _=>by kernel_rfl)
def Ro:SU:=⟨[.str],[.st 115, .bool],false,false,fun(a:ByteArray)=>gd (aB5 a) (some (gP a))⟩
theorem Rp:OK 267 Ro:=mkS (.s .n (.s .n (.s .n (.s (.j ⟨[(5,2),(11,8)],[.dat (.s 5) (.str), .dat (.s 6) .bool, .dat (.c 1 0) .bool, .dat (.c 1 1) (.str), .dat (.c 1 2) i6],[],[]⟩ .n) (.s .n (.s .n (.s .n (.s (.jx ⟨[(3,1),(6,2),(25,11)],[.dat (.c 1 2) i6],[],[]⟩ .n) (.s (.s (.rj 4 ⟨[(51,6)],[.dat (.s 56) .bool],[],[]⟩ .n) .n) .n))))))))) [.cell 2 115, .tmp 3] (gc Mg (gc aHd (gc O7 (gc nC (gc oI aB))))) func267 ntmps267 (fun(a:ByteArray) _=>aA (Qa a)) (fun _=>by kernel_rfl)
def Ck:SU:=⟨[i6, .st 170, .str,i6,i6],[i6],false,false,fun(a:Int×D.aAJ×ByteArray×Int×Int)=>gd (N9 a.2.1 a.2.2.1) (some (eH a.1 a.2.1 a.2.2.1 a.2.2.2.1 a.2.2.2.2))⟩
theorem Cm:OK 258 Ck:=mkS (.s .n (.s .n (.s (.s (.s aUh (.s .n (.s .n (.s .n (.s .n (.s .n (.s (.u [] [2] [(0,true),(1,true),(3,true),(4,true),(8,true),(9,true),(5,false),(6,false),(2,false),(7,false),(10,false),(11,false),(12,false)]) .n))))))) .n) .n))) [.tmp 10] (gc Rp (gc Oe (gcp jH (gc fG (gc kD aB))))) func258 ntmps258 (fun a _=>aA (Be a.1 a.2.1 a.2.2.1 a.2.2.2.1 a.2.2.2.2)) (fun _=>by kernel_rfl)
def Im:SU:=⟨[.st 223, .st 170, .str,i6],[.st 223,i6],true,false,fun(a:D.aAD×D.aAJ×ByteArray×Int)=>gd (N9 a.2.1 a.2.2.1∧a.1.sz≤34359738368) (some (jO a.1 a.2.1 a.2.2.1 a.2.2.2))⟩
theorem Io:OK 235 Im:=mkS (.s .n (.s .n (.s .n (.s aUi (.s (.r none (od 17 [15])) (.s (.j ⟨[(51,9)],[.ti 3 292 true],[],[]⟩ .n) (.s (.j ⟨[(60,7)],[.ti 3 292 true],[],[]⟩ .n) .n))))))) [.cell 8 223, .tmp 9] (gc rU (gc Cj (gc fO (gc Cm aB)))) func235 ntmps235 (fun a _=>aA (Gm a.1 a.2.1 a.2.2.1 a.2.2.2)) (fun _=>by kernel_rfl)
def Rq:SU:=⟨[.st 133,i6,i6,i6, .st 170],[.st 133,i6,i6],true,false,fun(a:D.Site×Int×Int×Int×D.aAJ)=>gd (N9 a.2.2.2.2 a.1.Name∧a.1.sz≤34359738300) (some (jQ a.1 a.2.1 a.2.2.1 a.2.2.2.1 a.2.2.2.2))⟩
theorem Rt:OK 192 Rq:=mkS aW0 [.cell 10 133, .tmp 11, .tmp 12] (gc nA (gc rV (gc iQ (gc Ik (gc Me (gc kY (gc Io aB))))))) func192 ntmps192 (fun a _=>aA (Qc a.1 a.2.1 a.2.2.1 a.2.2.2.1 a.2.2.2.2)) (fun _=>by kernel_rfl)
def Wq:SU:=⟨[.st 55,i6,i6,i6],[.st 55, .bool],true,false,fun(a:D.aAI×Int×Int×Int)=>gd (a.1.sz≤34359738300) (some (Ub a.1 a.2.1 a.2.2.1 a.2.2.2))⟩
theorem Ws:OK 236 Wq:=mkS (.s .n (.s .n (.s .n (.s .n (.s (.j ⟨[(11,3),(16,29)],[.tr (.c 3 0) 2 188 true],[],[]⟩ (.s .n (.s (.s .n (.s (.j ⟨[(11,3),(20,12)],[.dat (.s 11) i6],[],[]⟩ (.s .n (.s (.l ⟨[(11,3),(23,9)],[.dat (.s 11) i6, .nat (.s 37)],[],[]⟩ FUEL .n) .n))) aVv)) .n))) .n))))) [.cell 8 55, .tmp 9] (gc kX (gc Ae aB)) func236 ntmps236 (fun a _=>aA (Vb a.1 a.2.1 a.2.2.1 a.2.2.2)) (fun _=>by kernel_rfl)
def aKf:SU:=⟨[.st 57,i6,i6, .st 115],[.st 57, .st 170,i6],true,false,fun(a:D.World×Int×Int×D.aAK)=>gd (qE a.2.2.2 a.2.2.1∧a.1.sz≤34359738200) (some (uC a.1 a.2.1 a.2.2.1 a.2.2.2))⟩
theorem aKg:OK 95 aKf:=mkS (.s .n (.s .n (.s (.s (.rj 4 ⟨[(26,12)],[.dat (.s 37) .bool],[],[]⟩ .n) .n) (.s (.y false (some 13) (some 14) (od 18 [7,13,14])) (.s .n (.s .n (.s (.u [] [16,17] [(0,true),(1,true),(2,true),(3,true),(4,true),(5,true),(6,true),(7,true),(9,true),(10,true),(8,false),(11,false),(12,true),(13,true),(14,true),(15,true),(16,false),(17,false),(18,false),(19,false),(20,false)]) (.s .n (.s (.il 4 (.s .n (.s (.y false (some 14) (some 15) (od 18 [9,14,15])) (.s .n (.s .n (.s (.il 1 .n .n) .n))))) .n) (.s (.v [2,3] (od 6 [3,4,5])) .n)))))))))) [.cell 8 57, .cell 9 170, .tmp 10] (gc wK (gc oH (gc wI (gc Hz (gc Wl (gc mY (gc Ig (gc (sIl 149) (gc Rt (gc (sIl 193) (gc Ws aB))))))))))) func95 ntmps95 (fun a _=>aA (aJ7 a.1 a.2.1 a.2.2.1 a.2.2.2)) (fun _=>by kernel_rfl)
def aAa:SU:=⟨[.st 57,i6,i6, .st 115],[.st 57,i6],true,false,fun(a:D.World×Int×Int×D.aAK)=>gd (qE a.2.2.2 a.2.2.1∧a.1.sz≤34359738200) (some (xP a.1 a.2.1 a.2.2.1 a.2.2.2))⟩
theorem aAb:OK 52 aAa:=mkS .n [.cell 8 57, .tmp 9] (gc aKg aB) func52 ntmps52 (fun a _=>aA (U5 a.1 a.2.1 a.2.2.1 a.2.2.2)) (fun _=>by kernel_rfl)
def Ru:SU:=⟨[.st 57,i6,i6],[.st 57,i6],true,false,fun(a:D.World×Int×Int)=>gd (a.1.sz≤34359738200) (some (gT a.1 a.2.1 a.2.2))⟩
theorem Rv:OK 23 Ru:=mkS (.s .n (.s .n (.s (.y false (some 9) (some 10) (od 12 [4,5,9,10])) .n))) [.cell 6 57, .tmp 7] (gc aHa (gc wK (gc aMf (gc aAb aB)))) func23 ntmps23 (fun a _=>aA (Qe a.1 a.2.1 a.2.2)) (fun _=>by kernel_rfl)
def Mh:SU:=⟨[.st 57,i6],[i6],false,false,fun(a:D.World×Int)=>gd (a.1.sz≤34359738200) (some (sP a.1 a.2))⟩
theorem Mi:OK 7 Mh:=mkS aWz [.tmp 4] (gc Rv aB) func7 ntmps7 (fun a _=>aA (Kl a.1 a.2)) (fun _=>by kernel_rfl)
def Wt:SU:=⟨[.st 118, .st 118],[.bool],false,false,fun(a:D.aAL×D.aAL)=>gd (bJ (0) a.1 a.2) (some true)⟩
theorem Wu:OK 97 Wt:=mkS .n [.tmp 4] aB func97 ntmps97 (fun a _=>aA (Uo a.1 a.2)) (fun _=>by kernel_rfl)
def Wv:SU:=⟨[.st 176, .st 176],[.bool],false,false,fun(a:D.aAE×D.aAE)=>gd (bJ (0) a.1 a.2) (some true)⟩
theorem Ww:OK 99 Wv:=mkS .n [.tmp 4] aB func99 ntmps99 (fun a _=>aA (Uq a.1 a.2)) (fun _=>by kernel_rfl)
def Rw:SU:=⟨[.sl 176, .sl 176],[.bool],false,false,fun(a:(List D.aAE)×(List D.aAE))=>gd (bJ (a.1.length) a.1 a.2) (some true)⟩
theorem rW:OK 55 Rw:=mkS U6 [.tmp 4] (gc Ww aB) func55 ntmps55 (fun a _=>aA (Pf a.1 a.2)) (fun _=>by kernel_rfl)
def aFb:SU:=⟨[.st 272, .st 272],[.bool],false,false,fun(a:D.Entry×D.Entry)=>gd (bJ (0) a.1 a.2) (some true)⟩
theorem aFc:OK 194 aFb:=mkS .n [.tmp 4] aB func194 ntmps194 (fun a _=>aA (aCr a.1 a.2)) (fun _=>by kernel_rfl)
def aAc:SU:=⟨[.sl 272, .sl 272],[.bool],false,false,fun(a:(List D.Entry)×(List D.Entry))=>gd (bJ (a.1.length) a.1 a.2) (some true)⟩
theorem aAd:OK 150 aAc:=mkS U6 [.tmp 4] (gc aFc aB) func150 ntmps150 (fun a _=>aA (Q5 a.1 a.2)) (fun _=>by kernel_rfl)
def aAe:SU:=⟨[.st 121, .st 121],[.bool],false,false,fun(a:D.aAN×D.aAN)=>gd (bJ (a.1.sz) a.1 a.2) (some true)⟩
theorem aAf:OK 98 aAe:=mkS .n [.tmp 4] (gc aAd aB) func98 ntmps98 (fun a _=>aA (Q6 a.1 a.2)) (fun _=>by kernel_rfl)
def aAg:SU:=⟨[.st 123, .st 123],[.bool],false,false,fun(a:D.Device×D.Device)=>gd (bJ (a.1.sz) a.1 a.2) (some true)⟩
theorem aAh:OK 54 aAg:=mkS .n [.tmp 4] (gc Wu (gc rW (gc aAf aB))) func54 ntmps54 (fun a _=>aA (Q7 a.1 a.2)) (fun _=>by kernel_rfl)
def H5:SU:=⟨[.sl 123, .sl 123],[.bool],false,false,fun(a:(List D.Device)×(List D.Device))=>gd (bJ (a.1.length+(a.1.map D.Device.sz).sum) a.1 a.2) (some true)⟩
theorem H6:OK 24 H5:=mkS U6 [.tmp 4] (gc aAh aB) func24 ntmps24 (fun a _=>aA (Yu a.1 a.2)) (fun _=>by kernel_rfl)
def aFd:SU:=⟨[.sl 4, .sl 4],[.bool],false,false,fun(a:(List Bool)×(List Bool))=>gd (bJ (a.1.length) a.1 a.2) (some true)⟩
theorem aFe:OK 25 aFd:=mkS aVw [.tmp 4] aB func25 ntmps25 (fun a _=>aA (aCs a.1 a.2)) (fun _=>by kernel_rfl)
def aFf:SU:=⟨[.sl 5, .sl 5],[.bool],false,false,fun(a:(List Int)×(List Int))=>gd (bJ (a.1.length) a.1 a.2) (some true)⟩
theorem Ip:OK 152 aFf:=mkS aVw [.tmp 4] aB func152 ntmps152 (fun a _=>aA (aCt a.1 a.2)) (fun _=>by kernel_rfl)
def aKh:SU:=⟨[.st 236, .st 236],[.bool],false,false,fun(a:D.Box×D.Box)=>gd (bJ (a.1.sz) a.1 a.2) (some true)⟩
theorem aKi:OK 151 aKh:=mkS .n [.tmp 4] (gc Ip aB) func151 ntmps151 (fun a _=>aA (aJ3 a.1 a.2)) (fun _=>by kernel_rfl)
def aHe:SU:=⟨[.sl 236, .sl 236],[.bool],false,false,fun(a:(List D.Box)×(List D.Box))=>gd (bJ (a.1.length+(a.1.map D.Box.sz).sum) a.1 a.2) (some true)⟩
theorem aHf:OK 100 aHe:=mkS U6 [.tmp 4] (gc aKi aB) func100 ntmps100 (fun a _=>aA (aGb a.1 a.2)) (fun _=>by kernel_rfl)
def Mj:SU:=⟨[.st 46, .st 46],[.bool],false,false,fun(a:D.aAF×D.aAF)=>gd (bJ (a.1.sz) a.1 a.2) (some true)⟩
theorem Mk:OK 56 Mj:=mkS .n [.tmp 4] (gc aHf aB) func56 ntmps56 (fun a _=>aA (Jv a.1 a.2)) (fun _=>by kernel_rfl)
def Cn:SU:=⟨[.st 180, .st 180],[.bool],false,false,fun(a:D.aAB×D.aAB)=>gd (bJ (a.1.sz) a.1 a.2) (some true)⟩
theorem Co:OK 101 Cn:=mkS .n [.tmp 4] (gc Ip aB) func101 ntmps101 (fun a _=>aA (Ao a.1 a.2)) (fun _=>by kernel_rfl)
def yJ:SU:=⟨[.sl 180, .sl 180],[.bool],false,false,fun(a:(List D.aAB)×(List D.aAB))=>gd (bJ (a.1.length+(a.1.map D.aAB.sz).sum) a.1 a.2) (some true)⟩
theorem yK:OK 57 yJ:=mkS U6 [.tmp 4] (gc Co aB) func57 ntmps57 (fun a _=>aA (xV a.1 a.2)) (fun _=>by kernel_rfl)
def aFg:SU:=⟨[.st 49, .st 49],[.bool],false,false,fun(a:D.aAO×D.aAO)=>gd (bJ (a.1.sz) a.1 a.2) (some true)⟩
theorem aFh:OK 26 aFg:=mkS .n [.tmp 4] (gc rW (gc Mk (gc yK aB))) func26 ntmps26 (fun a _=>aA (aCu a.1 a.2)) (fun _=>by kernel_rfl)
def Ml:SU:=⟨[.st 292, .st 292],[.bool],false,false,fun(a:D.aAH×D.aAH)=>gd (bJ (0) a.1 a.2) (some true)⟩
theorem Mo:OK 237 Ml:=mkS .n [.tmp 4] aB func237 ntmps237 (fun a _=>aA (Jw a.1 a.2)) (fun _=>by kernel_rfl)
def Iq:SU:=⟨[.sl 292, .sl 292],[.bool],false,false,fun(a:(List D.aAH)×(List D.aAH))=>gd (bJ (a.1.length) a.1 a.2) (some true)⟩
theorem Ir:OK 195 Iq:=mkS U6 [.tmp 4] (gc Mo aB) func195 ntmps195 (fun a _=>aA (Fy a.1 a.2)) (fun _=>by kernel_rfl)
def H7:SU:=⟨[.st 223, .st 223],[.bool],false,false,fun(a:D.aAD×D.aAD)=>gd (bJ (a.1.sz) a.1 a.2) (some true)⟩
theorem H8:OK 153 H7:=mkS .n [.tmp 4] (gc Ir aB) func153 ntmps153 (fun a _=>aA (Yv a.1 a.2)) (fun _=>by kernel_rfl)
def Wx:SU:=⟨[.sl 223, .sl 223],[.bool],false,false,fun(a:(List D.aAD)×(List D.aAD))=>gd (bJ (a.1.length+(a.1.map D.aAD.sz).sum) a.1 a.2) (some true)⟩
theorem Wy:OK 102 Wx:=mkS U6 [.tmp 4] (gc H8 aB) func102 ntmps102 (fun a _=>aA (Ur a.1 a.2)) (fun _=>by kernel_rfl)
def Rx:SU:=⟨[.st 256, .st 256],[.bool],false,false,fun(a:D.aAG×D.aAG)=>gd (bJ (0) a.1 a.2) (some true)⟩
theorem Ry:OK 196 Rx:=mkS .n [.tmp 4] aB func196 ntmps196 (fun a _=>aA (Pg a.1 a.2)) (fun _=>by kernel_rfl)
def Mq:SU:=⟨[.sl 256, .sl 256],[.bool],false,false,fun(a:(List D.aAG)×(List D.aAG))=>gd (bJ (a.1.length) a.1 a.2) (some true)⟩
theorem Mr:OK 154 Mq:=mkS U6 [.tmp 4] (gc Ry aB) func154 ntmps154 (fun a _=>aA (Jy a.1 a.2)) (fun _=>by kernel_rfl)
def yL:SU:=⟨[.st 131, .st 131],[.bool],false,false,fun(a:D.aAA×D.aAA)=>gd (bJ (a.1.sz) a.1 a.2) (some true)⟩
theorem yM:OK 103 yL:=mkS .n [.tmp 4] (gc Mr aB) func103 ntmps103 (fun a _=>aA (xW a.1 a.2)) (fun _=>by kernel_rfl)
def aHg:SU:=⟨[.sl 3, .sl 3],[.bool],false,false,fun(a:(List Int)×(List Int))=>gd (bJ (a.1.length) a.1 a.2) (some true)⟩
theorem aHh:OK 104 aHg:=mkS aVw [.tmp 4] aB func104 ntmps104 (fun a _=>aA (aGc a.1 a.2)) (fun _=>by kernel_rfl)
def aHi:SU:=⟨[.st 133, .st 133],[.bool],false,false,fun(a:D.Site×D.Site)=>gd (bJ (a.1.sz) a.1 a.2) (some true)⟩
theorem aHj:OK 58 aHi:=mkS .n [.tmp 4] (gc Wy (gc yM (gc aHh aB))) func58 ntmps58 (fun a _=>aA (aGd a.1 a.2)) (fun _=>by kernel_rfl)
def aFi:SU:=⟨[.sl 133, .sl 133],[.bool],false,false,fun(a:(List D.Site)×(List D.Site))=>gd (bJ (a.1.length+(a.1.map D.Site.sz).sum) a.1 a.2) (some true)⟩
theorem aFj:OK 27 aFi:=mkS U6 [.tmp 4] (gc aHj aB) func27 ntmps27 (fun a _=>aA (aCv a.1 a.2)) (fun _=>by kernel_rfl)
def aFk:SU:=⟨[.st 51, .st 51],[.bool],false,false,fun(a:D.aAR×D.aAR)=>gd (bJ (0) a.1 a.2) (some true)⟩
theorem aFl:OK 28 aFk:=mkS .n [.tmp 4] aB func28 ntmps28 (fun a _=>aA (aCw a.1 a.2)) (fun _=>by kernel_rfl)
def aFm:SU:=⟨[.st 135, .st 135],[.bool],false,false,fun(a:D.aAT×D.aAT)=>gd (bJ (0) a.1 a.2) (some true)⟩
theorem aFn:OK 155 aFm:=mkS .n [.tmp 4] aB func155 ntmps155 (fun a _=>aA (aCx a.1 a.2)) (fun _=>by kernel_rfl)
def aAi:SU:=⟨[.st 137, .st 137],[.bool],false,false,fun(a:D.aAQ×D.aAQ)=>gd (bJ (0) a.1 a.2) (some true)⟩
theorem Ah:OK 105 aAi:=mkS .n [.tmp 4] (gc aFn aB) func105 ntmps105 (fun a _=>aA (Q8 a.1 a.2)) (fun _=>by kernel_rfl)
def H9:SU:=⟨[.sl 137, .sl 137],[.bool],false,false,fun(a:(List D.aAQ)×(List D.aAQ))=>gd (bJ (a.1.length) a.1 a.2) (some true)⟩
theorem I1:OK 106 H9:=mkS U6 [.tmp 4] (gc Ah aB) func106 ntmps106 (fun a _=>aA (Yw a.1 a.2)) (fun _=>by kernel_rfl)
def Mt:SU:=⟨[.st 140, .st 140],[.bool],false,false,fun(a:D.aAC×D.aAC)=>gd (bJ (a.1.sz) a.1 a.2) (some true)⟩
theorem Mv:OK 59 Mt:=mkS .n [.tmp 4] (gc Ah (gc I1 aB)) func59 ntmps59 (fun a _=>aA (Jz a.1 a.2)) (fun _=>by kernel_rfl)
def Iu:SU:=⟨[.sl 140, .sl 140],[.bool],false,false,fun(a:(List D.aAC)×(List D.aAC))=>gd (bJ (a.1.length+(a.1.map D.aAC.sz).sum) a.1 a.2) (some true)⟩
theorem Iw:OK 29 Iu:=mkS U6 [.tmp 4] (gc Mv aB) func29 ntmps29 (fun a _=>aA (Ga a.1 a.2)) (fun _=>by kernel_rfl)
def aAj:SU:=⟨[.st 188, .st 188],[.bool],false,false,fun(a:D.aAM×D.aAM)=>gd (bJ (0) a.1 a.2) (some true)⟩
theorem aAk:OK 107 aAj:=mkS .n [.tmp 4] aB func107 ntmps107 (fun a _=>aA (Q9 a.1 a.2)) (fun _=>by kernel_rfl)
def I4:SU:=⟨[.sl 188, .sl 188],[.bool],false,false,fun(a:(List D.aAM)×(List D.aAM))=>gd (bJ (a.1.length) a.1 a.2) (some true)⟩
theorem I5:OK 60 I4:=mkS U6 [.tmp 4] (gc aAk aB) func60 ntmps60 (fun a _=>aA (Yx a.1 a.2)) (fun _=>by kernel_rfl)
def I6:SU:=⟨[.st 55, .st 55],[.bool],false,false,fun(a:D.aAI×D.aAI)=>gd (bJ (a.1.sz) a.1 a.2) (some true)⟩
theorem I7:OK 30 I6:=mkS .n [.tmp 4] (gc I5 aB) func30 ntmps30 (fun a _=>aA (Yy a.1 a.2)) (fun _=>by kernel_rfl)
def aFo:SU:=⟨[.st 57, .st 57],[.bool],false,false,fun(a:D.World×D.World)=>gd (bJ (a.1.sz) a.1 a.2) (some true)⟩
theorem aFp:OK 8 aFo:=mkS .n [.tmp 4] (gc H6 (gc aFe (gc aFh (gc aFj (gc aFl (gc Iw (gc I7 aB))))))) func8 ntmps8 (fun a _=>aA (aCy a.1 a.2)) (fun _=>by kernel_rfl)
def gH:SU:=⟨[.st 39,i6],[.bool],false,false,fun(a:D.World×Int)=>gd (a.1.ok) (some true)⟩
theorem rX:OK 3 gH:=mkS (.s .n (.s .n (.s .n (.s .n (.s .n (.s .n (.s .n (.s .n (.s (.s (.r none (od 5 [2,3])) .n) .n))))))))) [.tmp 4] (gc aDw (gc aEb (gc Ls (gc Mi (gc aFp aB))))) func3 ntmps3 (fun a _=>aA (rH a.1 a.2)) (fun _=>by kernel_rfl)
end
end Go.VK
